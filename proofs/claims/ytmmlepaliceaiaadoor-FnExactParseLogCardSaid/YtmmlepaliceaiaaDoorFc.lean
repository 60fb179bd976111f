/-
  A framework: readings, small rules, plain laws. No conditions.
-/
import Derived.Test.YtmmlepaliceaiaaDoorFb
import Derived.Deep.Slices
import Derived.ChangeArms
import Derived.SizedLaws
import Derived.Laws.Small
import Derived.WalkSpells
import Derived.Laws.Slices
import Derived.Below
import Derived.Sort.Grow
import Derived.Lib.LaidTab
import Derived.Lib.ItoaNum
import Derived.Lib.Join
import Derived.Deep.Draws
import Derived.WideLaws
import Derived.Shelf.Strings.Split
import Derived.Shelf.Strings.Search3
import Derived.Shelf.Strconv.ErrVarAll
/-
 The bridge: what the arguments of a row's function read ah, ah data.
-/
namespace Go.Fw
open Go Go.RowKit Go.WideShapes Go.ChangeShapes Go.ChangeAt
def dX(ρ:aB):Prop:=∀k L,ρ k=some (some L)->L.own=false
def fe{α:Type}(P:Program) [ay P](t:TypeId)(R:aa->Value->α->Prop)(W:α->Prop):Prop:=
 ∀{T:Type}(enc:TypeId×Value->T)(w:World)(fuel:Nat)(cs:List Value)(x:DataW T×List MemPlace),
   DataW.trod enc P w 0 (fun _=>true) true fuel t cs=some x->(∀n∈x.1.weights P t,n<=reachBytes)->
   ∀(ρ:aB)(H:aa),aC P ρ H w->dX ρ-> ∃(ρ':aB)(H':aa)(av:Value)(a:α),aC P ρ' H' w/\dX ρ'/\Up ρ ρ'/\a_ H H'/\aj ρ' av.cells.toList cs/\R H' av a/\W a
theorem aC.nil(P:Program) [ay P](w:World)(hV:ay.V P w):aC P (fun _=>none) [] w:=⟨by simp,by simp,by simp,by simp,⟨w,hV,Nat.le_refl _,fun _ _=>rfl,by simp⟩⟩
theorem dX.nil:dX (fun _=>none):=fun _ _ h=>by simp at h
section
variable{P:Program} [ay P]{ρ:aB}{H:aa}{w:World}
theorem nk{ρ:aB}{H:aa}(h:aC P ρ H w)(o:Option Loc):Up ρ (bZ ρ H.length o):=by
 intro k
 by_cases e:k=H.length
 · subst e; exact .inl (h.dom _ (Nat.le_refl _))
 · exact .inr (.inl (aF _ _ e))
theorem aC.foreign{L:Loc}{b:aS}(h:aC P ρ H w)(hF:dX ρ)(hL:L.own=false)(hb:fO P ρ L b w):aC P (bZ ρ H.length (some L)) (H++[some b]) w:=by
 have hu:=nk h (some L)
 constructor
 · intro k L' hk
   by_cases e:k=H.length
   · subst e
     rw[aT]at hk
     obtain rfl:L=L':=by simpa using hk
     exact⟨b,by simp,hb.of_same hu rfl⟩
   · rw[aF _ _ e]at hk
     obtain⟨b',hb',hr⟩:=h.blk k L' hk
     exact⟨b',by rw[List.getElem?_append_left (ed hb')]; exact hb',hr.of_same hu rfl⟩
 · intro k b' hb' hk
   by_cases e:k=H.length
   · subst e; rw[aT]at hk; simp at hk
   · rw[aF _ _ e]at hk
     have hkl:k<H.length:=by
       have:=ed hb'
       simp at this; omega
     rw[List.getElem?_append_left hkl]at hb'
     exact h.alive k b' hb' hk
 · intro k hk
   simp at hk
   rw[aF _ _ (by omega)]
   exact h.dom k (by omega)
 · intro k k' L1 L2 h1 h2 ho _
   exfalso
   by_cases e:k=H.length
   · subst e; rw[aT]at h1
     obtain rfl:L=L1:=by simpa using h1
     rw[hL]at ho; simp at ho
   · rw[aF _ _ e]at h1
     rw[hF k L1 h1]at ho; simp at ho
 · refine h.vok.keep (Nat.le_refl _) (fun _ _ _=>rfl) fun k L' hk ho=>?_
   by_cases e:k=H.length
   · subst e; rw[aT]at hk
     obtain rfl:L=L':=by simpa using hk
     rw[hL]at ho; simp at ho
   · rw[aF _ _ e]at hk; exact .inl hk
theorem dX.foreign{L:Loc}(hF:dX ρ)(hL:L.own=false)(n:Nat):dX (bZ ρ n (some L)):=by
 intro k L' hk
 by_cases e:k=n
 · subst e; rw[aT]at hk
   obtain rfl:L=L':=by simpa using hk
   exact hL
 · rw[aF _ _ e]at hk; exact hF k L' hk
theorem aC.dead(h:aC P ρ H w):aC P (bZ ρ H.length none) (H++[none]) w:=by
 have hu:=nk h none
 constructor
 · intro k L' hk
   by_cases e:k=H.length
   · subst e; rw[aT]at hk; simp at hk
   · rw[aF _ _ e]at hk
     obtain⟨b',hb',hr⟩:=h.blk k L' hk
     exact⟨b',by rw[List.getElem?_append_left (ed hb')]; exact hb',hr.of_same hu rfl⟩
 · intro k b' hb' hk
   by_cases e:k=H.length
   · subst e; simp at hb'
   · rw[aF _ _ e]at hk
     have hkl:k<H.length:=by
       have:=ed hb'
       simp at this; omega
     rw[List.getElem?_append_left hkl]at hb'
     exact h.alive k b' hb' hk
 · intro k hk
   simp at hk
   rw[aF _ _ (by omega)]
   exact h.dom k (by omega)
 · intro k k' L1 L2 h1 h2 ho he
   by_cases e:k=H.length
   · subst e; rw[aT]at h1; simp at h1
   · by_cases e':k'=H.length
     · subst e'; rw[aT]at h2; simp at h2
     · rw[aF _ _ e]at h1; rw[aF _ _ e']at h2
       exact h.inj k k' L1 L2 h1 h2 ho he
 · refine h.vok.keep (Nat.le_refl _) (fun _ _ _=>rfl) fun k L' hk ho=>?_
   by_cases e:k=H.length
   · subst e; rw[aT]at hk; simp at hk
   · rw[aF _ _ e]at hk; exact .inl hk
theorem dX.dead(hF:dX ρ)(n:Nat):dX (bZ ρ n none):=by
 intro k L' hk
 by_cases e:k=n
 · subst e; rw[aT]at hk; simp at hk
 · rw[aF _ _ e]at hk; exact hF k L' hk
theorem rV(H:aa)(x:Option aS):a_ H (H++[x]):=fun k b hk _=>by rw[List.getElem?_append_left (ed hk)]; exact hk
def yo(a:Int):Prop:=-9223372036854775808<=a/\a<=9223372036854775807
def FN(_:UInt8):Prop:=True
def Ef{α:Type}(_:α):Prop:=True
def Eg(a:List UInt8):Prop:=a.length<=140737488351232
def sZ{α:Type}(W:α->Prop)(a:List α):Prop:=a.length<=140737488351232/\ ∀x∈a,W x
theorem fe.int{t:TypeId}(ht:P.underlying t=some (.int .i64)):fe P t cu yo:=by
 intro T enc w fuel cs x h _ ρ H hr hF
 obtain⟨n,rfl,rfl,hw⟩:=DataW.trod_int ht h
 refine⟨ρ,H,.int .i64 n,n,hr,hF,Up.refl ρ,a_.refl H,.cons _ _ _ _ (.int _ _) .nil,rfl,?_⟩
 simp only[Lit.wf,IntKind.min,IntKind.max,Bool.and_eq_true]at hw
 unfold yo
 simpa[IntKind.signed,IntKind.bits]using hw
theorem fe.u8{t:TypeId}(ht:P.underlying t=some (.int .u8)):fe P t jy FN:=by
 intro T enc w fuel cs x h _ ρ H hr hF
 obtain⟨n,rfl,rfl,hw⟩:=DataW.trod_int ht h
 simp only[Lit.wf,IntKind.min,IntKind.max,Bool.and_eq_true]at hw
 have hw':0<=n/\n<=255:=by simpa[IntKind.signed,IntKind.bits]using hw
 refine⟨ρ,H,.int .u8 n,UInt8.ofNat n.toNat,hr,hF,Up.refl ρ,a_.refl H,.cons _ _ _ _ (.int _ _) .nil,?_,trivial⟩
 unfold jy
 have:((UInt8.ofNat n.toNat).toNat:Int)=n:=by
   simp[UInt8.toNat_ofNat']
   omega
 rw[this]
theorem fe.bool{t:TypeId}(ht:P.underlying t=some .bool):fe P t rdBool Ef:=by
 intro T enc w fuel cs x h _ ρ H hr hF
 obtain⟨b,rfl,rfl⟩:=DataW.trod_bool ht h
 exact⟨ρ,H,.bool b,b,hr,hF,Up.refl ρ,a_.refl H,.cons _ _ _ _ (.bool _) .nil,rfl,trivial⟩
theorem fe.str{t:TypeId}(ht:P.underlying t=some .string):fe P t rdStr Eg:=by
 intro T enc w fuel cs x h hw ρ H hr hF
 obtain⟨s,rfl,rfl,hs⟩:=DataW.trod_string ht h
 refine⟨ρ,H,.string s,s.data.toList,hr,hF,Up.refl ρ,a_.refl H,.cons _ _ _ _ (.string _) .nil,rfl,?_⟩
 have:=hw s.data.toList.length (by simp[DataW.weights])
 exact this
theorem z_{Pg:Program}{T:Type}{e:TypeId}{l:List (DataW T)}{d:DataW T}(hd:d∈l){n:Nat}(hn:n∈d.weights Pg e):n∈DataW.weightsAll Pg e l:=by
 induction l with
 |nil=>simp at hd
 |cons x l ih=>
   simp only[DataW.weightsAll,List.mem_append]
   rcases List.mem_cons.1 hd with rfl|h
   · exact .inl hn
   · exact .inr (ih h)
theorem wW{α T:Type}{enc:TypeId×Value->T}{E:TypeId}{R:aa->Value->α->Prop}{W:α->Prop} [aR R](hE:fe P E R W){fuel:Nat}{C:Nat->List Value}{D:Nat->DataW T×List MemPlace}:
   ∀(len:Nat),(∀i,i<len->DataW.trod enc P w 0 (fun _=>true) true fuel E (C i)=some (D i)/\ ∀n∈(D i).1.weights P E,n<=reachBytes)-> ∀(ρ:aB)(H:aa),aC P ρ H w->dX ρ->
     ∃(ρ':aB)(H':aa)(es:List Value)(ah:List α),aC P ρ' H' w/\dX ρ'/\Up ρ ρ'/\a_ H H'/\es.length=len/\ah.length=len/\(∀(i:Nat) e,es[i]?=some e->aj ρ' e.cells.toList (C i))/\
       (∀(i:Nat) a,ah[i]?=some a-> ∃e,es[i]?=some e/\R H' e a)/\ ∀a∈ah,W a
 |0,_,ρ,H,hr,hF=>⟨ρ,H,[],[],hr,hF,Up.refl ρ,a_.refl H,rfl,rfl,by simp,by simp,by simp⟩
 |len+1,h,ρ,H,hr,hF=>by
   obtain⟨ρ1,H1,es,ah,r1,f1,u1,i1,l1,l2,g1,g2,g3⟩:=wW hE len (fun i hi=>h i (by omega)) ρ H hr hF
   obtain⟨t,tw⟩:=h len (by omega)
   obtain⟨ρ2,H2,e,a,r2,f2,u2,i2,v2,q2,w2⟩:=hE enc w fuel _ _ t tw ρ1 H1 r1 f1
   refine⟨ρ2,H2,es++[e],ah++[a],r2,f2,u1.trans u2,i1.trans i2,by simp[l1],by simp[l2],?_,?_,?_⟩
   · intro i e' he'
     by_cases hi:i<es.length
     · rw[List.getElem?_append_left hi]at he'
       exact (g1 i e' he').up u2
     · rw[List.getElem?_append_right (by omega)]at he'
       have hi':i-es.length=0:=by
         rcases Nat.eq_zero_or_pos (i-es.length)with h|h
         · exact h
         · rw[List.getElem?_eq_none (by simp; omega)]at he'; simp at he'
       rw[hi']at he'
       obtain rfl:e=e':=by simpa using he'
       obtain rfl:i=len:=by omega
       exact v2
   · intro i a' ha'
     by_cases hi:i<ah.length
     · rw[List.getElem?_append_left hi]at ha'
       obtain⟨e',he',hq⟩:=g2 i a' ha'
       exact⟨e',by rw[List.getElem?_append_left (by omega)]; exact he',aR.up hq i2⟩
     · rw[List.getElem?_append_right (by omega)]at ha'
       have hi':i-ah.length=0:=by
         rcases Nat.eq_zero_or_pos (i-ah.length)with h|h
         · exact h
         · rw[List.getElem?_eq_none (by simp; omega)]at ha'; simp at ha'
       rw[hi']at ha'
       obtain rfl:a=a':=by simpa using ha'
       exact⟨e,by rw[List.getElem?_append_right (by omega),show i-es.length=0 by omega]; rfl,q2⟩
   · intro a' ha'
     rcases List.mem_append.1 ha' with h|h
     · exact g3 a' h
     · obtain rfl:a'=a:=by simpa using h
       exact w2
theorem fe.slice{α:Type}{t E:TypeId}{R:aa->Value->α->Prop}{W:α->Prop}{s:Nat} [aR R] [Cells R s](ht:P.underlying t=some (.slice E))(hs:P.cellsOf E=s)(h0:0<s)(hb:0<P.bytesOf E)
   (hE:fe P E R W):fe P t (bD E R) (sZ W):=by
 intro T enc w fuel cs x h hw ρ H hr hF
 rcases Deep.open_slice ht h with⟨rfl,rfl⟩|⟨a,len,cap,m,n,D,Pl,rfl,-,hlc,hcm,hm,rfl,hx⟩
 · exact⟨ρ,H,.slice none 0 0,[],hr,hF,Up.refl ρ,a_.refl H,.cons _ _ _ _ .nilSlice .nil,.inl ⟨rfl,rfl⟩,by simp[sZ]⟩
 have hm':m=cap:=by simpa using hm
 subst hm'
 rcases Nat.eq_zero_or_pos len with rfl|hpos
 · refine⟨_,_,.slice (some ⟨H.length,0,none⟩) 0 0,[],hr.dead,hF.dead _,nk hr none,rV H none,?_,.inr (.inr ⟨_,_,_,rfl,rfl⟩),by simp[sZ]⟩
   exact .cons _ _ _ _ (.sliceDead _ _ _ _ _ _ (aT _ _ _)) .nil
 have hwl:len*P.bytesOf E<=reachBytes:=by
   have:=hw _ (by simp only[DataW.weights,ht]; exact List.mem_cons_self)
   simp only[List.length_map,List.length_range]at this
   exact Nat.le_trans (Nat.mul_le_mul_right _ (by omega)) this
 have hlen:len<=140737488351232:=by
   have h1:len*1<=len*P.bytesOf E:=Nat.mul_le_mul_left _ hb
   have h2:reachBytes=140737488351232:=rfl
   omega
 have hch:∀i,∃cs',i<len->w.cells? 0 (a.add (i*P.cellsOf E)) (P.cellsOf E)=some cs'/\DataW.trod enc P w 0 (fun _=>true) true n E cs'=some (D i,Pl i):=by
   intro i
   by_cases hi:i<len
   · obtain⟨cs',h1,h2⟩:=hx i (by omega)
     exact⟨cs',fun _=>⟨h1,h2⟩⟩
   · exact⟨[],fun h=>absurd h hi⟩
 obtain⟨C,hC⟩:=Classical.axiomOfChoice hch
 rw[hs]at hC
 obtain⟨ρ1,H1,es,ah,r1,f1,u1,i1,l1,l2,g1,g2,g3⟩:=wW (enc:=enc) (D:=fun i=>(D i,Pl i)) hE len (fun i hi=>⟨(hC i hi).2,fun k hk=>hw k (by
   simp only[DataW.weights,ht]
   refine List.mem_cons_of_mem _ (List.mem_append_left _ (z_ (d:=D i) (List.mem_map.2 ⟨i,by simpa using hi,rfl⟩) hk)))⟩) ρ H hr hF
 obtain⟨-,hl0,hc0⟩:=World.cells?_some (hC 0 hpos).1
 have hcell:=hc0 0 h0
 rw[List.getElem?_eq_getElem (by omega)]at hcell
 obtain⟨ab,ao,asp⟩:=a
 have hsp:asp=none:=by simpa[Addr.add]using World.cell?_spot hcell
 subst hsp
 have ql:∃c ct fr,w.heap[ab]?=some (.cells c ct fr):=by
   simp only[World.cell?,Addr.add,Nat.zero_mul,if_true]at hcell
   split at hcell
   · exact⟨_,_,_,by assumption⟩
   · simp at hcell
 obtain⟨c,ct,fr,ql⟩:=ql
 have hadd:∀(o:Nat),Addr.add ⟨ab,ao,none⟩ o=⟨ab,ao+o,none⟩:=by
   intro o
   exact addr_add _ _ _
 have Iy:∀i,i<len->(c.toList.drop (ao+i*s)).take s=C i:=by
   intro i hi
   obtain⟨-,hl,hc⟩:=World.cells?_some (hC i hi).1
   apply List.ext_getElem?
   intro j
   by_cases hj:j<s
   · have:=hc j hj
     rw[hadd,show Addr.add ⟨ab,ao+i*s,none⟩ j=⟨ab,ao+i*s+j,none⟩from addr_add _ _ _,lm ql]at this
     rw[List.getElem?_take_of_lt hj,List.getElem?_drop,←this]
     simp
   · rw[List.getElem?_eq_none (by rw[List.length_take]; omega),List.getElem?_eq_none (by omega)]
 have hbr:fO P ρ1 ⟨ab,ao,s,0,false⟩ ⟨es,E,false,false⟩ w:=by
   refine⟨rfl,hs,c,ct,fr,ql,fun i e he=>?_,by simp⟩
   have hi:i<len:=by
     have:i<es.length:=by
       rcases Nat.lt_or_ge i es.length with h|h
       · exact h
       · simp[List.getElem?_eq_none h]at he
     omega
   obtain⟨e',he',hq⟩:=g2 i _ (List.getElem?_eq_getElem (show i<ah.length by omega))
   rw[he]at he'
   obtain rfl:e=e':=by simpa using he'
   exact⟨(Cells.cells hq).1,by rw[Iy i hi]; exact g1 i e he⟩
 refine⟨_,_,.slice (some ⟨H1.length,0,none⟩) len 0,ah,r1.foreign f1 rfl hbr,f1.foreign rfl _,u1.trans (nk r1 _),i1.trans (rV _ _),?_,?_,by omega,g3⟩
 · refine .cons _ _ _ _ (.slice _ _ _ _ _ _ _ (aT _ _ _) hlc (by simp) (by simp) fun _=>⟨?_,by simp⟩) .nil
   simp
 · refine .inr (.inl ⟨H1.length,0,0,⟨es,E,false,false⟩,by rw[l2],by simp,rfl,rfl,by simp[l1,l2],by omega,fun j a ha=>?_⟩)
   obtain⟨e,he,hq⟩:=g2 j a ha
   exact⟨e,by simpa using he,aR.up hq (rV _ _)⟩
def fieldAt(P:Program) [ay P](t:TypeId)(i:Nat):Option (TypeId×Nat×Nat):=
 match P.underlying t with
 |some (.struct fs)=>(fs[i]?).map fun f=>(f.type,f.offset,P.cellsOf f.type)
 |_=>none
theorem aj.field{l l' cs:List Value}{o s:Nat}(h:aj ρ l ((cs.drop o).take s))(h':aj ρ l' (cs.drop (o+s))):aj ρ (l++l') (cs.drop o):=by
 have:=h.append h'
 rwa [←List.drop_drop,List.take_append_drop]at this
theorem aj.one{v:Value}{l:List Value}(h:aj ρ v.cells.toList l)(hv:Value.cells v= #[v]):aj ρ [v] l:=by rw[hv]at h; exact h
theorem aj.end{cs:List Value}{o:Nat}(h:cs.length=o):aj ρ [] (cs.drop o):=by
 rw[List.drop_of_length_le (by omega)]; exact .nil
def iI:Value->Bool
 | .agg _=>true
 |_=>false
def tq(P:Program) [ay P](t:TypeId):Bool:=
 match P.underlying t with
 |some (.struct _)|some (.array _ _)=>true
 |_=>false
theorem A_{r:Reach}{base:Nat}{t:TypeId}{v:Value}(h:Value.okWide P w r base t v):iI v=tq P t:=by
 unfold Value.okWide at h
 unfold tq
 split at h
 · obtain⟨cs,rfl,-⟩:=h; simp_all [iI]
 · obtain⟨cs,rfl,-⟩:=h; simp_all [iI]
 · rename_i h1 h2
   have:iI v=false:=by
     cases v with
     |agg l=>unfold Cell.okWide at h; split at h<;>simp_all [Cell.ok]
     |_=>rfl
   rw[this]
   split<;>simp_all
theorem az.of_cells{av v:Value}(h:aj ρ av.cells.toList v.cells.toList)(hs:iI v=iI av):az ρ av v:=by
 cases av with
 |agg l'=>
   cases v with
   |agg l=>have:=az.agg _ _ h; simpa[Value.cells]using this
   |_=>simp[iI]at hs
 |_=>
   cases v with
   |agg l=>simp[iI]at hs
   |_=>cases h with|cons _ _ _ _ h _=>exact h
theorem Cw{α T:Type}{enc:TypeId×Value->T}{t:TypeId}{ts:List TypeId}{R:aa->Value->α->Prop}{W:α->Prop}{vs:List Value}{ds:List (DataW T)}{ps:List MemPlace}
   (h:DataW.TrodAll enc P w 0 (fun _=>true) true (t::ts) vs ds ps) (hw:∀n∈DataW.weightsEach P (t::ts) ds,n<=reachBytes) (hE:fe P t R W) (hsh:∀H v a,R H v a->iI v=tq P t) {r:Reach} {base:Nat} (hok:∀v,vs[0]?=some v->Value.okWide P w r base t v) (hr:aC P ρ H w) (hF:dX ρ):
   ∃(v:Value)(vs':List Value)(d:DataW T)(ds':List (DataW T))(q:List MemPlace)(ρ':aB)(H':aa)(av:Value)(a:α),vs=v::vs'/\ds=d::ds'/\DataW.TrodAll enc P w 0 (fun _=>true) true ts vs' ds' q/\
     (∀n∈DataW.weightsEach P ts ds',n<=reachBytes)/\aC P ρ' H' w/\dX ρ'/\Up ρ ρ'/\a_ H H'/\az ρ' av v/\R H' av a/\W a:=by
 cases vs with
 |nil=>cases ds<;>exact h.elim
 |cons v vs=>
   cases ds with
   |nil=>exact h.elim
   |cons d ds=>
     obtain⟨p,q,⟨fuel,h1⟩,h2,rfl⟩:=h
     obtain⟨ρ',H',av,a,g1,g2,g3,g4,g5,g6,g7⟩:=hE enc w fuel _ _ h1 (fun n hn=>hw n (by simp only[DataW.weightsEach,List.mem_append]; exact .inl hn)) ρ H hr hF
     exact⟨v,vs,d,ds,q,ρ',H',av,a,rfl,rfl,h2,fun n hn=>hw n (by simp only[DataW.weightsEach,List.mem_append]; exact .inr hn),g1,g2,g3,g4,.of_cells g5 (by rw[hsh _ _ _ g6,A_ (hok v rfl)]),g6,g7⟩
theorem Dh{args:Array Value}{i:Nat}{v:Value}(h:args.toList[i]?=some v):args[i]?=some v:=by simpa using h
theorem BP{Pg:Program}{T:Type}{enc:TypeId×Value->T}{vs:List Value}{ds:List (DataW T)}{ps:List MemPlace}(h:DataW.TrodAll enc Pg w 0 (fun _=>true) true [] vs ds ps):vs=[]/\ds=[]:=by
 cases vs<;>cases ds<;>first|exact⟨rfl,rfl⟩|exact h.elim
end
end Go.Fw
/-
 Small rules for the generator.
-/
set_option linter.unusedVariables false
namespace Go.Fw
open Go
section
variable{P:Program} [ay P]{n:Nat}{f:Fr}{H:aa}{d:Option Tmp}{x y z:Operand}{T T' T'' E:TypeId}{ps:String}{af:Array Edge}{gd:Option (Nat×Bool)}
theorem BQ{g:Bool}{s b:Nat}{zv:Value}(ht:TY P T s b zv)(hv:zv.cells.size=s)(hc:lq zv=true):gz P n ⟨d,.alloc T,T',ps,af,gd⟩ f (fun k=>.pointer (some ⟨k,0,some 0⟩)) ⟨[zv],T,true,g⟩:=by
 obtain⟨i,hi,-,-,hz⟩:=ht.inv
 exact Cq hi hz ht.sz hv hc
theorem d_{g:Bool}{s b':Nat}{zv:Value}{len:Nat}{parts:List (Nat×Operand)}{vs:List Value}(hT:SL P T E)(ht:TY P E s b' zv)(hxs:cB n f (parts.map (·.2)) vs)
   (hidx:parts.map (·.1)=List.range' 0 parts.length) (hlen:len=parts.length) (hbig:Nat.ble (len*s) (2 ^ 24)=true) (hv:∀v∈vs,v.cells.size=s):
   gz P n ⟨d,.buildSlice T len parts.toArray,T',ps,af,gd⟩ f (fun k=>.slice (some ⟨k,0,none⟩) len 1) ⟨vs,E,true,g⟩:=by
 obtain⟨iE,jH,h1,h2,h3⟩:=ht.inv
 exact Au hT ht.sz jH h3 hxs hidx hlen hbig hv
theorem dK{s t u:List UInt8}(hx:EV n f x (sv s))(hy:EV n f y (sv t))(h:aI s t=some u):aO P n ⟨d,.binOp .add T x y T',T'',ps,af,none⟩ f H (sv u):=by
 obtain⟨rfl,hl⟩:=dD h
 exact BF hx hy hl
theorem yt{a b:Bool}(hT:P.underlying T=some .bool)(hx:EV n f x (.bool a))(hy:EV n f y (.bool b)):aO P n ⟨d,.binOp .neq T x y T',T'',ps,af,none⟩ f H (.bool (!(a==b))):=
 fun ρ w q _ hf=>⟨.bool (!(a==b)),by simp[execOp,(hx.use hf).bool_inv,(hy.use hf).bool_inv,eqGuard,run_neq_bool w T a b hT],.bool _⟩
theorem Cx{o:Oper}{base pre:List ag}{ι:Type}{val:ι->Value}{post:ι->List ag}(hp:base.Perm pre)(hx:XC P n o f pre val post):XC P n o f base val post:=by
 intro H hc ρ w a K' Q' hr hf hk
 have hm:∀k,k∈foot pre↔k∈foot base:=fun k=>(hp.flatMap_right ag.F).symm.mem_iff
 have hc2:Ctx H (foot pre) H pre:=by
   have h:=hc.perm hp
   exact⟨h.len,h.imm,fun _ _ _=>rfl,h.hold,h.nd,fun k hk=>⟨.inl hk,(h.own k hk).2⟩⟩
 refine hx H hc2 ρ w a K' Q' hr hf fun f' ρ' H' a' w' h1 h2 h3 h4=>?_
 obtain⟨x,e,h5⟩:=h4
 refine hk f' ρ' H' a' w' h1 h2 h3 ⟨x,e,h5.len,h5.imm,fun k hk hn=>h5.agr k hk (fun h=>hn ((hm k).1 h)),h5.hold,h5.nd,fun k hk=>⟨?_,(h5.own k hk).2⟩⟩
 exact (h5.own k hk).1.imp (hm k).1 id
inductive lN:List ag->List ag->List ag->Prop
 |nil {pre:List ag}:lN [] pre pre
 |cons {c c':ag} {cs pre base:List ag} [nH c] (h:nI c c') (t:lN cs (c'::pre) base):lN (c::cs) pre base
theorem lN.loc{cl pre base post:List ag}(h:lN cl pre base)(hl:iC post):iC (cl++post):=by
 induction h with
 |nil=>exact hl
 |cons _ _ ih=>exact .cons ih
theorem xx{o:Oper}{cl pre base:List ag}{ι:Type}{val:ι->Value}{post:ι->List ag}(hf:lN cl pre base)(hl:∀x,iC (post x))(hx:XC P n o f base val post):XC P n o f (cl++pre) val (fun x=>cl++post x):=by
 induction hf with
 |nil=>exact hx
 |cons h t ih=>exact lH h (fun x=>t.loc (hl x)) (Cx List.perm_middle.symm (ih hx))
end
end Go.Fw
namespace Go.Fw
open Go
theorem Ctx.start(H:aa):Ctx H [] H []:=⟨Nat.le_refl _,a_.refl _,fun _ _ _=>rfl,fun c hc=>by simp at hc,by simp,fun k hk=>by simp at hk⟩
end Go.Fw
/-
 Parts of elements of our own slices: loaded, stored, handed to a callee that turns them.
-/
set_option linter.unusedVariables false
namespace Go.Fw
open Go
theorem Bp{ρ:aB}{c:Value}(h:az ρ undef c):c=undef:=by
 generalize hx:undef=x at h
 cases h with
 |tuple a a' h=>
   have:a=[]:=by
     have e:(undef:Value)= .tuple #[]:=rfl
     rw[e]at hx
     injection hx with hx
     have:=congrArg Array.toList hx
     simpa using this.symm
   subst this
   cases h
   rfl
 |_=>simp[undef]at hx
theorem vL{n:Nat}{A:Array Oper}{f:Fr}{o:Oper}{j:Nat}{want:Bool}{t:Tmp}(h:o.guard=some (j,want))(hd:(A[j]?).bind (·.dst)=some t)(hv:f t=undef)(ht:Nat.blt t n=true):Wanted n A f o false:=by
 intro ρ a hf
 have hlt:t<n:=by simpa[Nat.blt_eq]using ht
 have hr:=hf.get t hlt
 rw[hv]at hr
 have hlt':t<a.tmps.size:=by rw[hf.size]; exact hlt
 have hg:a.tmps[t]?=some (a.tmps.getD t undef):=by
   simp[Array.getD_eq_getD_getElem?,hlt']
 rw[Bp hr]at hg
 simp[Region.wanted,h,yielded,hd,hg,undef]
theorem Ba{A W B W':List Nat}(h:(A++W++B).Nodup)(hw:W'.Nodup)(hd:∀q∈W',q∉A/\q∉B):(A++W'++B).Nodup:=by
 have n1:=List.nodup_append.1 h
 have n2:=List.nodup_append.1 n1.1
 refine List.nodup_append.2 ⟨List.nodup_append.2 ⟨n2.1,hw,fun a ha b hb e=>(hd b hb).1 (e ▸ ha)⟩,n1.2.1,fun a ha b hb e=>?_⟩
 subst e
 rcases List.mem_append.1 ha with h|h
 · exact n1.2.2 a (by simp[h]) a hb rfl
 · exact (hd a h).2 hb
section
variable{P:Program} [ay P]{n:Nat}{H0:aa}{F0:List Nat}{f:Fr}{cs:List ag}{A:Array Oper}{r:List Oper}{K:Fr->List ag->Prop}{d:Option Tmp}{op:Op}{T T' E:TypeId}{ps:String}{af:Array Edge}{gd:Option (Nat×Bool)}{x y:Operand}
variable{l:List Oper}{tb ah todo:List Nat}{fl:List (Nat×List Nat)}{i:Nat}
theorem Dj{j:Nat}{t:Tmp}{b:Bool}(hd:(A[j]?).bind (·.dst)=some t)(hv:f t=undef)(ht:Nat.blt t n=true)(h:ai P n H0 F0 A r (put f d undef) cs K):
   ai P n H0 F0 A (⟨d,op,T,ps,af,some (j,b)⟩::r) f cs K:=fun H hc=>wy (vL rfl hd hv ht) (h H hc)
theorem Dk(t:Tmp){j:Nat}{b:Bool}(ho:l[i]?=some ⟨d,op,T,ps,af,some (j,b)⟩)(h1:(l[j]?).bind (·.dst)=some t)(h2:f t=undef)(h3:Nat.blt t n=true)(h:DC P n l tb ah H0 F0 K todo fl (put f d undef) cs):
   DC P n l tb ah H0 F0 K (i::todo) fl f cs:=
 fun H hc=>.flt (Ks:=[]) ho (.inr ⟨rfl,fun f' ha=>by
   have hv:f' t=undef:=(ha t (qY h1)).trans h2
   exact vL (o:=⟨d,op,T,ps,af,some (j,b)⟩) rfl (by simpa using h1) hv h3⟩) ((h H hc).cov fun p hp=>by
   rcases List.mem_cons.1 hp with h|h
   · exact .inr (by rw[h])
   · exact .inl h)
variable{α β:Type}{Ro:bJ α}{Rf:bJ β}
structure Part(Ro:bJ α)(off:Nat)(Rf:bJ β)(get:α->β)(set:α->β->α):Prop where
 split:∀{F:List Nat}{H:aa}{e:Value}{a:α},Ro F H e a-> ∃(w:Sv)(Fa Fw Fb:List Nat),e.cells.toList[off]?=some w.v/\F=Fa++Fw++Fb/\Rf Fw H w.v (get a)/\
   ∀{H':aa}{um:List Nat}{d':β},a_ H H'->(∀k,k∈Fa\/k∈Fb->H'[k]?=H[k]?)->Rf um H' w.v d'->Ro (Fa++um++Fb) H' e (set a d')
def kg(E:TypeId)(Ro:bJ α)(i off:Nat)(w:Value):bJ (List α):=fun F H v xs=>aK E Ro F H v xs/\ ∃k b e,F.head?=some k/\dQ v=some k/\H[k]?=some (some b)/\b.elems[i]?=some e/\e.cells.toList[off]?=some w
instance{i off:Nat}{w:Value} [bM Ro]:bM (kg E Ro i off w):=⟨fun{F H H' v a} h hi hk=>by
 obtain⟨h1,k,b,e,h0,h2,h3,h4,h5⟩:=h
 refine⟨bM.keep h1 hi hk,k,b,e,h0,h2,(hk k ?_).trans h3,h4,h5⟩
 cases F with
 |nil=>simp at h0
 |cons q F=>simp at h0; subst h0; simp⟩
theorem aK.head{F:List Nat}{H:aa}{v:Value}{xs:List α}{k:Nat}(h:aK E Ro F H v xs)(hk:dQ v=some k):F.head?=some k/\ ∃m b G,v= .slice (some ⟨k,0,none⟩) xs.length m/\(m=1\/m=2)/\H[k]?=some (some b)/\b.wr=true/\b.own=true/\b.ty=E/\xs.length<4611686018427387904/\F=k::G/\bu Ro H b.elems xs G:=by
 rcases h with⟨rfl,-,-⟩|⟨k',m,b,G,rfl,h2,h3,h4,h5,h6,h7,rfl,h9⟩
 · simp[dQ]at hk
 · have e:k'=k:=by simpa[dQ]using hk
   subst e
   exact⟨rfl,m,b,G,rfl,h2,h3,h4,h5,h6,h7,rfl,h9⟩
theorem Dm [bM Ro]{F:List Nat}{k j off:Nat}{a:α}{v:Value}{xs:List α}{rest:List ag}{get:α->β}{set:α->β->α}(hA:AG P T false)(hx:EV n f x (.pointer (some ⟨k,j,some off⟩)))(hs:Sel cs (aG (aK E Ro) F v xs) rest)(hk:dQ v=some k)(hj:xs[j]?=some a)
   (hp:Part Ro off Rf get set) (h:∀w:Sv,ai P n H0 F0 A r (put f d w.v) (aG (kg E Ro j off w.v) F v xs::rest) K):ai P n H0 F0 A (⟨d,.load T x,T',ps,af,none⟩::r) f cs K:=by
 intro H hc
 have hc':=hc.perm hs.perm
 have ho:aK E Ro F H v xs:=hc'.hold _ List.mem_cons_self
 obtain⟨hh,m,b,G,rfl,h2,h3,h4,h5,h6,h7,rfl,h9⟩:=ho.head hk
 obtain⟨e,F1,Fj,F2,g1,g2,g3,-⟩:=h9.at hj
 obtain⟨w,Fa,Fw,Fb,q1,q2,q3,-⟩:=hp.split g3
 refine jW (iq hA hx h3 g1 q1) (h w H ?_)
 refine Ctx.step (pre:=[aG (aK E Ro) (k::G) _ xs]) (post:=[aG (kg E Ro j off w.v) (k::G) _ xs]) hc' (Nat.le_refl _) (a_.refl _) (fun _ _ _=>rfl) ?_ ?_ ?_
 · intro c hcm
   simp at hcm; subst hcm
   exact⟨ho,k,b,e,rfl,hk,h3,g1,q1⟩
 · have:=hc'.nd
   simp only[foot,List.flatMap_cons]at this ⊢
   simpa[aG]using (List.nodup_append.1 this).1
 · intro q hq
   have hq':q∈foot [aG (aK E Ro) (k::G) (.slice (some ⟨k,0,none⟩) xs.length m) xs]:=by simpa[foot,aG]using hq
   refine⟨.inl hq',(hc'.own q ?_).2⟩
   simp only[foot,List.flatMap_cons,List.mem_append]
   exact .inl (by simpa[foot]using hq')
theorem Dn [bM Ro] [bM Rf]{o:Oper}{F:List Nat}{j off:Nat}{a:α}{w v:Value}{xs:List α}{d':β}{get:α->β}{set:α->β->α}{pre:List ag}{ι:Type}{val:ι->Value}{G:ι->List Nat}(hj:xs[j]?=some a)(hp:Part Ro off Rf get set)
   (hx:∀Fw,XC P n o f (aG Rf Fw w (get a)::pre) val (fun y=>[aG Rf (G y) w d'])) (hpre:foot pre=[]):
   XC P n o f (aG (kg E Ro j off w) F v xs::pre) (fun y:ι×List Nat=>val y.1) (fun y=>[aG (aK E Ro) y.2 v (xs.set j (set a d'))]):=by
 intro H bB
 obtain⟨ho,k,b,e0,hhd,hk,hb,he0,hw0⟩:kg E Ro j off w F H v xs:=bB.hold _ List.mem_cons_self
 obtain⟨hh,m,b',G0,rfl,h2,h3,h4,h5,h6,h7,rfl,h9⟩:=ho.head hk
 rw[hb]at h3
 obtain rfl:b=b':=by simpa using h3
 obtain⟨e,F1,Fj,F2,g1,g2,g3,g4⟩:=h9.at hj
 rw[he0]at g1
 obtain rfl:e0=e:=by simpa using g1
 obtain⟨w',Fa,Fw,Fb,q1,q2,q3,q4⟩:=hp.split g3
 rw[hw0]at q1
 obtain rfl:w=w'.v:=by simpa using q1
 subst g2 q2
 have nN:=bB.nd
 have hfp:foot (aG (kg E Ro j off w'.v) (k::(F1++(Fa++Fw++Fb)++F2)) (.slice (some ⟨k,0,none⟩) xs.length m) xs::pre)=k::(F1++(Fa++Fw++Fb)++F2):=by
   have:foot (aG (kg E Ro j off w'.v) (k::(F1++(Fa++Fw++Fb)++F2)) (.slice (some ⟨k,0,none⟩) xs.length m) xs::pre)=(k::(F1++(Fa++Fw++Fb)++F2))++foot pre:=rfl
   rw[this,hpre,List.append_nil]
 have uo:foot (aG Rf Fw w'.v (get a)::pre)=Fw:=by
   have:foot (aG Rf Fw w'.v (get a)::pre)=Fw++foot pre:=rfl
   rw[this,hpre,List.append_nil]
 rw[hfp]at nN
 have hlt:∀q∈k::(F1++(Fa++Fw++Fb)++F2),q<H.length:=fun q hq=>(bB.own q (by rw[hfp]; exact hq)).2
 have hc2:Ctx H (foot (aG Rf Fw w'.v (get a)::pre)) H (aG Rf Fw w'.v (get a)::pre):=by
   refine⟨Nat.le_refl _,a_.refl _,fun _ _ _=>rfl,fun c hc=>?_,?_,fun q hq=>⟨.inl hq,?_⟩⟩
   · rcases List.mem_cons.1 hc with rfl|hc
     · exact q3
     · exact bB.hold c (by simp[hc])
   · rw[uo]
     refine nN.sublist ?_
     refine .cons _ ?_
     exact by
       have h1:Fw.Sublist (Fa++Fw++Fb):=(List.sublist_append_right Fa Fw).trans (List.sublist_append_left _ _)
       exact h1.trans ((List.sublist_append_right F1 _).trans (List.sublist_append_left _ _))
   · rw[uo]at hq
     exact hlt q (by simp[hq])
 intro ρ wd ac K' Q' hr hf hkk
 refine hx Fw H hc2 ρ wd ac K' Q' hr hf fun f2 ρ' H' a' w2 p1 p2 p3 p4=>?_
 obtain⟨y,rfl,p5⟩:=p4
 rw[uo]at p5
 refine hkk _ ρ' H' a' w2 p1 p2 p3 ⟨(y,k::(F1++(Fa++G y++Fb)++F2)),rfl,?_⟩
 rw[hfp]
 simp only[List.nodup_cons,List.mem_append,not_or]at nN
 have hall:=nN.2
 have ko:∀q,q∈F1\/q∈Fa\/q∈Fb\/q∈F2->q∉Fw:=by
   intro q hq qH
   have n1:=List.nodup_append.1 hall
   have n2:=List.nodup_append.1 n1.1
   have n3:=List.nodup_append.1 n2.2.1
   have n4:=List.nodup_append.1 n3.1
   rcases hq with h|h|h|h
   · exact n2.2.2 q h q (by simp[qH]) rfl
   · exact n4.2.2 q h q qH rfl
   · exact n3.2.2 q (by simp[qH]) q h rfl
   · exact n1.2.2 q (by simp[qH]) q h rfl
 have yX:k∉Fw:=nN.1.1.2.1.2
 have hget:∀q,q∈k::(F1++(Fa++Fw++Fb)++F2)->q∉Fw->H'[q]?=H[q]?:=fun q hq hn=>p5.agr q (hlt q hq) hn
 have hsub:=p5.hold (aG Rf (G y) w'.v d') (by simp)
 refine⟨p5.len,p5.imm,fun q hq hn=>p5.agr q hq (fun h=>hn (by simp[h])),?_,?_,?_⟩
 · intro c hc
   simp at hc; subst hc
   have hel:=q4 (H':=H') (um:=G y) (d':=d') p5.imm (fun q hq=>hget q (by rcases hq with h|h<;>simp[h]) (ko q (by rcases hq with h|h<;>simp[h]))) hsub
   have hnew:=g4 (H':=H') (e':=e0) (a':=set a d') (kC:=Fa++G y++Fb) (fun Fi x' y' hr' hm=>bM.keep hr' p5.imm fun q hq=>by
     rcases hm q hq with h|h
     · exact hget q (by simp[h]) (ko q (by simp[h]))
     · exact hget q (by simp[h]) (ko q (by simp[h]))) hel
   have hse:b.elems.set j e0=b.elems:=by
     apply List.ext_getElem?
     intro q
     by_cases hq:j=q
     · subst hq; rw[List.getElem?_set_self (mM he0)]; exact he0.symm
     · rw[List.getElem?_set_ne hq]
   rw[hse]at hnew
   exact .inr ⟨k,m,b,F1++(Fa++G y++Fb)++F2,by rw[List.length_set],h2,(hget k (by simp) yX).trans hb,h4,h5,h6,by simpa using h7,by simp,hnew⟩
 · have hf1:foot [aG (aK E Ro) (k::(F1++(Fa++G y++Fb)++F2)) (.slice (some ⟨k,0,none⟩) xs.length m) (xs.set j (set a d'))]=(k::(F1++Fa))++G y++(Fb++F2):=by simp[foot,aG]
   have Iz:(G y).Nodup:=by have:=p5.nd; simpa[foot,aG]using this
   rw[hf1]
   refine Ba (W:=Fw) ?_ Iz fun q hq=>?_
   · have h0:=bB.nd
     rw[hfp]at h0
     simpa using h0
   · have hq1:=(p5.own q (by simpa[foot,aG]using hq)).1
     have hno:∀q',q'∈k::(F1++(Fa++Fw++Fb)++F2)->q'∉Fw->q≠q':=by
       intro q' h1 h2 e
       subst e
       rcases hq1 with h|h
       · exact h2 h
       · have:=hlt q h1; omega
     constructor
     · intro hm
       simp only[List.mem_cons,List.mem_append]at hm
       rcases hm with rfl|h|h
       · exact hno q (by simp) yX rfl
       · exact hno q (by simp[h]) (ko q (by simp[h])) rfl
       · exact hno q (by simp[h]) (ko q (by simp[h])) rfl
     · intro hm
       simp only[List.mem_append]at hm
       rcases hm with h|h
       · exact hno q (by simp[h]) (ko q (by simp[h])) rfl
       · exact hno q (by simp[h]) (ko q (by simp[h])) rfl
 · intro q hq
   have hq':q∈G y\/q∈k::(F1++(Fa++Fw++Fb)++F2):=by
     simp only[foot,aG,List.flatMap_cons,List.flatMap_nil,List.append_nil,List.mem_cons,List.mem_append]at hq ⊢
     rcases hq with rfl|(h|(h|h)|h)|h<;>simp[*]
   rcases hq' with h|h
   · have hq1:=p5.own q (by simpa[foot,aG]using h)
     refine⟨?_,hq1.2⟩
     rcases hq1.1 with h'|h'
     · exact .inl (by simp[h'])
     · exact .inr h'
   · exact⟨.inl h,Nat.lt_of_lt_of_le (hlt q h) p5.len⟩
theorem BR [bM Ro]{s k off:Nat}{F:List Nat}{i:Int}{a a':α}{u v:Value}{xs:List α}(hs:SZ P T s)(h0:Nat.blt 0 s=true)(hx:EV n f x (.pointer (some ⟨k,i.toNat,some off⟩)))(hy:EV n f y u)(hk:dQ v=some k)(hj:xs[i.toNat]?=some a)
   (hu:u.cells.size=s) (hsc:u.cells.toList.all scal=true) (hfit:∀F H e,Ro F H e a->off+s<=e.cells.size) (hset:∀F H e,Ro F H e a->Ro F H (eQ e off u.cells.toList) a'):
   XC P n ⟨d,.store T x y,T',ps,af,gd⟩ f [aG (aK E Ro) F v xs] (fun _:Unit=>undef) (fun _=>[aG (aK E Ro) F v (xs.set i.toNat a')]):=by
 intro H bB
 have ho:aK E Ro F H v xs:=bB.hold _ (List.mem_singleton.2 rfl)
 obtain⟨hh,m,b,G,rfl,h2,h3,h4,h5,h6,h7,rfl,h9⟩:=ho.head hk
 obtain⟨e,F1,Fj,F2,g1,rfl,g3,g4⟩:=h9.at hj
 refine rQ hs hx hy h3 h5 g1 hu hsc (by simpa[Nat.blt_eq]using h0) (hfit _ _ _ g3) ⟨(),rfl,?_⟩
 have iB:∀q,q≠k->(H.set k (some ⟨b.elems.set i.toNat (eQ e off u.cells.toList),b.ty,true,b.wr⟩))[q]?=H[q]?:=fun q hq=>by rw[List.getElem?_set_ne (fun e=>hq e.symm)]
 have eT:a_ H (H.set k (some ⟨b.elems.set i.toNat (eQ e off u.cells.toList),b.ty,true,b.wr⟩)):=by
   intro q b2 hq hw2
   rw[iB q (fun e=>by
     subst e; rw[hq]at h3
     injection h3 with h3; injection h3 with h3
     rw[h3]at hw2; rw[hw2]at h4; simp at h4)]
   exact hq
 have hnd:=bB.nd
 have jI:∀q,q∈F1\/q∈Fj\/q∈F2->q≠k:=by
   intro q hq e
   subst e
   simp only[foot,aG,List.flatMap_cons,List.flatMap_nil,List.append_nil,List.nodup_cons,List.mem_append]at hnd
   exact hnd.1 (by rcases hq with h|h|h<;>simp[h])
 refine⟨by simp,eT,fun q hq uk=>iB q (fun e=>uk (by subst e; simp[foot,aG])),?_,by simpa[foot,aG]using hnd,fun q hq=>⟨.inl (by simpa[foot,aG]using hq),?_⟩⟩
 · intro c hc
   simp at hc; subst hc
   refine .inr ⟨k,m,_,F1++Fj++F2,by rw[List.length_set],h2,List.getElem?_set_self (ed h3),h4,rfl,h6,by simpa using h7,by simp,?_⟩
   refine g4 (fun Fi x y hr hm=>bM.keep hr eT fun q hq=>iB q (jI q ?_)) (bM.keep (hset _ _ _ g3) eT fun q hq=>iB q (jI q (by simp[hq])))
   rcases hm q hq with h|h
   · exact .inl h
   · exact .inr (.inr h)
 · simpa using (bB.own q (by simpa[foot,aG]using hq)).2
theorem mR{H:aa}{k s:Nat}{ow w:Bool}{TB:TypeId}{l:List Value}{f:Fr}(hA:AG P T true)(hs:SZ P T s)(h0:Nat.blt 0 s=true)(hx:EV n f x (.pointer (some ⟨k,0,some 0⟩)))(hk:H[k]?=some (some ⟨[.agg l.toArray],TB,ow,w⟩))(hl:l.length=s):
   aO P n ⟨d,.load T x,T',ps,af,none⟩ f H (.agg l.toArray):=
 rP (e:=.agg l.toArray) hA hs hx hk rfl (by simpa[Nat.blt_eq]using h0) (by simp[Value.cells,hl]) (by subst hl; simp[Value.cells])
variable{T'':TypeId}
def IK(P:Program) [ay P](t:TypeId)(k:IntKind):Prop:=P.underlying t=some (.int k)
theorem wI{H:aa}{S D:TypeId}{k1 k2:IntKind}{i:Int}(hS:IK P S k1)(hD:IK P D k2)(hx:EV n f x (.int k1 i)):aO P n ⟨d,.convert S D x,T',ps,af,none⟩ f H (.int k2 (k2.wrap i)):=by
 intro ρ w q hr hf
 have hS':P.underlying S=some (.int k1):=hS
 have hD':P.underlying D=some (.int k2):=hD
 exact⟨_,by simp[execOp,(hx.use hf).int_inv,convert,underlying,hS',hD',Conv.intToInt],.int _ _⟩
def eU(i:Int):UInt8:=UInt8.ofNat (IntKind.u8.wrap i).toNat
theorem Cy(i:Int):((eU i).toNat:Int)=IntKind.u8.wrap i:=by
 have h:IntKind.u8.wrap i=i % 256:=by simp[IntKind.wrap,IntKind.bits,IntKind.signed]
 unfold eU
 rw[h]
 have h1:0<=i % 256:=Int.emod_nonneg _ (by decide)
 have h2:i % 256<256:=Int.emod_lt_of_pos _ (by decide)
 simp[UInt8.toNat_ofNat']
 omega
theorem wX{H:aa}{S D:TypeId}{k1:IntKind}{i:Int}(hS:IK P S k1)(hD:IK P D .u8)(hx:EV n f x (.int k1 i)):aO P n ⟨d,.convert S D x,T',ps,af,none⟩ f H (.int .u8 ((eU i).toNat:Int)):=by
 rw[Cy]; exact wI hS hD hx
end
end Go.Fw
/-
 Plain laws on the helpers that laws use: copies, sizes, comparisons.
-/
namespace Go.Fw
open Go
theorem gK{b:Bool}(h:b=true):eZ b=some ():=by simp[eZ,h]
theorem gM{α:Type}(l:List α)(k:Nat):ix l (k:Int)=l[k]?:=by simp[ix]
theorem wY{α:Type}{l:List α}{k:Nat}{x:α}{r:List α}(h:l.drop k=x::r):l[k]?=some x/\l.drop (k+1)=r:=by
 have hlt:k<l.length:=by
   rcases Nat.lt_or_ge k l.length with h'|h'
   · exact h'
   · rw[List.drop_of_length_le h']at h; simp at h
 rw[List.drop_eq_getElem_cons hlt]at h
 injection h with h1 h2
 exact⟨by rw[List.getElem?_eq_getElem hlt,h1],h2⟩
theorem xy{α:Type}{L:List α->Nat->Option Bool}(b:List α)(h0:∀k,L [] k=some true)(h1:∀x r k,b[k]?=some x->L (x::r) k=L r (k+1)):
   ∀(rest:List α)(k:Nat),b.drop k=rest->L rest k=some true
 |[],k,_=>h0 k
 |x::r,k,h=>by
   obtain⟨e1,e2⟩:=wY h
   rw[h1 x r k e1]
   exact xy b h0 h1 r (k+1) e2
def fI{α:Type}(p:α->Prop)(a:List α):Prop:=a.length<4294967296/\ ∀x∈a,p x
def lK{α:Type}(_:α):Prop:=True
theorem BS{α:Type}(a:List α)(ha:a.length<4294967296):fI lK a:=⟨ha,fun _ _=>trivial⟩
theorem Cz{α:Type}{p:α->Prop}:fI p []:=⟨by simp,by simp⟩
theorem wZ{α:Type}{S:List α->List α->Option Bool}{L:List α->List α->Nat->Option Bool}(hS:∀a b,S a b=if (((a.length:Int):Int)!=(b.length:Int))then some false else L b a 0)(h0:∀b k,L b [] k=some true)
   (h1:∀b x r k,b[k]?=some x->L b (x::r) k=L b r (k+1)) (a:List α):S a a=some true:=by
 rw[hS]
 simp only[bne_self_eq_false,Bool.false_eq_true,if_false]
 exact xy a (h0 a) (h1 a) a 0 rfl
def bR{α:Type}(ms:α->Nat)(l:List α):Nat:=(l.map ms).sum
def fo{α:Type}(mk:α->Int->α)(ms:α->Nat):Int->List α->List α
 |_,[]=>[]
 |k,x::r=>mk x k::fo mk ms (k+ms x) r
theorem lh{α:Type}(ms:α->Nat)(x:α)(l:List α):bR ms (x::l)=ms x+bR ms l:=by simp[bR]
theorem CB{α:Type}(l:List α):bR (fun _=>1) l=l.length:=by
 induction l with
 |nil=>rfl
 |cons x l ih=>rw[lh,ih,List.length_cons]; omega
theorem xz{α:Type}(ms:α->Nat):bR ms []=0:=rfl
theorem Eh{α:Type}{c:List α}{j:Nat}{y:α}(h:j<c.length):ix (c.set j y) (j:Int)=some y:=by rw[gM,List.getElem?_set_self h]
theorem wJ{α:Type}{L:Nat->List α->Int->Int->Option (Int×List α)}{mk:α->Int->α}{ms:α->Nat}{p:α->Prop}(h0:∀m c k (j:Nat),c.length<=j->L (m+1) c k j=some (k,c))
   (h1:∀m c k (j:Nat) x,c[j]?=some x->j<c.length->j<4294967296->p x->0<=k->k+(ms x:Int)<4611686018427387904->L (m+1) c k j=L m (c.set j (mk x k)) (k+ms x) ((j+1:Nat):Int)):
   ∀(rest:List α)(m:Nat)(c:List α)(k:Int)(j:Nat),c.drop j=rest->c.length<4294967296->j<=c.length->(∀x∈rest,p x)->0<=k->k+(bR ms rest:Int)<4611686018427387904->rest.length<m->
     L m c k j=some (k+bR ms rest,c.take j++fo mk ms k rest)
 |[],m,c,k,j,hd,hl,hj,_,_,_,hm=>by
   obtain⟨m,rfl⟩:∃q,m=q+1:=⟨m-1,by simp at hm; omega⟩
   have hge:c.length<=j:=List.drop_eq_nil_iff.1 hd
   rw[h0 _ _ _ _ hge]
   simp[bR,fo,List.take_of_length_le hge]
 |x::r,m,c,k,j,hd,hl,hj,hp,hk,hb,hm=>by
   simp only[List.length_cons]at hm
   obtain⟨m,rfl⟩:∃q,m=q+1:=⟨m-1,by omega⟩
   obtain⟨e1,e2⟩:=wY hd
   have hlt:j<c.length:=by
     rcases Nat.lt_or_ge j c.length with h|h
     · exact h
     · simp[List.getElem?_eq_none h]at e1
   rw[lh]at hb
   rw[h1 m c k j x e1 hlt (by omega) (hp x (by simp)) hk (by omega)]
   have hd2:(c.set j (mk x k)).drop (j+1)=r:=by rw[List.drop_set_of_lt (by omega)]; exact e2
   rw[wJ h0 h1 r m _ _ (j+1) hd2 (by simpa using hl) (by simp; omega) (fun y hy=>hp y (by simp[hy])) (by omega) (by omega) (by omega),lh]
   congr 1
   refine Prod.ext (by simp; omega) ?_
   simp only[fo]
   rw[List.take_succ_eq_append_getElem (by simpa using hlt)]
   simp[List.take_set_of_le]
theorem vV{α:Type}{S:List α->Int->Option (Int×List α)}{L:Nat->List α->Int->Int->Option (Int×List α)}{mk:α->Int->α}{ms:α->Nat}{p:α->Prop}(hS:∀a k,S a k=L (((a.length:Int)-0).toNat+2) a k 0)
   (h0:∀m c k (j:Nat),c.length<=j->L (m+1) c k j=some (k,c))
   (h1:∀m c k (j:Nat) x,c[j]?=some x->j<c.length->j<4294967296->p x->0<=k->k+(ms x:Int)<4611686018427387904->L (m+1) c k j=L m (c.set j (mk x k)) (k+ms x) ((j+1:Nat):Int))
   (a:List α) (k:Int) (hb:fI p a) (hk:0<=k) (hm:k+(bR ms a:Int)<4611686018427387904):S a k=some (k+bR ms a,fo mk ms k a):=by
 rw[hS]
 have:=wJ h0 h1 a (((a.length:Int)-0).toNat+2) a k 0 rfl hb.1 (by omega) hb.2 hk hm (by omega)
 simpa using this
theorem wK{α:Type}{L:List α->Nat->Int->Option Int}{mk:α->Int->α}{ms:α->Nat}{p:α->Prop}(h0:∀n k,L [] n k=some k)
   (h1:∀x r n k,p x->0<=k->k+(ms x:Int)<4611686018427387904->L (mk x k::r) n k=L r (n+1) (k+ms x)):
   ∀(l:List α)(n:Nat)(k:Int),(∀x∈l,p x)->0<=k->k+(bR ms l:Int)<4611686018427387904->L (fo mk ms k l) n k=some (k+bR ms l)
 |[],n,k,_,_,_=>by simp[fo,h0,bR]
 |x::r,n,k,hp,hk,hb=>by
   rw[lh]at hb
   simp only[fo]
   rw[h1 x _ n k (hp x (by simp)) hk (by omega),wK h0 h1 r (n+1) _ (fun y hy=>hp y (by simp[hy])) (by omega) (by omega),lh]
   congr 1; omega
theorem vW{α:Type}{S:List α->Int->Option Int}{L:List α->Nat->Int->Option Int}{mk:α->Int->α}{ms:α->Nat}{p:α->Prop}(hS:∀a k,S a k=L a 0 k)(h0:∀n k,L [] n k=some k)
   (h1:∀x r n k,p x->0<=k->k+(ms x:Int)<4611686018427387904->L (mk x k::r) n k=L r (n+1) (k+ms x)) (a:List α) (k:Int) (hb:fI p a) (hk:0<=k) (hm:k+(bR ms a:Int)<4611686018427387904):
   S (fo mk ms k a) k=some (k+bR ms a):=by
 rw[hS]; exact wK h0 h1 a 0 k hb.2 hk hm
theorem Dp{α:Type}{k:Int}{x y:α}(h:0<=k):(if decide ((k:Int)<0)=true then x else y)=y:=if_neg (by simp; omega)
theorem xN{α:Type}{xs ys:List α}(h:xs.length+ys.length<4294967296):app xs ys=some (xs++ys):=by unfold app; rw[if_pos h]
def lZ{α:Type}(p:α->Bool):List α->Nat->Int
 |[],_=>-1
 |x::r,k=>if p x then (k:Int)else lZ p r (k+1)
theorem xA{α:Type}{p:α->Bool}:∀(l:List α)(k:Nat),decide ((0:Int)<=lZ p l k)=l.any p
 |[],k=>by simp[lZ]
 |x::r,k=>by
   rw[lZ,List.any_cons]
   by_cases h:p x=true
   · rw[if_pos h,h]; simp
   · rw[if_neg h,xA r (k+1)]; simp[h]
theorem vX{α:Type}{L:List α->Nat->Option Int}{f:α->Option Bool}{p:α->Bool}(h0:∀k,L [] k=some (-1))(h1:∀x r k,L (x::r) k=(f x).bind fun b=>if b then some (k:Int)else L r (k+1)):
   ∀(l:List α)(k:Nat),(∀x∈l,f x=some (p x))->L l k=some (lZ p l k)
 |[],k,_=>h0 k
 |x::r,k,hf=>by
   rw[h1,hf x (by simp),Option.bind_some,lZ]
   split
   · rfl
   · exact vX h0 h1 r (k+1) fun y hy=>hf y (by simp[hy])
theorem app1{α:Type}{c:List α}{x:α}(h:c.length+1<4294967296):app c [x]=some (c++[x]):=xN (by simpa using h)
def dO(lo hi n:Int):Bool:=decide (lo<=n)&&decide (n<=hi)
end Go.Fw
/-
 Slice expressions on our own slices; clear; elements that keep their identity; a function that only moves elements, over deep data.
-/
set_option linter.unusedVariables false
namespace Go.Fw
open Go
section
variable{P:Program} [ay P]{n:Nat}{f:Fr}{H0:aa}{F0:List Nat}{cs:List ag}{A:Array Oper}{r:List Oper}{K:Fr->List ag->Prop}{d:Option Tmp}{x y z:Operand}{T T' E:TypeId}{ps:String}{af:Array Edge}{gd:Option (Nat×Bool)}
variable{α:Type}{R:aa->Value->α->Prop}{xs:List α}{v:Value}
end
def rq{α:Type}(R:aa->Value->α->Prop)(H:aa)(e:Value)(q:Value×α):Prop:=e=q.1/\R H e q.2
instance{α:Type}{R:aa->Value->α->Prop} [aR R]:aR (rq R):=⟨fun h hi=>⟨h.1,aR.up h.2 hi⟩⟩
instance{α:Type}{R:aa->Value->α->Prop}{s:Nat} [Cells R s]:Cells (rq R) s:=⟨fun h=>Cells.cells h.2⟩
def IA{α:Type}(_:aa)(e:Value)(q:Value×α):Prop:=e=q.1
instance{α:Type}:Pure (IA (α:=α)):=⟨fun h=>h⟩
section
variable{α:Type}{R:aa->Value->α->Prop}{Ro:bJ α}{E:TypeId}
theorem bu.map{β:Type}{R1 R2:bJ β}{H:aa}(hm:∀F e a,R1 F H e a->R2 F H e a){es:List Value}{xs:List β}{G:List Nat}(h:bu R1 H es xs G):bu R2 H es xs G:=by
 induction h with
 |nil=>exact .nil
 |cons h _ ih=>exact .cons (hm _ _ _ h) ih
theorem aK.map{β:Type}{R1 R2:bJ β}{F:List Nat}{H:aa}{v:Value}{xs:List β}(hm:∀F e a,R1 F H e a->R2 F H e a)(h:aK E R1 F H v xs):aK E R2 F H v xs:=by
 rcases h with h|⟨k,m,b,G,h1,h2,h3,h4,h5,h6,h7,h8,h9⟩
 · exact .inl h
 · exact .inr ⟨k,m,b,G,h1,h2,h3,h4,h5,h6,h7,h8,h9.map hm⟩
theorem bu.sub{H:aa}{es:List Value}{xs:List α}{G:List Nat}(h:bu Ro H es xs G):∀{sel:List (Value×α)},sel.Sublist (es.zip xs)-> ∃G',G'.Sublist G/\bu Ro H (sel.map Prod.fst) (sel.map Prod.snd) G':=by
 induction h with
 |nil=>intro sel hs; simp at hs; subst hs; exact⟨[],.slnil,.nil⟩
 | @cons e es a xs F G h t ih=>
   intro sel hs
   rw[List.zip_cons_cons]at hs
   cases hs with
   |cons _ hs=>
     obtain⟨G',h1,h2⟩:=ih hs
     exact⟨G',h1.trans (List.sublist_append_right _ _),h2⟩
   |cons_cons _ hs=>
     obtain⟨G',h1,h2⟩:=ih hs
     exact⟨F++G',(List.Sublist.refl _).append h1,.cons h h2⟩
end
structure kr{β:Type}(p:β->Bool)(qs cur:List β)(i j:Nat):Prop where
 len:cur.length=qs.length
 lt:i<j
 le:j<=qs.length
 tk:cur.take i=(qs.take j).filter fun a=>!p a
 dr:cur.drop j=qs.drop j
section
variable{β:Type}{p:β->Bool}{qs cur:List β}{i j:Nat}{x:β}
theorem zR(hx:qs[j]?=some x):(qs.take (j+1)).filter (fun a=>!p a)=(qs.take j).filter (fun a=>!p a)++(if p x then []else [x]):=by
 have hlt:j<qs.length:=by
   rcases Nat.lt_or_ge j qs.length with h|h
   · exact h
   · simp[List.getElem?_eq_none h]at hx
 rw[List.take_succ_eq_append_getElem hlt,List.filter_append]
 rw[List.getElem?_eq_getElem hlt]at hx
 obtain rfl:=Option.some.inj hx
 cases hp:p qs[j]<;>simp[hp]
theorem kr.at(h:kr p qs cur i j)(hj:j<qs.length):∃x,cur[j]?=some x/\qs[j]?=some x:=by
 refine⟨qs[j],?_,List.getElem?_eq_getElem hj⟩
 have:=congrArg (fun l:List β=>l[0]?) h.dr
 simpa[List.getElem?_eq_getElem hj]using this
theorem kr.no(h:kr p qs cur i j)(hx:qs[j]?=some x)(hp:p x=false):kr p qs (cur.set i x) (i+1) (j+1):=by
 have hlt:j<qs.length:=mM hx
 have hi:i<cur.length:=by have:=h.lt; have:=h.len; omega
 refine⟨by simpa using h.len,by have:=h.lt; omega,hlt,?_,?_⟩
 · rw[zR hx,←h.tk,hp,List.take_succ_eq_append_getElem (by simpa using hi)]
   simp[List.take_set_of_le]
 · rw[List.drop_set_of_lt (by have:=h.lt; omega),←List.drop_drop,h.dr,List.drop_drop]
theorem kr.fin(h:kr p qs cur i j)(hj:qs.length<=j):cur.take i=qs.filter fun a=>!p a:=by
 rw[h.tk,List.take_of_length_le hj]
end
section
variable{P:Program} [ay P]{n:Nat}{f:Fr}{H0:aa}{F0:List Nat}{cs:List ag}{A:Array Oper}{r:List Oper}{K:Fr->List ag->Prop}{d:Option Tmp}{x y z:Operand}{T T' E:TypeId}{ps:String}{af:Array Edge}{gd:Option (Nat×Bool)}
variable{α:Type}{R:aa->Value->α->Prop}{Ka:bJ α}{xs:List α}{v:Value}
end
section
variable{P:Program} [ay P]{n:Nat}{f:Fr}{H0:aa}{F0:List Nat}{cs:List ag}{A:Array Oper}{r:List Oper}{K:Fr->List ag->Prop}{d:Option Tmp}{T:TypeId}{ps:String}{af:Array Edge}{gd:Option (Nat×Bool)}{t:Tmp}
variable{l:List Oper}{tb ah todo:List Nat}{fl:List (Nat×List Nat)}{i:Nat}
theorem Cm(v:Value)(hv:f t=v)(ht:Nat.blt t n=true)(h:ai P n H0 F0 A r (put f d v) cs K):ai P n H0 F0 A (⟨d,.move (.tmp t),T,ps,af,none⟩::r) f cs K:=ax (rZ (.tmp hv ht)) h
theorem Ca(v:Value)(hv:f t=v)(ht:Nat.blt t n=true)(h:ai P n H0 F0 A r (put f d v) cs K):ai P n H0 F0 A (⟨d,.assign (.tmp t),T,ps,af,none⟩::r) f cs K:=ax (jl (.tmp hv ht)) h
end
end Go.Fw
/-
 A slice of our own keeps its array, and its elements turn no more. No conditions.
-/
set_option linter.unusedVariables false
namespace Go.Fw
open Go
section
variable{α:Type}{Ro:bJ α}{R':aa->Value->α->Prop}{E:TypeId}{H0:aa}{F0:List Nat}{cs rest cs2:List ag}{F:List Nat}{v:Value}{xs:List α}
variable{P:Program} [ay P]{n:Nat}{f:Fr}{c1:Code}{Q:Exit->Fr->List ag->Prop}
end
end Go.Fw
/-
 Library functions that hand back strings: what the shelf's contracts say, at the abstract heap.
-/
set_option linter.unusedVariables false
namespace Go.Fw
open Go Go.RowKit
section
variable{P:Program} [ay P]{ρ:aB}{H:aa}{w:World}
theorem aC.ofBelow{w':World}(h:aC P ρ H w)(hb:Below w.heap.size w w'):aC P ρ H w':=by
 constructor
 · intro k L hk
   obtain⟨b,hbk,hr⟩:=h.blk k L hk
   exact⟨b,hbk,hr.of_same (Up.refl ρ) (hb.block _ (h.lt hk))⟩
 · exact h.alive
 · exact h.dom
 · exact h.inj
 · exact h.vok.keep hb.size (fun b hb' _=>hb.block b hb') fun _ _ hk _=>.inl hk
theorem Step.ofBelow{w':World}(hb:Below w.heap.size w w'):Step ρ H w ρ H w' where
 up:=Up.refl ρ
 os:=hb.os
 output:=hb.output
 tape:=hb.tape
 size:=hb.size
 frame b hb' _:=hb.block b hb'
 fresh _ _ h:=.inl h
 len:=Nat.le_refl _
 hold k hk hn:=⟨hn,rfl⟩
theorem below_grow(w:World)(k:Nat)(os:Array Obj):Below w.heap.size w (Sort.grow (w.drewN k) os):=
 ⟨rfl,rfl,rfl,by simp[Sort.grow,World.drewN],fun j hj=>by
   show (w.heap++os)[j]?=_
   rw[Array.getElem?_append_left hj]⟩
theorem dR.var{name:String}{cs:Array Value}(hV:∀w0,ay.V P w0->w0.var? P name=some cs)(h:dR P ρ w):w.var? P name=some cs:=by
 obtain⟨w0,h1,h2,h3,-⟩:=h
 have:=hV w0 h1
 unfold World.var? at this ⊢
 cases hg:P.globalNamed name with
 |none=>rw[hg]at this; simp at this
 |some g=>
   rw[hg,Option.bind_some]at this
   rw[Option.bind_some]
   have hlt:g<w0.heap.size:=by
     rcases Nat.lt_or_ge g w0.heap.size with h|h
     · exact h
     · rw[Array.getElem?_eq_none h]at this; simp at this
   rw[h3 g hlt]
   exact this
theorem Bq{g:FuncId}{n:Int}(h:∀w,(∃ρ,dR P ρ w)->Calls P g #[.int .i64 n] w fun e w'=>e= .returned (.string ⟨(Lib.itoa n).toArray⟩)/\ ∃k os,w'=Sort.grow (w.drewN k) os):
   Fw.Spec P g [.int .i64 n] [] (fun _:Unit=>sv (Lib.itoa n)) (fun _=>[]):=by
 intro H F0 bB ρ w bT hr hargs
 obtain⟨l⟩:=bT
 cases hargs with
 |cons _ c _ _ hc t=>
   cases t
   obtain rfl:=hc.int_inv
   refine (h w ⟨ρ,hr.vok⟩).mono ?_
   rintro e w' ⟨rfl,k,os,rfl⟩
   have hb:=below_grow w k os
   exact⟨_,_,ρ,H,rfl,.string _,hr.ofBelow hb,Step.ofBelow hb,(),rfl,bB⟩
theorem Br{g:FuncId}{E:TypeId}{v:Value}{xs:List (List UInt8)}{sep:List UInt8}(hs:SZ P E 1)
   (h1:∀(a:Option Addr)(c:Nat)(s:ByteArray) w,Calls P g #[.slice a 0 c,.string s] w fun e w'=>e= .returned (.string ⟨#[]⟩)/\w'=w)
   (h2:∀bk o c (ys:List ByteArray)(s:ByteArray) w,(∀(j:Nat) x,ys[j]?=some x->w.cell? ⟨bk,o+j,none⟩=some (.string x))->bk<w.heap.size->ys.length<=140737488355328->ys.length<=c->
     (Lib.join (ys.map (·.data.toList)) s.data.toList).length<=140737488355328->Calls P g #[.slice (some ⟨bk,o,none⟩) ys.length c,.string s] w fun e w'=>e= .returned (.string ⟨(Lib.join (ys.map (·.data.toList)) s.data.toList).toArray⟩)/\Below w.heap.size w w')
   (hN:xs.length<4294967296) (hlen:(Lib.join xs sep).length<4294967296):
   Fw.Spec P g [v,sv sep] [bV (bD E rdStr) v xs] (fun _:Unit=>sv (Lib.join xs sep)) (fun _=>[]):=by
 intro H F0 bB ρ w bT hr hargs
 obtain⟨l⟩:=bT
 have hnil:xs=[]->Lib.join xs sep=[]:=fun h=>by subst h; rfl
 have hdone:∀w',Below w.heap.size w w'-> ∃x0 r ρ' H',Ending.returned (sv (Lib.join xs sep))= .returned x0/\az ρ' r x0/\aC P ρ' H' w'/\Step ρ H w ρ' H' w'/\ ∃x:Unit,r=sv (Lib.join xs sep)/\Ctx H F0 H' []:=fun w' hb=>
   ⟨_,_,ρ,H,rfl,.string _,hr.ofBelow hb,Step.ofBelow hb,(),rfl,bB.sublist (List.nil_sublist _)⟩
 cases hargs with
 |cons _ c _ _ hc t=>
   cases t with
   |cons _ c2 _ _ hc2 t=>
     cases t
     obtain rfl:=hc2.sv_inv
     have hemp:∀a cap,c= .slice a 0 cap->xs=[]->Calls P g #[c,sv sep] w fun e w'=>∃x0 r ρ' H',e= .returned x0/\az ρ' r x0/\aC P ρ' H' w'/\Step ρ H w ρ' H' w'/\ ∃x:Unit,r=sv (Lib.join xs sep)/\Ctx H F0 H' []:=by
       intro a cap e hx
       subst e
       refine (h1 a cap _ w).mono ?_
       rintro e w' ⟨rfl,rfl⟩
       have:=hdone w' (Below.refl _ _)
       rw[hnil hx]at this ⊢
       exact this
     have hrd:bD E rdStr H v xs:=bB.hold (bV (bD E rdStr) v xs) (by simp)
     rcases hrd with⟨rfl,hx⟩|⟨k,i,m,b,rfl,g2,g3,g4,g5,g6,g7⟩|⟨k,i,m,rfl,hx⟩
     · cases hc
       exact hemp none 0 rfl hx
     · obtain⟨L,p,cap,hl,hbr,rfl,hcap,-,-,hp⟩:=hc.slice_inv hr g2
       by_cases hx:xs.length=0
       · have hx':=List.length_eq_zero_iff.1 hx
         exact hemp (some p) cap (by rw[hx]) hx'
       have qI:=hp hx
       have qJ:L.sz=1:=by rw[←hbr.sz,g4,hs.cells]
       obtain⟨cs,ct,fr,uq,hel,-⟩:=hbr.cells
       have hmap:(xs.map fun l=>(⟨l.toArray⟩:ByteArray)).map (·.data.toList)=xs:=by
         rw[List.map_map]
         exact List.map_id' xs
       have hl2:(xs.map fun l=>(⟨l.toArray⟩:ByteArray)).length=xs.length:=by simp
       have:=h2 L.blk (L.off+i) cap (xs.map fun l=>(⟨l.toArray⟩:ByteArray)) ⟨sep.toArray⟩ w (fun j x hj=>by
         rw[List.getElem?_map]at hj
         cases hxj:xs[j]? with
         |none=>rw[hxj]at hj; simp at hj
         |some a=>
           rw[hxj]at hj
           obtain rfl:(⟨a.toArray⟩:ByteArray)=x:=by simpa using hj
           obtain⟨e,he,hr'⟩:=g7 j a hxj
           have hr2:e=sv a:=hr'
           subst hr2
           have:=(hel (i+j) _ he).2
           rw[qJ,Nat.mul_one,←Nat.add_assoc]at this
           obtain⟨c0,q1,q2⟩:=this.get 0 _ rfl
           have q3:=q2.sv_inv
           subst q3
           rw[lm uq]
           rw[List.getElem?_take_of_lt (by omega),List.getElem?_drop,Nat.add_zero,Array.getElem?_toList]at q1
           exact q1) (hr.lt hl) (by rw[hl2]; omega) (by rw[hl2]; exact hcap) (by rw[hmap]; show (Lib.join xs sep).length<=_; omega)
       rw[hl2,hmap]at this
       rw[qI,qJ,Nat.mul_one]
       refine this.mono ?_
       rintro e w' ⟨rfl,hb⟩
       exact hdone w' hb
     · obtain⟨p,cap,rfl⟩:∃p cap,c= .slice (some p) 0 cap:=by
         cases hc with
         |slice _ _ _ _ L p cap=>exact⟨p,cap,rfl⟩
         |sliceDead _ _ _ _ p cap=>exact⟨p,cap,rfl⟩
       exact hemp (some p) cap rfl hx
end
section
variable{P:Program} [ay P]{n:Nat}{f:Fr}{d:Option Tmp}{x:Operand}{S T D E:TypeId}{ps:String}{af:Array Edge}{H:aa}{F:List Nat}{v:Value}{u:UInt8}
theorem w9(hS:SL P S E)(hE:IK P E .u8)(hD:P.underlying D=some .string)(hs:SZ P E 1)(hx:EV n f x v)(hp:(aG (aK E (bG jy)) F v [u]).P H):aO P n ⟨d,.convert S D x,T,ps,af,none⟩ f H (sv [u]):=by
 have ho:aK E (bG jy) F H v [u]:=hp
 rcases ho with⟨-,h,-⟩|⟨k,m,b,G,rfl,hm,h3,h4,h5,h6,h7,rfl,h9⟩
 · simp at h
 intro ρ w a hr hf
 obtain⟨L,p,cap,hl,hbr,hc,hcap,-,-,hp2⟩:=(hx.use hf).slice_inv hr h3
 have qI:=hp2 (by simp)
 rw[Nat.zero_mul,Nat.add_zero]at qI
 have hcz:P.cellsOf b.ty=1:=by rw[h6]; exact hs.cells
 obtain⟨e,F1,Fj,F2,g1,-,g3,-⟩:=h9.at (j:=0) rfl
 have g4:e= .int .u8 (u.toNat:Int):=g3.2
 subst g4
 have qJ:L.sz=1:=by rw[←hbr.sz,hcz]
 obtain⟨cs,ct,fr,uq,hel,-⟩:=hbr.cells
 have:=(hel 0 _ g1).2
 rw[Nat.zero_mul,Nat.add_zero,qJ]at this
 obtain⟨c0,q1,q2⟩:=this.get 0 _ rfl
 have q3:=q2.int_inv
 subst q3
 rw[List.getElem?_take_of_lt (by omega),List.getElem?_drop,Nat.add_zero,Array.getElem?_toList]at q1
 obtain⟨hlt,hv⟩:=Array.getElem?_eq_some_iff.1 q1
 have hrun:=run_loadCells P uq 1 (o:=L.off) (Nat.succ_le_of_lt hlt)
 have hd:(cs.toList.drop L.off).take 1=[Value.int .u8 (u.toNat:Int)]:=by
   rw[List.drop_eq_getElem_cons (by simpa using hlt)]
   simp[hv]
 rw[hd]at hrun
 have hu:P.underlying S=some (.slice E):=hS
 have hue:P.underlying E=some (.int .u8):=hE
 have hcv:(Conv.bytesToString (.slice (some p) 1 cap)).run P w= .ok (sv [u]) w:=by
   subst qI
   simp[Conv.bytesToString,hrun,sv]
   rfl
 refine⟨sv [u],?_,.string _⟩
 have hc1:a.eval x= .slice (some p) 1 cap:=hc
 simp[execOp,hc1,Go.convert,underlying,hu,hD,hue,hcv]
end
end Go.Fw
namespace Go.Fw
open Go
section
variable{P:Program} [ay P]{n:Nat}{f:Fr}{H:aa}{d:Option Tmp}{x:Operand}{T T':TypeId}{ps:String}{af:Array Edge}
theorem yu{k:IntKind}{i:Int}(hx:EV n f x (.int k i)):aO P n ⟨d,.unOp .neg T x,T',ps,af,none⟩ f H (.int k (k.wrap (-i))):=
 fun ρ _ a _ hf=>⟨_,by simp[execOp,(hx.use hf).int_inv,Op.unary,Op.intArith],.int _ _⟩
end
end Go.Fw
/-
 Library functions that cut and read texts: what the shelf's contracts say, at the abstract heap.
-/
set_option linter.unusedVariables false
namespace Go.Fw
open Go Go.RowKit
def gU(T:TypeId)(k:Nat)(ok:Bool):Value:=bif ok then .nilIface else .iface T (.pointer (some ⟨k,0,none⟩))
section
variable{P:Program} [ay P]{n:Nat}{f:Fr}{H:aa}{d:Option Tmp}{x:Operand}{T T' T'' E:TypeId}{ps:String}{af:Array Edge}
theorem BU{ρ:aB}{k:Nat}{b:Bool}{c:Value}(h:az ρ (gU E k b) c):(b=true/\c= .nilIface)\/(b=false/\ ∃v,c= .iface E v):=by
 cases b
 · have h':az ρ (.iface E (.pointer (some ⟨k,0,none⟩))) c:=h
   cases h' with
   |iface _ _ v' _=>exact .inr ⟨rfl,v',rfl⟩
 · have h':az ρ .nilIface c:=h
   cases h'
   exact .inl ⟨rfl,rfl⟩
theorem CE{k:Nat}{b:Bool}(hT:P.underlying T=some (.interface (P.methodsAt T)))(hx:EV n f x (gU E k b)):aO P n ⟨d,.binOp .neq T x (.const .nilIface) T',T'',ps,af,none⟩ f H (.bool (!b)):=by
 intro ρ w a _ hf
 have he:a.eval (.const .nilIface)= .nilIface:=rfl
 rcases BU (hx.use hf)with⟨rfl,hc⟩|⟨rfl,v,hc⟩
 · exact⟨.bool false,by simp[execOp,hc,he,eqGuard,run_neq_nil_nil w T hT],.bool _⟩
 · exact⟨.bool true,by simp[execOp,hc,he,eqGuard,run_neq_held_nil w T E v hT],.bool _⟩
end
section
variable{P:Program} [ay P]
theorem dR.varE{ρ:aB}{w:World}{name:String}(hV:∀w0,ay.V P w0-> ∃tp p,w0.var? P name=some #[.iface tp p])(h:dR P ρ w):∃tp p,w.var? P name=some #[.iface tp p]:=by
 obtain⟨w0,h1,h2,h3,-⟩:=h
 obtain⟨tp,p,this⟩:=hV w0 h1
 refine⟨tp,p,?_⟩
 unfold World.var? at this ⊢
 cases hg:P.globalNamed name with
 |none=>rw[hg]at this; simp at this
 |some g=>
   rw[hg,Option.bind_some]at this
   rw[Option.bind_some]
   have hlt:g<w0.heap.size:=by
     rcases Nat.lt_or_ge g w0.heap.size with h|h
     · exact h
     · rw[Array.getElem?_eq_none h]at this; simp at this
   rw[h3 g hlt]
   exact this
theorem Bb{g:FuncId}{vs:List Value}{r:Value}(hi:∀ρ c,aj ρ vs c->c=vs)(hrel:∀ρ,az ρ r r)(h:∀w,Calls P g vs.toArray w fun e w'=>e= .returned r/\Below w.heap.size w w'):
   Fw.Spec P g vs [] (fun _:Unit=>r) (fun _=>[]):=by
 intro H F0 bB ρ w bT hr hargs
 obtain⟨l⟩:=bT
 obtain rfl:=hi ρ l hargs
 refine (h w).mono ?_
 rintro e w' ⟨rfl,hb⟩
 exact⟨_,_,ρ,H,rfl,hrel ρ,hr.ofBelow hb,Step.ofBelow hb,(),rfl,bB⟩
theorem xO{s:List UInt8}(ρ:aB)(c:List Value)(h:aj ρ [sv s] c):c=[sv s]:=by
 cases h with
 |cons _ c _ _ hc t=>cases t; rw[hc.sv_inv]
theorem Dq{s t:List UInt8}(ρ:aB)(c:List Value)(h:aj ρ [sv s,sv t] c):c=[sv s,sv t]:=by
 cases h with
 |cons _ c _ _ hc h=>rw[hc.sv_inv,xO ρ _ h]
theorem Bc{g:FuncId}{E:TypeId}{vs:List Value}{ys:List (List UInt8)}(hi:∀ρ c,aj ρ vs c->c=vs)(hs:SZ P E 1)(hl:ys.length<4294967296)
   (h:∀w,Calls P g vs.toArray w fun e w'=>e= .returned (.slice (some ⟨w.heap.size,0,none⟩) ys.length ys.length)/\w'=w.alloc (.cells (ys.map sv).toArray E)):
   Fw.Spec P g vs [] (fun p:Sv=>p.v) (fun p=>[bV (bD E rdStr) p.v ys]):=by
 intro H F0 bB ρ w bT hr hargs
 obtain⟨l⟩:=bT
 obtain rfl:=hi ρ l hargs
 refine (h w).mono ?_
 rintro e w' ⟨rfl,rfl⟩
 have hcell:∀(i:Nat) e,(ys.map sv)[i]?=some e->e.cells.size=1/\aj ρ e.cells.toList ((((ys.map sv).toArray).toList.drop (i*1)).take 1):=fun i e he=>by
   rw[List.getElem?_map]at he
   obtain⟨y,hy,rfl⟩:=Option.map_eq_some_iff.1 he
   refine⟨rfl,?_⟩
   have hlt:=(List.getElem?_eq_some_iff.1 hy).1
   have e1:((ys.map sv).toArray.toList.drop (i*1)).take 1=[sv y]:=by
     rw[Nat.mul_one,List.drop_eq_getElem_cons (by simpa using hlt)]
     have:=(List.getElem?_eq_some_iff.1 hy).2
     simp[this]
   rw[e1]
   exact .cons _ _ _ _ (.string _) .nil
 have h1:=aC.push (w':=w.alloc (.cells (ys.map sv).toArray E)) (g:=false) (cap:=ys.length) (es:=ys.map sv) hr rfl hs.cells hcell (by simp) (by simp)
 have h2:Step ρ H w _ (H++[some ⟨ys.map sv,E,true,false⟩]) (w.alloc (.cells (ys.map sv).toArray E)):=Step.push (sz:=1) (cap:=ys.length) hr rfl rfl rfl rfl
 have hi2:a_ H (H++[some ⟨ys.map sv,E,true,false⟩]):=fun k x hx _=>by
   rw[List.getElem?_append_left (ed hx)]; exact hx
 refine⟨_,.slice (some ⟨H.length,0,none⟩) ys.length 0,_,_,rfl,?_,h1,h2,⟨(some ⟨H.length,0,none⟩),ys.length,0⟩,rfl,?_⟩
 · refine .slice H.length 0 ys.length 0 ⟨w.heap.size,0,1,ys.length,true⟩ _ ys.length (aT _ _ _) (Nat.le_refl _) (by simp) (by simp) fun _=>⟨by simp,by simp⟩
 · have:=bB.step (pre:=[]) (rest:=[]) (post:=[bV (bD E rdStr) (.slice (some ⟨H.length,0,none⟩) ys.length 0) ys]) (H':=H++[some ⟨ys.map sv,E,true,false⟩]) (by simp) hi2 (fun k hk _=>List.getElem?_append_left hk) (fun c hc=>?_) (by simp[foot,bV]) (fun k hk=>by simp[foot,bV]at hk)
   · exact this
   · rw[List.mem_singleton]at hc
     subst hc
     refine .inr (.inl ⟨H.length,0,0,⟨ys.map sv,E,true,false⟩,rfl,by simp,rfl,rfl,by simp,by omega,fun j a hj=>⟨sv a,?_,rfl⟩⟩)
     rw[Nat.zero_add,List.getElem?_map,hj]; rfl
theorem Bt{g:FuncId}{T:TypeId}{s:List UInt8}{r:Int×Bool}
   (h:∀w,(∃ρ,dR P ρ w)->Calls P g #[sv s] w fun e w'=>Below w.heap.size w w'/\((r.2=true/\e= .returned (.tuple #[.int .i64 r.1,.nilIface]))\/(r.2=false/\ ∃N,e= .returned (.tuple #[.int .i64 r.1,.iface T (.pointer (some ⟨N,0,none⟩))])))):
   Fw.Spec P g [sv s] [] (fun k:Nat=>.tuple [.int .i64 r.1,gU T k r.2].toArray) (fun _=>[]):=by
 intro H F0 bB ρ w bT hr hargs
 obtain⟨l⟩:=bT
 obtain rfl:=xO ρ l hargs
 refine (h w ⟨ρ,hr.vok⟩).mono ?_
 rintro e w' ⟨hb,⟨h1,rfl⟩|⟨h1,N,rfl⟩⟩
 · exact⟨_,.tuple [.int .i64 r.1,.nilIface].toArray,ρ,H,rfl,.tuple _ [.int .i64 r.1,.nilIface] (.cons _ _ _ _ (.int _ _) (.cons _ _ _ _ .nilIface .nil)),hr.ofBelow hb,Step.ofBelow hb,0,by rw[h1]; rfl,bB⟩
 · have g1:=(hr.ofBelow hb).dead
   have hi2:a_ H (H++[none]):=fun k x hx _=>by
     rw[List.getElem?_append_left (ed hx)]; exact hx
   refine⟨_,.tuple [.int .i64 r.1,.iface T (.pointer (some ⟨H.length,0,none⟩))].toArray,_,_,rfl,
     .tuple _ [.int .i64 r.1,.iface T (.pointer (some ⟨N,0,none⟩))] (.cons _ _ _ _ (.int _ _) (.cons _ _ _ _ (.iface _ _ _ (.ptrDead _ _ _ _ (aT _ _ _))) .nil)),g1,?_,H.length,by rw[h1]; rfl,?_⟩
   · exact {
       up:=nk hr none
       os:=hb.os
       output:=hb.output
       tape:=hb.tape
       size:=hb.size
       frame:=fun b hb' _=>hb.block b hb'
       fresh:=fun k L hk=>by
         by_cases e:k=H.length
         · subst e; rw[aT]at hk; simp at hk
         · rw[aF _ _ e]at hk; exact .inl hk
       len:=by simp
       hold:=fun k hk hn=>⟨by rw[aF _ _ (by omega)]; exact hn,by rw[List.getElem?_append_left hk]⟩}
   · exact bB.step (pre:=[]) (rest:=[]) (post:=[]) (by simp) hi2 (fun k hk _=>List.getElem?_append_left hk) (fun c hc=>by simp at hc) (by simp[foot]) (fun k hk=>by simp[foot]at hk)
end
end Go.Fw
/-
 strings.Split and stringslite.Index at a separator of one byte, over any program and any numbering.
-/
set_option linter.unusedVariables false
namespace Go.Fw
open Go Go.RowKit Go.Shelf Go.Proofs
section
variable{P:Program}{ρ:Ren}
theorem xB(s:List UInt8):(⟨s.toArray⟩:ByteArray).data.toList=s:=by simp
theorem p9(s:List UInt8):(⟨s.toArray⟩:ByteArray).size=s.length:=by simp[ByteArray.size]
theorem vY(c:UInt8):∀l:List UInt8,Lib.index l [c]=Lib.indexByte l c
 |[]=>rfl
 |b::l=>by
   rw[Lib.index,Lib.indexByte,vY c l]
   have:[c].isPrefixOf (b::l)=(b==c):=by
     by_cases h:b=c
     · subst h; simp[List.isPrefixOf]
     · have h':c≠b:=fun e=>h e.symm
       simp[List.isPrefixOf,beq_eq_false_iff_ne.2 h,beq_eq_false_iff_ne.2 h']
   rw[this]
theorem AL(L:Lays.n219 P ρ)(s:List UInt8)(c:UInt8)(w:World):Calls P (ρ.f 219) #[sv s,sv [c]] w fun e w'=>e= .returned (.int .i64 (Lib.indexByte s c))/\Below w.heap.size w w':=by
 refine (Go.Proofs.Any.stringslite_Index_one L ⟨s.toArray⟩ c w).mono ?_
 rintro e w' ⟨rfl,rfl⟩
 exact⟨by rw[xB],Below.refl _ _⟩
theorem AO(L:Lays.n221 P ρ)(hi9:(P.info? (ρ.t 9)).map (fun i=>(i.zero,i.size,i.bytes))=some (some (.string ByteArray.empty),1,16))(s:List UInt8)(c:UInt8)(hs:s.length<4294967281)(w:World):
   Calls P (ρ.f 221) #[sv s,sv [c],.int .i64 0,.int .i64 (-1)] w fun e w'=>e= .returned (.slice (some ⟨w.heap.size,0,none⟩) (Lib.split s [c]).length (Lib.split s [c]).length)/\w'=w.alloc (.cells ((Lib.split s [c]).map sv).toArray (ρ.t 9)):=by
 have h1:1<=(⟨#[c]⟩:ByteArray).size:=Nat.le_refl _
 have hle:=Lib.countB_le ⟨#[c]⟩ h1 _ ⟨s.toArray⟩ (Nat.le_refl _)
 have hlen:=Lib.splitB_all ⟨#[c]⟩ h1 0 _ ⟨s.toArray⟩ rfl
 have hI:∀(x:ByteArray)(d:Array Value),x.size<=(⟨s.toArray⟩:ByteArray).size->Calls P (ρ.f 143) #[.string x,.string ⟨#[c]⟩] (w.alloc (.cells d (ρ.t 9))) fun e w'=>e= .returned (.int .i64 (Lib.indexB x ⟨#[c]⟩))/\w'=w.alloc (.cells d (ρ.t 9)):=fun x d hx=>by
   refine (Go.Proofs.Any.strings_Index_one {L with} x c _).mono ?_
   rintro e w' ⟨rfl,rfl⟩
   exact⟨by rw[←vY],rfl⟩
 have hC:Calls P (ρ.f 138) #[.string ⟨s.toArray⟩,.string ⟨#[c]⟩] w fun e w'=>e= .returned (.int .i64 (Lib.countB ⟨s.toArray⟩ ⟨#[c]⟩))/\w'=w:=by
   refine (Go.Proofs.Any.strings_Count_one {L with} ⟨s.toArray⟩ c w).mono ?_
   rintro e w' ⟨he,rfl⟩
   exact⟨by rw[he]; show _=Ending.returned (Value.int .i64 ((Lib.count (⟨s.toArray⟩:ByteArray).data.toList [c]:Nat):Int)); rw[Lib.count_one]; rfl,rfl⟩
 have:=Go.Proofs.Any.strings_genSplit_core L hi9 ⟨s.toArray⟩ ⟨#[c]⟩ 0 (-1) (Lib.countB ⟨s.toArray⟩ ⟨#[c]⟩+1) w (by rw[p9]; exact hs) h1 (by omega) hI hC (by decide) (by decide) (by rw[if_pos (by decide)]; omega)
 rw[Nat.add_sub_cancel,hlen]at this
 have e2:Lib.cellsOf (Lib.splitB ⟨#[c]⟩ 0 (Lib.countB ⟨s.toArray⟩ ⟨#[c]⟩) ⟨s.toArray⟩) (Lib.countB ⟨s.toArray⟩ ⟨#[c]⟩+1)=((Lib.split s [c]).map sv).toArray:=by
   rw[←hlen,Lib.cellsOf_full]
   have e3:=Lib.splitB_data ⟨#[c]⟩ 0 (Lib.countB ⟨s.toArray⟩ ⟨#[c]⟩) ⟨s.toArray⟩
   have e4:Lib.split s [c]=(Lib.splitB ⟨#[c]⟩ 0 (Lib.countB ⟨s.toArray⟩ ⟨#[c]⟩) ⟨s.toArray⟩).map (·.data.toList):=by rw[e3]; rfl
   rw[e4,List.map_map]
   congr 1
 have e5:(Lib.split s [c]).length=Lib.countB ⟨s.toArray⟩ ⟨#[c]⟩+1:=by
   have e3:=Lib.splitB_data ⟨#[c]⟩ 0 (Lib.countB ⟨s.toArray⟩ ⟨#[c]⟩) ⟨s.toArray⟩
   have e4:Lib.split s [c]=(Lib.splitB ⟨#[c]⟩ 0 (Lib.countB ⟨s.toArray⟩ ⟨#[c]⟩) ⟨s.toArray⟩).map (·.data.toList):=by rw[e3]; rfl
   rw[e4,List.length_map,hlen]
 rw[e2,←e5]at this
 exact this
end
end Go.Fw
namespace Go.Fw
open Go
theorem Dr{s t:List UInt8}{i j:Int}(ρ:aB)(c:List Value)(h:aj ρ [sv s,sv t,.int .i64 i,.int .i64 j] c):c=[sv s,sv t,.int .i64 i,.int .i64 j]:=by
 cases h with
 |cons _ c _ _ hc h=>
   cases h with
   |cons _ c2 _ _ hc2 h=>
     cases h with
     |cons _ c3 _ _ hc3 h=>
       cases h with
       |cons _ c4 _ _ hc4 h=>
         cases h
         rw[hc.sv_inv,hc2.sv_inv,hc3.int_inv,hc4.int_inv]
end Go.Fw
/-
 strconv.Atoi, over any program and any numbering.
-/
set_option linter.unusedVariables false
namespace Go.Fw
open Go Go.RowKit Go.Shelf Go.Proofs
def iJ(s:List UInt8):Int×Bool:=
 match Lib.atoiAll s with
 | .ok v=>(v,true)
 | .range=>(Lib.atoiSat s,false)
 |_=>(0,false)
section
variable{P:Program}{ρ:Ren}
theorem Bd(L:LaysC.n172 P ρ)(s:List UInt8)(hs:s.length<=281474976710656)(w:World)(h1:∃tp p,w.var? P "strconv.ErrSyntax" =some #[.iface tp p])(h2:∃tp p,w.var? P "strconv.ErrRange" =some #[.iface tp p]):
   Calls P (ρ.f 172) #[sv s] w fun e w'=>Below w.heap.size w w'/\(((iJ s).2=true/\e= .returned (.tuple #[.int .i64 (iJ s).1,.nilIface]))\/((iJ s).2=false/\ ∃N,e= .returned (.tuple #[.int .i64 (iJ s).1,.iface (ρ.t 168) (.pointer (some ⟨N,0,none⟩))]))):=by
 have hl:=xB s
 unfold iJ
 cases h:Lib.atoiAll s with
 |ok v=>
   refine (Go.Proofs.Any.strconv_Atoi_ok L ⟨s.toArray⟩ (by rw[p9]; omega) v (by rw[hl]; exact h) w).mono ?_
   rintro e w' ⟨rfl,hw⟩
   refine⟨?_,.inl ⟨rfl,rfl⟩⟩
   rcases hw with rfl|⟨t,rfl⟩
   · exact Below.refl _ _
   · exact Lib.bytesWorld_below _ _ _
 |range=>
   obtain⟨tp,p,hv⟩:=h2
   refine (Go.Proofs.Any.strconv_Atoi_range_var L ⟨s.toArray⟩ (by rw[p9]; exact hs) (by rw[hl]; exact h) tp p w hv).mono ?_
   rintro e w' ⟨N,rfl,-,-,hb⟩
   exact⟨hb,.inr ⟨rfl,N,by rw[hl]⟩⟩
 |_=>
   obtain⟨tp,p,hv⟩:=h1
   refine (Go.Proofs.Any.strconv_Atoi_syntax_var L ⟨s.toArray⟩ (by rw[p9]; exact hs) (by rw[hl]; exact h) tp p w hv).mono ?_
   rintro e w' ⟨N,rfl,-,-,hb⟩
   exact⟨hb,.inr ⟨rfl,N,rfl⟩⟩
end
end Go.Fw
/-
 Rules that look up by themselves what they need: names of temporaries, facts of the context, facts of the program's tables. No conditions.
-/
set_option linter.unusedVariables false
namespace Go.Fw
open Go
class qK(P:Program) [ay P](t i:Nat)(off:outParam Nat):Prop where h:FD P t i off
class dY(P:Program) [ay P](t:Nat)(b:outParam Bool):Prop where h:AG P t b
class dZ(P:Program) [ay P](t:Nat)(s b:outParam Nat)(z:outParam Value):Prop where h:TY P t s b z
class iY(P:Program) [ay P](t:Nat)(e:outParam Nat):Prop where h:SL P t e
class aQ(P:Program) [ay P](g:Nat):Prop where h:CF P g
section
variable{P:Program} [ay P]{n:Nat}{f:Fr}{H0:aa}{F0:List Nat}{cs pre rest:List ag}{c c':ag}{x y z:Operand}{v:Value}
theorem df(h:Mem c cs:=by
   first
   |((repeat (first|with_reducible exact Mem.h|with_reducible apply Mem.t)); done)
   |((repeat (first|exact Mem.h|apply Mem.t)); done)):Mem c cs:=h
theorem yw{r:List ag}(h:Sel cs c r:=by
   first
   |((repeat (first|with_reducible exact Sel.h|with_reducible apply Sel.t)); done)
   |((repeat (first|exact Sel.h|apply Sel.t)); done)):Sel cs c r:=h
theorem Ei{α:Type}{R:aa->Value->α->Prop}{_:aR R}{a:α}(h:Mem (bV R v a) cs)(t:bF cs pre rest):bF cs (bV R v a::pre) rest:=.rd h rfl t
theorem Ej{k:Nat}{b:aS}(h:Mem (fC k b) cs)(t:bF cs pre rest):bF cs (fC k b::pre) rest:=.rd h rfl t
theorem iN(h:bF cs pre rest:=by
   first
   |exact bF.nil
   |((with_reducible refine' Ei ?hm ?ht); (case hm=>exact df); (case ht=>exact iN))
   |((with_reducible refine' Ej ?hm ?ht); (case hm=>exact df); (case ht=>exact iN))
   |exact bF.cons yw iN
   |exact bF.rd df rfl iN):bF cs pre rest:=h
theorem aH(h:EV n f x v:=by
   first|exact EV.tmp rfl rfl|exact EV.int _ _|exact EV.bool _|exact EV.str _|exact EV.nilSlice|exact EV.nilPtr|exact EV.nilFunc|exact EV.nilIface|exact EV.fn _):EV n f x v:=h
theorem eO(h:EV n f x v:=by
   first
   |exact EV.tmp (v:=.int _ _) rfl rfl|exact EV.tmp (v:=.bool _) rfl rfl|exact EV.tmp (v:=Sv.v _) rfl rfl|exact EV.tmp (v:=.slice _ _ _) rfl rfl
   |exact EV.tmp (v:=.pointer _) rfl rfl|exact EV.tmp (v:=.agg _) rfl rfl|exact EV.tmp (v:=sv _) rfl rfl|exact EV.tmp (v:=.string _) rfl rfl
   |exact EV.tmp (v:=.func _ _ _) rfl rfl|exact EV.tmp (v:=.tuple _) rfl rfl|exact EV.tmp (v:=undef) rfl rfl
   |exact EV.int _ _|exact EV.bool _|exact EV.str _|exact EV.nilSlice|exact EV.nilPtr|exact EV.nilFunc|exact EV.nilIface|exact EV.fn _):EV n f x v:=h
theorem ut{o:Option Value}(h:o=some v:=by
   first
   |exact (rfl:_=some (Value.int _ _))|exact (rfl:_=some (Sv.v _))|exact (rfl:_=some (Value.bool _))|exact (rfl:_=some (Value.slice _ _ _))
   |exact (rfl:_=some (sv _))|exact (rfl:_=some (Value.string _))|exact (rfl:_=some (Value.pointer _))|exact (rfl:_=some (Value.func _ _ _))):o=some v:=h
theorem dh{xs:List Operand}{vs:List Value}(h:cB n f xs vs:=by first|exact cB.nil|exact cB.cons aH dh):cB n f xs vs:=h
theorem aN{l:List (Nat×Value)}(h:dU f l:=by
   repeat (first|exact dU.nil|refine' dU.cons rfl ?_)):f=aU f l:=h.eq
variable{A:Array Oper}{r:List Oper}{K:Fr->List ag->Prop}{d:Option Tmp}{op:Op}{T T' T'' E:TypeId}{ps:String}{af:Array Edge}
theorem FO(hx:EV n f x v)(h:ai P n H0 F0 A r (put f d v) cs K):ai P n H0 F0 A (⟨d,.move x,T,ps,af,none⟩::r) f cs K:=ax (rZ hx) h
theorem FP(hx:EV n f x v)(h:ai P n H0 F0 A r (put f d v) cs K):ai P n H0 F0 A (⟨d,.assign x,T,ps,af,none⟩::r) f cs K:=ax (jl hx) h
theorem xC{H:aa}{u:Value}(hc:EV n f x (.bool true))(hy:EV n f y u):aO P n ⟨d,.pick x y z,T,ps,af,none⟩ f H u:=
 fun ρ _ a _ hf=>⟨a.eval y,by simp[execOp,(hc.use hf).bool_inv,asBool],hy.use hf⟩
theorem xD{H:aa}{u:Value}(hc:EV n f x (.bool false))(hy:EV n f z u):aO P n ⟨d,.pick x y z,T,ps,af,none⟩ f H u:=
 fun ρ _ a _ hf=>⟨a.eval z,by simp[execOp,(hc.use hf).bool_inv,asBool],hy.use hf⟩
theorem El(hc:EV n f x (.bool true))(hy:EV n f y v)(h:ai P n H0 F0 A r (put f d v) cs K):ai P n H0 F0 A (⟨d,.pick x y z,T,ps,af,none⟩::r) f cs K:=ax (xC hc hy) h
theorem Em(hc:EV n f x (.bool false))(hy:EV n f z v)(h:ai P n H0 F0 A r (put f d v) cs K):ai P n H0 F0 A (⟨d,.pick x y z,T,ps,af,none⟩::r) f cs K:=ax (xD hc hy) h
theorem FQ{k i j fi off:Nat} [hF:qK P T fi off](hx:EV n f x (.pointer (some ⟨k,i,some j⟩)))(h:ai P n H0 F0 A r (put f d (.pointer (some ⟨k,i,some (j+off)⟩))) cs K):
   ai P n H0 F0 A (⟨d,.fieldAddr T x fi,T',ps,af,none⟩::r) f cs K:=ax (vM hF.h hx) h
theorem En{k j:Nat}{TB:TypeId}{e:Value} [hA:dY P T false](hx:EV n f x (.pointer (some ⟨k,0,some j⟩)))(hm:Mem (fC k ⟨[e],TB,true,false⟩) cs)(hv:e.cells.toList[j]?=some v)
   (h:ai P n H0 F0 A r (put f d v) cs K):ai P n H0 F0 A (⟨d,.load T x,T',ps,af,none⟩::r) f cs K:=gQ hm (fun hp=>iq hA.h hx hp.2 rfl hv) h
theorem Eo{k j:Nat}{TB:TypeId}{e:Value} [hA:dY P T false](hx:EV n f x (.pointer (some ⟨k,0,some j⟩)))(hm:Mem (cz k ⟨[e],TB,true,true⟩) cs)(hv:e.cells.toList[j]?=some v)
   (h:ai P n H0 F0 A r (put f d v) cs K):ai P n H0 F0 A (⟨d,.load T x,T',ps,af,none⟩::r) f cs K:=gQ hm (fun hp=>iq hA.h hx hp.2 rfl hv) h
theorem Ep{k s b:Nat}{zv:Value}{TB:TypeId}{l:List Value} [hA:dY P T true] [ht:dZ P T s b zv](hx:EV n f x (.pointer (some ⟨k,0,some 0⟩)))(hm:Mem (fC k ⟨[.agg l.toArray],TB,true,false⟩) cs)(h0:Nat.blt 0 s=true)(hl:l.length=s)
   (h:ai P n H0 F0 A r (put f d (.agg l.toArray)) cs K):ai P n H0 F0 A (⟨d,.load T x,T',ps,af,none⟩::r) f cs K:=gQ hm (fun hp=>mR hA.h ht.h.sz h0 hx hp.2 hl) h
theorem Es{k s b:Nat}{zv:Value}{TB:TypeId}{l:List Value} [hA:dY P T true] [ht:dZ P T s b zv](hx:EV n f x (.pointer (some ⟨k,0,some 0⟩)))(hm:Mem (cz k ⟨[.agg l.toArray],TB,true,true⟩) cs)(h0:Nat.blt 0 s=true)(hl:l.length=s)
   (h:ai P n H0 F0 A r (put f d (.agg l.toArray)) cs K):ai P n H0 F0 A (⟨d,.load T x,T',ps,af,none⟩::r) f cs K:=gQ hm (fun hp=>mR hA.h ht.h.sz h0 hx hp.2 hl) h
theorem Et{α:Type}{R:aa->Value->α->Prop}{_:aR R}{xs:List α}{ts:List TypeId} [hT:iY P T E](hx:EV n f x v)(hm:Mem (bV (bD E R) v xs) cs)
   (h:ai P n H0 F0 A r (put f d (.int .i64 xs.length)) cs K):ai P n H0 F0 A (⟨d,.call ⟨.builtin .len,[x].toArray,(T::ts).toArray⟩,T',ps,af,none⟩::r) f cs K:=gQ hm (fun hp=>su hT.h hx (xq hp)) h
theorem Dt{α:Type}{Ro:bJ α}{_:bM Ro}{F:List Nat}{xs:List α}{ts:List TypeId} [hT:iY P T E](hx:EV n f x v)(hm:Mem (aG (aK E Ro) F v xs) cs)
   (h:ai P n H0 F0 A r (put f d (.int .i64 xs.length)) cs K):ai P n H0 F0 A (⟨d,.call ⟨.builtin .len,[x].toArray,(T::ts).toArray⟩,T',ps,af,none⟩::r) f cs K:=gQ hm (fun hp=>su hT.h hx (BM hp)) h
theorem FR{j:Nat}{t:Tmp}{b:Bool}(hd:(A[j]?).bind (·.dst)=some t)(hv:f t= .bool b)(ht:Nat.blt t n=true)(h:ai P n H0 F0 A (⟨d,op,T,ps,af,none⟩::r) f cs K):
   ai P n H0 F0 A (⟨d,op,T,ps,af,some (j,b)⟩::r) f cs K:=jA hd hv ht h
theorem FT{j:Nat}{t:Tmp}{b:Bool}(hd:(A[j]?).bind (·.dst)=some t)(hv:f t= .bool (!b))(ht:Nat.blt t n=true)(h:ai P n H0 F0 A r (put f d undef) cs K):
   ai P n H0 F0 A (⟨d,op,T,ps,af,some (j,b)⟩::r) f cs K:=qd hd hv ht h
theorem FU{j:Nat}{t:Tmp}{b:Bool}(hd:(A[j]?).bind (·.dst)=some t)(hv:f t=undef)(ht:Nat.blt t n=true)(h:ai P n H0 F0 A r (put f d undef) cs K):
   ai P n H0 F0 A (⟨d,op,T,ps,af,some (j,b)⟩::r) f cs K:=Dj hd hv ht h
theorem Eu{kk:IntKind}{q q2:Int}(hx:EV n f x (.int kk q))(hy:EV n f y (.int kk q2))(h:ai P n H0 F0 A r (put f d (.int kk (kk.wrap (q+q2)))) cs K):ai P n H0 F0 A (⟨d,.binOp .add T x y T',T'',ps,af,none⟩::r) f cs K:=ax (xU hx hy) h
theorem Ev{kk:IntKind}{q q2:Int}(hx:EV n f x (.int kk q))(hy:EV n f y (.int kk q2))(h:ai P n H0 F0 A r (put f d (.int kk (kk.wrap (q-q2)))) cs K):ai P n H0 F0 A (⟨d,.binOp .sub T x y T',T'',ps,af,none⟩::r) f cs K:=ax (xV hx hy) h
theorem Ew{kk:IntKind}{q q2:Int}(hx:EV n f x (.int kk q))(hy:EV n f y (.int kk q2))(h:ai P n H0 F0 A r (put f d (.int kk (kk.wrap (q*q2)))) cs K):ai P n H0 F0 A (⟨d,.binOp .mul T x y T',T'',ps,af,none⟩::r) f cs K:=ax (xW hx hy) h
theorem Ex{kk:IntKind}{q q2:Int}(hx:EV n f x (.int kk q))(hy:EV n f y (.int kk q2))(h:ai P n H0 F0 A r (put f d (.bool (decide (q<q2)))) cs K):ai P n H0 F0 A (⟨d,.binOp .lss T x y T',T'',ps,af,none⟩::r) f cs K:=ax (xX hx hy) h
theorem Ey{kk:IntKind}{q q2:Int}(hx:EV n f x (.int kk q))(hy:EV n f y (.int kk q2))(h:ai P n H0 F0 A r (put f d (.bool (decide (q<=q2)))) cs K):ai P n H0 F0 A (⟨d,.binOp .leq T x y T',T'',ps,af,none⟩::r) f cs K:=ax (xY hx hy) h
theorem Ez{kk:IntKind}{q q2:Int}(hx:EV n f x (.int kk q))(hy:EV n f y (.int kk q2))(h:ai P n H0 F0 A r (put f d (.bool (decide (q2<q)))) cs K):ai P n H0 F0 A (⟨d,.binOp .gtr T x y T',T'',ps,af,none⟩::r) f cs K:=ax (xZ hx hy) h
theorem EA{kk:IntKind}{q q2:Int}(hx:EV n f x (.int kk q))(hy:EV n f y (.int kk q2))(h:ai P n H0 F0 A r (put f d (.bool (decide (q2<=q)))) cs K):ai P n H0 F0 A (⟨d,.binOp .geq T x y T',T'',ps,af,none⟩::r) f cs K:=ax (x8 hx hy) h
theorem EB{kk:IntKind}{q q2:Int}(hx:EV n f x (.int kk q))(hy:EV n f y (.int kk q2))(h:ai P n H0 F0 A r (put f d (.bool (q==q2))) cs K):ai P n H0 F0 A (⟨d,.binOp .eql T x y T',T'',ps,af,none⟩::r) f cs K:=ax (x9 hx hy) h
theorem EC{kk:IntKind}{q q2:Int}(hx:EV n f x (.int kk q))(hy:EV n f y (.int kk q2))(h:ai P n H0 F0 A r (put f d (.bool (q !=q2))) cs K):ai P n H0 F0 A (⟨d,.binOp .neq T x y T',T'',ps,af,none⟩::r) f cs K:=ax (x_ hx hy) h
theorem ED{b:Bool}(hx:EV n f x (.bool b))(h:ai P n H0 F0 A r (put f d (.bool (!b))) cs K):ai P n H0 F0 A (⟨d,.unOp .not T x,T',ps,af,none⟩::r) f cs K:=ax (sH hx) h
variable{l:List Oper}{tb ah todo:List Nat}{fl:List (Nat×List Nat)}{i:Nat}{gd:Option (Nat×Bool)}
theorem dm(h:Wt n l f gd:=by first|exact Wt.no|exact Wt.on _ rfl rfl rfl):Wt n l f gd:=h
theorem EE{kk:IntKind}{q q2:Int}(ho:l[i]?=some ⟨d,.binOp .add T x y T',T'',ps,af,gd⟩)(hw:Wt n l f gd)(hx:EV n f x (.int kk q))(hn:bi x (aP l ⟨d,.binOp .add T x y T',T'',ps,af,gd⟩)=true)(hy:EV n f y (.int kk q2))(hm:bi y (aP l ⟨d,.binOp .add T x y T',T'',ps,af,gd⟩)=true)
   (h:DC P n l tb ah H0 F0 K todo fl (put f d (.int kk (kk.wrap (q+q2)))) cs):DC P n l tb ah H0 F0 K (i::todo) fl f cs:=bU ho hw (fun ha=>xU (EN ha hx hn) (EN ha hy hm)) h
theorem EF{kk:IntKind}{q q2:Int}(ho:l[i]?=some ⟨d,.binOp .sub T x y T',T'',ps,af,gd⟩)(hw:Wt n l f gd)(hx:EV n f x (.int kk q))(hn:bi x (aP l ⟨d,.binOp .sub T x y T',T'',ps,af,gd⟩)=true)(hy:EV n f y (.int kk q2))(hm:bi y (aP l ⟨d,.binOp .sub T x y T',T'',ps,af,gd⟩)=true)
   (h:DC P n l tb ah H0 F0 K todo fl (put f d (.int kk (kk.wrap (q-q2)))) cs):DC P n l tb ah H0 F0 K (i::todo) fl f cs:=bU ho hw (fun ha=>xV (EN ha hx hn) (EN ha hy hm)) h
theorem EG{kk:IntKind}{q q2:Int}(ho:l[i]?=some ⟨d,.binOp .mul T x y T',T'',ps,af,gd⟩)(hw:Wt n l f gd)(hx:EV n f x (.int kk q))(hn:bi x (aP l ⟨d,.binOp .mul T x y T',T'',ps,af,gd⟩)=true)(hy:EV n f y (.int kk q2))(hm:bi y (aP l ⟨d,.binOp .mul T x y T',T'',ps,af,gd⟩)=true)
   (h:DC P n l tb ah H0 F0 K todo fl (put f d (.int kk (kk.wrap (q*q2)))) cs):DC P n l tb ah H0 F0 K (i::todo) fl f cs:=bU ho hw (fun ha=>xW (EN ha hx hn) (EN ha hy hm)) h
theorem EH{kk:IntKind}{q q2:Int}(ho:l[i]?=some ⟨d,.binOp .lss T x y T',T'',ps,af,gd⟩)(hw:Wt n l f gd)(hx:EV n f x (.int kk q))(hn:bi x (aP l ⟨d,.binOp .lss T x y T',T'',ps,af,gd⟩)=true)(hy:EV n f y (.int kk q2))(hm:bi y (aP l ⟨d,.binOp .lss T x y T',T'',ps,af,gd⟩)=true)
   (h:DC P n l tb ah H0 F0 K todo fl (put f d (.bool (decide (q<q2)))) cs):DC P n l tb ah H0 F0 K (i::todo) fl f cs:=bU ho hw (fun ha=>xX (EN ha hx hn) (EN ha hy hm)) h
theorem EI{kk:IntKind}{q q2:Int}(ho:l[i]?=some ⟨d,.binOp .leq T x y T',T'',ps,af,gd⟩)(hw:Wt n l f gd)(hx:EV n f x (.int kk q))(hn:bi x (aP l ⟨d,.binOp .leq T x y T',T'',ps,af,gd⟩)=true)(hy:EV n f y (.int kk q2))(hm:bi y (aP l ⟨d,.binOp .leq T x y T',T'',ps,af,gd⟩)=true)
   (h:DC P n l tb ah H0 F0 K todo fl (put f d (.bool (decide (q<=q2)))) cs):DC P n l tb ah H0 F0 K (i::todo) fl f cs:=bU ho hw (fun ha=>xY (EN ha hx hn) (EN ha hy hm)) h
theorem EJ{kk:IntKind}{q q2:Int}(ho:l[i]?=some ⟨d,.binOp .gtr T x y T',T'',ps,af,gd⟩)(hw:Wt n l f gd)(hx:EV n f x (.int kk q))(hn:bi x (aP l ⟨d,.binOp .gtr T x y T',T'',ps,af,gd⟩)=true)(hy:EV n f y (.int kk q2))(hm:bi y (aP l ⟨d,.binOp .gtr T x y T',T'',ps,af,gd⟩)=true)
   (h:DC P n l tb ah H0 F0 K todo fl (put f d (.bool (decide (q2<q)))) cs):DC P n l tb ah H0 F0 K (i::todo) fl f cs:=bU ho hw (fun ha=>xZ (EN ha hx hn) (EN ha hy hm)) h
theorem EK{kk:IntKind}{q q2:Int}(ho:l[i]?=some ⟨d,.binOp .geq T x y T',T'',ps,af,gd⟩)(hw:Wt n l f gd)(hx:EV n f x (.int kk q))(hn:bi x (aP l ⟨d,.binOp .geq T x y T',T'',ps,af,gd⟩)=true)(hy:EV n f y (.int kk q2))(hm:bi y (aP l ⟨d,.binOp .geq T x y T',T'',ps,af,gd⟩)=true)
   (h:DC P n l tb ah H0 F0 K todo fl (put f d (.bool (decide (q2<=q)))) cs):DC P n l tb ah H0 F0 K (i::todo) fl f cs:=bU ho hw (fun ha=>x8 (EN ha hx hn) (EN ha hy hm)) h
theorem EL{kk:IntKind}{q q2:Int}(ho:l[i]?=some ⟨d,.binOp .eql T x y T',T'',ps,af,gd⟩)(hw:Wt n l f gd)(hx:EV n f x (.int kk q))(hn:bi x (aP l ⟨d,.binOp .eql T x y T',T'',ps,af,gd⟩)=true)(hy:EV n f y (.int kk q2))(hm:bi y (aP l ⟨d,.binOp .eql T x y T',T'',ps,af,gd⟩)=true)
   (h:DC P n l tb ah H0 F0 K todo fl (put f d (.bool (q==q2))) cs):DC P n l tb ah H0 F0 K (i::todo) fl f cs:=bU ho hw (fun ha=>x9 (EN ha hx hn) (EN ha hy hm)) h
theorem EM{kk:IntKind}{q q2:Int}(ho:l[i]?=some ⟨d,.binOp .neq T x y T',T'',ps,af,gd⟩)(hw:Wt n l f gd)(hx:EV n f x (.int kk q))(hn:bi x (aP l ⟨d,.binOp .neq T x y T',T'',ps,af,gd⟩)=true)(hy:EV n f y (.int kk q2))(hm:bi y (aP l ⟨d,.binOp .neq T x y T',T'',ps,af,gd⟩)=true)
   (h:DC P n l tb ah H0 F0 K todo fl (put f d (.bool (q !=q2))) cs):DC P n l tb ah H0 F0 K (i::todo) fl f cs:=bU ho hw (fun ha=>x_ (EN ha hx hn) (EN ha hy hm)) h
theorem EO{b:Bool}(ho:l[i]?=some ⟨d,.unOp .not T x,T',ps,af,gd⟩)(hw:Wt n l f gd)(hx:EV n f x (.bool b))(hn:bi x (aP l ⟨d,.unOp .not T x,T',ps,af,gd⟩)=true)
   (h:DC P n l tb ah H0 F0 K todo fl (put f d (.bool (!b))) cs):DC P n l tb ah H0 F0 K (i::todo) fl f cs:=bU ho hw (fun ha=>sH (EN ha hx hn)) h
theorem FV(ho:l[i]?=some ⟨d,.move x,T,ps,af,gd⟩)(hw:Wt n l f gd)
   (hx:EV n f x v) (hn:bi x (aP l ⟨d,.move x,T,ps,af,gd⟩)=true) (h:DC P n l tb ah H0 F0 K todo fl (put f d v) cs):
   DC P n l tb ah H0 F0 K (i::todo) fl f cs:=bU ho hw (fun ha=>rZ (EN ha hx hn)) h
theorem FW(ho:l[i]?=some ⟨d,.assign x,T,ps,af,gd⟩)(hw:Wt n l f gd)
   (hx:EV n f x v) (hn:bi x (aP l ⟨d,.assign x,T,ps,af,gd⟩)=true) (h:DC P n l tb ah H0 F0 K todo fl (put f d v) cs):
   DC P n l tb ah H0 F0 K (i::todo) fl f cs:=bU ho hw (fun ha=>jl (EN ha hx hn)) h
theorem EP(ho:l[i]?=some ⟨d,.pick x y z,T,ps,af,gd⟩)(hw:Wt n l f gd)(hc:EV n f x (.bool true))(hn:bi x (aP l ⟨d,.pick x y z,T,ps,af,gd⟩)=true)
   (hy:EV n f y v) (hm:bi y (aP l ⟨d,.pick x y z,T,ps,af,gd⟩)=true) (h:DC P n l tb ah H0 F0 K todo fl (put f d v) cs):
   DC P n l tb ah H0 F0 K (i::todo) fl f cs:=bU ho hw (fun ha=>xC (EN ha hc hn) (EN ha hy hm)) h
theorem EQ(ho:l[i]?=some ⟨d,.pick x y z,T,ps,af,gd⟩)(hw:Wt n l f gd)(hc:EV n f x (.bool false))(hn:bi x (aP l ⟨d,.pick x y z,T,ps,af,gd⟩)=true)
   (hy:EV n f z v) (hm:bi z (aP l ⟨d,.pick x y z,T,ps,af,gd⟩)=true) (h:DC P n l tb ah H0 F0 K todo fl (put f d v) cs):
   DC P n l tb ah H0 F0 K (i::todo) fl f cs:=bU ho hw (fun ha=>xD (EN ha hc hn) (EN ha hy hm)) h
theorem FX{k i0 j fi off:Nat}(ho:l[i]?=some ⟨d,.fieldAddr T x fi,T',ps,af,gd⟩){hF:qK P T fi off}(hw:Wt n l f gd)
   (hx:EV n f x (.pointer (some ⟨k,i0,some j⟩))) (hn:bi x (aP l ⟨d,.fieldAddr T x fi,T',ps,af,gd⟩)=true) (h:DC P n l tb ah H0 F0 K todo fl (put f d (.pointer (some ⟨k,i0,some (j+off)⟩))) cs):
   DC P n l tb ah H0 F0 K (i::todo) fl f cs:=bU ho hw (fun ha=>vM hF.h (EN ha hx hn)) h
theorem ER{k j:Nat}{TB:TypeId}{e:Value}(ho:l[i]?=some ⟨d,.load T x,T',ps,af,gd⟩){hA:dY P T false}(hw:Wt n l f gd)
   (hx:EV n f x (.pointer (some ⟨k,0,some j⟩))) (hn:bi x (aP l ⟨d,.load T x,T',ps,af,gd⟩)=true) (hm:Mem (fC k ⟨[e],TB,true,false⟩) cs) (hv:e.cells.toList[j]?=some v)
   (h:DC P n l tb ah H0 F0 K todo fl (put f d v) cs):DC P n l tb ah H0 F0 K (i::todo) fl f cs:=nL ho hw hm rfl (fun ha hp=>iq hA.h (EN ha hx hn) hp.2 rfl hv) h
theorem ES{k s b:Nat}{zv:Value}{TB:TypeId}{e:List Value}(ho:l[i]?=some ⟨d,.load T x,T',ps,af,gd⟩){hA:dY P T true}{ht:dZ P T s b zv}(hw:Wt n l f gd)
   (hx:EV n f x (.pointer (some ⟨k,0,some 0⟩))) (hn:bi x (aP l ⟨d,.load T x,T',ps,af,gd⟩)=true) (hm:Mem (fC k ⟨[.agg e.toArray],TB,true,false⟩) cs) (h0:Nat.blt 0 s=true) (hl:e.length=s)
   (h:DC P n l tb ah H0 F0 K todo fl (put f d (.agg e.toArray)) cs):DC P n l tb ah H0 F0 K (i::todo) fl f cs:=nL ho hw hm rfl (fun ha hp=>mR hA.h ht.h.sz h0 (EN ha hx hn) hp.2 hl) h
theorem ET{α:Type}{R:aa->Value->α->Prop}{_:aR R}{xs:List α}{ts:List TypeId}(ho:l[i]?=some ⟨d,.call ⟨.builtin .len,[x].toArray,(T::ts).toArray⟩,T',ps,af,gd⟩){hT:iY P T E}(hw:Wt n l f gd)
   (hx:EV n f x v) (hn:bi x (aP l ⟨d,.call ⟨.builtin .len,[x].toArray,(T::ts).toArray⟩,T',ps,af,gd⟩)=true) (hm:Mem (bV (bD E R) v xs) cs)
   (h:DC P n l tb ah H0 F0 K todo fl (put f d (.int .i64 xs.length)) cs):DC P n l tb ah H0 F0 K (i::todo) fl f cs:=nL ho hw hm rfl (fun ha hp=>su hT.h (EN ha hx hn) (xq hp)) h
theorem FY{t:Tmp}{j:Nat}{b:Bool}(ho:l[i]?=some ⟨d,op,T,ps,af,some (j,b)⟩)(h1:(l[j]?).bind (·.dst)=some t)(h2:f t= .bool (!b))(h3:Nat.blt t n=true)(h:DC P n l tb ah H0 F0 K todo fl (put f d undef) cs):
   DC P n l tb ah H0 F0 K (i::todo) fl f cs:=D_ t ho h1 h2 h3 h
theorem FZ{t:Tmp}{j:Nat}{b:Bool}(ho:l[i]?=some ⟨d,op,T,ps,af,some (j,b)⟩)(h1:(l[j]?).bind (·.dst)=some t)(h2:f t=undef)(h3:Nat.blt t n=true)(h:DC P n l tb ah H0 F0 K todo fl (put f d undef) cs):
   DC P n l tb ah H0 F0 K (i::todo) fl f cs:=Dk t ho h1 h2 h3 h
theorem Bu{K:Fr->List ag->Prop}{Q:Exit->Fr->List ag->Prop}(h:K f cs):j4 K Q .normal f cs:=h
theorem CG{id:Nat}{Q:Exit->Fr->List ag->Prop}(h:Q .normal f cs):iX id Q .normal f cs:=h
theorem au{G N:Prop}(k:N)(h:N->G:=by
   intro k
   repeat (first|with_reducible refine Bu ?_|with_reducible refine CG ?_)
   first
   |((with_reducible refine' FO ?hx k); (case hx=>exact eO))
   |((with_reducible refine' FQ ?hx k); (case hx=>exact aH))
   |with_reducible exact jq k
   |((with_reducible refine' FR ?r1 ?r2 ?r3 k); (case r1=>exact rfl); (case r2=>exact rfl); (case r3=>exact rfl))
   |((with_reducible refine' FT ?r1 ?r2 ?r3 k); (case r1=>exact rfl); (case r2=>exact rfl); (case r3=>exact rfl))
   |((with_reducible refine' FP ?hx k); (case hx=>exact eO))
   |((with_reducible refine' En ?hx ?hm ?hv k); (case hx=>exact aH); (case hm=>exact df); (case hv=>exact ut))
   |((with_reducible refine' Eo ?hx ?hm ?hv k); (case hx=>exact aH); (case hm=>exact df); (case hv=>exact ut))
   |((with_reducible refine' Ep ?hx ?hm ?r1 ?r2 k); (case hx=>exact aH); (case hm=>exact df); (case r1=>exact rfl); (case r2=>exact rfl))
   |((with_reducible refine' Es ?hx ?hm ?r1 ?r2 k); (case hx=>exact aH); (case hm=>exact df); (case r1=>exact rfl); (case r2=>exact rfl))
   |((with_reducible refine' Et ?hx ?hm k); (case hx=>exact eO); (case hm=>exact df); all_goals infer_instance)
   |((with_reducible refine' Dt ?hx ?hm k); (case hx=>exact eO); (case hm=>exact df); all_goals infer_instance)
   |((with_reducible refine' Ex ?a ?b k); (case a=>exact aH); (case b=>exact aH))
   |((with_reducible refine' ED ?a k); (case a=>exact aH))
   |((with_reducible refine' El ?hc ?hy k); (case hc=>exact aH); (case hy=>exact eO))
   |((with_reducible refine' Em ?hc ?hy k); (case hc=>exact aH); (case hy=>exact eO))
   |((with_reducible refine' FU ?r1 ?r2 ?r3 k); (case r1=>exact rfl); (case r2=>exact rfl); (case r3=>exact rfl))
   |((with_reducible refine' Eu ?a ?b k); (case a=>exact aH); (case b=>exact aH))
   |((with_reducible refine' Ev ?a ?b k); (case a=>exact aH); (case b=>exact aH))
   |((with_reducible refine' EB ?a ?b k); (case a=>exact aH); (case b=>exact aH))
   |((with_reducible refine' EC ?a ?b k); (case a=>exact aH); (case b=>exact aH))
   |((with_reducible refine' Ey ?a ?b k); (case a=>exact aH); (case b=>exact aH))
   |((with_reducible refine' Ez ?a ?b k); (case a=>exact aH); (case b=>exact aH))
   |((with_reducible refine' EA ?a ?b k); (case a=>exact aH); (case b=>exact aH))
   |((with_reducible refine' Ew ?a ?b k); (case a=>exact aH); (case b=>exact aH))
   |with_reducible exact gI k
   |with_reducible exact wF k
   |with_reducible exact Ct k
   |with_reducible exact xn k
   |with_reducible exact lL k
   |with_reducible exact A8 k
   |with_reducible exact Bl k
   |with_reducible exact BJ k
   |((with_reducible refine' C9 ?a k); (case a=>exact rfl))
   |with_reducible exact Cu k
   |with_reducible exact Cs k
   |with_reducible exact sj k):G:=h k
theorem du{G N:Prop}(k:N)(h:N->G:=by
   intro k
   first
   |((with_reducible refine' FV ?r1 ?hw ?hx ?r2 k); (case r1=>exact rfl); (case hw=>exact dm); (case hx=>exact eO); (case r2=>exact rfl))
   |((with_reducible refine' FX ?r1 ?hw ?hx ?r2 k); (case r1=>exact rfl); (case hw=>exact dm); (case hx=>exact aH); (case r2=>exact rfl); all_goals infer_instance)
   |((with_reducible refine' ER ?r1 ?hw ?hx ?r2 ?hm ?hv k); (case r1=>exact rfl); (case hw=>exact dm); (case hx=>exact aH); (case r2=>exact rfl); (case hm=>exact df); (case hv=>exact ut); all_goals infer_instance)
   |((with_reducible refine' FY ?r1 ?r2 ?r3 ?r4 k); (case r1=>exact rfl); (case r2=>exact rfl); (case r3=>exact rfl); (case r4=>exact rfl))
   |((with_reducible refine' FZ ?r1 ?r2 ?r3 ?r4 k); (case r1=>exact rfl); (case r2=>exact rfl); (case r3=>exact rfl); (case r4=>exact rfl))
   |((with_reducible refine' ET ?r1 ?hw ?hx ?r2 ?hm k); (case r1=>exact rfl); (case hw=>exact dm); (case hx=>exact eO); (case r2=>exact rfl); (case hm=>exact df); all_goals infer_instance)
   |((with_reducible refine' EP ?r1 ?hw ?hc ?r2 ?hy ?r3 k); (case r1=>exact rfl); (case hw=>exact dm); (case hc=>exact aH); (case r2=>exact rfl); (case hy=>exact eO); (case r3=>exact rfl))
   |((with_reducible refine' EQ ?r1 ?hw ?hc ?r2 ?hy ?r3 k); (case r1=>exact rfl); (case hw=>exact dm); (case hc=>exact aH); (case r2=>exact rfl); (case hy=>exact eO); (case r3=>exact rfl))
   |((with_reducible refine' EO ?r1 ?hw ?hx ?r2 k); (case r1=>exact rfl); (case hw=>exact dm); (case hx=>exact aH); (case r2=>exact rfl))
   |((with_reducible refine' EH ?r1 ?hw ?hx ?r2 ?hy ?r3 k); (case r1=>exact rfl); (case hw=>exact dm); (case hx=>exact aH); (case r2=>exact rfl); (case hy=>exact aH); (case r3=>exact rfl))
   |((with_reducible refine' EL ?r1 ?hw ?hx ?r2 ?hy ?r3 k); (case r1=>exact rfl); (case hw=>exact dm); (case hx=>exact aH); (case r2=>exact rfl); (case hy=>exact aH); (case r3=>exact rfl))
   |((with_reducible refine' EM ?r1 ?hw ?hx ?r2 ?hy ?r3 k); (case r1=>exact rfl); (case hw=>exact dm); (case hx=>exact aH); (case r2=>exact rfl); (case hy=>exact aH); (case r3=>exact rfl))
   |((with_reducible refine' EE ?r1 ?hw ?hx ?r2 ?hy ?r3 k); (case r1=>exact rfl); (case hw=>exact dm); (case hx=>exact aH); (case r2=>exact rfl); (case hy=>exact aH); (case r3=>exact rfl))
   |((with_reducible refine' EF ?r1 ?hw ?hx ?r2 ?hy ?r3 k); (case r1=>exact rfl); (case hw=>exact dm); (case hx=>exact aH); (case r2=>exact rfl); (case hy=>exact aH); (case r3=>exact rfl))
   |((with_reducible refine' EI ?r1 ?hw ?hx ?r2 ?hy ?r3 k); (case r1=>exact rfl); (case hw=>exact dm); (case hx=>exact aH); (case r2=>exact rfl); (case hy=>exact aH); (case r3=>exact rfl))
   |((with_reducible refine' EJ ?r1 ?hw ?hx ?r2 ?hy ?r3 k); (case r1=>exact rfl); (case hw=>exact dm); (case hx=>exact aH); (case r2=>exact rfl); (case hy=>exact aH); (case r3=>exact rfl))
   |((with_reducible refine' EK ?r1 ?hw ?hx ?r2 ?hy ?r3 k); (case r1=>exact rfl); (case hw=>exact dm); (case hx=>exact aH); (case r2=>exact rfl); (case hy=>exact aH); (case r3=>exact rfl))
   |((with_reducible refine' EG ?r1 ?hw ?hx ?r2 ?hy ?r3 k); (case r1=>exact rfl); (case hw=>exact dm); (case hx=>exact aH); (case r2=>exact rfl); (case hy=>exact aH); (case r3=>exact rfl))
   |((with_reducible refine' FW ?r1 ?hw ?hx ?r2 k); (case r1=>exact rfl); (case hw=>exact dm); (case hx=>exact eO); (case r2=>exact rfl))
   |((with_reducible refine' ES ?r1 ?hw ?hx ?r2 ?hm ?r3 ?r4 k); (case r1=>exact rfl); (case hw=>exact dm); (case hx=>exact aH); (case r2=>exact rfl); (case hm=>exact df); (all_goals (try infer_instance)); (case r3=>exact rfl); (case r4=>exact rfl))
   |with_reducible exact D9 k):G:=h k
theorem IB{fl:List (Nat×List Nat)}(h:dN tb i rest fl:=by
   repeat (first
     |exact dN.nil
     |refine' dN.dep rfl ?_
     |refine' dN.imm (by exact df) ?_)):dN tb i rest fl:=h
theorem yY{f':Fr}{o:Oper}:∀{xs:List Operand}{vs:List Value},bK l o f f'->cB n f xs vs->xs.all (fun x=>bi x (aP l o))=true->cB n f' xs vs
 |[],[],_,_,_=>.nil
 |x::xs,v::vs,ha,⟨h,t⟩,hn=>by
   simp only[List.all_cons,Bool.and_eq_true]at hn
   exact .cons (EN ha h hn.1) (yY ha t hn.2)
 |[],_::_,_,h,_=>h.elim
 |_::_,[],_,h,_=>h.elim
variable{ι α:Type}{val:ι->Value}{R:aa->Value->α->Prop}{xs:List α}{a:α}{g k j s b off:Nat}{zv e:Value}{kk:IntKind}{q:Int}{TB:TypeId}{Q:Exit->Fr->List ag->Prop}{c1 c2:Code}
theorem IC{b:Bool}(hb:b=true)(h1:CW P n H0 F0 c1 Q f cs)(hc:EV n f x (.bool b):=by exact aH):CW P n H0 F0 (.cond x c1 c2) Q f cs:=p8 hc (fun _=>h1) (fun h=>absurd (hb.symm.trans h) (by decide))
theorem IE{b:Bool}(hb:b=false)(h2:CW P n H0 F0 c2 Q f cs)(hc:EV n f x (.bool b):=by exact aH):CW P n H0 F0 (.cond x c1 c2) Q f cs:=p8 hc (fun h=>absurd (hb.symm.trans h) (by decide)) (fun _=>h2)
theorem fV{p:Prop}{_:Decidable p}(h1:CW P n H0 F0 c1 Q f cs)(hc:EV n f x (.bool (decide p)):=by exact aH)(hp:p:=by omega):CW P n H0 F0 (.cond x c1 c2) Q f cs:=IC (decide_eq_true hp) h1 hc
theorem fZ{p:Prop}{_:Decidable p}(h2:CW P n H0 F0 c2 Q f cs)(hc:EV n f x (.bool (decide p)):=by exact aH)(hp:¬ p:=by omega):CW P n H0 F0 (.cond x c1 c2) Q f cs:=IE (decide_eq_false hp) h2 hc
theorem Ai [aR R] [hT:iY P T E] [hs:dZ P E s b zv](hi:xs[q.toNat]?=some a)(h:∀k j,ai P n H0 F0 A r (put f d (.pointer (some ⟨k,j,some 0⟩))) (dH E R k j a::cs) K)
   (hx:EV n f x v:=by exact eO) (hy:EV n f y (.int kk q):=by exact aH) (hm:Mem (bV (bD E R) v xs) cs:=by exact df) (h0:0<=q:=by first|exact Int.natCast_nonneg _|assumption):
   ai P n H0 F0 A (⟨d,.indexAddr T x y,T',ps,af,none⟩::r) f cs K:=DY hT.h hs.h.sz hx hy hm h0 hi h
theorem Di [aR R] [hT:iY P T E] [hs:dZ P E s b zv](hi:xs[q.toNat]?=some a)(h:∀k j,DC P n l tb ah H0 F0 K todo fl (put f d (.pointer (some ⟨k,j,some 0⟩))) (dH E R k j a::cs))
   (ho:l[i]?=some ⟨d,.indexAddr T x y,T',ps,af,gd⟩:=by rfl) (hw:Wt n l f gd:=by exact dm)
   (hx:EV n f x v:=by exact eO) (hy:EV n f y (.int kk q):=by exact aH) (fH:bi x (aP l ⟨d,.indexAddr T x y,T',ps,af,gd⟩)=true:=by rfl) (hyn:bi y (aP l ⟨d,.indexAddr T x y,T',ps,af,gd⟩)=true:=by rfl)
   (hm:Mem (bV (bD E R) v xs) cs:=by exact df) (h0:0<=q:=by first|exact Int.natCast_nonneg _|assumption):
   DC P n l tb ah H0 F0 K (i::todo) fl f cs:=Eb hT.h hs.h.sz ho hw hx hy fH hyn hm h0 hi h
theorem Al [aR R] [hA:dY P T false](hop:∀H e,R H e a->e.cells.toList[off]?=some v)(h:ai P n H0 F0 A r (put f d v) cs K)(hx:EV n f x (.pointer (some ⟨k,j,some off⟩)):=by exact aH)(hm:Mem (dH E R k j a) cs:=by exact df):
   ai P n H0 F0 A (⟨d,.load T x,T',ps,af,none⟩::r) f cs K:=DZ hA.h hx hm hop h
theorem Dl [aR R] [hA:dY P T false](hop:∀H e,R H e a->e.cells.toList[off]?=some v)(h:DC P n l tb ah H0 F0 K todo fl (put f d v) cs)(ho:l[i]?=some ⟨d,.load T x,T',ps,af,gd⟩:=by rfl)(hw:Wt n l f gd:=by exact dm)
   (hx:EV n f x (.pointer (some ⟨k,j,some off⟩)):=by exact aH) (fH:bi x (aP l ⟨d,.load T x,T',ps,af,gd⟩)=true:=by rfl) (hm:Mem (dH E R k j a) cs:=by exact df):
   DC P n l tb ah H0 F0 K (i::todo) fl f cs:=Ec hA.h ho hw hx fH hm hop h
theorem qL [ht:dZ P T s b zv](h:∀k,ai P n H0 F0 A r (put f d (.pointer (some ⟨k,0,some 0⟩))) (fC k ⟨[v],T,true,false⟩::cs) K)(hx:EV n f x v:=by exact eO)(hv:v.cells.size=s:=by rfl):
   ai P n H0 F0 A (⟨d,.box T x,T',ps,af,none⟩::r) f cs K:=Db rfl (DI ht.h.sz hx hv) h
theorem l8 [ht:dZ P T s b zv](h:∀k,ai P n H0 F0 A r (put f d (.pointer (some ⟨k,0,some 0⟩))) (cz k ⟨[zv],T,true,true⟩::cs) K)(hv:zv.cells.size=s:=by rfl)(hc:lq zv=true:=by rfl):
   ai P n H0 F0 A (⟨d,.alloc T,T',ps,af,none⟩::r) f cs K:=eF rfl (BQ ht.h hv hc) h
theorem As [ht:dZ P T s b zv](yZ:Value)(h:ai P n H0 F0 A r (put f d undef) (gP k TB yZ::rest) K)(hx:EV n f x (.pointer (some ⟨k,0,some j⟩)):=by exact aH)(hy:EV n f y v:=by exact eO)(hm:Sel cs (gP k TB e) rest:=by exact yw)
   (hv:v.cells.size=s:=by rfl) (hsc:v.cells.toList.all scal=true:=by rfl) (h0:Nat.blt 0 s=true:=by rfl) (hj:Nat.ble (j+s) e.cells.size=true:=by rfl) (he:eQ e j v.cells.toList=yZ:=by rfl):
   ai P n H0 F0 A (⟨d,.store T x y,T',ps,af,none⟩::r) f cs K:=eH (.cons hm .nil) (mV ht.h.sz hx hy hv hsc h0 hj he) (fun _=>h)
theorem F3{rs:List ResultVar}{vs:List Value}(h:dL P n f cs rs vs:=by
   first
   |exact dL.nil|exact .tmp rfl rfl .nil|exact .tmp rfl rfl (.tmp rfl rfl .nil)|exact .tmp rfl rfl (.tmp rfl rfl (.tmp rfl rfl .nil))|exact .tmp rfl rfl (.tmp rfl rfl (.tmp rfl rfl (.tmp rfl rfl .nil)))
   |exact dL.cellA rfl rfl (by exact df) (by exact rfl) dY.h (TY.sz dZ.h) (by exact rfl) (by exact rfl) .nil
   |exact dL.cellS rfl rfl (by exact df) (by exact rfl) dY.h (by exact rfl) .nil):dL P n f cs rs vs:=h
theorem Er{rs:List ResultVar}{post:ι->List ag}{vs:List Value}(x:ι)(h1:dL P n f cs rs vs:=by exact F3)(h2:eG vs=val x:=by rfl)(h3:bF cs (post x) rest:=by exact iN):nK P n rs val post .ret f cs:=gp x h1 h2 (.sel h3)
theorem aM(h:bF cs pre rest:=by exact iN):aJ cs pre:=.sel h
theorem wk(k:Nat)(h:k<9223372036854775807:=by omega):IntKind.i64.wrap ((k:Int)+1)=((k+1:Nat):Int):=by rw[ek (by omega) (by omega)]; rfl
end
end Go.Fw
/-
 The same for calls: with the facts that come of them in a list.  No conditions.
-/
set_option linter.unusedVariables false
namespace Go.Fw
open Go
section
variable{P:Program} [ay P]{n:Nat}{f:Fr}{H0:aa}{F0:List Nat}{cs pre rest:List ag}{x y:Operand}{v:Value}{A:Array Oper}{r:List Oper}{K:Fr->List ag->Prop}{d:Option Tmp}{T E:TypeId}{ps:String}{af:Array Edge}
variable{l:List Oper}{tb ah todo:List Nat}{fl:List (Nat×List Nat)}{i g:Nat}{gd:Option (Nat×Bool)}{ι α:Type}{val:ι->Value}{R:aa->Value->α->Prop}{a:α}{k j s b off:Nat}{zv:Value}{xs:List Operand}{ts:Array TypeId}{vs:List Value}
theorem nt{b:Bool}(h:b=false):¬ b=true:=by rw[h]; exact Bool.false_ne_true
theorem Se{fn:Func}{c:Code}{args:List Value}{post:ι->List ag}(n:Nat)(hf:P.funcs[g]?=some fn)(rs:List ResultVar)(h:∀H0 F0,CW P n H0 F0 c (nK P n rs val post) (r_ args) pre)
   (hb:fn.body=some c:=by rfl) (hn:fn.ntmps=n:=by rfl) (hr:fn.results=rs.toArray:=by rfl) (hl:Nat.ble rs.length 6=true:=by rfl) (ha:Nat.ble args.length n=true:=by rfl):Spec P g args pre val post:=vT hf hb hn hr hl ha h
theorem bN [hg:aQ P g](hs:Spec P g vs pre val (fun x=>[]))(h:∀x,ai P n H0 F0 A r (put f d (val x)) (rest) K)(he:cB n f xs vs:=by exact dh)(hl:bF cs pre rest:=by exact iN):
   ai P n H0 F0 A (⟨d,.call ⟨.value (.func g),xs.toArray,ts⟩,T,ps,af,none⟩::r) f cs K:=nM hl (eu hg.h he hs) h
theorem oD [hg:aQ P g](hs:Spec P g vs pre val (fun x=>[]))(h:∀x,DC P n l tb ah H0 F0 K todo fl (put f d (val x)) (rest))
   (ho:l[i]?=some ⟨d,.call ⟨.value (.func g),xs.toArray,ts⟩,T,ps,af,gd⟩:=by rfl) (hA:ah.any (Nat.beq i)=true:=by rfl) (hw:Wt n l f gd:=by exact dm) (he:cB n f xs vs:=by exact dh)
   (hn:xs.all (fun x=>bi x (aP l ⟨d,.call ⟨.value (.func g),xs.toArray,ts⟩,T,ps,af,gd⟩))=true:=by rfl) (hl:bF cs pre rest:=by exact iN) (hfl:dN tb i rest fl:=by exact IB):
   DC P n l tb ah H0 F0 K (i::todo) fl f cs:=xL hA ho hw hl hfl (fun ha=>eu hg.h (yY ha he hn) hs) h
theorem fJ{c1:ι->ag} [hg:aQ P g](hs:Spec P g vs pre val (fun x=>[c1 x]))(h:∀x,ai P n H0 F0 A r (put f d (val x)) (c1 x::rest) K)(he:cB n f xs vs:=by exact dh)(hl:bF cs pre rest:=by exact iN):
   ai P n H0 F0 A (⟨d,.call ⟨.value (.func g),xs.toArray,ts⟩,T,ps,af,none⟩::r) f cs K:=eH hl (eu hg.h he hs) h
theorem F5{T2:TypeId} [aR R]{c1:ι->ag} [hA:dY P T true] [ht:dZ P T s b zv](ul:ι->List Value)(hop:∀H e,R H e a-> ∃i,off+s<=e.cells.size/\(e.cells.toList.drop off).take s=ul i/\ ∀c∈([c1 i]:List ag),c.P H/\c.F=[])
   (h:∀i,ai P n H0 F0 A r (put f d (.agg (ul i).toArray)) (c1 i::cs) K) (hx:EV n f x (.pointer (some ⟨k,j,some off⟩)):=by exact aH) (hm:Mem (dH E R k j a) cs:=by exact df) (h0:Nat.blt 0 s=true:=by rfl):
   ai P n H0 F0 A (⟨d,.load T x,T2,ps,af,none⟩::r) f cs K:=Df ul hA.h ht.h.sz h0 hx hm hop h
theorem yF{T2:TypeId} [aR R]{c1:ι->ag} [hA:dY P T true] [ht:dZ P T s b zv](ul:ι->List Value)(hop:∀H e,R H e a-> ∃i,off+s<=e.cells.size/\(e.cells.toList.drop off).take s=ul i/\ ∀c∈([c1 i]:List ag),c.P H/\c.F=[])
   (h:∀i,DC P n l tb ah H0 F0 K todo fl (put f d (.agg (ul i).toArray)) (c1 i::cs)) (ho:l[i]?=some ⟨d,.load T x,T2,ps,af,gd⟩:=by rfl) (hw:Wt n l f gd:=by exact dm)
   (hx:EV n f x (.pointer (some ⟨k,j,some off⟩)):=by exact aH) (fH:bi x (aP l ⟨d,.load T x,T2,ps,af,gd⟩)=true:=by rfl) (hm:Mem (dH E R k j a) cs:=by exact df) (h0:Nat.blt 0 s=true:=by rfl):
   DC P n l tb ah H0 F0 K (i::todo) fl f cs:=Dg ul hA.h ht.h.sz h0 ho hw hx fH hm hop h
theorem fq{c1:ag}{l:List Oper}(hs:bF cs pre rest)(hv:Conv pre [c1])(h:ai P n H0 F0 A l f (c1::rest) K):ai P n H0 F0 A l f cs K:=Da hs hv dM h
theorem IG{c1:ag}{r:List Nat}(hs:bF cs pre rest)(hv:Conv pre [c1])(h:DC P n l tb ah H0 F0 K r fl f (c1::rest)):DC P n l tb ah H0 F0 K r fl f cs:=Dc hs hv dM h
theorem bnd{α β:Type}{G:Prop}{x:Option α}{g:α->Option β}{b:β}(h:x.bind g=some b)(k:∀a,x=some a->g a=some b->G):G:=by
 obtain⟨a,h1,h2⟩:=bind_some h
 exact k a h1 h2
theorem Ci{β:Type}{b:Bool}{p q:Option β}{R0:β}{c1 c2:Code}{Q:Exit->Fr->List ag->Prop}(hF:(if b=true then p else q)=some R0)(h1:b=true->p=some R0->CW P n H0 F0 c1 Q f cs)(h2:b=false->q=some R0->CW P n H0 F0 c2 Q f cs)
   (hc:EV n f x (.bool b):=by exact aH):CW P n H0 F0 (.cond x c1 c2) Q f cs:=
 p8 hc (fun e=>h1 e (by rwa [if_pos e]at hF)) (fun e=>h2 e (by rwa [if_neg (nt e)]at hF))
theorem Kb{β:Type}{R':aa->Value->β->Prop} [aR R']{T3:TypeId}{u:Value}{cs':List ag}{c:Code}{Q:Exit->Fr->List ag->Prop}(he:aJ cs cs')(ys:List β)(h:ys.length<4611686018427387904->CW P n H0 F0 c Q f cs')(hm:Mem (bV (bD T3 R') u ys) cs':=by exact df):CW P n H0 F0 c Q f cs:=
 bL he (C_ hm Bn h)
abbrev pz(k:Nat):Value:=.pointer (some ⟨k,0,some 0⟩)
theorem dn{α:Type}{k:Nat}{l:List α}(h:List.drop k l=[]):l.length<=k:=List.drop_eq_nil_iff.1 h
end
end Go.Fw
/-
 More plain laws about loops. No conditions.
-/
set_option linter.unusedVariables false
namespace Go.Fw
open Go
end Go.Fw
