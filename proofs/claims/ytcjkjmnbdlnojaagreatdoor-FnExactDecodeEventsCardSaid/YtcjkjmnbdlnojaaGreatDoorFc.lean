/-
  A framework: readings, small rules, plain laws. No conditions.
-/
import Derived.Test.YtcjkjmnbdlnojaaGreatDoorFb
import Derived.Deep.Slices
import Derived.ChangeArms
import Derived.SizedLaws
import Derived.Laws.Small
import Derived.WalkSpells
import Derived.Laws.Slices
import Derived.Below
import Derived.Sort.Grow
import Derived.Lib.LaidTab
import Derived.Lib.ItoaNum
import Derived.Lib.Join
import Derived.Deep.Draws
import Derived.WideLaws
import Derived.Shelf.Strings.Split
import Derived.Shelf.Strings.Search3
import Derived.Shelf.Strconv.ErrVarAll
import Derived.Lib.SlicesCompact
/-
 The bridge: what the arguments of a row's function read az, az data.
-/
namespace Go.Fw
open Go Go.RowKit Go.WideShapes Go.ChangeShapes Go.ChangeAt
def lw(ρ:bA):Prop:=∀k L,ρ k=some (some L)->L.own=false
def lC{α:Type}(P:Program) [aW P](t:TypeId)(R:ag->Value->α->Prop)(W:α->Prop):Prop:=
 ∀{T:Type}(enc:TypeId×Value->T)(w:World)(fuel:Nat)(cs:List Value)(x:DataW T×List MemPlace),
   DataW.trod enc P w 0 (fun _=>true) true fuel t cs=some x->(∀n∈x.1.weights P t,n<=reachBytes)->
   ∀(ρ:bA)(H:ag),Rel P ρ H w->lw ρ-> ∃(ρ':bA)(H':ag)(av:Value)(a:α),Rel P ρ' H' w/\lw ρ'/\Up ρ ρ'/\eH H H'/\aV ρ' av.cells.toList cs/\R H' av a/\W a
theorem Rel.nil(P:Program) [aW P](w:World)(hV:aW.V P w):Rel P (fun _=>none) [] w:=⟨by simp,by simp,by simp,by simp,⟨w,hV,Nat.le_refl _,fun _ _=>rfl,by simp⟩⟩
theorem lw.nil:lw (fun _=>none):=fun _ _ h=>by simp at h
section
variable{P:Program} [aW P]{ρ:bA}{H:ag}{w:World}
theorem Cy{ρ:bA}{H:ag}(h:Rel P ρ H w)(o:Option Loc):Up ρ (iC ρ H.length o):=by
 intro k
 by_cases e:k=H.length
 · subst e; exact .inl (h.dom _ (Nat.le_refl _))
 · exact .inr (.inl (bO _ _ e))
theorem Rel.foreign{L:Loc}{b:df}(h:Rel P ρ H w)(hF:lw ρ)(hL:L.own=false)(hb:nA P ρ L b w):Rel P (iC ρ H.length (some L)) (H++[some b]) w:=by
 have hu:=Cy h (some L)
 constructor
 · intro k L' hk
   by_cases e:k=H.length
   · subst e
     rw[dH]at hk
     obtain rfl:L=L':=by simpa using hk
     exact⟨b,by simp,hb.of_same hu rfl⟩
   · rw[bO _ _ e]at hk
     obtain⟨b',hb',hr⟩:=h.blk k L' hk
     exact⟨b',by rw[List.getElem?_append_left (kU hb')]; exact hb',hr.of_same hu rfl⟩
 · intro k b' hb' hk
   by_cases e:k=H.length
   · subst e; rw[dH]at hk; simp at hk
   · rw[bO _ _ e]at hk
     have hkl:k<H.length:=by
       have:=kU hb'
       simp at this; omega
     rw[List.getElem?_append_left hkl]at hb'
     exact h.alive k b' hb' hk
 · intro k hk
   simp at hk
   rw[bO _ _ (by omega)]
   exact h.dom k (by omega)
 · intro k k' L1 L2 h1 h2 ho _
   exfalso
   by_cases e:k=H.length
   · subst e; rw[dH]at h1
     obtain rfl:L=L1:=by simpa using h1
     rw[hL]at ho; simp at ho
   · rw[bO _ _ e]at h1
     rw[hF k L1 h1]at ho; simp at ho
 · refine h.vok.keep (Nat.le_refl _) (fun _ _ _=>rfl) fun k L' hk ho=>?_
   by_cases e:k=H.length
   · subst e; rw[dH]at hk
     obtain rfl:L=L':=by simpa using hk
     rw[hL]at ho; simp at ho
   · rw[bO _ _ e]at hk; exact .inl hk
theorem lw.foreign{L:Loc}(hF:lw ρ)(hL:L.own=false)(n:Nat):lw (iC ρ n (some L)):=by
 intro k L' hk
 by_cases e:k=n
 · subst e; rw[dH]at hk
   obtain rfl:L=L':=by simpa using hk
   exact hL
 · rw[bO _ _ e]at hk; exact hF k L' hk
theorem Rel.dead(h:Rel P ρ H w):Rel P (iC ρ H.length none) (H++[none]) w:=by
 have hu:=Cy h none
 constructor
 · intro k L' hk
   by_cases e:k=H.length
   · subst e; rw[dH]at hk; simp at hk
   · rw[bO _ _ e]at hk
     obtain⟨b',hb',hr⟩:=h.blk k L' hk
     exact⟨b',by rw[List.getElem?_append_left (kU hb')]; exact hb',hr.of_same hu rfl⟩
 · intro k b' hb' hk
   by_cases e:k=H.length
   · subst e; simp at hb'
   · rw[bO _ _ e]at hk
     have hkl:k<H.length:=by
       have:=kU hb'
       simp at this; omega
     rw[List.getElem?_append_left hkl]at hb'
     exact h.alive k b' hb' hk
 · intro k hk
   simp at hk
   rw[bO _ _ (by omega)]
   exact h.dom k (by omega)
 · intro k k' L1 L2 h1 h2 ho he
   by_cases e:k=H.length
   · subst e; rw[dH]at h1; simp at h1
   · by_cases e':k'=H.length
     · subst e'; rw[dH]at h2; simp at h2
     · rw[bO _ _ e]at h1; rw[bO _ _ e']at h2
       exact h.inj k k' L1 L2 h1 h2 ho he
 · refine h.vok.keep (Nat.le_refl _) (fun _ _ _=>rfl) fun k L' hk ho=>?_
   by_cases e:k=H.length
   · subst e; rw[dH]at hk; simp at hk
   · rw[bO _ _ e]at hk; exact .inl hk
theorem lw.dead(hF:lw ρ)(n:Nat):lw (iC ρ n none):=by
 intro k L' hk
 by_cases e:k=n
 · subst e; rw[dH]at hk; simp at hk
 · rw[bO _ _ e]at hk; exact hF k L' hk
theorem Jb(H:ag)(x:Option df):eH H (H++[x]):=fun k b hk _=>by rw[List.getElem?_append_left (kU hk)]; exact hk
def Ju(a:Int):Prop:=-9223372036854775808<=a/\a<=9223372036854775807
def abj(_:UInt8):Prop:=True
def YP{α:Type}(_:α):Prop:=True
def YQ(a:List UInt8):Prop:=a.length<=140737488351232
def Gf{α:Type}(W:α->Prop)(a:List α):Prop:=a.length<=140737488351232/\ ∀x∈a,W x
theorem lC.int{t:TypeId}(ht:P.underlying t=some (.int .i64)):lC P t aY Ju:=by
 intro T enc w fuel cs x h _ ρ H hr hF
 obtain⟨n,rfl,rfl,hw⟩:=DataW.trod_int ht h
 refine⟨ρ,H,.int .i64 n,n,hr,hF,Up.refl ρ,eH.refl H,.cons _ _ _ _ (.int _ _) .nil,rfl,?_⟩
 simp only[Lit.wf,IntKind.min,IntKind.max,Bool.and_eq_true]at hw
 unfold Ju
 simpa[IntKind.signed,IntKind.bits]using hw
theorem lC.u8{t:TypeId}(ht:P.underlying t=some (.int .u8)):lC P t tT abj:=by
 intro T enc w fuel cs x h _ ρ H hr hF
 obtain⟨n,rfl,rfl,hw⟩:=DataW.trod_int ht h
 simp only[Lit.wf,IntKind.min,IntKind.max,Bool.and_eq_true]at hw
 have hw':0<=n/\n<=255:=by simpa[IntKind.signed,IntKind.bits]using hw
 refine⟨ρ,H,.int .u8 n,UInt8.ofNat n.toNat,hr,hF,Up.refl ρ,eH.refl H,.cons _ _ _ _ (.int _ _) .nil,?_,trivial⟩
 unfold tT
 have:((UInt8.ofNat n.toNat).toNat:Int)=n:=by
   simp[UInt8.toNat_ofNat']
   omega
 rw[this]
theorem lC.bool{t:TypeId}(ht:P.underlying t=some .bool):lC P t rdBool YP:=by
 intro T enc w fuel cs x h _ ρ H hr hF
 obtain⟨b,rfl,rfl⟩:=DataW.trod_bool ht h
 exact⟨ρ,H,.bool b,b,hr,hF,Up.refl ρ,eH.refl H,.cons _ _ _ _ (.bool _) .nil,rfl,trivial⟩
theorem lC.str{t:TypeId}(ht:P.underlying t=some .string):lC P t rdStr YQ:=by
 intro T enc w fuel cs x h hw ρ H hr hF
 obtain⟨s,rfl,rfl,hs⟩:=DataW.trod_string ht h
 refine⟨ρ,H,.string s,s.data.toList,hr,hF,Up.refl ρ,eH.refl H,.cons _ _ _ _ (.string _) .nil,rfl,?_⟩
 have:=hw s.data.toList.length (by simp[DataW.weights])
 exact this
theorem U8{Pg:Program}{T:Type}{e:TypeId}{l:List (DataW T)}{d:DataW T}(hd:d∈l){n:Nat}(hn:n∈d.weights Pg e):n∈DataW.weightsAll Pg e l:=by
 induction l with
 |nil=>simp at hd
 |cons x l ih=>
   simp only[DataW.weightsAll,List.mem_append]
   rcases List.mem_cons.1 hd with rfl|h
   · exact .inl hn
   · exact .inr (ih h)
theorem PH{α T:Type}{enc:TypeId×Value->T}{E:TypeId}{R:ag->Value->α->Prop}{W:α->Prop} [dA R](hE:lC P E R W){fuel:Nat}{C:Nat->List Value}{D:Nat->DataW T×List MemPlace}:
   ∀(len:Nat),(∀i,i<len->DataW.trod enc P w 0 (fun _=>true) true fuel E (C i)=some (D i)/\ ∀n∈(D i).1.weights P E,n<=reachBytes)-> ∀(ρ:bA)(H:ag),Rel P ρ H w->lw ρ->
     ∃(ρ':bA)(H':ag)(es:List Value)(az:List α),Rel P ρ' H' w/\lw ρ'/\Up ρ ρ'/\eH H H'/\es.length=len/\az.length=len/\(∀(i:Nat) e,es[i]?=some e->aV ρ' e.cells.toList (C i))/\
       (∀(i:Nat) a,az[i]?=some a-> ∃e,es[i]?=some e/\R H' e a)/\ ∀a∈az,W a
 |0,_,ρ,H,hr,hF=>⟨ρ,H,[],[],hr,hF,Up.refl ρ,eH.refl H,rfl,rfl,by simp,by simp,by simp⟩
 |len+1,h,ρ,H,hr,hF=>by
   obtain⟨ρ1,H1,es,az,r1,f1,u1,i1,l1,l2,g1,g2,g3⟩:=PH hE len (fun i hi=>h i (by omega)) ρ H hr hF
   obtain⟨t,tw⟩:=h len (by omega)
   obtain⟨ρ2,H2,e,a,r2,f2,u2,i2,v2,q2,w2⟩:=hE enc w fuel _ _ t tw ρ1 H1 r1 f1
   refine⟨ρ2,H2,es++[e],az++[a],r2,f2,u1.trans u2,i1.trans i2,by simp[l1],by simp[l2],?_,?_,?_⟩
   · intro i e' he'
     by_cases hi:i<es.length
     · rw[List.getElem?_append_left hi]at he'
       exact (g1 i e' he').up u2
     · rw[List.getElem?_append_right (by omega)]at he'
       have hi':i-es.length=0:=by
         rcases Nat.eq_zero_or_pos (i-es.length)with h|h
         · exact h
         · rw[List.getElem?_eq_none (by simp; omega)]at he'; simp at he'
       rw[hi']at he'
       obtain rfl:e=e':=by simpa using he'
       obtain rfl:i=len:=by omega
       exact v2
   · intro i a' ha'
     by_cases hi:i<az.length
     · rw[List.getElem?_append_left hi]at ha'
       obtain⟨e',he',hq⟩:=g2 i a' ha'
       exact⟨e',by rw[List.getElem?_append_left (by omega)]; exact he',dA.up hq i2⟩
     · rw[List.getElem?_append_right (by omega)]at ha'
       have hi':i-az.length=0:=by
         rcases Nat.eq_zero_or_pos (i-az.length)with h|h
         · exact h
         · rw[List.getElem?_eq_none (by simp; omega)]at ha'; simp at ha'
       rw[hi']at ha'
       obtain rfl:a=a':=by simpa using ha'
       exact⟨e,by rw[List.getElem?_append_right (by omega),show i-es.length=0 by omega]; rfl,q2⟩
   · intro a' ha'
     rcases List.mem_append.1 ha' with h|h
     · exact g3 a' h
     · obtain rfl:a'=a:=by simpa using h
       exact w2
theorem lC.slice{α:Type}{t E:TypeId}{R:ag->Value->α->Prop}{W:α->Prop}{s:Nat} [dA R] [Cells R s](ht:P.underlying t=some (.slice E))(hs:P.cellsOf E=s)(h0:0<s)(hb:0<P.bytesOf E)
   (hE:lC P E R W):lC P t (b_ E R) (Gf W):=by
 intro T enc w fuel cs x h hw ρ H hr hF
 rcases Deep.open_slice ht h with⟨rfl,rfl⟩|⟨a,len,cap,m,n,D,Pl,rfl,-,hlc,hcm,hm,rfl,hx⟩
 · exact⟨ρ,H,.slice none 0 0,[],hr,hF,Up.refl ρ,eH.refl H,.cons _ _ _ _ .nilSlice .nil,.inl ⟨rfl,rfl⟩,by simp[Gf]⟩
 have hm':m=cap:=by simpa using hm
 subst hm'
 rcases Nat.eq_zero_or_pos len with rfl|hpos
 · refine⟨_,_,.slice (some ⟨H.length,0,none⟩) 0 0,[],hr.dead,hF.dead _,Cy hr none,Jb H none,?_,.inr (.inr ⟨_,_,_,rfl,rfl⟩),by simp[Gf]⟩
   exact .cons _ _ _ _ (.sliceDead _ _ _ _ _ _ (dH _ _ _)) .nil
 have hwl:len*P.bytesOf E<=reachBytes:=by
   have:=hw _ (by simp only[DataW.weights,ht]; exact List.mem_cons_self)
   simp only[List.length_map,List.length_range]at this
   exact Nat.le_trans (Nat.mul_le_mul_right _ (by omega)) this
 have hlen:len<=140737488351232:=by
   have h1:len*1<=len*P.bytesOf E:=Nat.mul_le_mul_left _ hb
   have h2:reachBytes=140737488351232:=rfl
   omega
 have hch:∀i,∃cs',i<len->w.cells? 0 (a.add (i*P.cellsOf E)) (P.cellsOf E)=some cs'/\DataW.trod enc P w 0 (fun _=>true) true n E cs'=some (D i,Pl i):=by
   intro i
   by_cases hi:i<len
   · obtain⟨cs',h1,h2⟩:=hx i (by omega)
     exact⟨cs',fun _=>⟨h1,h2⟩⟩
   · exact⟨[],fun h=>absurd h hi⟩
 obtain⟨C,hC⟩:=Classical.axiomOfChoice hch
 rw[hs]at hC
 obtain⟨ρ1,H1,es,az,r1,f1,u1,i1,l1,l2,g1,g2,g3⟩:=PH (enc:=enc) (D:=fun i=>(D i,Pl i)) hE len (fun i hi=>⟨(hC i hi).2,fun k hk=>hw k (by
   simp only[DataW.weights,ht]
   refine List.mem_cons_of_mem _ (List.mem_append_left _ (U8 (d:=D i) (List.mem_map.2 ⟨i,by simpa using hi,rfl⟩) hk)))⟩) ρ H hr hF
 obtain⟨-,hl0,hc0⟩:=World.cells?_some (hC 0 hpos).1
 have hcell:=hc0 0 h0
 rw[List.getElem?_eq_getElem (by omega)]at hcell
 obtain⟨ab,ao,asp⟩:=a
 have hsp:asp=none:=by simpa[Addr.add]using World.cell?_spot hcell
 subst hsp
 have Gg:∃c ct fr,w.heap[ab]?=some (.cells c ct fr):=by
   simp only[World.cell?,Addr.add,Nat.zero_mul,if_true]at hcell
   split at hcell
   · exact⟨_,_,_,by assumption⟩
   · simp at hcell
 obtain⟨c,ct,fr,Gg⟩:=Gg
 have hadd:∀(o:Nat),Addr.add ⟨ab,ao,none⟩ o=⟨ab,ao+o,none⟩:=by
   intro o
   exact addr_add _ _ _
 have hCi:∀i,i<len->(c.toList.drop (ao+i*s)).take s=C i:=by
   intro i hi
   obtain⟨-,hl,hc⟩:=World.cells?_some (hC i hi).1
   apply List.ext_getElem?
   intro j
   by_cases hj:j<s
   · have:=hc j hj
     rw[hadd,show Addr.add ⟨ab,ao+i*s,none⟩ j=⟨ab,ao+i*s+j,none⟩from addr_add _ _ _,xC Gg]at this
     rw[List.getElem?_take_of_lt hj,List.getElem?_drop,←this]
     simp
   · rw[List.getElem?_eq_none (by rw[List.length_take]; omega),List.getElem?_eq_none (by omega)]
 have hbr:nA P ρ1 ⟨ab,ao,s,0,false⟩ ⟨es,E,false,false⟩ w:=by
   refine⟨rfl,hs,c,ct,fr,Gg,fun i e he=>?_,by simp⟩
   have hi:i<len:=by
     have:i<es.length:=by
       rcases Nat.lt_or_ge i es.length with h|h
       · exact h
       · simp[List.getElem?_eq_none h]at he
     omega
   obtain⟨e',he',hq⟩:=g2 i _ (List.getElem?_eq_getElem (show i<az.length by omega))
   rw[he]at he'
   obtain rfl:e=e':=by simpa using he'
   exact⟨(Cells.cells hq).1,by rw[hCi i hi]; exact g1 i e he⟩
 refine⟨_,_,.slice (some ⟨H1.length,0,none⟩) len 0,az,r1.foreign f1 rfl hbr,f1.foreign rfl _,u1.trans (Cy r1 _),i1.trans (Jb _ _),?_,?_,by omega,g3⟩
 · refine .cons _ _ _ _ (.slice _ _ _ _ _ _ _ (dH _ _ _) hlc (by simp) (by simp) fun _=>⟨?_,by simp⟩) .nil
   simp
 · refine .inr (.inl ⟨H1.length,0,0,⟨es,E,false,false⟩,by rw[l2],by simp,rfl,rfl,by simp[l1,l2],by omega,fun j a ha=>?_⟩)
   obtain⟨e,he,hq⟩:=g2 j a ha
   exact⟨e,by simpa using he,dA.up hq (Jb _ _)⟩
def fieldAt(P:Program) [aW P](t:TypeId)(i:Nat):Option (TypeId×Nat×Nat):=
 match P.underlying t with
 |some (.struct fs)=>(fs[i]?).map fun f=>(f.type,f.offset,P.cellsOf f.type)
 |_=>none
theorem aV.field{l l' cs:List Value}{o s:Nat}(h:aV ρ l ((cs.drop o).take s))(h':aV ρ l' (cs.drop (o+s))):aV ρ (l++l') (cs.drop o):=by
 have:=h.append h'
 rwa [←List.drop_drop,List.take_append_drop]at this
theorem aV.one{v:Value}{l:List Value}(h:aV ρ v.cells.toList l)(hv:Value.cells v= #[v]):aV ρ [v] l:=by rw[hv]at h; exact h
theorem aV.end{cs:List Value}{o:Nat}(h:cs.length=o):aV ρ [] (cs.drop o):=by
 rw[List.drop_of_length_le (by omega)]; exact .nil
def tK:Value->Bool
 | .agg _=>true
 |_=>false
def JS(P:Program) [aW P](t:TypeId):Bool:=
 match P.underlying t with
 |some (.struct _)|some (.array _ _)=>true
 |_=>false
theorem Wm{r:Reach}{base:Nat}{t:TypeId}{v:Value}(h:Value.okWide P w r base t v):tK v=JS P t:=by
 unfold Value.okWide at h
 unfold JS
 split at h
 · obtain⟨cs,rfl,-⟩:=h; simp_all [tK]
 · obtain⟨cs,rfl,-⟩:=h; simp_all [tK]
 · rename_i h1 h2
   have:tK v=false:=by
     cases v with
     |agg l=>unfold Cell.okWide at h; split at h<;>simp_all [Cell.ok]
     |_=>rfl
   rw[this]
   split<;>simp_all
theorem aZ.of_cells{av v:Value}(h:aV ρ av.cells.toList v.cells.toList)(hs:tK v=tK av):aZ ρ av v:=by
 cases av with
 |agg l'=>
   cases v with
   |agg l=>have:=aZ.agg _ _ h; simpa[Value.cells]using this
   |_=>simp[tK]at hs
 |_=>
   cases v with
   |agg l=>simp[tK]at hs
   |_=>cases h with|cons _ _ _ _ h _=>exact h
theorem P_{α T:Type}{enc:TypeId×Value->T}{t:TypeId}{ts:List TypeId}{R:ag->Value->α->Prop}{W:α->Prop}{vs:List Value}{ds:List (DataW T)}{ps:List MemPlace}
   (h:DataW.TrodAll enc P w 0 (fun _=>true) true (t::ts) vs ds ps) (hw:∀n∈DataW.weightsEach P (t::ts) ds,n<=reachBytes) (hE:lC P t R W) (hsh:∀H v a,R H v a->tK v=JS P t) {r:Reach} {base:Nat} (hok:∀v,vs[0]?=some v->Value.okWide P w r base t v) (hr:Rel P ρ H w) (hF:lw ρ):
   ∃(v:Value)(vs':List Value)(d:DataW T)(ds':List (DataW T))(q:List MemPlace)(ρ':bA)(H':ag)(av:Value)(a:α),vs=v::vs'/\ds=d::ds'/\DataW.TrodAll enc P w 0 (fun _=>true) true ts vs' ds' q/\
     (∀n∈DataW.weightsEach P ts ds',n<=reachBytes)/\Rel P ρ' H' w/\lw ρ'/\Up ρ ρ'/\eH H H'/\aZ ρ' av v/\R H' av a/\W a:=by
 cases vs with
 |nil=>cases ds<;>exact h.elim
 |cons v vs=>
   cases ds with
   |nil=>exact h.elim
   |cons d ds=>
     obtain⟨p,q,⟨fuel,h1⟩,h2,rfl⟩:=h
     obtain⟨ρ',H',av,a,g1,g2,g3,g4,g5,g6,g7⟩:=hE enc w fuel _ _ h1 (fun n hn=>hw n (by simp only[DataW.weightsEach,List.mem_append]; exact .inl hn)) ρ H hr hF
     exact⟨v,vs,d,ds,q,ρ',H',av,a,rfl,rfl,h2,fun n hn=>hw n (by simp only[DataW.weightsEach,List.mem_append]; exact .inr hn),g1,g2,g3,g4,.of_cells g5 (by rw[hsh _ _ _ g6,Wm (hok v rfl)]),g6,g7⟩
theorem Qy{args:Array Value}{i:Nat}{v:Value}(h:args.toList[i]?=some v):args[i]?=some v:=by simpa using h
theorem WZ{Pg:Program}{T:Type}{enc:TypeId×Value->T}{vs:List Value}{ds:List (DataW T)}{ps:List MemPlace}(h:DataW.TrodAll enc Pg w 0 (fun _=>true) true [] vs ds ps):vs=[]/\ds=[]:=by
 cases vs<;>cases ds<;>first|exact⟨rfl,rfl⟩|exact h.elim
end
end Go.Fw
/-
 Small rules for the generator.
-/
set_option linter.unusedVariables false
namespace Go.Fw
open Go
section
variable{P:Program} [aW P]{n:Nat}{f:Fr}{H:ag}{d:Option Tmp}{x y z:Operand}{T T' T'' E:TypeId}{ps:String}{af:Array Edge}{gd:Option (Nat×Bool)}
theorem zB{g:Bool}{s b:Nat}{zv:Value}(ht:TY P T s b zv)(hv:zv.cells.size=s)(hc:xD zv=true):lX P n ⟨d,.alloc T,T',ps,af,gd⟩ f (fun k=>.pointer (some ⟨k,0,some 0⟩)) ⟨[zv],T,true,g⟩:=by
 obtain⟨i,hi,-,-,hz⟩:=ht.inv
 exact Xv hi hz ht.sz hv hc
theorem dN{g:Bool}{s b':Nat}{zv:Value}{len:Nat}{parts:List (Nat×Operand)}{vs:List Value}(hT:SL P T E)(ht:TY P E s b' zv)(hxs:gY n f (parts.map (·.2)) vs)
   (hidx:parts.map (·.1)=List.range' 0 parts.length) (hlen:len=parts.length) (hbig:Nat.ble (len*s) (2 ^ 24)=true) (hv:∀v∈vs,v.cells.size=s):
   lX P n ⟨d,.buildSlice T len parts.toArray,T',ps,af,gd⟩ f (fun k=>.slice (some ⟨k,0,none⟩) len 1) ⟨vs,E,true,g⟩:=by
 obtain⟨iE,wD,h1,h2,h3⟩:=ht.inv
 exact Vs hT ht.sz wD h3 hxs hidx hlen hbig hv
theorem bu{s t u:List UInt8}(hx:EV n f x (sv s))(hy:EV n f y (sv t))(h:aP s t=some u):cK P n ⟨d,.binOp .add T x y T',T'',ps,af,none⟩ f H (sv u):=by
 obtain⟨rfl,hl⟩:=bq h
 exact WS hx hy hl
theorem Jv{a b:Bool}(hT:P.underlying T=some .bool)(hx:EV n f x (.bool a))(hy:EV n f y (.bool b)):cK P n ⟨d,.binOp .neq T x y T',T'',ps,af,none⟩ f H (.bool (!(a==b))):=
 fun ρ w q _ hf=>⟨.bool (!(a==b)),by simp[execOp,(hx.use hf).bool_inv,(hy.use hf).bool_inv,eqGuard,run_neq_bool w T a b hT],.bool _⟩
theorem oF{o:Oper}{base pre rest:List ah}{ι:Type}{val:ι->Value}{post:ι->List ah}(hs:eX base pre rest)(hx:XC P n o f pre val post):XC P n o f base val post:=by
 intro H hc ρ w a K' Q' hr hf hk
 have hc':=hc.take hs
 have hsub:∀k∈foot pre,k∈foot base:=by
   intro k hk
   have:=(hc'.own k (by simp only[foot,List.flatMap_append,List.mem_append]; exact .inl hk))
   rcases this.1 with h|h
   · exact h
   · omega
 refine hx H hc'.view ρ w a K' Q' hr hf fun f' ρ' H' a' w' h1 h2 h3 h4=>?_
 obtain⟨x,e,h5⟩:=h4
 refine hk f' ρ' H' a' w' h1 h2 h3 ⟨x,e,h5.len,h5.imm,fun k hk hn=>h5.agr k hk (fun h=>hn (hsub k h)),h5.hold,h5.nd,fun k hk=>⟨?_,(h5.own k hk).2⟩⟩
 exact (h5.own k hk).1.imp (hsub k) id
theorem XA{o:Oper}{base pre:List ah}{ι:Type}{val:ι->Value}{post:ι->List ah}(hp:base.Perm pre)(hx:XC P n o f pre val post):XC P n o f base val post:=by
 intro H hc ρ w a K' Q' hr hf hk
 have hm:∀k,k∈foot pre↔k∈foot base:=fun k=>(hp.flatMap_right ah.F).symm.mem_iff
 have hc2:Ctx H (foot pre) H pre:=by
   have h:=hc.perm hp
   exact⟨h.len,h.imm,fun _ _ _=>rfl,h.hold,h.nd,fun k hk=>⟨.inl hk,(h.own k hk).2⟩⟩
 refine hx H hc2 ρ w a K' Q' hr hf fun f' ρ' H' a' w' h1 h2 h3 h4=>?_
 obtain⟨x,e,h5⟩:=h4
 refine hk f' ρ' H' a' w' h1 h2 h3 ⟨x,e,h5.len,h5.imm,fun k hk hn=>h5.agr k hk (fun h=>hn ((hm k).1 h)),h5.hold,h5.nd,fun k hk=>⟨?_,(h5.own k hk).2⟩⟩
 exact (h5.own k hk).1.imp (hm k).1 id
inductive Aa:List ah->List ah->List ah->Prop
 |nil {pre:List ah}:Aa [] pre pre
 |cons {c c':ah} {cs pre base:List ah} [zZ c] (h:z8 c c') (t:Aa cs (c'::pre) base):Aa (c::cs) pre base
theorem Aa.loc{cl pre base post:List ah}(h:Aa cl pre base)(hl:sJ post):sJ (cl++post):=by
 induction h with
 |nil=>exact hl
 |cons _ _ ih=>exact .cons ih
theorem vS{o:Oper}{cl pre base:List ah}{ι:Type}{val:ι->Value}{post:ι->List ah}(hf:Aa cl pre base)(hl:∀x,sJ (post x))(hx:XC P n o f base val post):XC P n o f (cl++pre) val (fun x=>cl++post x):=by
 induction hf with
 |nil=>exact hx
 |cons h t ih=>exact gm h (fun x=>t.loc (hl x)) (XA List.perm_middle.symm (ih hx))
end
end Go.Fw
namespace Go.Fw
open Go
theorem Ctx.start(H:ag):Ctx H [] H []:=⟨Nat.le_refl _,eH.refl _,fun _ _ _=>rfl,fun c hc=>by simp at hc,by simp,fun k hk=>by simp at hk⟩
end Go.Fw
/-
 Parts of elements of our own slices: loaded, stored, handed to a callee that turns them.
-/
set_option linter.unusedVariables false
namespace Go.Fw
open Go
theorem WE{ρ:bA}{c:Value}(h:aZ ρ undef c):c=undef:=by
 generalize hx:undef=x at h
 cases h with
 |tuple a a' h=>
   have:a=[]:=by
     have e:(undef:Value)= .tuple #[]:=rfl
     rw[e]at hx
     injection hx with hx
     have:=congrArg Array.toList hx
     simpa using this.symm
   subst this
   cases h
   rfl
 |_=>simp[undef]at hx
theorem Oi{n:Nat}{A:Array Oper}{f:Fr}{o:Oper}{j:Nat}{want:Bool}{t:Tmp}(h:o.guard=some (j,want))(hd:(A[j]?).bind (·.dst)=some t)(hv:f t=undef)(ht:Nat.blt t n=true):Wanted n A f o false:=by
 intro ρ a hf
 have hlt:t<n:=by simpa[Nat.blt_eq]using ht
 have hr:=hf.get t hlt
 rw[hv]at hr
 have hlt':t<a.tmps.size:=by rw[hf.size]; exact hlt
 have hg:a.tmps[t]?=some (a.tmps.getD t undef):=by
   simp[Array.getD_eq_getD_getElem?,hlt']
 rw[WE hr]at hg
 simp[Region.wanted,h,yielded,hd,hg,undef]
section
variable{P:Program} [aW P]{n:Nat}{H0:ag}{F0:List Nat}{f:Fr}{cs:List ah}{A:Array Oper}{r:List Oper}{K:Fr->List ah->Prop}{d:Option Tmp}{op:Op}{T T' E:TypeId}{ps:String}{af:Array Edge}{gd:Option (Nat×Bool)}{x y:Operand}
variable{l:List Oper}{tb az todo:List Nat}{fl:List (Nat×List Nat)}{i:Nat}
theorem Yc{j:Nat}{t:Tmp}{b:Bool}(hd:(A[j]?).bind (·.dst)=some t)(hv:f t=undef)(ht:Nat.blt t n=true)(h:aU P n H0 F0 A r (put f d undef) cs K):
   aU P n H0 F0 A (⟨d,op,T,ps,af,some (j,b)⟩::r) f cs K:=fun H hc=>O0 (Oi rfl hd hv ht) (h H hc)
theorem Yd(t:Tmp){j:Nat}{b:Bool}(ho:l[i]?=some ⟨d,op,T,ps,af,some (j,b)⟩)(h1:(l[j]?).bind (·.dst)=some t)(h2:f t=undef)(h3:Nat.blt t n=true)(h:DC P n l tb az H0 F0 K todo fl (put f d undef) cs):
   DC P n l tb az H0 F0 K (i::todo) fl f cs:=
 fun H hc=>.flt (Ks:=[]) ho (.inr ⟨rfl,fun f' ha=>by
   have hv:f' t=undef:=(ha t (Iq h1)).trans h2
   exact Oi (o:=⟨d,op,T,ps,af,some (j,b)⟩) rfl (by simpa using h1) hv h3⟩) ((h H hc).cov fun p hp=>by
   rcases List.mem_cons.1 hp with h|h
   · exact .inr (by rw[h])
   · exact .inl h)
variable{α β:Type}{Ro:eU α}{Rf:eU β}
structure Part(Ro:eU α)(off:Nat)(Rf:eU β)(get:α->β)(set:α->β->α):Prop where
 split:∀{F:List Nat}{H:ag}{e:Value}{a:α},Ro F H e a-> ∃(w:Sv)(Fa Fw Fb:List Nat),e.cells.toList[off]?=some w.v/\F=Fa++Fw++Fb/\Rf Fw H w.v (get a)/\
   ∀{H':ag}{Sz:List Nat}{d':β},eH H H'->(∀k,k∈Fa\/k∈Fb->H'[k]?=H[k]?)->Rf Sz H' w.v d'->Ro (Fa++Sz++Fb) H' e (set a d')
def abk(E:TypeId)(Ro:eU α)(i off:Nat)(w:Value):eU (List α):=fun F H v xs=>bL E Ro F H v xs/\ ∃k b e,F.head?=some k/\lh v=some k/\H[k]?=some (some b)/\b.elems[i]?=some e/\e.cells.toList[off]?=some w
instance{i off:Nat}{w:Value} [gq Ro]:gq (abk E Ro i off w):=⟨fun{F H H' v a} h hi hk=>by
 obtain⟨h1,k,b,e,h0,h2,h3,h4,h5⟩:=h
 refine⟨gq.keep h1 hi hk,k,b,e,h0,h2,(hk k ?_).trans h3,h4,h5⟩
 cases F with
 |nil=>simp at h0
 |cons q F=>simp at h0; subst h0; simp⟩
theorem bL.head{F:List Nat}{H:ag}{v:Value}{xs:List α}{k:Nat}(h:bL E Ro F H v xs)(hk:lh v=some k):F.head?=some k/\ ∃m b G,v= .slice (some ⟨k,0,none⟩) xs.length m/\(m=1\/m=2)/\H[k]?=some (some b)/\b.wr=true/\b.own=true/\b.ty=E/\xs.length<4611686018427387904/\F=k::G/\dQ Ro H b.elems xs G:=by
 rcases h with⟨rfl,-,-⟩|⟨k',m,b,G,rfl,h2,h3,h4,h5,h6,h7,rfl,h9⟩
 · simp[lh]at hk
 · have e:k'=k:=by simpa[lh]using hk
   subst e
   exact⟨rfl,m,b,G,rfl,h2,h3,h4,h5,h6,h7,rfl,h9⟩
theorem PI [gq Ro]{s k off:Nat}{F:List Nat}{i:Int}{a a':α}{u v:Value}{xs:List α}(hs:SZ P T s)(h0:Nat.blt 0 s=true)(hx:EV n f x (.pointer (some ⟨k,i.toNat,some off⟩)))(hy:EV n f y u)(hk:lh v=some k)(hj:xs[i.toNat]?=some a)
   (hu:u.cells.size=s) (hsc:u.cells.toList.all scal=true) (hfit:∀F H e,Ro F H e a->off+s<=e.cells.size) (hset:∀F H e,Ro F H e a->Ro F H (lM e off u.cells.toList) a'):
   XC P n ⟨d,.store T x y,T',ps,af,gd⟩ f [bN (bL E Ro) F v xs] (fun _:Unit=>undef) (fun _=>[bN (bL E Ro) F v (xs.set i.toNat a')]):=by
 intro H dX
 have ho:bL E Ro F H v xs:=dX.hold _ (List.mem_singleton.2 rfl)
 obtain⟨hh,m,b,G,rfl,h2,h3,h4,h5,h6,h7,rfl,h9⟩:=ho.head hk
 obtain⟨e,F1,Fj,F2,g1,rfl,g3,g4⟩:=h9.at hj
 refine I9 hs hx hy h3 h5 g1 hu hsc (by simpa[Nat.blt_eq]using h0) (hfit _ _ _ g3) ⟨(),rfl,?_⟩
 have sI:∀q,q≠k->(H.set k (some ⟨b.elems.set i.toNat (lM e off u.cells.toList),b.ty,true,b.wr⟩))[q]?=H[q]?:=fun q hq=>by rw[List.getElem?_set_ne (fun e=>hq e.symm)]
 have mh:eH H (H.set k (some ⟨b.elems.set i.toNat (lM e off u.cells.toList),b.ty,true,b.wr⟩)):=by
   intro q b2 hq hw2
   rw[sI q (fun e=>by
     subst e; rw[hq]at h3
     injection h3 with h3; injection h3 with h3
     rw[h3]at hw2; rw[hw2]at h4; simp at h4)]
   exact hq
 have hnd:=dX.nd
 have wE:∀q,q∈F1\/q∈Fj\/q∈F2->q≠k:=by
   intro q hq e
   subst e
   simp only[foot,bN,List.flatMap_cons,List.flatMap_nil,List.append_nil,List.nodup_cons,List.mem_append]at hnd
   exact hnd.1 (by rcases hq with h|h|h<;>simp[h])
 refine⟨by simp,mh,fun q hq Eh=>sI q (fun e=>Eh (by subst e; simp[foot,bN])),?_,by simpa[foot,bN]using hnd,fun q hq=>⟨.inl (by simpa[foot,bN]using hq),?_⟩⟩
 · intro c hc
   simp at hc; subst hc
   refine .inr ⟨k,m,_,F1++Fj++F2,by rw[List.length_set],h2,List.getElem?_set_self (kU h3),h4,rfl,h6,by simpa using h7,by simp,?_⟩
   refine g4 (fun Fi x y hr hm=>gq.keep hr mh fun q hq=>sI q (wE q ?_)) (gq.keep (hset _ _ _ g3) mh fun q hq=>sI q (wE q (by simp[hq])))
   rcases hm q hq with h|h
   · exact .inl h
   · exact .inr (.inr h)
 · simpa using (dX.own q (by simpa[foot,bN]using hq)).2
theorem nz{H:ag}{k s:Nat}{ow w:Bool}{TB:TypeId}{l:List Value}{f:Fr}(hA:AG P T true)(hs:SZ P T s)(h0:Nat.blt 0 s=true)(hx:EV n f x (.pointer (some ⟨k,0,some 0⟩)))(hk:H[k]?=some (some ⟨[.agg l.toArray],TB,ow,w⟩))(hl:l.length=s):
   cK P n ⟨d,.load T x,T',ps,af,none⟩ f H (.agg l.toArray):=
 I8 (e:=.agg l.toArray) hA hs hx hk rfl (by simpa[Nat.blt_eq]using h0) (by simp[Value.cells,hl]) (by subst hl; simp[Value.cells])
variable{T'':TypeId}
def IK(P:Program) [aW P](t:TypeId)(k:IntKind):Prop:=P.underlying t=some (.int k)
theorem O_{H:ag}{S D:TypeId}{k1 k2:IntKind}{i:Int}(hS:IK P S k1)(hD:IK P D k2)(hx:EV n f x (.int k1 i)):cK P n ⟨d,.convert S D x,T',ps,af,none⟩ f H (.int k2 (k2.wrap i)):=by
 intro ρ w q hr hf
 have hS':P.underlying S=some (.int k1):=hS
 have hD':P.underlying D=some (.int k2):=hD
 exact⟨_,by simp[execOp,(hx.use hf).int_inv,convert,underlying,hS',hD',Conv.intToInt],.int _ _⟩
def jf(i:Int):UInt8:=UInt8.ofNat (IntKind.u8.wrap i).toNat
theorem XB(i:Int):((jf i).toNat:Int)=IntKind.u8.wrap i:=by
 have h:IntKind.u8.wrap i=i % 256:=by simp[IntKind.wrap,IntKind.bits,IntKind.signed]
 unfold jf
 rw[h]
 have h1:0<=i % 256:=Int.emod_nonneg _ (by decide)
 have h2:i % 256<256:=Int.emod_lt_of_pos _ (by decide)
 simp[UInt8.toNat_ofNat']
 omega
theorem IW{H:ag}{S D:TypeId}{k1:IntKind}{i:Int}(hS:IK P S k1)(hD:IK P D .u8)(hx:EV n f x (.int k1 i)):cK P n ⟨d,.convert S D x,T',ps,af,none⟩ f H (.int .u8 ((jf i).toNat:Int)):=by
 rw[XB]; exact O_ hS hD hx
end
end Go.Fw
/-
 Plain laws on the helpers that laws use: copies, sizes, comparisons.
-/
namespace Go.Fw
open Go
theorem jd{b:Bool}(h:b=true):jD b=some ():=by simp[jD,h]
theorem jO{α:Type}(l:List α)(k:Nat):ix l (k:Int)=l[k]?:=by simp[ix]
theorem XD{α:Type}(n:Nat)(z:α)(h:n<4294967296):yn (n:Int) z=some (List.replicate n z):=by
 unfold yn
 rw[if_pos (by omega)]
 simp
theorem W9{n:Nat}(h:n<9223372036854775808):IntKind.i64.wrap (n:Int)=n:=dU (by omega) (by omega)
theorem IX{α:Type}{l:List α}{k:Nat}{x:α}{r:List α}(h:l.drop k=x::r):l[k]?=some x/\l.drop (k+1)=r:=by
 have hlt:k<l.length:=by
   rcases Nat.lt_or_ge k l.length with h'|h'
   · exact h'
   · rw[List.drop_of_length_le h']at h; simp at h
 rw[List.drop_eq_getElem_cons hlt]at h
 injection h with h1 h2
 exact⟨by rw[List.getElem?_eq_getElem hlt,h1],h2⟩
theorem Qa{α:Type}{L:List α->Nat->List α->Option (List α)}(h0:∀k c,L [] k c=some c){W:α->Prop}(h1:∀x r k c,W x->k<c.length->L (x::r) k c=L r (k+1) (c.set k x)):
   ∀(rest:List α)(k:Nat)(c:List α),(∀x∈rest,W x)->k+rest.length<=c.length->L rest k c=some (c.take k++rest++c.drop (k+rest.length))
 |[],k,c,_,_=>by rw[h0]; simp
 |x::r,k,c,hw,hl=>by
   simp only[List.length_cons]at hl
   rw[h1 x r k c (hw x (by simp)) (by omega),Qa h0 h1 r (k+1) _ (fun y hy=>hw y (by simp[hy])) (by simp; omega)]
   have hk:k<c.length:=by omega
   congr 1
   rw[List.take_succ_eq_append_getElem (by simpa using hk)]
   simp only[List.getElem_set_self,List.take_set_of_le (Nat.le_refl k)]
   rw[List.drop_set_of_lt (by omega)]
   simp[Nat.add_assoc,Nat.add_comm 1]
theorem Ye{α:Type}{L:List α->Nat->List α->Option (List α)}(h0:∀k c,L [] k c=some c){W:α->Prop}(h1:∀x r k c,W x->k<c.length->L (x::r) k c=L r (k+1) (c.set k x)){a:List α}{z:α}(hw:∀x∈a,W x):
   L a 0 (List.replicate a.length z)=some a:=by
 rw[Qa h0 h1 a 0 _ hw (by simp)]
 simp
theorem Qb{α:Type}{L:List α->Nat->Option Bool}(b:List α)(h0:∀k,L [] k=some true)(h1:∀x r k,b[k]?=some x->L (x::r) k=L r (k+1)):
   ∀(rest:List α)(k:Nat),b.drop k=rest->L rest k=some true
 |[],k,_=>h0 k
 |x::r,k,h=>by
   obtain⟨e1,e2⟩:=IX h
   rw[h1 x r k e1]
   exact Qb b h0 h1 r (k+1) e2
def mY{α:Type}(p:α->Prop)(a:List α):Prop:=a.length<4294967296/\ ∀x∈a,p x
def xN{α:Type}(_:α):Prop:=True
theorem W_{α:Type}(a:List α)(ha:a.length<4294967296):mY xN a:=⟨ha,fun _ _=>trivial⟩
theorem Xa{α:Type}{p:α->Prop}{z:α}{S:List α->Option (List α)}{L:List α->Nat->List α->Option (List α)}(hS:∀a,S a=(yn (a.length:Int) z).bind fun z=>L a 0 z)(h0:∀k c,L [] k c=some c)
   (h1:∀x r k c,p x->k<c.length->L (x::r) k c=L r (k+1) (c.set k x)) (a:List α) (h:mY p a):S a=some a:=by
 rw[hS,XD _ _ h.1,Option.bind_some]
 exact Ye h0 h1 h.2
theorem PK{α:Type}{S:List α->List α->Option Bool}{L:List α->List α->Nat->Option Bool}(hS:∀a b,S a b=if (((a.length:Int):Int)!=(b.length:Int))then some false else L b a 0)(h0:∀b k,L b [] k=some true)
   (h1:∀b x r k,b[k]?=some x->L b (x::r) k=L b r (k+1)) (a:List α):S a a=some true:=by
 rw[hS]
 simp only[bne_self_eq_false,Bool.false_eq_true,if_false]
 exact Qb a (h0 a) (h1 a) a 0 rfl
def iM{α:Type}(ms:α->Nat)(l:List α):Nat:=(l.map ms).sum
def nL{α:Type}(mk:α->Int->α)(ms:α->Nat):Int->List α->List α
 |_,[]=>[]
 |k,x::r=>mk x k::nL mk ms (k+ms x) r
theorem zC{α:Type}(ms:α->Nat)(x:α)(l:List α):iM ms (x::l)=ms x+iM ms l:=by simp[iM]
theorem XE{α:Type}(l:List α):iM (fun _=>1) l=l.length:=by
 induction l with
 |nil=>rfl
 |cons x l ih=>rw[zC,ih,List.length_cons]; omega
theorem YR{α:Type}{c:List α}{j:Nat}{y:α}(h:j<c.length):ix (c.set j y) (j:Int)=some y:=by rw[jO,List.getElem?_set_self h]
theorem Pb{α:Type}{L:Nat->List α->Int->Int->Option (Int×List α)}{mk:α->Int->α}{ms:α->Nat}{p:α->Prop}(h0:∀m c k (j:Nat),c.length<=j->L (m+1) c k j=some (k,c))
   (h1:∀m c k (j:Nat) x,c[j]?=some x->j<c.length->j<4294967296->p x->0<=k->k+(ms x:Int)<4611686018427387904->L (m+1) c k j=L m (c.set j (mk x k)) (k+ms x) ((j+1:Nat):Int)):
   ∀(rest:List α)(m:Nat)(c:List α)(k:Int)(j:Nat),c.drop j=rest->c.length<4294967296->j<=c.length->(∀x∈rest,p x)->0<=k->k+(iM ms rest:Int)<4611686018427387904->rest.length<m->
     L m c k j=some (k+iM ms rest,c.take j++nL mk ms k rest)
 |[],m,c,k,j,hd,hl,hj,_,_,_,hm=>by
   obtain⟨m,rfl⟩:∃q,m=q+1:=⟨m-1,by simp at hm; omega⟩
   have hge:c.length<=j:=List.drop_eq_nil_iff.1 hd
   rw[h0 _ _ _ _ hge]
   simp[iM,nL,List.take_of_length_le hge]
 |x::r,m,c,k,j,hd,hl,hj,hp,hk,hb,hm=>by
   simp only[List.length_cons]at hm
   obtain⟨m,rfl⟩:∃q,m=q+1:=⟨m-1,by omega⟩
   obtain⟨e1,e2⟩:=IX hd
   have hlt:j<c.length:=by
     rcases Nat.lt_or_ge j c.length with h|h
     · exact h
     · simp[List.getElem?_eq_none h]at e1
   rw[zC]at hb
   rw[h1 m c k j x e1 hlt (by omega) (hp x (by simp)) hk (by omega)]
   have hd2:(c.set j (mk x k)).drop (j+1)=r:=by rw[List.drop_set_of_lt (by omega)]; exact e2
   rw[Pb h0 h1 r m _ _ (j+1) hd2 (by simpa using hl) (by simp; omega) (fun y hy=>hp y (by simp[hy])) (by omega) (by omega) (by omega),zC]
   congr 1
   refine Prod.ext (by simp; omega) ?_
   simp only[nL]
   rw[List.take_succ_eq_append_getElem (by simpa using hlt)]
   simp[List.take_set_of_le]
theorem OQ{α:Type}{S:List α->Int->Option (Int×List α)}{L:Nat->List α->Int->Int->Option (Int×List α)}{mk:α->Int->α}{ms:α->Nat}{p:α->Prop}(hS:∀a k,S a k=L (((a.length:Int)-0).toNat+2) a k 0)
   (h0:∀m c k (j:Nat),c.length<=j->L (m+1) c k j=some (k,c))
   (h1:∀m c k (j:Nat) x,c[j]?=some x->j<c.length->j<4294967296->p x->0<=k->k+(ms x:Int)<4611686018427387904->L (m+1) c k j=L m (c.set j (mk x k)) (k+ms x) ((j+1:Nat):Int))
   (a:List α) (k:Int) (hb:mY p a) (hk:0<=k) (hm:k+(iM ms a:Int)<4611686018427387904):S a k=some (k+iM ms a,nL mk ms k a):=by
 rw[hS]
 have:=Pb h0 h1 a (((a.length:Int)-0).toNat+2) a k 0 rfl hb.1 (by omega) hb.2 hk hm (by omega)
 simpa using this
theorem Pf{α:Type}{L:List α->Nat->Int->Option Int}{mk:α->Int->α}{ms:α->Nat}{p:α->Prop}(h0:∀n k,L [] n k=some k)
   (h1:∀x r n k,p x->0<=k->k+(ms x:Int)<4611686018427387904->L (mk x k::r) n k=L r (n+1) (k+ms x)):
   ∀(l:List α)(n:Nat)(k:Int),(∀x∈l,p x)->0<=k->k+(iM ms l:Int)<4611686018427387904->L (nL mk ms k l) n k=some (k+iM ms l)
 |[],n,k,_,_,_=>by simp[nL,h0,iM]
 |x::r,n,k,hp,hk,hb=>by
   rw[zC]at hb
   simp only[nL]
   rw[h1 x _ n k (hp x (by simp)) hk (by omega),Pf h0 h1 r (n+1) _ (fun y hy=>hp y (by simp[hy])) (by omega) (by omega),zC]
   congr 1; omega
theorem Wn{α:Type}{S:List α->Int->Option Int}{L:List α->Nat->Int->Option Int}{mk:α->Int->α}{ms:α->Nat}{p:α->Prop}(hS:∀a k,S a k=L a 0 k)(h0:∀n k,L [] n k=some k)
   (h1:∀x r n k,p x->0<=k->k+(ms x:Int)<4611686018427387904->L (mk x k::r) n k=L r (n+1) (k+ms x)) (a:List α) (k:Int) (hb:mY p a) (hk:0<=k) (hm:k+(iM ms a:Int)<4611686018427387904):
   S (nL mk ms k a) k=some (k+iM ms a):=by
 rw[hS]; exact Pf h0 h1 a 0 k hb.2 hk hm
theorem xH{α:Type}{xs ys:List α}(h:xs.length+ys.length<4294967296):app xs ys=some (xs++ys):=by unfold app; rw[if_pos h]
def yo{α:Type}(p:α->Bool):List α->Nat->Int
 |[],_=>-1
 |x::r,k=>if p x then (k:Int)else yo p r (k+1)
theorem oo{α:Type}{p:α->Bool}:∀(l:List α)(k:Nat),decide ((0:Int)<=yo p l k)=l.any p
 |[],k=>by simp[yo]
 |x::r,k=>by
   rw[yo,List.any_cons]
   by_cases h:p x=true
   · rw[if_pos h,h]; simp
   · rw[if_neg h,oo r (k+1)]; simp[h]
theorem og{α:Type}{L:List α->Nat->Option Int}{f:α->Option Bool}{p:α->Bool}(h0:∀k,L [] k=some (-1))(h1:∀x r k,L (x::r) k=(f x).bind fun b=>if b then some (k:Int)else L r (k+1)):
   ∀(l:List α)(k:Nat),(∀x∈l,f x=some (p x))->L l k=some (yo p l k)
 |[],k,_=>h0 k
 |x::r,k,hf=>by
   rw[h1,hf x (by simp),Option.bind_some,yo]
   split
   · rfl
   · exact og h0 h1 r (k+1) fun y hy=>hf y (by simp[hy])
theorem Cb{α:Type}{L:List α->Nat->Option Bool}{f:α->Option Bool}{p:α->Bool}{e:Bool}(h0:∀k,L [] k=some e)(h1:∀x r k,L (x::r) k=(f x).bind fun b=>if (!b)then some false else L r (k+1)):
   ∀(l:List α)(k:Nat),(∀x∈l,f x=some (p x))->L l k=some (l.all p&&e)
 |[],k,_=>by simp[h0]
 |x::r,k,hf=>by
   rw[h1,hf x (by simp),Option.bind_some,List.all_cons]
   cases h:p x
   · simp
   · simp[Cb h0 h1 r (k+1) fun y hy=>hf y (by simp[hy])]
theorem app1{α:Type}{c:List α}{x:α}(h:c.length+1<4294967296):app c [x]=some (c++[x]):=xH (by simpa using h)
def il{α:Type}(p:α->Bool)(q:α->α->Bool):Option α->List α->Bool
 |_,[]=>true
 |none,x::r=>p x&&il p q (some x) r
 |some y,x::r=>p x&&!q y x&&il p q (some x) r
theorem IY{α:Type}(p:α->Bool)(q:α->α->Bool):∀(o:Option α)(l:List α),il p q o l=(il (fun _=>true) q o l&&l.all p)
 |_,[]=>by simp[il]
 |none,x::r=>by
   rw[il,il,IY p q (some x) r,List.all_cons]
   cases p x<;>cases il (fun _=>true) q (some x) r<;>simp
 |some y,x::r=>by
   rw[il,il,IY p q (some x) r,List.all_cons]
   cases p x<;>cases q y x<;>cases il (fun _=>true) q (some x) r<;>simp
theorem Qz{α:Type}{L:List α->Nat->Option Bool}{P:α->Prop}{p:α->Bool}{q:α->α->Bool}{e:Bool}(l:List α)(hP:∀x∈l,P x)(hl:l.length<4294967296)(h0:∀k,L [] k=some e)
   (h2:∀x r k y,P x->P y->l[k]?=some y->k<4294967296->L (x::r) (k+1)=if p x&&!q y x then L r (k+2)else some false):
   ∀(rest:List α)(k:Nat)(y:α),l.drop (k+1)=rest->l[k]?=some y->L rest (k+1)=some (il p q (some y) rest&&e)
 |[],k,y,_,_=>by rw[h0]; simp[il]
 |x::r,k,y,hd,hy=>by
   obtain⟨e1,e2⟩:=IX hd
   have hlt:k<l.length:=by
     rcases Nat.lt_or_ge k l.length with h|h
     · exact h
     · simp[List.getElem?_eq_none h]at hy
   rw[h2 x r k y (hP x (List.mem_of_getElem? e1)) (hP y (List.mem_of_getElem? hy)) hy (by omega),il]
   cases hpq:(p x&&!q y x)
   · simp
   · rw[if_pos rfl,Qz l hP hl h0 h2 r (k+1) x e2 e1]; simp
theorem PL{α:Type}{L:List α->Nat->Option Bool}{P:α->Prop}{p:α->Bool}{q:α->α->Bool}{e:Bool}(l:List α)(hP:∀x∈l,P x)(hl:l.length<4294967296)(h0:∀k,L [] k=some e)
   (h1:∀x r,P x->L (x::r) 0=if p x then L r 1 else some false)
   (h2:∀x r k y,P x->P y->l[k]?=some y->k<4294967296->L (x::r) (k+1)=if p x&&!q y x then L r (k+2)else some false):
   L l 0=some (il p q none l&&e):=by
 cases l with
 |nil=>rw[h0]; simp[il]
 |cons x r=>
   rw[h1 x r (hP x (by simp)),il]
   cases hp:p x
   · simp
   · rw[if_pos rfl,Qz (x::r) hP hl h0 h2 r 0 x rfl rfl]; simp
theorem Qd{α:Type}(l:List α)(k:Nat)(h:k<4294967296):ix l (IntKind.i64.wrap ((((k+1:Nat):Int))-1))=l[k]?:=by
 rw[show (((k+1:Nat):Int))-1=(k:Int) by omega,W9 (by omega),jO]
theorem PM(k:Nat):decide ((0:Int)<((k+1:Nat):Int))=true:=decide_eq_true (by omega)
theorem Xb:decide ((0:Int)<((0:Nat):Int))=false:=rfl
def ay(lo hi n:Int):Bool:=decide (lo<=n)&&decide (n<=hi)
theorem Yf{α:Type}{l:List α}{m:Int}(h:ay 0 ((l.length:Int)-1) m=true):∃x,ix l m=some x/\l[m.toNat]?=some x:=by
 simp[ay]at h
 have hlt:m.toNat<l.length:=by omega
 exact⟨l[m.toNat],by unfold ix; rw[if_pos h.1,List.getElem?_eq_getElem hlt],List.getElem?_eq_getElem hlt⟩
end Go.Fw
/-
 Slice expressions on our own slices; clear; elements that keep their identity; a function that only moves elements, over deep data.
-/
set_option linter.unusedVariables false
namespace Go.Fw
open Go
section
variable{P:Program} [aW P]{n:Nat}{f:Fr}{H0:ag}{F0:List Nat}{cs:List ah}{A:Array Oper}{r:List Oper}{K:Fr->List ah->Prop}{d:Option Tmp}{x y z:Operand}{T T' E:TypeId}{ps:String}{af:Array Edge}{gd:Option (Nat×Bool)}
variable{α:Type}{R:ag->Value->α->Prop}{xs:List α}{v:Value}
end
def rq{α:Type}(R:ag->Value->α->Prop)(H:ag)(e:Value)(q:Value×α):Prop:=e=q.1/\R H e q.2
instance{α:Type}{R:ag->Value->α->Prop} [dA R]:dA (rq R):=⟨fun h hi=>⟨h.1,dA.up h.2 hi⟩⟩
instance{α:Type}{R:ag->Value->α->Prop}{s:Nat} [Cells R s]:Cells (rq R) s:=⟨fun h=>Cells.cells h.2⟩
def rid{α:Type}(_:ag)(e:Value)(q:Value×α):Prop:=e=q.1
instance{α:Type}:Pure (rid (α:=α)):=⟨fun h=>h⟩
section
variable{α:Type}{R:ag->Value->α->Prop}{Ro:eU α}{E:TypeId}
theorem dQ.map{β:Type}{R1 R2:eU β}{H:ag}(hm:∀F e a,R1 F H e a->R2 F H e a){es:List Value}{xs:List β}{G:List Nat}(h:dQ R1 H es xs G):dQ R2 H es xs G:=by
 induction h with
 |nil=>exact .nil
 |cons h _ ih=>exact .cons (hm _ _ _ h) ih
theorem bL.map{β:Type}{R1 R2:eU β}{F:List Nat}{H:ag}{v:Value}{xs:List β}(hm:∀F e a,R1 F H e a->R2 F H e a)(h:bL E R1 F H v xs):bL E R2 F H v xs:=by
 rcases h with h|⟨k,m,b,G,h1,h2,h3,h4,h5,h6,h7,h8,h9⟩
 · exact .inl h
 · exact .inr ⟨k,m,b,G,h1,h2,h3,h4,h5,h6,h7,h8,h9.map hm⟩
theorem dQ.sub{H:ag}{es:List Value}{xs:List α}{G:List Nat}(h:dQ Ro H es xs G):∀{sel:List (Value×α)},sel.Sublist (es.zip xs)-> ∃G',G'.Sublist G/\dQ Ro H (sel.map Prod.fst) (sel.map Prod.snd) G':=by
 induction h with
 |nil=>intro sel hs; simp at hs; subst hs; exact⟨[],.slnil,.nil⟩
 | @cons e es a xs F G h t ih=>
   intro sel hs
   rw[List.zip_cons_cons]at hs
   cases hs with
   |cons _ hs=>
     obtain⟨G',h1,h2⟩:=ih hs
     exact⟨G',h1.trans (List.sublist_append_right _ _),h2⟩
   |cons_cons _ hs=>
     obtain⟨G',h1,h2⟩:=ih hs
     exact⟨F++G',(List.Sublist.refl _).append h1,.cons h h2⟩
end
structure xR{β:Type}(p:β->Bool)(qs cur:List β)(i j:Nat):Prop where
 len:cur.length=qs.length
 lt:i<j
 le:j<=qs.length
 tk:cur.take i=(qs.take j).filter fun a=>!p a
 dr:cur.drop j=qs.drop j
section
variable{β:Type}{p:β->Bool}{qs cur:List β}{i j:Nat}{x:β}
theorem Uw(hx:qs[j]?=some x):(qs.take (j+1)).filter (fun a=>!p a)=(qs.take j).filter (fun a=>!p a)++(if p x then []else [x]):=by
 have hlt:j<qs.length:=by
   rcases Nat.lt_or_ge j qs.length with h|h
   · exact h
   · simp[List.getElem?_eq_none h]at hx
 rw[List.take_succ_eq_append_getElem hlt,List.filter_append]
 rw[List.getElem?_eq_getElem hlt]at hx
 obtain rfl:=Option.some.inj hx
 cases hp:p qs[j]<;>simp[hp]
theorem xR.at(h:xR p qs cur i j)(hj:j<qs.length):∃x,cur[j]?=some x/\qs[j]?=some x:=by
 refine⟨qs[j],?_,List.getElem?_eq_getElem hj⟩
 have:=congrArg (fun l:List β=>l[0]?) h.dr
 simpa[List.getElem?_eq_getElem hj]using this
theorem xR.no(h:xR p qs cur i j)(hx:qs[j]?=some x)(hp:p x=false):xR p qs (cur.set i x) (i+1) (j+1):=by
 have hlt:j<qs.length:=Ff hx
 have hi:i<cur.length:=by have:=h.lt; have:=h.len; omega
 refine⟨by simpa using h.len,by have:=h.lt; omega,hlt,?_,?_⟩
 · rw[Uw hx,←h.tk,hp,List.take_succ_eq_append_getElem (by simpa using hi)]
   simp[List.take_set_of_le]
 · rw[List.drop_set_of_lt (by have:=h.lt; omega),←List.drop_drop,h.dr,List.drop_drop]
theorem xR.fin(h:xR p qs cur i j)(hj:qs.length<=j):cur.take i=qs.filter fun a=>!p a:=by
 rw[h.tk,List.take_of_length_le hj]
end
section
variable{P:Program} [aW P]{n:Nat}{f:Fr}{H0:ag}{F0:List Nat}{cs:List ah}{A:Array Oper}{r:List Oper}{K:Fr->List ah->Prop}{d:Option Tmp}{x y z:Operand}{T T' E:TypeId}{ps:String}{af:Array Edge}{gd:Option (Nat×Bool)}
variable{α:Type}{R:ag->Value->α->Prop}{Ro':eU α}{xs:List α}{v:Value}
end
section
variable{P:Program} [aW P]{n:Nat}{f:Fr}{H0:ag}{F0:List Nat}{cs:List ah}{A:Array Oper}{r:List Oper}{K:Fr->List ah->Prop}{d:Option Tmp}{T:TypeId}{ps:String}{af:Array Edge}{gd:Option (Nat×Bool)}{t:Tmp}
variable{l:List Oper}{tb az todo:List Nat}{fl:List (Nat×List Nat)}{i:Nat}
theorem Cm(v:Value)(hv:f t=v)(ht:Nat.blt t n=true)(h:aU P n H0 F0 A r (put f d v) cs K):aU P n H0 F0 A (⟨d,.move (.tmp t),T,ps,af,none⟩::r) f cs K:=ai (FP (.tmp hv ht)) h
theorem Ca(v:Value)(hv:f t=v)(ht:Nat.blt t n=true)(h:aU P n H0 F0 A r (put f d v) cs K):aU P n H0 F0 A (⟨d,.assign (.tmp t),T,ps,af,none⟩::r) f cs K:=ai (iO (.tmp hv ht)) h
theorem Dm(v:Value)(ho:l[i]?=some ⟨d,.move (.tmp t),T,ps,af,none⟩)(hv:f t=v)(ht:Nat.blt t n=true)(hn:d_ (.tmp t) (di l ⟨d,.move (.tmp t),T,ps,af,none⟩)=true)(h:DC P n l tb az H0 F0 K todo fl (put f d v) cs):DC P n l tb az H0 F0 K (i::todo) fl f cs:=
 bn ho .no (fun ha=>FP (EN ha (.tmp hv ht) hn)) h
end
end Go.Fw
/-
 A slice of our own keeps its array, and its elements turn no more. No conditions.
-/
set_option linter.unusedVariables false
namespace Go.Fw
open Go
section
variable{α:Type}{Ro:eU α}{R':ag->Value->α->Prop}{E:TypeId}{H0:ag}{F0:List Nat}{cs rest cs2:List ah}{F:List Nat}{v:Value}{xs:List α}
variable{P:Program} [aW P]{n:Nat}{f:Fr}{c1:Code}{Q:Exit->Fr->List ah->Prop}
theorem QA{o:Oper}{ι:Type}{val:ι->Value}{pre:List ah}{post post':ι->List ah}(he:∀x,aF (post x) (post' x))(hx:XC P n o f pre val post):XC P n o f pre val post':=by
 intro H hc ρ w a K' Q' hr hf hk
 refine hx H hc ρ w a K' Q' hr hf fun f' ρ' H' a' w' h1 h2 h3 h4=>?_
 obtain⟨x,e,h5⟩:=h4
 obtain⟨H2,l1,l2,l3⟩:=he x H (foot pre) H' h5
 exact hk f' ρ' H2 a' w' h1 (h2.recore l1 l2) (h3.trans (Step.recore l1 l2)) ⟨x,e,l3⟩
end
end Go.Fw
/-
 Own lists laid open: the list's block with the elements' values, and the elements, each with the blocks it owns. No conditions.
-/
set_option linter.unusedVariables false
namespace Go.Fw
open Go
def ma(s:Nat):ag->Value->Value->Prop:=fun _ e a=>e=a/\e.cells.size=s/\e.cells.toList.all scal=true
instance(s:Nat):Pure (ma s):=⟨fun h=>h⟩
instance(s:Nat):Cells (ma s) s:=⟨fun h=>h.2⟩
section
variable{α:Type}{Ro:eU α}{H:ag}{E:TypeId}{s:Nat}
def abl(Ro:eU α) [gq Ro](G:List Nat)(es:List Value)(xs:List α):ah:=⟨G,fun H=>dQ Ro H es xs G,fun h hi hk=>dQ.keep h hi hk⟩
instance [gq Ro] [Local Ro](G:List Nat)(es:List Value)(xs:List α):zZ (abl Ro G es xs):=⟨fun h hk=>dQ.local h hk⟩
end
section
variable{P:Program} [aW P]{n:Nat}{H0:ag}{F0:List Nat}{Q:Exit->Fr->List ah->Prop}{f:Fr}{cs pre rest:List ah}{c1:Code}{A:Array Oper}{l:List Oper}{K:Fr->List ah->Prop}{α ι:Type}{Ro:eU α}{E:TypeId}{s:Nat}
end
end Go.Fw
/-
 Elements of an own list that are moved out one by one, in a range loop. The list's block is frozen and read by values; the elements stay our own. No conditions.
-/
set_option linter.unusedVariables false
namespace Go.Fw
open Go
section
variable{α ι:Type}{Ro:eU α}{H:ag}{E:TypeId}{s:Nat}
structure Un(Ro:eU α)(a:α)(val:ι->Value)(post:ι->List ah):Prop where
 un:∀F H e,Ro F H e a-> ∃i,e=val i/\(∀c∈post i,c.P H)/\foot (post i)=F
end
section
variable{P:Program} [aW P]{n:Nat}{H0:ag}{F0:List Nat}{Q:Exit->Fr->List ah->Prop}{f:Fr}{cs pre rest:List ah}{c1:Code}{A:Array Oper}{l r:List Oper}{K:Fr->List ah->Prop}{α ι:Type}{Ro:eU α}{E T T':TypeId}{s:Nat}{d:Option Tmp}{x:Operand}{ps:String}{af:Array Edge}
theorem zS{e:Value}(h1:e.cells.size=s)(h2:e.cells.toList.all scal=true):Mk (aK (ma s)) [] e e []:=eP (fun _=>⟨rfl,h1,h2⟩)
theorem zT{e:Value}{w:Value}{off:Nat}(h:e.cells.toList[off]?=some w):∀H e',ma s H e' e->e'.cells.toList[off]?=some w:=fun _ _ hh=>by rw[hh.1]; exact h
end
end Go.Fw
/-
 A new row, frozen in the same step.
-/
set_option maxRecDepth 100000
namespace Go.Fw
open Go
variable{P:Program} [aW P]{n:Nat}{f:Fr}{H:ag}{o:Oper}{K:Fr->ag->Prop}
theorem lX.aop{vk:Nat->Value}{b:df}(hn:lX P n o f vk b)(h:K (put f o.dst (vk H.length)) (H++[some b])):qM P n o f H K:=by
 intro ρ w a K' Q' hr hf hk
 obtain⟨ho,hn⟩:=hn
 obtain⟨c,cs,cap,w',hrun,hh,h1,h2,h3,hval,he,hc,hl⟩:=hn ρ H w a hr hf
 show o.upon P a K' Q' _
 rw[hrun]
 obtain⟨es,ty,ow,g⟩:=b
 obtain rfl:ow=true:=ho
 have hrel:=hr.push (g:=g) hh rfl he hc hl
 have hst:=Step.push (b:=⟨es,ty,true,g⟩) (sz:=P.cellsOf ty) (cap:=cap) hr hh h1 h2 h3
 exact hk _ _ _ _ _ ((hf.up hst.up).put o.dst (hval _ _ (dH _ _ _))) hrel hst h
theorem Qe{vk:Nat->Value}{b:df}{pre:List ah}(hw:b.wr=true)(hn:lX P n o f vk b):XC P n o f pre vk (fun k=>fO k b::pre):=by
 intro H hc
 refine hn.aop ⟨H.length,rfl,?_⟩
 refine Ctx.step (pre:=[]) (post:=[fO H.length b]) (rest:=pre) hc (by simp) (ku.app _ _).imm (fun k hk _=>by rw[List.getElem?_append_left hk]) ?_ (by simp[fO]) (by simp[fO])
 intro c hcm
 simp at hcm
 subst hcm
 exact⟨hw,by simp⟩
end Go.Fw
/-
 Functions handed back: nil or not.
-/
set_option linter.unusedVariables false
namespace Go.Fw
open Go Go.RowKit
abbrev G8:=Fn×List Value×List Value
def Lv(p:G8)(b:Bool):Value:=bif b then .func p.1 p.2.1.toArray p.2.2.toArray else .nilFunc
theorem XF{ρ:bA}{p:G8}{b:Bool}{c:Value}(h:aZ ρ (Lv p b) c):(b=false/\c= .nilFunc)\/(b=true/\ ∃g x y,c= .func g x y):=by
 cases b
 · have h':aZ ρ .nilFunc c:=h
   cases h'
   exact .inl ⟨rfl,rfl⟩
 · obtain⟨g,x,y⟩:=p
   have h':aZ ρ (.func g x.toArray y.toArray) c:=h
   cases h' with
   |func _ _ _ a' b' _ _=>exact .inr ⟨rfl,g,_,_,rfl⟩
theorem Vv{P:Program}(w:World){t:TypeId}{a b:Array TypeId}{v:Bool}(ht:P.underlying t=some (.func a b v)):
   (binOp .neq t .nilFunc .nilFunc).run P w= .ok (.bool false) w:=by
 have h:∀d:Nat,(Op.equalIn (d+1) t .nilFunc .nilFunc).run P w= .ok true w:=fun d=>by
   simp[Op.equalIn,run_underlying ht]
 simp only[binOp]
 simp[Op.equal,Op.maxDepth,h 9999]
theorem Vm{P:Program}(w:World){t:TypeId}{a b:Array TypeId}{v:Bool}(ht:P.underlying t=some (.func a b v))(g:Fn)(x y:Array Value):
   (binOp .neq t (.func g x y) .nilFunc).run P w= .ok (.bool true) w:=by
 have h:∀d:Nat,(Op.equalIn (d+1) t (.func g x y) .nilFunc).run P w= .ok false w:=fun d=>by
   simp[Op.equalIn,run_underlying ht]
 simp only[binOp]
 simp[Op.equal,Op.maxDepth,h 9999]
section
variable{P:Program} [aW P]{n:Nat}{f:Fr}{H:ag}{d:Option Tmp}{x:Operand}{T T' T'':TypeId}{ps:String}{af:Array Edge}
theorem Yg{p:G8}{b:Bool}{ta tb:Array TypeId}{tv:Bool}(hT:P.underlying T=some (.func ta tb tv))(hx:EV n f x (Lv p b)):cK P n ⟨d,.binOp .neq T x (.const .nilFunc) T',T'',ps,af,none⟩ f H (.bool b):=by
 intro ρ w a _ hf
 have he:a.eval (.const .nilFunc)= .nilFunc:=rfl
 rcases XF (hx.use hf)with⟨rfl,hc⟩|⟨rfl,g,u,v,hc⟩
 · exact⟨.bool false,by simp[execOp,hc,he,eqGuard,Vv w hT],.bool _⟩
 · exact⟨.bool true,by simp[execOp,hc,he,eqGuard,Vm w hT g u v],.bool _⟩
end
end Go.Fw
/-
 Fields of values, and slices of readable slices.
-/
set_option linter.unusedVariables false
namespace Go.Fw
open Go Go.RowKit
section
variable{P:Program} [aW P]{n:Nat}{f:Fr}{H:ag}{d:Option Tmp}{x y:Operand}{T T' E Tf:TypeId}{ps:String}{af:Array Edge}
theorem II{l m s:Nat}{p:Option Addr}{kk:IntKind}{i:Int}(hT:SL P T E)(hs:SZ P E s)(hx:EV n f x (.slice p l m))(hy:EV n f y (.int kk i))(h0:0<=i)(hi:i<=(l:Int))(hd:l=0\/ ∃(k i0:Nat)(b:df),p=some ⟨k,i0,none⟩/\H[k]?=some (some b)):
   cK P n ⟨d,.slice T x none (some y) none,T',ps,af,none⟩ f H (.slice p i.toNat 0):=by
 intro ρ w a hr hf
 have hyv:a.eval y= .int kk i:=(hy.use hf).int_inv
 have hu:P.underlying T=some (.slice E):=hT
 have he:P.elem T=E:=by simp[Program.elem,hu]
 have hu2:P.underlying T=some (.slice (P.elem T)):=by rw[he]; exact hu
 have key:∀(q:Option Addr)(cap:Nat),i<=(cap:Int)->a.eval x= .slice q l cap->(execOp a.eval ⟨d,.slice T x none (some y) none,T',ps,af,none⟩).run P w= .ok (.value (sliced q 0 i.toNat cap s)) w:=fun q cap hcap hc=>by
   have hrun:=run_slice_h (P:=P) w T q l cap hu2 kk i h0 (by omega)
   rw[he,hs.run,Result.andThen]at hrun
   have h2':=run_sliceAt_slice (P:=P) w T (.slice q l cap) none (some (.int kk i)) none hu2
   simp[execOp,hc,hyv,h2',hrun]
 have hq:∀(p:Addr)(cap:Nat),sliced (some p) 0 i.toNat cap s= .slice (some p) i.toNat cap:=fun p cap=>by
   unfold sliced
   simp[Addr.add]
 have hrx:=hx.use hf
 generalize hc:a.eval x=c at hrx
 cases hrx with
 |nilSlice=>
   refine⟨_,key none 0 hi hc,?_⟩
   have:i.toNat=0:=by omega
   rw[this]
   simp[sliced]
   exact .nilSlice
 |slice k i0 n m L p cap h hcp h1 h2 hp=>
   refine⟨_,key (some p) cap (by omega) hc,?_⟩
   rw[hq]
   exact aZ.slice k i0 _ 0 L p _ h (by omega) (by simp) (by simp) (fun h'=>by
     obtain⟨a1,a2⟩:=hp (by omega)
     exact⟨a1,fun ho=>by have:=a2 ho; omega⟩)
 |sliceDead k i0 n m p cap h=>
   rcases hd with rfl|⟨k',i1,b,e,hk⟩
   · refine⟨_,key (some p) cap (by omega) hc,?_⟩
     rw[hq]
     have:i.toNat=0:=by omega
     rw[this]
     exact aZ.sliceDead k i0 _ 0 p _ h
   · obtain⟨rfl,rfl⟩:k=k'/\i0=i1:=by simpa using e
     obtain⟨L,p',cap',hl',-⟩:=(hx.use hf).slice_inv hr hk
     rw[h]at hl'; simp at hl'
end
section
variable{P:Program} [aW P]{n:Nat}{f:Fr}{H0:ag}{F0:List Nat}{cs:List ah}{A:Array Oper}{r:List Oper}{K:Fr->List ah->Prop}{d:Option Tmp}{x y:Operand}{T T' E:TypeId}{ps:String}{af:Array Edge}{α:Type}{R:ag->Value->α->Prop}{xs:List α}{v:Value}
theorem Wo [dA R]{s:Nat}{kk:IntKind}{i:Int}(hT:SL P T E)(hs:SZ P E s)(hx:EV n f x v)(hy:EV n f y (.int kk i))(hm:Mem (dR (b_ E R) v xs) cs)(h0:0<=i)(hi:i<=(xs.length:Int))
   (h:∀w:Sv,aU P n H0 F0 A r (put f d w.v) (dR (b_ E R) w.v (xs.take i.toNat)::cs) K):aU P n H0 F0 A (⟨d,.slice T x none (some y) none,T',ps,af,none⟩::r) f cs K:=by
 intro H hc
 have hr:b_ E R H v xs:=hc.mem hm
 have hr':=hr
 rcases hr' with⟨rfl,rfl⟩|⟨k,i0,m,b,rfl,h1,h2,h3,h4,hL,h6⟩|⟨k,i0,m,rfl,rfl⟩
 · have:i.toNat=0:=by simp at hi; omega
   refine rV (II hT hs hx hy h0 hi (.inl rfl)) (h ⟨none,i.toNat,0⟩ H (hc.dup (c:=dR (b_ E R) (.slice none i.toNat 0) _) ?_ rfl))
   exact .inl ⟨by rw[this],by simp⟩
 · refine rV (II hT hs hx hy h0 hi (.inr ⟨k,i0,b,rfl,h1⟩)) (h ⟨some ⟨k,i0,none⟩,i.toNat,0⟩ H (hc.dup (c:=dR (b_ E R) (.slice (some ⟨k,i0,none⟩) i.toNat 0) _) ?_ rfl))
   have e:(xs.take i.toNat).length=i.toNat:=by rw[List.length_take]; omega
   exact .inr (.inl ⟨k,i0,0,b,by rw[e],h1,h2,h3,by omega,by omega,fun j a hj=>h6 j a (by
     rw[List.getElem?_take]at hj
     split at hj
     · exact hj
     · simp at hj)⟩)
 · have:i.toNat=0:=by simp at hi; omega
   refine rV (II hT hs hx hy h0 hi (.inl rfl)) (h ⟨some ⟨k,i0,none⟩,i.toNat,0⟩ H (hc.dup (c:=dR (b_ E R) (.slice (some ⟨k,i0,none⟩) i.toNat 0) _) ?_ rfl))
   exact .inr (.inr ⟨k,i0,0,by rw[this],by simp⟩)
end
end Go.Fw
/-
 Drawn regions: elements of an own slice are read and stored.
-/
set_option linter.unusedVariables false
namespace Go.Fw
open Go Go.RowKit
section
variable{P:Program} [aW P]{n:Nat}{l:List Oper}{tb az:List Nat}{H0:ag}{F0:List Nat}{K:Fr->List ah->Prop}{cs:List ah}{f:Fr}{i:Nat}{r:List Nat}{fl:List (Nat×List Nat)}{d:Option Tmp}{T E T':TypeId}{ps:String}{af:Array Edge}{gd:Option (Nat×Bool)}{v:Value}{x y:Operand}{α:Type}{Ro:List Nat->ag->Value->α->Prop}{xs:List α}{s:Nat}
end
section
variable{P:Program} [aW P]{n:Nat}{f:Fr}{H:ag}{d:Option Tmp}{x:Operand}{T:TypeId}{ps:String}{af:Array Edge}
theorem zh{v:Value}{q:Addr}(hv:v= .pointer (some q))(hx:EV n f x v):cK P n ⟨d,.nilCheck x,T,ps,af,none⟩ f H v:=fun ρ _ a _ hf=>by
 subst hv
 have h:=hx.use hf
 have:∃p,a.eval x= .pointer (some p):=by
   generalize a.eval x=u at h
   cases h<;>exact⟨_,rfl⟩
 obtain⟨p,hp⟩:=this
 exact⟨a.eval x,by simp[execOp,hp],h⟩
end
end Go.Fw
/-
 Library functions that hand back strings: what the shelf's contracts say, at the abstract heap.
-/
set_option linter.unusedVariables false
namespace Go.Fw
open Go Go.RowKit
section
variable{P:Program} [aW P]{ρ:bA}{H:ag}{w:World}
theorem Rel.ofBelow{w':World}(h:Rel P ρ H w)(hb:Below w.heap.size w w'):Rel P ρ H w':=by
 constructor
 · intro k L hk
   obtain⟨b,hbk,hr⟩:=h.blk k L hk
   exact⟨b,hbk,hr.of_same (Up.refl ρ) (hb.block _ (h.lt hk))⟩
 · exact h.alive
 · exact h.dom
 · exact h.inj
 · exact h.vok.keep hb.size (fun b hb' _=>hb.block b hb') fun _ _ hk _=>.inl hk
theorem Step.ofBelow{w':World}(hb:Below w.heap.size w w'):Step ρ H w ρ H w' where
 up:=Up.refl ρ
 os:=hb.os
 output:=hb.output
 tape:=hb.tape
 size:=hb.size
 frame b hb' _:=hb.block b hb'
 fresh _ _ h:=.inl h
 len:=Nat.le_refl _
 hold k hk hn:=⟨hn,rfl⟩
theorem below_grow(w:World)(k:Nat)(os:Array Obj):Below w.heap.size w (Sort.grow (w.drewN k) os):=
 ⟨rfl,rfl,rfl,by simp[Sort.grow,World.drewN],fun j hj=>by
   show (w.heap++os)[j]?=_
   rw[Array.getElem?_append_left hj]⟩
theorem iW.var{name:String}{cs:Array Value}(hV:∀w0,aW.V P w0->w0.var? P name=some cs)(h:iW P ρ w):w.var? P name=some cs:=by
 obtain⟨w0,h1,h2,h3,-⟩:=h
 have:=hV w0 h1
 unfold World.var? at this ⊢
 cases hg:P.globalNamed name with
 |none=>rw[hg]at this; simp at this
 |some g=>
   rw[hg,Option.bind_some]at this
   rw[Option.bind_some]
   have hlt:g<w0.heap.size:=by
     rcases Nat.lt_or_ge g w0.heap.size with h|h
     · exact h
     · rw[Array.getElem?_eq_none h]at this; simp at this
   rw[h3 g hlt]
   exact this
theorem WF{g:FuncId}{n:Int}(h:∀w,(∃ρ,iW P ρ w)->Calls P g #[.int .i64 n] w fun e w'=>e= .returned (.string ⟨(Lib.itoa n).toArray⟩)/\ ∃k os,w'=Sort.grow (w.drewN k) os):
   Fw.Spec P g [.int .i64 n] [] (fun _:Unit=>sv (Lib.itoa n)) (fun _=>[]):=by
 intro H F0 dX ρ w fM hr hargs
 obtain⟨l⟩:=fM
 cases hargs with
 |cons _ c _ _ hc t=>
   cases t
   obtain rfl:=hc.int_inv
   refine (h w ⟨ρ,hr.vok⟩).mono ?_
   rintro e w' ⟨rfl,k,os,rfl⟩
   have hb:=below_grow w k os
   exact⟨_,_,ρ,H,rfl,.string _,hr.ofBelow hb,Step.ofBelow hb,(),rfl,dX⟩
theorem WG{g:FuncId}{E:TypeId}{v:Value}{xs:List (List UInt8)}{sep:List UInt8}(hs:SZ P E 1)
   (h1:∀(a:Option Addr)(c:Nat)(s:ByteArray) w,Calls P g #[.slice a 0 c,.string s] w fun e w'=>e= .returned (.string ⟨#[]⟩)/\w'=w)
   (h2:∀bk o c (ys:List ByteArray)(s:ByteArray) w,(∀(j:Nat) x,ys[j]?=some x->w.cell? ⟨bk,o+j,none⟩=some (.string x))->bk<w.heap.size->ys.length<=140737488355328->ys.length<=c->
     (Lib.join (ys.map (·.data.toList)) s.data.toList).length<=140737488355328->Calls P g #[.slice (some ⟨bk,o,none⟩) ys.length c,.string s] w fun e w'=>e= .returned (.string ⟨(Lib.join (ys.map (·.data.toList)) s.data.toList).toArray⟩)/\Below w.heap.size w w')
   (hN:xs.length<4294967296) (hlen:(Lib.join xs sep).length<4294967296):
   Fw.Spec P g [v,sv sep] [dR (b_ E rdStr) v xs] (fun _:Unit=>sv (Lib.join xs sep)) (fun _=>[]):=by
 intro H F0 dX ρ w fM hr hargs
 obtain⟨l⟩:=fM
 have hnil:xs=[]->Lib.join xs sep=[]:=fun h=>by subst h; rfl
 have hdone:∀w',Below w.heap.size w w'-> ∃x0 r ρ' H',Ending.returned (sv (Lib.join xs sep))= .returned x0/\aZ ρ' r x0/\Rel P ρ' H' w'/\Step ρ H w ρ' H' w'/\ ∃x:Unit,r=sv (Lib.join xs sep)/\Ctx H F0 H' []:=fun w' hb=>
   ⟨_,_,ρ,H,rfl,.string _,hr.ofBelow hb,Step.ofBelow hb,(),rfl,dX.sublist (List.nil_sublist _)⟩
 cases hargs with
 |cons _ c _ _ hc t=>
   cases t with
   |cons _ c2 _ _ hc2 t=>
     cases t
     obtain rfl:=hc2.sv_inv
     have hemp:∀a cap,c= .slice a 0 cap->xs=[]->Calls P g #[c,sv sep] w fun e w'=>∃x0 r ρ' H',e= .returned x0/\aZ ρ' r x0/\Rel P ρ' H' w'/\Step ρ H w ρ' H' w'/\ ∃x:Unit,r=sv (Lib.join xs sep)/\Ctx H F0 H' []:=by
       intro a cap e hx
       subst e
       refine (h1 a cap _ w).mono ?_
       rintro e w' ⟨rfl,rfl⟩
       have:=hdone w' (Below.refl _ _)
       rw[hnil hx]at this ⊢
       exact this
     have hrd:b_ E rdStr H v xs:=dX.hold (dR (b_ E rdStr) v xs) (by simp)
     rcases hrd with⟨rfl,hx⟩|⟨k,i,m,b,rfl,g2,g3,g4,g5,g6,g7⟩|⟨k,i,m,rfl,hx⟩
     · cases hc
       exact hemp none 0 rfl hx
     · obtain⟨L,p,cap,hl,hbr,rfl,hcap,-,-,hp⟩:=hc.slice_inv hr g2
       by_cases hx:xs.length=0
       · have hx':=List.length_eq_zero_iff.1 hx
         exact hemp (some p) cap (by rw[hx]) hx'
       have G9:=hp hx
       have pI:L.sz=1:=by rw[←hbr.sz,g4,hs.cells]
       obtain⟨cs,ct,fr,wF,hel,-⟩:=hbr.cells
       have hmap:(xs.map fun l=>(⟨l.toArray⟩:ByteArray)).map (·.data.toList)=xs:=by
         rw[List.map_map]
         exact List.map_id' xs
       have hl2:(xs.map fun l=>(⟨l.toArray⟩:ByteArray)).length=xs.length:=by simp
       have:=h2 L.blk (L.off+i) cap (xs.map fun l=>(⟨l.toArray⟩:ByteArray)) ⟨sep.toArray⟩ w (fun j x hj=>by
         rw[List.getElem?_map]at hj
         cases hxj:xs[j]? with
         |none=>rw[hxj]at hj; simp at hj
         |some a=>
           rw[hxj]at hj
           obtain rfl:(⟨a.toArray⟩:ByteArray)=x:=by simpa using hj
           obtain⟨e,he,hr'⟩:=g7 j a hxj
           have hr2:e=sv a:=hr'
           subst hr2
           have:=(hel (i+j) _ he).2
           rw[pI,Nat.mul_one,←Nat.add_assoc]at this
           obtain⟨c0,q1,q2⟩:=this.get 0 _ rfl
           have q3:=q2.sv_inv
           subst q3
           rw[xC wF]
           rw[List.getElem?_take_of_lt (by omega),List.getElem?_drop,Nat.add_zero,Array.getElem?_toList]at q1
           exact q1) (hr.lt hl) (by rw[hl2]; omega) (by rw[hl2]; exact hcap) (by rw[hmap]; show (Lib.join xs sep).length<=_; omega)
       rw[hl2,hmap]at this
       rw[G9,pI,Nat.mul_one]
       refine this.mono ?_
       rintro e w' ⟨rfl,hb⟩
       exact hdone w' hb
     · obtain⟨p,cap,rfl⟩:∃p cap,c= .slice (some p) 0 cap:=by
         cases hc with
         |slice _ _ _ _ L p cap=>exact⟨p,cap,rfl⟩
         |sliceDead _ _ _ _ p cap=>exact⟨p,cap,rfl⟩
       exact hemp (some p) cap rfl hx
end
section
variable{P:Program} [aW P]{n:Nat}{f:Fr}{d:Option Tmp}{x:Operand}{S T D E:TypeId}{ps:String}{af:Array Edge}{H:ag}{F:List Nat}{v:Value}{u:UInt8}
theorem IZ(hS:SL P S E)(hE:IK P E .u8)(hD:P.underlying D=some .string)(hs:SZ P E 1)(hx:EV n f x v)(hp:(bN (bL E (aK tT)) F v [u]).P H):cK P n ⟨d,.convert S D x,T,ps,af,none⟩ f H (sv [u]):=by
 have ho:bL E (aK tT) F H v [u]:=hp
 rcases ho with⟨-,h,-⟩|⟨k,m,b,G,rfl,hm,h3,h4,h5,h6,h7,rfl,h9⟩
 · simp at h
 intro ρ w a hr hf
 obtain⟨L,p,cap,hl,hbr,hc,hcap,-,-,hp2⟩:=(hx.use hf).slice_inv hr h3
 have G9:=hp2 (by simp)
 rw[Nat.zero_mul,Nat.add_zero]at G9
 have hcz:P.cellsOf b.ty=1:=by rw[h6]; exact hs.cells
 obtain⟨e,F1,Fj,F2,g1,-,g3,-⟩:=h9.at (j:=0) rfl
 have g4:e= .int .u8 (u.toNat:Int):=g3.2
 subst g4
 have pI:L.sz=1:=by rw[←hbr.sz,hcz]
 obtain⟨cs,ct,fr,wF,hel,-⟩:=hbr.cells
 have:=(hel 0 _ g1).2
 rw[Nat.zero_mul,Nat.add_zero,pI]at this
 obtain⟨c0,q1,q2⟩:=this.get 0 _ rfl
 have q3:=q2.int_inv
 subst q3
 rw[List.getElem?_take_of_lt (by omega),List.getElem?_drop,Nat.add_zero,Array.getElem?_toList]at q1
 obtain⟨hlt,hv⟩:=Array.getElem?_eq_some_iff.1 q1
 have hrun:=run_loadCells P wF 1 (o:=L.off) (Nat.succ_le_of_lt hlt)
 have hd:(cs.toList.drop L.off).take 1=[Value.int .u8 (u.toNat:Int)]:=by
   rw[List.drop_eq_getElem_cons (by simpa using hlt)]
   simp[hv]
 rw[hd]at hrun
 have hu:P.underlying S=some (.slice E):=hS
 have hue:P.underlying E=some (.int .u8):=hE
 have hcv:(Conv.bytesToString (.slice (some p) 1 cap)).run P w= .ok (sv [u]) w:=by
   subst G9
   simp[Conv.bytesToString,hrun,sv]
   rfl
 refine⟨sv [u],?_,.string _⟩
 have hc1:a.eval x= .slice (some p) 1 cap:=hc
 simp[execOp,hc1,Go.convert,underlying,hu,hD,hue,hcv]
end
end Go.Fw
namespace Go.Fw
open Go
section
variable{P:Program} [aW P]{n:Nat}{f:Fr}{H:ag}{d:Option Tmp}{x:Operand}{T T':TypeId}{ps:String}{af:Array Edge}
theorem QX{k:IntKind}{i:Int}(hx:EV n f x (.int k i)):cK P n ⟨d,.unOp .neg T x,T',ps,af,none⟩ f H (.int k (k.wrap (-i))):=
 fun ρ _ a _ hf=>⟨_,by simp[execOp,(hx.use hf).int_inv,Op.unary,Op.intArith],.int _ _⟩
end
end Go.Fw
/-
 Library functions that cut and read texts: what the shelf's contracts say, at the abstract heap.
-/
set_option linter.unusedVariables false
namespace Go.Fw
open Go Go.RowKit
def qD(T:TypeId)(k:Nat)(ok:Bool):Value:=bif ok then .nilIface else .iface T (.pointer (some ⟨k,0,none⟩))
section
variable{P:Program} [aW P]{n:Nat}{f:Fr}{H:ag}{d:Option Tmp}{x:Operand}{T T' T'' E:TypeId}{ps:String}{af:Array Edge}
theorem Xc{ρ:bA}{k:Nat}{b:Bool}{c:Value}(h:aZ ρ (qD E k b) c):(b=true/\c= .nilIface)\/(b=false/\ ∃v,c= .iface E v):=by
 cases b
 · have h':aZ ρ (.iface E (.pointer (some ⟨k,0,none⟩))) c:=h
   cases h' with
   |iface _ _ v' _=>exact .inr ⟨rfl,v',rfl⟩
 · have h':aZ ρ .nilIface c:=h
   cases h'
   exact .inl ⟨rfl,rfl⟩
theorem XG{k:Nat}{b:Bool}(hT:P.underlying T=some (.interface (P.methodsAt T)))(hx:EV n f x (qD E k b)):cK P n ⟨d,.binOp .neq T x (.const .nilIface) T',T'',ps,af,none⟩ f H (.bool (!b)):=by
 intro ρ w a _ hf
 have he:a.eval (.const .nilIface)= .nilIface:=rfl
 rcases Xc (hx.use hf)with⟨rfl,hc⟩|⟨rfl,v,hc⟩
 · exact⟨.bool false,by simp[execOp,hc,he,eqGuard,run_neq_nil_nil w T hT],.bool _⟩
 · exact⟨.bool true,by simp[execOp,hc,he,eqGuard,run_neq_held_nil w T E v hT],.bool _⟩
end
section
variable{P:Program} [aW P]
theorem iW.varE{ρ:bA}{w:World}{name:String}(hV:∀w0,aW.V P w0-> ∃tp p,w0.var? P name=some #[.iface tp p])(h:iW P ρ w):∃tp p,w.var? P name=some #[.iface tp p]:=by
 obtain⟨w0,h1,h2,h3,-⟩:=h
 obtain⟨tp,p,this⟩:=hV w0 h1
 refine⟨tp,p,?_⟩
 unfold World.var? at this ⊢
 cases hg:P.globalNamed name with
 |none=>rw[hg]at this; simp at this
 |some g=>
   rw[hg,Option.bind_some]at this
   rw[Option.bind_some]
   have hlt:g<w0.heap.size:=by
     rcases Nat.lt_or_ge g w0.heap.size with h|h
     · exact h
     · rw[Array.getElem?_eq_none h]at this; simp at this
   rw[h3 g hlt]
   exact this
theorem QB{s:List UInt8}(ρ:bA)(c:List Value)(h:aV ρ [sv s] c):c=[sv s]:=by
 cases h with
 |cons _ c _ _ hc t=>cases t; rw[hc.sv_inv]
theorem Yh{s t:List UInt8}(ρ:bA)(c:List Value)(h:aV ρ [sv s,sv t] c):c=[sv s,sv t]:=by
 cases h with
 |cons _ c _ _ hc h=>rw[hc.sv_inv,QB ρ _ h]
theorem WH{g:FuncId}{T:TypeId}{s:List UInt8}{r:Int×Bool}
   (h:∀w,(∃ρ,iW P ρ w)->Calls P g #[sv s] w fun e w'=>Below w.heap.size w w'/\((r.2=true/\e= .returned (.tuple #[.int .i64 r.1,.nilIface]))\/(r.2=false/\ ∃N,e= .returned (.tuple #[.int .i64 r.1,.iface T (.pointer (some ⟨N,0,none⟩))])))):
   Fw.Spec P g [sv s] [] (fun k:Nat=>.tuple [.int .i64 r.1,qD T k r.2].toArray) (fun _=>[]):=by
 intro H F0 dX ρ w fM hr hargs
 obtain⟨l⟩:=fM
 obtain rfl:=QB ρ l hargs
 refine (h w ⟨ρ,hr.vok⟩).mono ?_
 rintro e w' ⟨hb,⟨h1,rfl⟩|⟨h1,N,rfl⟩⟩
 · exact⟨_,.tuple [.int .i64 r.1,.nilIface].toArray,ρ,H,rfl,.tuple _ [.int .i64 r.1,.nilIface] (.cons _ _ _ _ (.int _ _) (.cons _ _ _ _ .nilIface .nil)),hr.ofBelow hb,Step.ofBelow hb,0,by rw[h1]; rfl,dX⟩
 · have g1:=(hr.ofBelow hb).dead
   have hi2:eH H (H++[none]):=fun k x hx _=>by
     rw[List.getElem?_append_left (kU hx)]; exact hx
   refine⟨_,.tuple [.int .i64 r.1,.iface T (.pointer (some ⟨H.length,0,none⟩))].toArray,_,_,rfl,
     .tuple _ [.int .i64 r.1,.iface T (.pointer (some ⟨N,0,none⟩))] (.cons _ _ _ _ (.int _ _) (.cons _ _ _ _ (.iface _ _ _ (.ptrDead _ _ _ _ (dH _ _ _))) .nil)),g1,?_,H.length,by rw[h1]; rfl,?_⟩
   · exact {
       up:=Cy hr none
       os:=hb.os
       output:=hb.output
       tape:=hb.tape
       size:=hb.size
       frame:=fun b hb' _=>hb.block b hb'
       fresh:=fun k L hk=>by
         by_cases e:k=H.length
         · subst e; rw[dH]at hk; simp at hk
         · rw[bO _ _ e]at hk; exact .inl hk
       len:=by simp
       hold:=fun k hk hn=>⟨by rw[bO _ _ (by omega)]; exact hn,by rw[List.getElem?_append_left hk]⟩}
   · exact dX.step (pre:=[]) (rest:=[]) (post:=[]) (by simp) hi2 (fun k hk _=>List.getElem?_append_left hk) (fun c hc=>by simp at hc) (by simp[foot]) (fun k hk=>by simp[foot]at hk)
end
end Go.Fw
/-
 strings.Split and stringslite.Index at a separator of one byte, over any program and any numbering.
-/
set_option linter.unusedVariables false
namespace Go.Fw
open Go Go.RowKit Go.Shelf Go.Proofs
section
variable{P:Program}{ρ:Ren}
theorem xE(s:List UInt8):(⟨s.toArray⟩:ByteArray).data.toList=s:=by simp
theorem rZ(s:List UInt8):(⟨s.toArray⟩:ByteArray).size=s.length:=by simp[ByteArray.size]
end
end Go.Fw
namespace Go.Fw
open Go
theorem Yi{s t:List UInt8}{i j:Int}(ρ:bA)(c:List Value)(h:aV ρ [sv s,sv t,.int .i64 i,.int .i64 j] c):c=[sv s,sv t,.int .i64 i,.int .i64 j]:=by
 cases h with
 |cons _ c _ _ hc h=>
   cases h with
   |cons _ c2 _ _ hc2 h=>
     cases h with
     |cons _ c3 _ _ hc3 h=>
       cases h with
       |cons _ c4 _ _ hc4 h=>
         cases h
         rw[hc.sv_inv,hc2.sv_inv,hc3.int_inv,hc4.int_inv]
end Go.Fw
/-
 strings.Split and stringslite.Index at any separator that is not empty, over any program and any numbering.
-/
set_option linter.unusedVariables false
namespace Go.Fw
open Go Go.RowKit Go.Shelf Go.Proofs
section
variable{P:Program} [aW P]
theorem iW.cellI{ρ:bA}{w:World}{g:Nat}(hV:∀w0,aW.V P w0-> ∃m,w0.cell? ⟨g,0,none⟩=some (.int .i64 m))(h:iW P ρ w):∃m,w.cell? ⟨g,0,none⟩=some (.int .i64 m):=by
 obtain⟨w0,h1,h2,h3,-⟩:=h
 obtain⟨m,this⟩:=hV w0 h1
 refine⟨m,?_⟩
 have hlt:g<w0.heap.size:=by
   rcases Nat.lt_or_ge g w0.heap.size with h|h
   · exact h
   · unfold World.cell? at this
     rw[Array.getElem?_eq_none h]at this; simp at this
 unfold World.cell? at this ⊢
 dsimp only at this ⊢
 rw[h3 g hlt]
 exact this
theorem VM{g:FuncId}{vs:List Value}{r:Value}(hi:∀ρ c,aV ρ vs c->c=vs)(hrel:∀ρ,aZ ρ r r)(h:∀w,(∃ρ,iW P ρ w)->Calls P g vs.toArray w fun e w'=>e= .returned r/\Below w.heap.size w w'):
   Fw.Spec P g vs [] (fun _:Unit=>r) (fun _=>[]):=by
 intro H F0 dX ρ w fM hr hargs
 obtain⟨l⟩:=fM
 obtain rfl:=hi ρ l hargs
 refine (h w ⟨ρ,hr.vok⟩).mono ?_
 rintro e w' ⟨rfl,hb⟩
 exact⟨_,_,ρ,H,rfl,hrel ρ,hr.ofBelow hb,Step.ofBelow hb,(),rfl,dX⟩
theorem VN{g:FuncId}{E:TypeId}{vs:List Value}{ys:List (List UInt8)}(hi:∀ρ c,aV ρ vs c->c=vs)(hs:SZ P E 1)(hl:ys.length<4294967296)
   (h:∀w,(∃ρ,iW P ρ w)->Calls P g vs.toArray w fun e w'=>e= .returned (.slice (some ⟨w.heap.size,0,none⟩) ys.length ys.length)/\w'=w.alloc (.cells (ys.map sv).toArray E)):
   Fw.Spec P g vs [] (fun p:Sv=>p.v) (fun p=>[dR (b_ E rdStr) p.v ys]):=by
 intro H F0 dX ρ w fM hr hargs
 obtain⟨l⟩:=fM
 obtain rfl:=hi ρ l hargs
 refine (h w ⟨ρ,hr.vok⟩).mono ?_
 rintro e w' ⟨rfl,rfl⟩
 have hcell:∀(i:Nat) e,(ys.map sv)[i]?=some e->e.cells.size=1/\aV ρ e.cells.toList ((((ys.map sv).toArray).toList.drop (i*1)).take 1):=fun i e he=>by
   rw[List.getElem?_map]at he
   obtain⟨y,hy,rfl⟩:=Option.map_eq_some_iff.1 he
   refine⟨rfl,?_⟩
   have hlt:=(List.getElem?_eq_some_iff.1 hy).1
   have e1:((ys.map sv).toArray.toList.drop (i*1)).take 1=[sv y]:=by
     rw[Nat.mul_one,List.drop_eq_getElem_cons (by simpa using hlt)]
     have:=(List.getElem?_eq_some_iff.1 hy).2
     simp[this]
   rw[e1]
   exact .cons _ _ _ _ (.string _) .nil
 have h1:=Rel.push (w':=w.alloc (.cells (ys.map sv).toArray E)) (g:=false) (cap:=ys.length) (es:=ys.map sv) hr rfl hs.cells hcell (by simp) (by simp)
 have h2:Step ρ H w _ (H++[some ⟨ys.map sv,E,true,false⟩]) (w.alloc (.cells (ys.map sv).toArray E)):=Step.push (sz:=1) (cap:=ys.length) hr rfl rfl rfl rfl
 have hi2:eH H (H++[some ⟨ys.map sv,E,true,false⟩]):=fun k x hx _=>by
   rw[List.getElem?_append_left (kU hx)]; exact hx
 refine⟨_,.slice (some ⟨H.length,0,none⟩) ys.length 0,_,_,rfl,?_,h1,h2,⟨(some ⟨H.length,0,none⟩),ys.length,0⟩,rfl,?_⟩
 · refine .slice H.length 0 ys.length 0 ⟨w.heap.size,0,1,ys.length,true⟩ _ ys.length (dH _ _ _) (Nat.le_refl _) (by simp) (by simp) fun _=>⟨by simp,by simp⟩
 · have:=dX.step (pre:=[]) (rest:=[]) (post:=[dR (b_ E rdStr) (.slice (some ⟨H.length,0,none⟩) ys.length 0) ys]) (H':=H++[some ⟨ys.map sv,E,true,false⟩]) (by simp) hi2 (fun k hk _=>List.getElem?_append_left hk) (fun c hc=>?_) (by simp[foot,dR]) (fun k hk=>by simp[foot,dR]at hk)
   · exact this
   · rw[List.mem_singleton]at hc
     subst hc
     refine .inr (.inl ⟨H.length,0,0,⟨ys.map sv,E,true,false⟩,rfl,by simp,rfl,rfl,by simp,by omega,fun j a hj=>⟨sv a,?_,rfl⟩⟩)
     rw[Nat.zero_add,List.getElem?_map,hj]; rfl
end
section
variable{P:Program}{ρ:Ren}
theorem Vw(L:Lays.n219 P ρ)(s sep:List UInt8)(m:Int)(w:World)(hs:s.length<4294967281)(hm:w.cell? ⟨(ρ.g 1),0,none⟩=some (.int .i64 m)):Calls P (ρ.f 219) #[sv s,sv sep] w fun e w'=>e= .returned (.int .i64 (Lib.index s sep))/\Below w.heap.size w w':=by
 refine (Go.Proofs.Any.stringslite_Index L ⟨s.toArray⟩ ⟨sep.toArray⟩ m w (by rw[rZ]; exact hs) hm).mono ?_
 rintro e w' ⟨rfl,rfl⟩
 exact⟨by rw[xE,xE],Below.refl _ _⟩
theorem Vx(L:Lays.n221 P ρ)(hi9:(P.info? (ρ.t 9)).map (fun i=>(i.zero,i.size,i.bytes))=some (some (.string ByteArray.empty),1,16))(s sep:List UInt8)(m:Int)(hs:s.length<4294967281)(h1:1<=sep.length)(w:World)(hm:w.cell? ⟨(ρ.g 1),0,none⟩=some (.int .i64 m)):
   Calls P (ρ.f 221) #[sv s,sv sep,.int .i64 0,.int .i64 (-1)] w fun e w'=>e= .returned (.slice (some ⟨w.heap.size,0,none⟩) (Lib.split s sep).length (Lib.split s sep).length)/\w'=w.alloc (.cells ((Lib.split s sep).map sv).toArray (ρ.t 9)):=by
 have h1':1<=(⟨sep.toArray⟩:ByteArray).size:=by rw[rZ]; exact h1
 have hle:=Lib.countB_le ⟨sep.toArray⟩ h1' _ ⟨s.toArray⟩ (Nat.le_refl _)
 have hlen:=Lib.splitB_all ⟨sep.toArray⟩ h1' 0 _ ⟨s.toArray⟩ rfl
 have:=Go.Proofs.Any.strings_genSplit L hi9 ⟨s.toArray⟩ ⟨sep.toArray⟩ 0 (-1) (Lib.countB ⟨s.toArray⟩ ⟨sep.toArray⟩+1) m w (by rw[rZ]; exact hs) hm h1' (Nat.zero_le _) (by decide) (by decide) (by rw[if_pos (by decide)]; omega)
 rw[Nat.add_sub_cancel,hlen]at this
 have e3:=Lib.splitB_data ⟨sep.toArray⟩ 0 (Lib.countB ⟨s.toArray⟩ ⟨sep.toArray⟩) ⟨s.toArray⟩
 have e4:Lib.split s sep=(Lib.splitB ⟨sep.toArray⟩ 0 (Lib.countB ⟨s.toArray⟩ ⟨sep.toArray⟩) ⟨s.toArray⟩).map (·.data.toList):=by
   rw[e3]
   show Lib.split s sep=Lib.splitK (⟨sep.toArray⟩:ByteArray).data.toList 0 (Lib.count (⟨s.toArray⟩:ByteArray).data.toList (⟨sep.toArray⟩:ByteArray).data.toList) (⟨s.toArray⟩:ByteArray).data.toList
   rw[xE,xE]; rfl
 have e2:Lib.cellsOf (Lib.splitB ⟨sep.toArray⟩ 0 (Lib.countB ⟨s.toArray⟩ ⟨sep.toArray⟩) ⟨s.toArray⟩) (Lib.countB ⟨s.toArray⟩ ⟨sep.toArray⟩+1)=((Lib.split s sep).map sv).toArray:=by
   rw[←hlen,Lib.cellsOf_full,e4,List.map_map]
   congr 1
 have e5:(Lib.split s sep).length=Lib.countB ⟨s.toArray⟩ ⟨sep.toArray⟩+1:=by
   rw[e4,List.length_map,hlen]
 rw[e2,←e5]at this
 exact this
end
section
variable{H:Type}{enc:TypeId×Value->H}
theorem Uj{a:Assume}{C:Checked}{os:Os}{f:FuncId}{fn:Func}{s:ChangeSpec}{conds:List PathCond}{apart fresh handsOn again:Bool}{X:World->Array Value->Prop}
   (hX:∀(w w':World)(args:Array Value),w.heap=w'.heap->X w args->X w' args)
   (own:ownKnob C.prog.godebug=none) (started:os.Started) (noInit:C.prog.inits.idxOf? f=none) (hfn:C.prog.funcs[f]?=some fn)
   (witness:∃(w:World)(tape:Tape)(i:Input),w.os=os/\(w.forCall tape i).Shaped C.prog/\i.vars=[]/\Input.okWide C.prog (w.forCall tape i) .any w.heap.size f i/\
     ((s.pre enc C.prog fn conds apart (w.forCall tape i).memory i.args/\X (w.forCall tape i).memory i.args)/\sizedMet enc C.prog fn (OpenSpec.ofChange s) apart (w.forCall tape i).memory i.args)/\a.holds C.prog (lone (Frame.enter C.prog f i.args .normal) [] (w.forCall tape i)))
   (contract:∀(W:World)(base:Nat)(args:Array Value)(ds gs:List (DataW H))(before:List MemPlace),
     (∀(j:Nat) t v,fn.params[j]?=some t->args[j]?=some v->Value.okWide C.prog W .any base t v)->
     DataW.Whole enc C.prog fn.params.toList s.vars apart W args.toList ds gs before->
     conds.all (PathCond.test C.prog ⟨fn.params.toList,ds,s.plain.varTypes C.prog,gs⟩)=true->
     (DataW.weightsEach C.prog (fn.params.toList++s.plain.varTypes C.prog) (ds++gs)).all (· <=reachBytes)=true->X W args->W.ShapedOpen C.prog->
     a.holds C.prog (lone (Frame.enter C.prog f args .normal) [] W)->
     Calls C.prog f args W fun e W'=>∃v,e= .returned v/\s.post enc C.prog fn apart fresh handsOn again W args v W'):
   ReturnsInHanded a C os f .any (fun w args=>(s.pre enc C.prog fn conds apart w args/\X w args)/\sizedMet enc C.prog fn (OpenSpec.ofChange s) apart w args) (s.post enc C.prog fn apart fresh handsOn again):=by
 refine returnsInHanded_of_calls own started noInit witness ?_
 intro w tape i _ hsh _ hok hpre hholds
 obtain⟨_,_,_,fn',hfn',_,_,_,_,hval⟩:=hok
 have e:fn'=fn:=Option.some.inj (hfn'.symm.trans hfn)
 subst e
 obtain⟨⟨⟨ds,gs,before,hw,hc⟩,hx⟩,hz⟩:=hpre
 have hw':=DataW.Whole.of_heap (w':=w.forCall tape i) (by rfl) hw
 refine (contract (w.forCall tape i) w.heap.size i.args ds gs before hval hw' hc (hz.weights hw) (hX _ _ _ (by rfl) hx) hsh hholds).mono fun e W' ⟨v,he,hp⟩=>?_
 subst he
 exact ChangeSpec.post_blind hp
end
end Go.Fw
/-
 strconv.Atoi, over any program and any numbering.
-/
set_option linter.unusedVariables false
namespace Go.Fw
open Go Go.RowKit Go.Shelf Go.Proofs
def tL(s:List UInt8):Int×Bool:=
 match Lib.atoiAll s with
 | .ok v=>(v,true)
 | .range=>(Lib.atoiSat s,false)
 |_=>(0,false)
section
variable{P:Program}{ρ:Ren}
theorem Wp(L:LaysC.n172 P ρ)(s:List UInt8)(hs:s.length<=281474976710656)(w:World)(h1:∃tp p,w.var? P "strconv.ErrSyntax" =some #[.iface tp p])(h2:∃tp p,w.var? P "strconv.ErrRange" =some #[.iface tp p]):
   Calls P (ρ.f 172) #[sv s] w fun e w'=>Below w.heap.size w w'/\(((tL s).2=true/\e= .returned (.tuple #[.int .i64 (tL s).1,.nilIface]))\/((tL s).2=false/\ ∃N,e= .returned (.tuple #[.int .i64 (tL s).1,.iface (ρ.t 168) (.pointer (some ⟨N,0,none⟩))]))):=by
 have hl:=xE s
 unfold tL
 cases h:Lib.atoiAll s with
 |ok v=>
   refine (Go.Proofs.Any.strconv_Atoi_ok L ⟨s.toArray⟩ (by rw[rZ]; omega) v (by rw[hl]; exact h) w).mono ?_
   rintro e w' ⟨rfl,hw⟩
   refine⟨?_,.inl ⟨rfl,rfl⟩⟩
   rcases hw with rfl|⟨t,rfl⟩
   · exact Below.refl _ _
   · exact Lib.bytesWorld_below _ _ _
 |range=>
   obtain⟨tp,p,hv⟩:=h2
   refine (Go.Proofs.Any.strconv_Atoi_range_var L ⟨s.toArray⟩ (by rw[rZ]; exact hs) (by rw[hl]; exact h) tp p w hv).mono ?_
   rintro e w' ⟨N,rfl,-,-,hb⟩
   exact⟨hb,.inr ⟨rfl,N,by rw[hl]⟩⟩
 |_=>
   obtain⟨tp,p,hv⟩:=h1
   refine (Go.Proofs.Any.strconv_Atoi_syntax_var L ⟨s.toArray⟩ (by rw[rZ]; exact hs) (by rw[hl]; exact h) tp p w hv).mono ?_
   rintro e w' ⟨N,rfl,-,-,hb⟩
   exact⟨hb,.inr ⟨rfl,N,rfl⟩⟩
end
end Go.Fw
/-
 Library functions on our own rows of integers: what the shelf's contracts say, at the abstract heap.
-/
set_option linter.unusedVariables false
namespace Go.Fw
open Go Go.Sort
section
variable{P:Program} [aW P]{ρ:bA}{H:ag}{w:World}
theorem Rel.grown{w':World}{os:Array Obj}(h:Rel P ρ H w)(hw:w'.heap=w.heap++os):Rel P ρ H w':=by
 have hs:∀b,b<w.heap.size->w'.heap[b]?=w.heap[b]?:=fun b hb=>by rw[hw,Array.getElem?_append_left hb]
 constructor
 · intro k L hk
   obtain⟨b,hb,hr⟩:=h.blk k L hk
   exact⟨b,hb,hr.of_same (Up.refl ρ) (hs _ (h.lt hk))⟩
 · exact h.alive
 · exact h.dom
 · exact h.inj
 · exact h.vok.keep (by rw[hw]; simp) (fun b hb _=>hs b hb) fun _ _ hk _=>.inl hk
theorem Step.grown{w':World}{os:Array Obj}(hw:w'.heap=w.heap++os)(h1:w'.os=w.os)(h2:w'.output=w.output)(h3:w'.tape=w.tape):Step ρ H w ρ H w' where
 up:=Up.refl ρ
 os:=h1
 output:=h2
 tape:=h3
 size:=by rw[hw]; simp
 frame b hb _:=by rw[hw,Array.getElem?_append_left hb]
 fresh _ _ h:=.inl h
 len:=Nat.le_refl _
 hold k hk hn:=⟨hn,rfl⟩
theorem Rel.row{k n:Nat}{L:Loc}{b:df}{zs ys:List Int}{os:Array Obj}(h:Rel P ρ H w)(hk:ρ k=some (some L))(hb:H[k]?=some (some b))(hown:b.own=true)(hsz:P.cellsOf b.ty=1)
   (hl:b.elems.length=zs.length) (hys:∀(i:Nat) y,ys[i]?=some y->zs[i]?=some y):
   Rel P ρ (H.set k (some ⟨ys.map (Value.int .i64),b.ty,true,b.wr⟩)) (grow (putRow (Value.int .i64) (Sort.ahead w n) L.blk L.off zs.toArray) os)/\
   Step ρ H w ρ (H.set k (some ⟨ys.map (Value.int .i64),b.ty,true,b.wr⟩)) (grow (putRow (Value.int .i64) (Sort.ahead w n) L.blk L.off zs.toArray) os):=by
 obtain⟨b',hb',hbr⟩:=h.blk k L hk
 rw[hb]at hb'
 obtain rfl:b=b':=by simpa using hb'
 have ho:L.own=true:=by rw[←hbr.own]; exact hown
 have pI:L.sz=1:=by rw[←hbr.sz,hsz]
 obtain⟨cs,ct,fr,wF,hel,hr2⟩:=hbr.cells
 obtain⟨hoff,vX,hlenL,hfr,rfl⟩:=hr2 ho
 have hlt:=h.lt hk
 have hyl:ys.length<=zs.length:=by
   rcases Nat.lt_or_ge zs.length ys.length with h'|h'
   · have:=hys zs.length ys[zs.length] (List.getElem?_eq_getElem h')
     rw[List.getElem?_eq_none (Nat.le_refl _)]at this; simp at this
   · exact h'
 have hzc:zs.length<=cs.size:=by rw[pI,Nat.mul_one]at vX; omega
 have SA:(putRow (Value.int .i64) (Sort.ahead w n) L.blk L.off zs.toArray).heap=w.heap.setIfInBounds L.blk (.cells (putCells (Value.int .i64) L.off zs.toArray cs) b.ty fr):=by
   show w.heap.modify L.blk (onCells (putCells (Value.int .i64) L.off zs.toArray))=_
   apply Array.ext_getElem?
   intro q
   rw[Array.getElem?_modify,Array.getElem?_setIfInBounds]
   by_cases e:L.blk=q
   · subst e
     rw[if_pos rfl,if_pos rfl,if_pos hlt,wF]; rfl
   · rw[if_neg e,if_neg e]
 have hsz':(putCells (Value.int .i64) L.off zs.toArray cs).size=cs.size:=by simp[putCells]
 have R1:Rel P ρ (H.set k (some ⟨ys.map (Value.int .i64),b.ty,true,b.wr⟩)) (putRow (Value.int .i64) (Sort.ahead w n) L.blk L.off zs.toArray):=by
   refine h.write (b:=b) (b':=⟨ys.map (Value.int .i64),b.ty,true,b.wr⟩) hk ho SA rfl rfl hbr.sz ?_ ⟨hoff,by rw[hsz']; exact vX,by simp only[List.length_map]; omega,by rw[hsz']; exact hfr⟩
   intro i e he
   rw[List.getElem?_map]at he
   cases hy:ys[i]? with
   |none=>rw[hy]at he; simp at he
   |some y=>
     rw[hy]at he
     obtain rfl:Value.int .i64 y=e:=by simpa using he
     have hz:=hys i y hy
     obtain⟨hi,hz'⟩:=List.getElem?_eq_some_iff.1 hz
     refine⟨pI ▸ rfl,?_⟩
     rw[hoff,pI,Nat.zero_add,Nat.mul_one]
     have hc:(putCells (Value.int .i64) 0 zs.toArray cs).toList.drop i=Value.int .i64 y::(putCells (Value.int .i64) 0 zs.toArray cs).toList.drop (i+1):=by
       rw[List.drop_eq_getElem_cons (by simp[putCells]; omega)]
       congr 1
       simp[putCells,hi,hz']
     rw[hc]
     exact .cons _ _ _ _ (.int _ _) .nil
 have S1:Step ρ H w ρ (H.set k (some ⟨ys.map (Value.int .i64),b.ty,true,b.wr⟩)) (putRow (Value.int .i64) (Sort.ahead w n) L.blk L.off zs.toArray):=
   Step.write hk ho SA rfl rfl rfl
 exact⟨R1.grown rfl,S1.trans (Step.grown rfl rfl rfl rfl)⟩
theorem Rel.holds{k:Nat}{L:Loc}{b:df}{zs:List Int}(h:Rel P ρ H w)(hk:ρ k=some (some L))(hb:H[k]?=some (some b))(hown:b.own=true)(hsz:P.cellsOf b.ty=1)
   (he:b.elems=zs.map (Value.int .i64)):Holds (Value.int .i64) w L.blk L.off zs.toArray:=by
 obtain⟨b',hb',hbr⟩:=h.blk k L hk
 rw[hb]at hb'
 obtain rfl:b=b':=by simpa using hb'
 have ho:L.own=true:=by rw[←hbr.own]; exact hown
 have pI:L.sz=1:=by rw[←hbr.sz,hsz]
 obtain⟨cs,ct,fr,wF,hel,hr2⟩:=hbr.cells
 obtain⟨hoff,vX,hlenL,hfr,rfl⟩:=hr2 ho
 rw[pI,Nat.mul_one]at vX
 rw[he,List.length_map]at hlenL
 intro j hj
 simp only[List.size_toArray]at hj
 have hjc:j<cs.size:=by omega
 rw[hoff,Nat.zero_add]
 have:=(hel j (Value.int .i64 zs[j]) (by rw[he,List.getElem?_map,List.getElem?_eq_getElem hj]; rfl)).2
 rw[hoff,pI,Nat.zero_add,Nat.mul_one,List.drop_eq_getElem_cons (by simpa using hjc)]at this
 have hv:cs[j]=Value.int .i64 zs[j]:=by
   obtain⟨c,h1,h2⟩:=this.get 0 _ rfl
   have h3:=h2.int_inv
   subst h3
   simpa using h1
 constructor
 · rw[xC wF,Array.getElem?_eq_getElem hjc,hv]
   simp[hj]
 · have:=hfr j (Nat.le_of_lt hjc)
   simp only[World.frozen?,wF]
   simpa using this
end
section
variable{P:Program} [aW P]{H:ag}{F0:List Nat}{E:TypeId}
theorem FB{es:List Value}{xs:List Int}{G:List Nat}(h:dQ (aK aY) H es xs G):es=xs.map (Value.int .i64)/\G=[]:=by
 induction h with
 |nil=>exact⟨rfl,rfl⟩
 |cons h _ ih=>exact⟨by rw[ih.1,h.2]; rfl,by rw[ih.2,h.1]; rfl⟩
theorem PN:∀(xs:List Int),dQ (aK aY) H (xs.map (Value.int .i64)) xs []
 |[]=>.nil
 |x::xs=>by simpa using dQ.cons (Ro:=aK aY) (F:=[]) ⟨rfl,rfl⟩ (PN xs)
theorem Ctx.setrow{k m m':Nat}{b:df}{xs ys:List Int}(dX:Ctx H F0 H [bN (bL E (aK aY)) [k] (.slice (some ⟨k,0,none⟩) xs.length m) xs])(h3:H[k]?=some (some b))(h4:b.wr=true)(h6:b.ty=E)
   (hm:m'=1\/m'=2) (hb:ys.length<4611686018427387904):
   Ctx H F0 (H.set k (some ⟨ys.map (Value.int .i64),b.ty,true,b.wr⟩)) [bN (bL E (aK aY)) [k] (.slice (some ⟨k,0,none⟩) ys.length m') ys]:=by
 have hne:∀q,q≠k->(H.set k (some ⟨ys.map (Value.int .i64),b.ty,true,b.wr⟩))[q]?=H[q]?:=fun q hq=>by rw[List.getElem?_set_ne (fun e=>hq e.symm)]
 have hkl:=kU h3
 refine⟨by simp,?_,fun q hq Eh=>hne q (fun e=>Eh ?_),?_,by simp[foot,bN],fun q hq=>?_⟩
 · intro q b2 hq hw2
   rw[hne q (fun e=>by subst e; rw[hq]at h3; injection h3 with h3; injection h3 with h3; rw[h3]at hw2; rw[hw2]at h4; simp at h4)]
   exact hq
 · subst e
   rcases (dX.own q (by simp[foot,bN])).1 with h|h
   · exact h
   · omega
 · intro c hcm
   simp at hcm; subst hcm
   exact .inr ⟨k,m',_,[],rfl,hm,List.getElem?_set_self hkl,h4,rfl,h6,hb,rfl,PN ys⟩
 · have hqk:q=k:=by simpa[foot,bN]using hq
   subst hqk
   exact⟨(dX.own q (by simp[foot,bN])).1,by simpa using hkl⟩
theorem Ph{ρ:bA}{v:Value}{fM:Array Value}(h:aV ρ [v] fM.toList):∃c,fM= #[c]/\aZ ρ v c:=by
 obtain⟨l⟩:=fM
 cases h with
 |cons _ c _ _ h t=>cases t; exact⟨c,rfl,h⟩
theorem WI{g:FuncId}{F:List Nat}{v:Value}{xs:List Int}(hty:TY P E 1 8 (.int .i64 0))
   (h1:∀(p:Option Addr) cap w,Calls P g #[.slice p 0 cap] w fun e w'=>e= .returned (.tuple #[])/\w'=w)
   (h2:∀blk off cap (zs:List Int) w,Holds (Value.int .i64) w blk off zs.toArray->blk<w.heap.size->zs.length<4611686018427387904->Calls P g #[.slice (some ⟨blk,off,none⟩) zs.length cap] w fun e w'=>
     e= .returned (.tuple #[])/\ ∃n os,w'=grow (putRow (Value.int .i64) (Sort.ahead w n) blk off (zs.mergeSort fun x y=>decide (x<=y)).toArray) os):
   Fw.Spec P g [v] [bN (bL E (aK aY)) F v xs] (fun _:List Nat=>.tuple [].toArray) (fun p=>[bN (bL E (aK aY)) p v (xs.mergeSort fun x y=>decide (x<=y))]):=by
 intro H F0 dX ρ w fM hr hargs
 obtain⟨c,rfl,hc⟩:=Ph hargs
 have ho:bL E (aK aY) F H v xs:=dX.hold _ (List.mem_singleton.2 rfl)
 rcases ho with⟨rfl,rfl,rfl⟩|⟨k,m,b,G,rfl,hm,h3,h4,h5,h6,h7,rfl,h9⟩
 · cases hc with
   |nilSlice=>
     refine (h1 none 0 w).mono ?_
     rintro e w' ⟨rfl,rfl⟩
     exact⟨_,_,ρ,H,rfl,.tuple [] [] .nil,hr,Step.refl _ _ _,_,rfl,by simpa using dX⟩
 · obtain⟨-,rfl⟩:b.elems=xs.map (Value.int .i64)/\G=[]:=FB h9
   have hel:=(FB h9).1
   obtain⟨L,p,cap,hl,hbr,rfl,hcap,g1,g2,gp⟩:=hc.slice_inv hr h3
   rcases xs with _|⟨x,xs⟩
   · refine (h1 (some p) cap w).mono ?_
     rintro e w' ⟨rfl,rfl⟩
     exact⟨_,_,ρ,H,rfl,.tuple [] [] .nil,hr,Step.refl _ _ _,_,rfl,by simpa using dX⟩
   · have hp:=gp (by simp)
     rw[Nat.zero_mul,Nat.add_zero]at hp
     subst hp
     have hcz:P.cellsOf b.ty=1:=by rw[h6]; exact hty.sz.cells
     refine (h2 L.blk L.off cap (x::xs) w (hr.holds hl h3 h5 hcz hel) (hr.lt hl) h7).mono ?_
     rintro e w' ⟨rfl,n,os,rfl⟩
     have hlen:((x::xs).mergeSort fun x y=>decide (x<=y)).length=(x::xs).length:=List.length_mergeSort _
     obtain⟨r1,r2⟩:=hr.row (n:=n) (os:=os) (zs:=(x::xs).mergeSort fun x y=>decide (x<=y)) (ys:=(x::xs).mergeSort fun x y=>decide (x<=y)) hl h3 h5 hcz (by rw[hel,List.length_map,hlen]) (fun _ _ h=>h)
     have:=Ctx.setrow (ys:=(x::xs).mergeSort fun x y=>decide (x<=y)) dX h3 h4 h6 hm (by rw[hlen]; exact h7)
     rw[hlen]at this
     exact⟨_,_,ρ,_,rfl,.tuple [] [] .nil,r1,r2,_,rfl,this⟩
theorem Vy{g:FuncId}{F:List Nat}{v:Sv}{xs:List Int}{cm:List Int->List Int}(hty:TY P E 1 8 (.int .i64 0))(hle:∀zs,(cm zs).length<=zs.length)(hnil:cm []=[])
   (h1:∀(p:Option Addr) cap w,Calls P g #[.slice p 0 cap] w fun e w'=>e= .returned (.slice p 0 cap)/\w'=w)
   (h2:∀blk off cap (zs:List Int) w,Holds (Value.int .i64) w blk off zs.toArray->zs.length<=9223372036854775807->zs.length<=cap->Calls P g #[.slice (some ⟨blk,off,none⟩) zs.length cap] w fun e w'=>
     e= .returned (.slice (some ⟨blk,off,none⟩) (cm zs).length cap)/\ ∃q,w'=putRow (Value.int .i64) (Sort.ahead w q) blk off (cm zs++List.replicate (zs.length-(cm zs).length) 0).toArray):
   Fw.Spec P g [v.v] [bN (bL E (aK aY)) F v.v xs] (fun p:Sv×List Nat=>p.1.v) (fun p=>[bN (bL E (aK aY)) p.2 p.1.v (cm xs)]):=by
 intro H F0 dX ρ w fM hr hargs
 obtain⟨c,rfl,hc⟩:=Ph hargs
 have ho:bL E (aK aY) F H v.v xs:=dX.hold _ (List.mem_singleton.2 rfl)
 have ho':=ho
 rcases ho with⟨hv,rfl,rfl⟩|⟨k,m,b,G,hv,hm,h3,h4,h5,h6,h7,rfl,h9⟩
 · have hc':=hc
   rw[hv]at hc
   cases hc with
   |nilSlice=>
     refine (h1 none 0 w).mono ?_
     rintro e w' ⟨rfl,rfl⟩
     exact⟨_,_,ρ,H,rfl,hc',hr,Step.refl _ _ _,(v,[]),rfl,by simpa[hnil]using dX⟩
 · obtain⟨-,rfl⟩:b.elems=xs.map (Value.int .i64)/\G=[]:=FB h9
   have hel:=(FB h9).1
   have hc':=hc
   rw[hv]at hc
   obtain⟨L,p,cap,hl,hbr,rfl,hcap,g1,g2,gp⟩:=hc.slice_inv hr h3
   rcases xs with _|⟨x,xs⟩
   · refine (h1 (some p) cap w).mono ?_
     rintro e w' ⟨rfl,rfl⟩
     exact⟨_,_,ρ,H,rfl,hc',hr,Step.refl _ _ _,(v,[k]),rfl,by simpa[hnil]using dX⟩
   · have hp:=gp (by simp)
     rw[Nat.zero_mul,Nat.add_zero]at hp
     subst hp
     have hcz:P.cellsOf b.ty=1:=by rw[h6]; exact hty.sz.cells
     have hown:L.own=true:=by rw[←hbr.own]; exact h5
     refine (h2 L.blk L.off cap (x::xs) w (hr.holds hl h3 h5 hcz hel) (by omega) hcap).mono ?_
     rintro e w' ⟨rfl,n,rfl⟩
     have hlen:=hle (x::xs)
     obtain⟨r1,r2⟩:=hr.row (n:=n) (os:=#[]) (zs:=cm (x::xs)++List.replicate ((x::xs).length-(cm (x::xs)).length) 0) (ys:=cm (x::xs)) hl h3 h5 hcz (by rw[hel,List.length_map,List.length_append,List.length_replicate]; omega)
       (fun i y h=>by rw[List.getElem?_append_left (List.getElem?_eq_some_iff.1 h).1]; exact h)
     rw[grow_empty]at r1 r2
     have hcc:cap<=L.cap:=by
       rcases hm with rfl|rfl
       · have:=g1 rfl; omega
       · exact (g2 (Nat.le_refl _)).2.2.1
     rw[hv]at dX
     have:=Ctx.setrow (ys:=cm (x::xs)) (m':=2) dX h3 h4 h6 (.inr rfl) (by omega)
     refine⟨_,.slice (some ⟨k,0,none⟩) (cm (x::xs)).length 2,ρ,_,rfl,.slice _ _ _ _ L _ cap hl (by omega) (by simp) (fun _=>⟨rfl,hown,hcc,rfl,by omega⟩) (fun _=>⟨by simp,fun _=>by omega⟩),r1,r2,(⟨some ⟨k,0,none⟩,(cm (x::xs)).length,2⟩,[k]),rfl,this⟩
end
theorem Wq(zs:List Int):(Lib.compact zs).length<=zs.length:=by
 unfold Lib.compact Lib.compactUpTo
 rw[List.length_map]
 exact Nat.le_trans (List.length_filter_le _ _) (Nat.le_of_eq List.length_range)
end Go.Fw
/-
 A loop walked round by round; rows of pointers.
-/
set_option linter.unusedVariables false
set_option maxRecDepth 100000
namespace Go.Fw
open Go
variable{P:Program} [aW P]{n:Nat}{H0:ag}{F0:List Nat}{c1 c2:Code}{Q:Exit->Fr->List ah->Prop}{f:Fr}{cs:List ah}{m:Nat}
def UR(P:Program) [aW P](n:Nat)(H0:ag)(F0:List Nat)(c1:Code)(Q:Exit->Fr->List ah->Prop):Nat->Fr->List ah->Prop
 |0,_,_=>False
 |m+1,f,cs=>CW P n H0 F0 c1 (nE (UR P n H0 F0 c1 Q m) Q) f cs
theorem PO(h:UR P n H0 F0 c1 Q m f cs):CW P n H0 F0 (.loop c1) Q f cs:=
 bU (UR P n H0 F0 c1 Q) m h fun m f cs h=>by
   cases m with
   |zero=>exact h.elim
   |succ m=>
     intro H hc
     refine ((show CW P n H0 F0 c1 (nE (UR P n H0 F0 c1 Q m) Q) f cs from h) H hc).mono ?_
     rintro e f' H' ⟨cs',h1,h2⟩
     refine⟨cs',?_,h2⟩
     cases e with
     |normal=>exact⟨m,Nat.lt_succ_self _,h1⟩
     |_=>exact h1
theorem Qf(h:CW P n H0 F0 c1 (nE (UR P n H0 F0 c1 Q m) Q) f cs):UR P n H0 F0 c1 Q (m+1) f cs:=h
theorem zK(h:CW P n H0 F0 c1 (nE (UR P n H0 F0 c1 Q m) Q) f cs):nE (UR P n H0 F0 c1 Q (m+1)) Q .normal f cs:=h
end Go.Fw
/-
 Rules that look up by themselves what they need: names of temporaries, facts of the context, facts of the program's tables. No conditions.
-/
set_option linter.unusedVariables false
namespace Go.Fw
open Go
class kv(P:Program) [aW P](t i:Nat)(off:outParam Nat):Prop where h:FD P t i off
class iX(P:Program) [aW P](t:Nat)(b:outParam Bool):Prop where h:AG P t b
class iY(P:Program) [aW P](t:Nat)(s b:outParam Nat)(z:outParam Value):Prop where h:TY P t s b z
class pJ(P:Program) [aW P](t:Nat)(e:outParam Nat):Prop where h:SL P t e
class aT(P:Program) [aW P](g:Nat):Prop where h:CF P g
section
variable{P:Program} [aW P]{n:Nat}{f:Fr}{H0:ag}{F0:List Nat}{cs pre rest:List ah}{c c':ah}{x y z:Operand}{v:Value}
theorem jg(h:Mem c cs:=by
   first
   |((repeat (first|with_reducible exact Mem.h|with_reducible apply Mem.t)); done)
   |((repeat (first|exact Mem.h|apply Mem.t)); done)):Mem c cs:=h
theorem QY{r:List ah}(h:Sel cs c r:=by
   first
   |((repeat (first|with_reducible exact Sel.h|with_reducible apply Sel.t)); done)
   |((repeat (first|exact Sel.h|apply Sel.t)); done)):Sel cs c r:=h
theorem YS{α:Type}{R:ag->Value->α->Prop}{_:dA R}{a:α}(h:Mem (dR R v a) cs)(t:eX cs pre rest):eX cs (dR R v a::pre) rest:=.rd h rfl t
theorem YT{k:Nat}{b:df}(h:Mem (l_ k b) cs)(t:eX cs pre rest):eX cs (l_ k b::pre) rest:=.rd h rfl t
theorem oP(h:eX cs pre rest:=by
   first
   |exact eX.nil
   |((with_reducible refine' YS ?hm ?ht); (case hm=>exact jg); (case ht=>exact oP))
   |((with_reducible refine' YT ?hm ?ht); (case hm=>exact jg); (case ht=>exact oP))
   |exact eX.cons QY oP
   |exact eX.rd jg rfl oP):eX cs pre rest:=h
theorem bR(h:EV n f x v:=by
   first|exact EV.tmp rfl rfl|exact EV.int _ _|exact EV.bool _|exact EV.str _|exact EV.nilSlice|exact EV.nilPtr|exact EV.nilFunc|exact EV.nilIface|exact EV.fn _):EV n f x v:=h
theorem lZ(h:EV n f x v:=by
   first
   |exact EV.tmp (v:=.int _ _) rfl rfl|exact EV.tmp (v:=.bool _) rfl rfl|exact EV.tmp (v:=Sv.v _) rfl rfl|exact EV.tmp (v:=.slice _ _ _) rfl rfl
   |exact EV.tmp (v:=.pointer _) rfl rfl|exact EV.tmp (v:=.agg _) rfl rfl|exact EV.tmp (v:=sv _) rfl rfl|exact EV.tmp (v:=.string _) rfl rfl
   |exact EV.tmp (v:=.func _ _ _) rfl rfl|exact EV.tmp (v:=.tuple _) rfl rfl|exact EV.tmp (v:=undef) rfl rfl
   |exact EV.int _ _|exact EV.bool _|exact EV.str _|exact EV.nilSlice|exact EV.nilPtr|exact EV.nilFunc|exact EV.nilIface|exact EV.fn _):EV n f x v:=h
theorem Lx{o:Option Value}(h:o=some v:=by
   first
   |exact (rfl:_=some (Value.int _ _))|exact (rfl:_=some (Sv.v _))|exact (rfl:_=some (Value.bool _))|exact (rfl:_=some (Value.slice _ _ _))
   |exact (rfl:_=some (sv _))|exact (rfl:_=some (Value.string _))|exact (rfl:_=some (Value.pointer _))|exact (rfl:_=some (Value.func _ _ _))):o=some v:=h
theorem bG{xs:List Operand}{vs:List Value}(h:gY n f xs vs:=by first|exact gY.nil|exact gY.cons bR bG):gY n f xs vs:=h
theorem aJ{l:List (Nat×Value)}(h:bB f l:=by
   repeat (first|exact bB.nil|refine' bB.cons rfl ?_)):f=aH f l:=h.eq
variable{A:Array Oper}{r:List Oper}{K:Fr->List ah->Prop}{d:Option Tmp}{op:Op}{T T' T'' E:TypeId}{ps:String}{af:Array Edge}
theorem abm(hx:EV n f x v)(h:aU P n H0 F0 A r (put f d v) cs K):aU P n H0 F0 A (⟨d,.move x,T,ps,af,none⟩::r) f cs K:=ai (FP hx) h
theorem abn(hx:EV n f x v)(h:aU P n H0 F0 A r (put f d v) cs K):aU P n H0 F0 A (⟨d,.assign x,T,ps,af,none⟩::r) f cs K:=ai (iO hx) h
theorem Qg{H:ag}{u:Value}(hc:EV n f x (.bool true))(hy:EV n f y u):cK P n ⟨d,.pick x y z,T,ps,af,none⟩ f H u:=
 fun ρ _ a _ hf=>⟨a.eval y,by simp[execOp,(hc.use hf).bool_inv,asBool],hy.use hf⟩
theorem Qh{H:ag}{u:Value}(hc:EV n f x (.bool false))(hy:EV n f z u):cK P n ⟨d,.pick x y z,T,ps,af,none⟩ f H u:=
 fun ρ _ a _ hf=>⟨a.eval z,by simp[execOp,(hc.use hf).bool_inv,asBool],hy.use hf⟩
theorem YU(hc:EV n f x (.bool true))(hy:EV n f y v)(h:aU P n H0 F0 A r (put f d v) cs K):aU P n H0 F0 A (⟨d,.pick x y z,T,ps,af,none⟩::r) f cs K:=ai (Qg hc hy) h
theorem YV(hc:EV n f x (.bool false))(hy:EV n f z v)(h:aU P n H0 F0 A r (put f d v) cs K):aU P n H0 F0 A (⟨d,.pick x y z,T,ps,af,none⟩::r) f cs K:=ai (Qh hc hy) h
theorem abo{k i j fi off:Nat} [hF:kv P T fi off](hx:EV n f x (.pointer (some ⟨k,i,some j⟩)))(h:aU P n H0 F0 A r (put f d (.pointer (some ⟨k,i,some (j+off)⟩))) cs K):
   aU P n H0 F0 A (⟨d,.fieldAddr T x fi,T',ps,af,none⟩::r) f cs K:=ai (n_ hF.h hx) h
theorem YW{k j:Nat}{TB:TypeId}{e:Value} [hA:iX P T false](hx:EV n f x (.pointer (some ⟨k,0,some j⟩)))(hm:Mem (l_ k ⟨[e],TB,true,false⟩) cs)(hv:e.cells.toList[j]?=some v)
   (h:aU P n H0 F0 A r (put f d v) cs K):aU P n H0 F0 A (⟨d,.load T x,T',ps,af,none⟩::r) f cs K:=iJ hm (fun hp=>l9 hA.h hx hp.2 rfl hv) h
theorem YX{k j:Nat}{TB:TypeId}{e:Value} [hA:iX P T false](hx:EV n f x (.pointer (some ⟨k,0,some j⟩)))(hm:Mem (fO k ⟨[e],TB,true,true⟩) cs)(hv:e.cells.toList[j]?=some v)
   (h:aU P n H0 F0 A r (put f d v) cs K):aU P n H0 F0 A (⟨d,.load T x,T',ps,af,none⟩::r) f cs K:=iJ hm (fun hp=>l9 hA.h hx hp.2 rfl hv) h
theorem YY{k s b:Nat}{zv:Value}{TB:TypeId}{l:List Value} [hA:iX P T true] [ht:iY P T s b zv](hx:EV n f x (.pointer (some ⟨k,0,some 0⟩)))(hm:Mem (l_ k ⟨[.agg l.toArray],TB,true,false⟩) cs)(h0:Nat.blt 0 s=true)(hl:l.length=s)
   (h:aU P n H0 F0 A r (put f d (.agg l.toArray)) cs K):aU P n H0 F0 A (⟨d,.load T x,T',ps,af,none⟩::r) f cs K:=iJ hm (fun hp=>nz hA.h ht.h.sz h0 hx hp.2 hl) h
theorem YZ{k s b:Nat}{zv:Value}{TB:TypeId}{l:List Value} [hA:iX P T true] [ht:iY P T s b zv](hx:EV n f x (.pointer (some ⟨k,0,some 0⟩)))(hm:Mem (fO k ⟨[.agg l.toArray],TB,true,true⟩) cs)(h0:Nat.blt 0 s=true)(hl:l.length=s)
   (h:aU P n H0 F0 A r (put f d (.agg l.toArray)) cs K):aU P n H0 F0 A (⟨d,.load T x,T',ps,af,none⟩::r) f cs K:=iJ hm (fun hp=>nz hA.h ht.h.sz h0 hx hp.2 hl) h
theorem Y0{α:Type}{R:ag->Value->α->Prop}{_:dA R}{xs:List α}{ts:List TypeId} [hT:pJ P T E](hx:EV n f x v)(hm:Mem (dR (b_ E R) v xs) cs)
   (h:aU P n H0 F0 A r (put f d (.int .i64 xs.length)) cs K):aU P n H0 F0 A (⟨d,.call ⟨.builtin .len,[x].toArray,(T::ts).toArray⟩,T',ps,af,none⟩::r) f cs K:=iJ hm (fun hp=>oC hT.h hx (zJ hp)) h
theorem Yj{α:Type}{Ro:eU α}{_:gq Ro}{F:List Nat}{xs:List α}{ts:List TypeId} [hT:pJ P T E](hx:EV n f x v)(hm:Mem (bN (bL E Ro) F v xs) cs)
   (h:aU P n H0 F0 A r (put f d (.int .i64 xs.length)) cs K):aU P n H0 F0 A (⟨d,.call ⟨.builtin .len,[x].toArray,(T::ts).toArray⟩,T',ps,af,none⟩::r) f cs K:=iJ hm (fun hp=>oC hT.h hx (IV hp)) h
theorem abp{j:Nat}{t:Tmp}{b:Bool}(hd:(A[j]?).bind (·.dst)=some t)(hv:f t= .bool b)(ht:Nat.blt t n=true)(h:aU P n H0 F0 A (⟨d,op,T,ps,af,none⟩::r) f cs K):
   aU P n H0 F0 A (⟨d,op,T,ps,af,some (j,b)⟩::r) f cs K:=lg hd hv ht h
theorem abq{j:Nat}{t:Tmp}{b:Bool}(hd:(A[j]?).bind (·.dst)=some t)(hv:f t= .bool (!b))(ht:Nat.blt t n=true)(h:aU P n H0 F0 A r (put f d undef) cs K):
   aU P n H0 F0 A (⟨d,op,T,ps,af,some (j,b)⟩::r) f cs K:=zV hd hv ht h
theorem abr{j:Nat}{t:Tmp}{b:Bool}(hd:(A[j]?).bind (·.dst)=some t)(hv:f t=undef)(ht:Nat.blt t n=true)(h:aU P n H0 F0 A r (put f d undef) cs K):
   aU P n H0 F0 A (⟨d,op,T,ps,af,some (j,b)⟩::r) f cs K:=Yc hd hv ht h
theorem Y1{kk:IntKind}{q q2:Int}(hx:EV n f x (.int kk q))(hy:EV n f y (.int kk q2))(h:aU P n H0 F0 A r (put f d (.int kk (kk.wrap (q+q2)))) cs K):aU P n H0 F0 A (⟨d,.binOp .add T x y T',T'',ps,af,none⟩::r) f cs K:=ai (xL hx hy) h
theorem Y2{kk:IntKind}{q q2:Int}(hx:EV n f x (.int kk q))(hy:EV n f y (.int kk q2))(h:aU P n H0 F0 A r (put f d (.int kk (kk.wrap (q-q2)))) cs K):aU P n H0 F0 A (⟨d,.binOp .sub T x y T',T'',ps,af,none⟩::r) f cs K:=ai (Jo hx hy) h
theorem Y3{kk:IntKind}{q q2:Int}(hx:EV n f x (.int kk q))(hy:EV n f y (.int kk q2))(h:aU P n H0 F0 A r (put f d (.int kk (kk.wrap (q*q2)))) cs K):aU P n H0 F0 A (⟨d,.binOp .mul T x y T',T'',ps,af,none⟩::r) f cs K:=ai (QL hx hy) h
theorem Y4{kk:IntKind}{q q2:Int}(hx:EV n f x (.int kk q))(hy:EV n f y (.int kk q2))(h:aU P n H0 F0 A r (put f d (.bool (decide (q<q2)))) cs K):aU P n H0 F0 A (⟨d,.binOp .lss T x y T',T'',ps,af,none⟩::r) f cs K:=ai (xM hx hy) h
theorem Y5{kk:IntKind}{q q2:Int}(hx:EV n f x (.int kk q))(hy:EV n f y (.int kk q2))(h:aU P n H0 F0 A r (put f d (.bool (decide (q<=q2)))) cs K):aU P n H0 F0 A (⟨d,.binOp .leq T x y T',T'',ps,af,none⟩::r) f cs K:=ai (QM hx hy) h
theorem Y6{kk:IntKind}{q q2:Int}(hx:EV n f x (.int kk q))(hy:EV n f y (.int kk q2))(h:aU P n H0 F0 A r (put f d (.bool (decide (q2<q)))) cs K):aU P n H0 F0 A (⟨d,.binOp .gtr T x y T',T'',ps,af,none⟩::r) f cs K:=ai (QN hx hy) h
theorem Y7{kk:IntKind}{q q2:Int}(hx:EV n f x (.int kk q))(hy:EV n f y (.int kk q2))(h:aU P n H0 F0 A r (put f d (.bool (decide (q2<=q)))) cs K):aU P n H0 F0 A (⟨d,.binOp .geq T x y T',T'',ps,af,none⟩::r) f cs K:=ai (QO hx hy) h
theorem Y8{kk:IntKind}{q q2:Int}(hx:EV n f x (.int kk q))(hy:EV n f y (.int kk q2))(h:aU P n H0 F0 A r (put f d (.bool (q==q2))) cs K):aU P n H0 F0 A (⟨d,.binOp .eql T x y T',T'',ps,af,none⟩::r) f cs K:=ai (FX hx hy) h
theorem Y9{kk:IntKind}{q q2:Int}(hx:EV n f x (.int kk q))(hy:EV n f y (.int kk q2))(h:aU P n H0 F0 A r (put f d (.bool (q !=q2))) cs K):aU P n H0 F0 A (⟨d,.binOp .neq T x y T',T'',ps,af,none⟩::r) f cs K:=ai (QP hx hy) h
theorem Y_{b:Bool}(hx:EV n f x (.bool b))(h:aU P n H0 F0 A r (put f d (.bool (!b))) cs K):aU P n H0 F0 A (⟨d,.unOp .not T x,T',ps,af,none⟩::r) f cs K:=ai (zU hx) h
variable{l:List Oper}{tb az todo:List Nat}{fl:List (Nat×List Nat)}{i:Nat}{gd:Option (Nat×Bool)}
theorem iZ(h:Wt n l f gd:=by first|exact Wt.no|exact Wt.on _ rfl rfl rfl):Wt n l f gd:=h
theorem Za{kk:IntKind}{q q2:Int}(ho:l[i]?=some ⟨d,.binOp .add T x y T',T'',ps,af,gd⟩)(hw:Wt n l f gd)(hx:EV n f x (.int kk q))(hn:d_ x (di l ⟨d,.binOp .add T x y T',T'',ps,af,gd⟩)=true)(hy:EV n f y (.int kk q2))(hm:d_ y (di l ⟨d,.binOp .add T x y T',T'',ps,af,gd⟩)=true)
   (h:DC P n l tb az H0 F0 K todo fl (put f d (.int kk (kk.wrap (q+q2)))) cs):DC P n l tb az H0 F0 K (i::todo) fl f cs:=bn ho hw (fun ha=>xL (EN ha hx hn) (EN ha hy hm)) h
theorem Zb{kk:IntKind}{q q2:Int}(ho:l[i]?=some ⟨d,.binOp .sub T x y T',T'',ps,af,gd⟩)(hw:Wt n l f gd)(hx:EV n f x (.int kk q))(hn:d_ x (di l ⟨d,.binOp .sub T x y T',T'',ps,af,gd⟩)=true)(hy:EV n f y (.int kk q2))(hm:d_ y (di l ⟨d,.binOp .sub T x y T',T'',ps,af,gd⟩)=true)
   (h:DC P n l tb az H0 F0 K todo fl (put f d (.int kk (kk.wrap (q-q2)))) cs):DC P n l tb az H0 F0 K (i::todo) fl f cs:=bn ho hw (fun ha=>Jo (EN ha hx hn) (EN ha hy hm)) h
theorem Zc{kk:IntKind}{q q2:Int}(ho:l[i]?=some ⟨d,.binOp .mul T x y T',T'',ps,af,gd⟩)(hw:Wt n l f gd)(hx:EV n f x (.int kk q))(hn:d_ x (di l ⟨d,.binOp .mul T x y T',T'',ps,af,gd⟩)=true)(hy:EV n f y (.int kk q2))(hm:d_ y (di l ⟨d,.binOp .mul T x y T',T'',ps,af,gd⟩)=true)
   (h:DC P n l tb az H0 F0 K todo fl (put f d (.int kk (kk.wrap (q*q2)))) cs):DC P n l tb az H0 F0 K (i::todo) fl f cs:=bn ho hw (fun ha=>QL (EN ha hx hn) (EN ha hy hm)) h
theorem Zd{kk:IntKind}{q q2:Int}(ho:l[i]?=some ⟨d,.binOp .lss T x y T',T'',ps,af,gd⟩)(hw:Wt n l f gd)(hx:EV n f x (.int kk q))(hn:d_ x (di l ⟨d,.binOp .lss T x y T',T'',ps,af,gd⟩)=true)(hy:EV n f y (.int kk q2))(hm:d_ y (di l ⟨d,.binOp .lss T x y T',T'',ps,af,gd⟩)=true)
   (h:DC P n l tb az H0 F0 K todo fl (put f d (.bool (decide (q<q2)))) cs):DC P n l tb az H0 F0 K (i::todo) fl f cs:=bn ho hw (fun ha=>xM (EN ha hx hn) (EN ha hy hm)) h
theorem Ze{kk:IntKind}{q q2:Int}(ho:l[i]?=some ⟨d,.binOp .leq T x y T',T'',ps,af,gd⟩)(hw:Wt n l f gd)(hx:EV n f x (.int kk q))(hn:d_ x (di l ⟨d,.binOp .leq T x y T',T'',ps,af,gd⟩)=true)(hy:EV n f y (.int kk q2))(hm:d_ y (di l ⟨d,.binOp .leq T x y T',T'',ps,af,gd⟩)=true)
   (h:DC P n l tb az H0 F0 K todo fl (put f d (.bool (decide (q<=q2)))) cs):DC P n l tb az H0 F0 K (i::todo) fl f cs:=bn ho hw (fun ha=>QM (EN ha hx hn) (EN ha hy hm)) h
theorem Zf{kk:IntKind}{q q2:Int}(ho:l[i]?=some ⟨d,.binOp .gtr T x y T',T'',ps,af,gd⟩)(hw:Wt n l f gd)(hx:EV n f x (.int kk q))(hn:d_ x (di l ⟨d,.binOp .gtr T x y T',T'',ps,af,gd⟩)=true)(hy:EV n f y (.int kk q2))(hm:d_ y (di l ⟨d,.binOp .gtr T x y T',T'',ps,af,gd⟩)=true)
   (h:DC P n l tb az H0 F0 K todo fl (put f d (.bool (decide (q2<q)))) cs):DC P n l tb az H0 F0 K (i::todo) fl f cs:=bn ho hw (fun ha=>QN (EN ha hx hn) (EN ha hy hm)) h
theorem Zg{kk:IntKind}{q q2:Int}(ho:l[i]?=some ⟨d,.binOp .geq T x y T',T'',ps,af,gd⟩)(hw:Wt n l f gd)(hx:EV n f x (.int kk q))(hn:d_ x (di l ⟨d,.binOp .geq T x y T',T'',ps,af,gd⟩)=true)(hy:EV n f y (.int kk q2))(hm:d_ y (di l ⟨d,.binOp .geq T x y T',T'',ps,af,gd⟩)=true)
   (h:DC P n l tb az H0 F0 K todo fl (put f d (.bool (decide (q2<=q)))) cs):DC P n l tb az H0 F0 K (i::todo) fl f cs:=bn ho hw (fun ha=>QO (EN ha hx hn) (EN ha hy hm)) h
theorem Zh{kk:IntKind}{q q2:Int}(ho:l[i]?=some ⟨d,.binOp .eql T x y T',T'',ps,af,gd⟩)(hw:Wt n l f gd)(hx:EV n f x (.int kk q))(hn:d_ x (di l ⟨d,.binOp .eql T x y T',T'',ps,af,gd⟩)=true)(hy:EV n f y (.int kk q2))(hm:d_ y (di l ⟨d,.binOp .eql T x y T',T'',ps,af,gd⟩)=true)
   (h:DC P n l tb az H0 F0 K todo fl (put f d (.bool (q==q2))) cs):DC P n l tb az H0 F0 K (i::todo) fl f cs:=bn ho hw (fun ha=>FX (EN ha hx hn) (EN ha hy hm)) h
theorem Zi{kk:IntKind}{q q2:Int}(ho:l[i]?=some ⟨d,.binOp .neq T x y T',T'',ps,af,gd⟩)(hw:Wt n l f gd)(hx:EV n f x (.int kk q))(hn:d_ x (di l ⟨d,.binOp .neq T x y T',T'',ps,af,gd⟩)=true)(hy:EV n f y (.int kk q2))(hm:d_ y (di l ⟨d,.binOp .neq T x y T',T'',ps,af,gd⟩)=true)
   (h:DC P n l tb az H0 F0 K todo fl (put f d (.bool (q !=q2))) cs):DC P n l tb az H0 F0 K (i::todo) fl f cs:=bn ho hw (fun ha=>QP (EN ha hx hn) (EN ha hy hm)) h
theorem Zj{b:Bool}(ho:l[i]?=some ⟨d,.unOp .not T x,T',ps,af,gd⟩)(hw:Wt n l f gd)(hx:EV n f x (.bool b))(hn:d_ x (di l ⟨d,.unOp .not T x,T',ps,af,gd⟩)=true)
   (h:DC P n l tb az H0 F0 K todo fl (put f d (.bool (!b))) cs):DC P n l tb az H0 F0 K (i::todo) fl f cs:=bn ho hw (fun ha=>zU (EN ha hx hn)) h
theorem abt(ho:l[i]?=some ⟨d,.move x,T,ps,af,gd⟩)(hw:Wt n l f gd)
   (hx:EV n f x v) (hn:d_ x (di l ⟨d,.move x,T,ps,af,gd⟩)=true) (h:DC P n l tb az H0 F0 K todo fl (put f d v) cs):
   DC P n l tb az H0 F0 K (i::todo) fl f cs:=bn ho hw (fun ha=>FP (EN ha hx hn)) h
theorem abu(ho:l[i]?=some ⟨d,.assign x,T,ps,af,gd⟩)(hw:Wt n l f gd)
   (hx:EV n f x v) (hn:d_ x (di l ⟨d,.assign x,T,ps,af,gd⟩)=true) (h:DC P n l tb az H0 F0 K todo fl (put f d v) cs):
   DC P n l tb az H0 F0 K (i::todo) fl f cs:=bn ho hw (fun ha=>iO (EN ha hx hn)) h
theorem Zk(ho:l[i]?=some ⟨d,.pick x y z,T,ps,af,gd⟩)(hw:Wt n l f gd)(hc:EV n f x (.bool true))(hn:d_ x (di l ⟨d,.pick x y z,T,ps,af,gd⟩)=true)
   (hy:EV n f y v) (hm:d_ y (di l ⟨d,.pick x y z,T,ps,af,gd⟩)=true) (h:DC P n l tb az H0 F0 K todo fl (put f d v) cs):
   DC P n l tb az H0 F0 K (i::todo) fl f cs:=bn ho hw (fun ha=>Qg (EN ha hc hn) (EN ha hy hm)) h
theorem Zl(ho:l[i]?=some ⟨d,.pick x y z,T,ps,af,gd⟩)(hw:Wt n l f gd)(hc:EV n f x (.bool false))(hn:d_ x (di l ⟨d,.pick x y z,T,ps,af,gd⟩)=true)
   (hy:EV n f z v) (hm:d_ z (di l ⟨d,.pick x y z,T,ps,af,gd⟩)=true) (h:DC P n l tb az H0 F0 K todo fl (put f d v) cs):
   DC P n l tb az H0 F0 K (i::todo) fl f cs:=bn ho hw (fun ha=>Qh (EN ha hc hn) (EN ha hy hm)) h
theorem abv{k i0 j fi off:Nat}(ho:l[i]?=some ⟨d,.fieldAddr T x fi,T',ps,af,gd⟩){hF:kv P T fi off}(hw:Wt n l f gd)
   (hx:EV n f x (.pointer (some ⟨k,i0,some j⟩))) (hn:d_ x (di l ⟨d,.fieldAddr T x fi,T',ps,af,gd⟩)=true) (h:DC P n l tb az H0 F0 K todo fl (put f d (.pointer (some ⟨k,i0,some (j+off)⟩))) cs):
   DC P n l tb az H0 F0 K (i::todo) fl f cs:=bn ho hw (fun ha=>n_ hF.h (EN ha hx hn)) h
theorem Zm{k j:Nat}{TB:TypeId}{e:Value}(ho:l[i]?=some ⟨d,.load T x,T',ps,af,gd⟩){hA:iX P T false}(hw:Wt n l f gd)
   (hx:EV n f x (.pointer (some ⟨k,0,some j⟩))) (hn:d_ x (di l ⟨d,.load T x,T',ps,af,gd⟩)=true) (hm:Mem (l_ k ⟨[e],TB,true,false⟩) cs) (hv:e.cells.toList[j]?=some v)
   (h:DC P n l tb az H0 F0 K todo fl (put f d v) cs):DC P n l tb az H0 F0 K (i::todo) fl f cs:=Da ho hw hm rfl (fun ha hp=>l9 hA.h (EN ha hx hn) hp.2 rfl hv) h
theorem Zn{k s b:Nat}{zv:Value}{TB:TypeId}{e:List Value}(ho:l[i]?=some ⟨d,.load T x,T',ps,af,gd⟩){hA:iX P T true}{ht:iY P T s b zv}(hw:Wt n l f gd)
   (hx:EV n f x (.pointer (some ⟨k,0,some 0⟩))) (hn:d_ x (di l ⟨d,.load T x,T',ps,af,gd⟩)=true) (hm:Mem (l_ k ⟨[.agg e.toArray],TB,true,false⟩) cs) (h0:Nat.blt 0 s=true) (hl:e.length=s)
   (h:DC P n l tb az H0 F0 K todo fl (put f d (.agg e.toArray)) cs):DC P n l tb az H0 F0 K (i::todo) fl f cs:=Da ho hw hm rfl (fun ha hp=>nz hA.h ht.h.sz h0 (EN ha hx hn) hp.2 hl) h
theorem Zo{α:Type}{R:ag->Value->α->Prop}{_:dA R}{xs:List α}{ts:List TypeId}(ho:l[i]?=some ⟨d,.call ⟨.builtin .len,[x].toArray,(T::ts).toArray⟩,T',ps,af,gd⟩){hT:pJ P T E}(hw:Wt n l f gd)
   (hx:EV n f x v) (hn:d_ x (di l ⟨d,.call ⟨.builtin .len,[x].toArray,(T::ts).toArray⟩,T',ps,af,gd⟩)=true) (hm:Mem (dR (b_ E R) v xs) cs)
   (h:DC P n l tb az H0 F0 K todo fl (put f d (.int .i64 xs.length)) cs):DC P n l tb az H0 F0 K (i::todo) fl f cs:=Da ho hw hm rfl (fun ha hp=>oC hT.h (EN ha hx hn) (zJ hp)) h
theorem abw{t:Tmp}{j:Nat}{b:Bool}(ho:l[i]?=some ⟨d,op,T,ps,af,some (j,b)⟩)(h1:(l[j]?).bind (·.dst)=some t)(h2:f t= .bool (!b))(h3:Nat.blt t n=true)(h:DC P n l tb az H0 F0 K todo fl (put f d undef) cs):
   DC P n l tb az H0 F0 K (i::todo) fl f cs:=YN t ho h1 h2 h3 h
theorem abx{t:Tmp}{j:Nat}{b:Bool}(ho:l[i]?=some ⟨d,op,T,ps,af,some (j,b)⟩)(h1:(l[j]?).bind (·.dst)=some t)(h2:f t=undef)(h3:Nat.blt t n=true)(h:DC P n l tb az H0 F0 K todo fl (put f d undef) cs):
   DC P n l tb az H0 F0 K (i::todo) fl f cs:=Yd t ho h1 h2 h3 h
theorem WJ{K:Fr->List ah->Prop}{Q:Exit->Fr->List ah->Prop}(h:K f cs):nE K Q .normal f cs:=h
theorem XH{id:Nat}{Q:Exit->Fr->List ah->Prop}(h:Q .normal f cs):uC id Q .normal f cs:=h
theorem au{G N:Prop}(k:N)(h:N->G:=by
   intro k
   repeat (first|with_reducible refine WJ ?_|with_reducible refine XH ?_)
   first
   |((with_reducible refine' abm ?hx k); (case hx=>exact lZ))
   |((with_reducible refine' abo ?hx k); (case hx=>exact bR))
   |with_reducible exact dW k
   |((with_reducible refine' abp ?r1 ?r2 ?r3 k); (case r1=>exact rfl); (case r2=>exact rfl); (case r3=>exact rfl))
   |((with_reducible refine' abq ?r1 ?r2 ?r3 k); (case r1=>exact rfl); (case r2=>exact rfl); (case r3=>exact rfl))
   |((with_reducible refine' abn ?hx k); (case hx=>exact lZ))
   |((with_reducible refine' YW ?hx ?hm ?hv k); (case hx=>exact bR); (case hm=>exact jg); (case hv=>exact Lx))
   |((with_reducible refine' YX ?hx ?hm ?hv k); (case hx=>exact bR); (case hm=>exact jg); (case hv=>exact Lx))
   |((with_reducible refine' YY ?hx ?hm ?r1 ?r2 k); (case hx=>exact bR); (case hm=>exact jg); (case r1=>exact rfl); (case r2=>exact rfl))
   |((with_reducible refine' YZ ?hx ?hm ?r1 ?r2 k); (case hx=>exact bR); (case hm=>exact jg); (case r1=>exact rfl); (case r2=>exact rfl))
   |((with_reducible refine' Y0 ?hx ?hm k); (case hx=>exact lZ); (case hm=>exact jg); all_goals infer_instance)
   |((with_reducible refine' Yj ?hx ?hm k); (case hx=>exact lZ); (case hm=>exact jg); all_goals infer_instance)
   |((with_reducible refine' Y4 ?a ?b k); (case a=>exact bR); (case b=>exact bR))
   |((with_reducible refine' Y_ ?a k); (case a=>exact bR))
   |((with_reducible refine' YU ?hc ?hy k); (case hc=>exact bR); (case hy=>exact lZ))
   |((with_reducible refine' YV ?hc ?hy k); (case hc=>exact bR); (case hy=>exact lZ))
   |((with_reducible refine' abr ?r1 ?r2 ?r3 k); (case r1=>exact rfl); (case r2=>exact rfl); (case r3=>exact rfl))
   |((with_reducible refine' Y1 ?a ?b k); (case a=>exact bR); (case b=>exact bR))
   |((with_reducible refine' Y2 ?a ?b k); (case a=>exact bR); (case b=>exact bR))
   |((with_reducible refine' Y8 ?a ?b k); (case a=>exact bR); (case b=>exact bR))
   |((with_reducible refine' Y9 ?a ?b k); (case a=>exact bR); (case b=>exact bR))
   |((with_reducible refine' Y5 ?a ?b k); (case a=>exact bR); (case b=>exact bR))
   |((with_reducible refine' Y6 ?a ?b k); (case a=>exact bR); (case b=>exact bR))
   |((with_reducible refine' Y7 ?a ?b k); (case a=>exact bR); (case b=>exact bR))
   |((with_reducible refine' Y3 ?a ?b k); (case a=>exact bR); (case b=>exact bR))
   |with_reducible exact dw k
   |with_reducible exact xn k
   |with_reducible exact Cs k
   |with_reducible exact om k
   |with_reducible exact jw k
   |with_reducible exact BL k
   |with_reducible exact WB k
   |with_reducible exact B_ k
   |((with_reducible refine' X7 ?a k); (case a=>exact rfl))
   |with_reducible exact Xx k
   |with_reducible exact Cr k
   |with_reducible exact qw k):G:=h k
theorem du{G N:Prop}(k:N)(h:N->G:=by
   intro k
   first
   |((with_reducible refine' abt ?r1 ?hw ?hx ?r2 k); (case r1=>exact rfl); (case hw=>exact iZ); (case hx=>exact lZ); (case r2=>exact rfl))
   |((with_reducible refine' abv ?r1 ?hw ?hx ?r2 k); (case r1=>exact rfl); (case hw=>exact iZ); (case hx=>exact bR); (case r2=>exact rfl); all_goals infer_instance)
   |((with_reducible refine' Zm ?r1 ?hw ?hx ?r2 ?hm ?hv k); (case r1=>exact rfl); (case hw=>exact iZ); (case hx=>exact bR); (case r2=>exact rfl); (case hm=>exact jg); (case hv=>exact Lx); all_goals infer_instance)
   |((with_reducible refine' abw ?r1 ?r2 ?r3 ?r4 k); (case r1=>exact rfl); (case r2=>exact rfl); (case r3=>exact rfl); (case r4=>exact rfl))
   |((with_reducible refine' abx ?r1 ?r2 ?r3 ?r4 k); (case r1=>exact rfl); (case r2=>exact rfl); (case r3=>exact rfl); (case r4=>exact rfl))
   |((with_reducible refine' Zo ?r1 ?hw ?hx ?r2 ?hm k); (case r1=>exact rfl); (case hw=>exact iZ); (case hx=>exact lZ); (case r2=>exact rfl); (case hm=>exact jg); all_goals infer_instance)
   |((with_reducible refine' Zk ?r1 ?hw ?hc ?r2 ?hy ?r3 k); (case r1=>exact rfl); (case hw=>exact iZ); (case hc=>exact bR); (case r2=>exact rfl); (case hy=>exact lZ); (case r3=>exact rfl))
   |((with_reducible refine' Zl ?r1 ?hw ?hc ?r2 ?hy ?r3 k); (case r1=>exact rfl); (case hw=>exact iZ); (case hc=>exact bR); (case r2=>exact rfl); (case hy=>exact lZ); (case r3=>exact rfl))
   |((with_reducible refine' Zj ?r1 ?hw ?hx ?r2 k); (case r1=>exact rfl); (case hw=>exact iZ); (case hx=>exact bR); (case r2=>exact rfl))
   |((with_reducible refine' Zd ?r1 ?hw ?hx ?r2 ?hy ?r3 k); (case r1=>exact rfl); (case hw=>exact iZ); (case hx=>exact bR); (case r2=>exact rfl); (case hy=>exact bR); (case r3=>exact rfl))
   |((with_reducible refine' Zh ?r1 ?hw ?hx ?r2 ?hy ?r3 k); (case r1=>exact rfl); (case hw=>exact iZ); (case hx=>exact bR); (case r2=>exact rfl); (case hy=>exact bR); (case r3=>exact rfl))
   |((with_reducible refine' Zi ?r1 ?hw ?hx ?r2 ?hy ?r3 k); (case r1=>exact rfl); (case hw=>exact iZ); (case hx=>exact bR); (case r2=>exact rfl); (case hy=>exact bR); (case r3=>exact rfl))
   |((with_reducible refine' Za ?r1 ?hw ?hx ?r2 ?hy ?r3 k); (case r1=>exact rfl); (case hw=>exact iZ); (case hx=>exact bR); (case r2=>exact rfl); (case hy=>exact bR); (case r3=>exact rfl))
   |((with_reducible refine' Zb ?r1 ?hw ?hx ?r2 ?hy ?r3 k); (case r1=>exact rfl); (case hw=>exact iZ); (case hx=>exact bR); (case r2=>exact rfl); (case hy=>exact bR); (case r3=>exact rfl))
   |((with_reducible refine' Ze ?r1 ?hw ?hx ?r2 ?hy ?r3 k); (case r1=>exact rfl); (case hw=>exact iZ); (case hx=>exact bR); (case r2=>exact rfl); (case hy=>exact bR); (case r3=>exact rfl))
   |((with_reducible refine' Zf ?r1 ?hw ?hx ?r2 ?hy ?r3 k); (case r1=>exact rfl); (case hw=>exact iZ); (case hx=>exact bR); (case r2=>exact rfl); (case hy=>exact bR); (case r3=>exact rfl))
   |((with_reducible refine' Zg ?r1 ?hw ?hx ?r2 ?hy ?r3 k); (case r1=>exact rfl); (case hw=>exact iZ); (case hx=>exact bR); (case r2=>exact rfl); (case hy=>exact bR); (case r3=>exact rfl))
   |((with_reducible refine' Zc ?r1 ?hw ?hx ?r2 ?hy ?r3 k); (case r1=>exact rfl); (case hw=>exact iZ); (case hx=>exact bR); (case r2=>exact rfl); (case hy=>exact bR); (case r3=>exact rfl))
   |((with_reducible refine' abu ?r1 ?hw ?hx ?r2 k); (case r1=>exact rfl); (case hw=>exact iZ); (case hx=>exact lZ); (case r2=>exact rfl))
   |((with_reducible refine' Zn ?r1 ?hw ?hx ?r2 ?hm ?r3 ?r4 k); (case r1=>exact rfl); (case hw=>exact iZ); (case hx=>exact bR); (case r2=>exact rfl); (case hm=>exact jg); (all_goals (try infer_instance)); (case r3=>exact rfl); (case r4=>exact rfl))
   |with_reducible exact F6 k):G:=h k
theorem SB{fl:List (Nat×List Nat)}(h:jM tb i rest fl:=by
   repeat (first
     |exact jM.nil
     |refine' jM.dep rfl ?_
     |refine' jM.imm (by exact jg) ?_)):jM tb i rest fl:=h
theorem LA{f':Fr}{o:Oper}:∀{xs:List Operand}{vs:List Value},fK l o f f'->gY n f xs vs->xs.all (fun x=>d_ x (di l o))=true->gY n f' xs vs
 |[],[],_,_,_=>.nil
 |x::xs,v::vs,ha,⟨h,t⟩,hn=>by
   simp only[List.all_cons,Bool.and_eq_true]at hn
   exact .cons (EN ha h hn.1) (LA ha t hn.2)
 |[],_::_,_,h,_=>h.elim
 |_::_,[],_,h,_=>h.elim
variable{ι α:Type}{val:ι->Value}{R:ag->Value->α->Prop}{xs:List α}{a:α}{g k j s b off:Nat}{zv e:Value}{kk:IntKind}{q:Int}{TB:TypeId}{Q:Exit->Fr->List ah->Prop}{c1 c2:Code}
theorem Cc{b:Bool}(h1:b=true->CW P n H0 F0 c1 Q f cs)(h2:b=false->CW P n H0 F0 c2 Q f cs)(hc:EV n f x (.bool b):=by exact bR):CW P n H0 F0 (.cond x c1 c2) Q f cs:=lN hc h1 h2
theorem CcT{b:Bool}(hb:b=true)(h1:CW P n H0 F0 c1 Q f cs)(hc:EV n f x (.bool b):=by exact bR):CW P n H0 F0 (.cond x c1 c2) Q f cs:=lN hc (fun _=>h1) (fun h=>absurd (hb.symm.trans h) (by decide))
theorem CcF{b:Bool}(hb:b=false)(h2:CW P n H0 F0 c2 Q f cs)(hc:EV n f x (.bool b):=by exact bR):CW P n H0 F0 (.cond x c1 c2) Q f cs:=lN hc (fun h=>absurd (hb.symm.trans h) (by decide)) (fun _=>h2)
theorem dI{p:Prop}{_:Decidable p}(h1:CW P n H0 F0 c1 Q f cs)(hc:EV n f x (.bool (decide p)):=by exact bR)(hp:p:=by omega):CW P n H0 F0 (.cond x c1 c2) Q f cs:=CcT (decide_eq_true hp) h1 hc
theorem dJ{p:Prop}{_:Decidable p}(h2:CW P n H0 F0 c2 Q f cs)(hc:EV n f x (.bool (decide p)):=by exact bR)(hp:¬ p:=by omega):CW P n H0 F0 (.cond x c1 c2) Q f cs:=CcF (decide_eq_false hp) h2 hc
theorem Ai [dA R] [hT:pJ P T E] [hs:iY P E s b zv](hi:xs[q.toNat]?=some a)(h:∀k j,aU P n H0 F0 A r (put f d (.pointer (some ⟨k,j,some 0⟩))) (jV E R k j a::cs) K)
   (hx:EV n f x v:=by exact lZ) (hy:EV n f y (.int kk q):=by exact bR) (hm:Mem (dR (b_ E R) v xs) cs:=by exact jg) (h0:0<=q:=by first|exact Int.natCast_nonneg _|assumption):
   aU P n H0 F0 A (⟨d,.indexAddr T x y,T',ps,af,none⟩::r) f cs K:=qx hT.h hs.h.sz hx hy hm h0 hi h
theorem Di [dA R] [hT:pJ P T E] [hs:iY P E s b zv](hi:xs[q.toNat]?=some a)(h:∀k j,DC P n l tb az H0 F0 K todo fl (put f d (.pointer (some ⟨k,j,some 0⟩))) (jV E R k j a::cs))
   (ho:l[i]?=some ⟨d,.indexAddr T x y,T',ps,af,gd⟩:=by rfl) (hw:Wt n l f gd:=by exact iZ)
   (hx:EV n f x v:=by exact lZ) (hy:EV n f y (.int kk q):=by exact bR) (mX:d_ x (di l ⟨d,.indexAddr T x y,T',ps,af,gd⟩)=true:=by rfl) (hyn:d_ y (di l ⟨d,.indexAddr T x y,T',ps,af,gd⟩)=true:=by rfl)
   (hm:Mem (dR (b_ E R) v xs) cs:=by exact jg) (h0:0<=q:=by first|exact Int.natCast_nonneg _|assumption):
   DC P n l tb az H0 F0 K (i::todo) fl f cs:=F8 hT.h hs.h.sz ho hw hx hy mX hyn hm h0 hi h
theorem Al [dA R] [hA:iX P T false](hop:∀H e,R H e a->e.cells.toList[off]?=some v)(h:aU P n H0 F0 A r (put f d v) cs K)(hx:EV n f x (.pointer (some ⟨k,j,some off⟩)):=by exact bR)(hm:Mem (jV E R k j a) cs:=by exact jg):
   aU P n H0 F0 A (⟨d,.load T x,T',ps,af,none⟩::r) f cs K:=YK hA.h hx hm hop h
theorem Dl [dA R] [hA:iX P T false](hop:∀H e,R H e a->e.cells.toList[off]?=some v)(h:DC P n l tb az H0 F0 K todo fl (put f d v) cs)(ho:l[i]?=some ⟨d,.load T x,T',ps,af,gd⟩:=by rfl)(hw:Wt n l f gd:=by exact iZ)
   (hx:EV n f x (.pointer (some ⟨k,j,some off⟩)):=by exact bR) (mX:d_ x (di l ⟨d,.load T x,T',ps,af,gd⟩)=true:=by rfl) (hm:Mem (jV E R k j a) cs:=by exact jg):
   DC P n l tb az H0 F0 K (i::todo) fl f cs:=F9 hA.h ho hw hx mX hm hop h
theorem fJ [ht:iY P T s b zv](h:∀k,aU P n H0 F0 A r (put f d (.pointer (some ⟨k,0,some 0⟩))) (l_ k ⟨[v],T,true,false⟩::cs) K)(hx:EV n f x v:=by exact lZ)(hv:v.cells.size=s:=by rfl):
   aU P n H0 F0 A (⟨d,.box T x,T',ps,af,none⟩::r) f cs K:=X8 rfl (YA ht.h.sz hx hv) h
theorem fE [ht:iY P T s b zv](h:∀k,aU P n H0 F0 A r (put f d (.pointer (some ⟨k,0,some 0⟩))) (fO k ⟨[zv],T,true,true⟩::cs) K)(hv:zv.cells.size=s:=by rfl)(hc:xD zv=true:=by rfl):
   aU P n H0 F0 A (⟨d,.alloc T,T',ps,af,none⟩::r) f cs K:=eF rfl (zB ht.h hv hc) h
theorem As [ht:iY P T s b zv](SC:Value)(h:aU P n H0 F0 A r (put f d undef) (bW k TB SC::rest) K)(hx:EV n f x (.pointer (some ⟨k,0,some j⟩)):=by exact bR)(hy:EV n f y v:=by exact lZ)(hm:Sel cs (bW k TB e) rest:=by exact QY)
   (hv:v.cells.size=s:=by rfl) (hsc:v.cells.toList.all scal=true:=by rfl) (h0:Nat.blt 0 s=true:=by rfl) (hj:Nat.ble (j+s) e.cells.size=true:=by rfl) (he:lM e j v.cells.toList=SC:=by rfl):
   aU P n H0 F0 A (⟨d,.store T x y,T',ps,af,none⟩::r) f cs K:=bX (.cons hm .nil) (j5 ht.h.sz hx hy hv hsc h0 hj he) (fun _=>h)
theorem aby{rs:List ResultVar}{vs:List Value}(h:j6 P n f cs rs vs:=by
   first
   |exact j6.nil|exact .tmp rfl rfl .nil|exact .tmp rfl rfl (.tmp rfl rfl .nil)|exact .tmp rfl rfl (.tmp rfl rfl (.tmp rfl rfl .nil))|exact .tmp rfl rfl (.tmp rfl rfl (.tmp rfl rfl (.tmp rfl rfl .nil)))
   |exact j6.cellA rfl rfl (by exact jg) (by exact rfl) iX.h (TY.sz iY.h) (by exact rfl) (by exact rfl) .nil
   |exact j6.cellS rfl rfl (by exact jg) (by exact rfl) iX.h (by exact rfl) .nil):j6 P n f cs rs vs:=h
theorem Er{rs:List ResultVar}{post:ι->List ah}{vs:List Value}(x:ι)(h1:j6 P n f cs rs vs:=by exact aby)(h2:lU vs=val x:=by rfl)(h3:eX cs (post x) rest:=by exact oP):C_ P n rs val post .ret f cs:=dx x h1 h2 (.sel h3)
theorem aI(h:eX cs pre rest:=by exact oP):aF cs pre:=.sel h
theorem wk(k:Nat)(h:k<9223372036854775807:=by omega):IntKind.i64.wrap ((k:Int)+1)=((k+1:Nat):Int):=by rw[dU (by omega) (by omega)]; rfl
end
end Go.Fw
/-
 The same for calls: with the facts that come of them in a list.  No conditions.
-/
set_option linter.unusedVariables false
namespace Go.Fw
open Go
section
variable{P:Program} [aW P]{n:Nat}{f:Fr}{H0:ag}{F0:List Nat}{cs pre rest:List ah}{x y:Operand}{v:Value}{A:Array Oper}{r:List Oper}{K:Fr->List ah->Prop}{d:Option Tmp}{T E:TypeId}{ps:String}{af:Array Edge}
variable{l:List Oper}{tb az todo:List Nat}{fl:List (Nat×List Nat)}{i g:Nat}{gd:Option (Nat×Bool)}{ι α:Type}{val:ι->Value}{R:ag->Value->α->Prop}{a:α}{k j s b off:Nat}{zv:Value}{xs:List Operand}{ts:Array TypeId}{vs:List Value}
theorem nt{b:Bool}(h:b=false):¬ b=true:=by rw[h]; exact Bool.false_ne_true
theorem Se{fn:Func}{c:Code}{args:List Value}{post:ι->List ah}(n:Nat)(hf:P.funcs[g]?=some fn)(rs:List ResultVar)(h:∀H0 F0,CW P n H0 F0 c (C_ P n rs val post) (Jh args) pre)
   (hb:fn.body=some c:=by rfl) (hn:fn.ntmps=n:=by rfl) (hr:fn.results=rs.toArray:=by rfl) (hl:Nat.ble rs.length 6=true:=by rfl) (ha:Nat.ble args.length n=true:=by rfl):Spec P g args pre val post:=Fe hf hb hn hr hl ha h
theorem aB [hg:aT P g](hs:Spec P g vs pre val (fun x=>[]))(h:∀x,aU P n H0 F0 A r (put f d (val x)) (rest) K)(he:gY n f xs vs:=by exact bG)(hl:eX cs pre rest:=by exact oP):
   aU P n H0 F0 A (⟨d,.call ⟨.value (.func g),xs.toArray,ts⟩,T,ps,af,none⟩::r) f cs K:=mP hl (bT hg.h he hs) h
theorem dm [hg:aT P g](hs:Spec P g vs pre val (fun x=>[]))(h:∀x,DC P n l tb az H0 F0 K todo fl (put f d (val x)) (rest))
   (ho:l[i]?=some ⟨d,.call ⟨.value (.func g),xs.toArray,ts⟩,T,ps,af,gd⟩:=by rfl) (hA:az.any (Nat.beq i)=true:=by rfl) (hw:Wt n l f gd:=by exact iZ) (he:gY n f xs vs:=by exact bG)
   (hn:xs.all (fun x=>d_ x (di l ⟨d,.call ⟨.value (.func g),xs.toArray,ts⟩,T,ps,af,gd⟩))=true:=by rfl) (hl:eX cs pre rest:=by exact oP) (hfl:jM tb i rest fl:=by exact SB):
   DC P n l tb az H0 F0 K (i::todo) fl f cs:=nD hA ho hw hl hfl (fun ha=>bT hg.h (LA ha he hn) hs) h
theorem dC{c1:ι->ah} [hg:aT P g](hs:Spec P g vs pre val (fun x=>[c1 x]))(h:∀x,aU P n H0 F0 A r (put f d (val x)) (c1 x::rest) K)(he:gY n f xs vs:=by exact bG)(hl:eX cs pre rest:=by exact oP):
   aU P n H0 F0 A (⟨d,.call ⟨.value (.func g),xs.toArray,ts⟩,T,ps,af,none⟩::r) f cs K:=bX hl (bT hg.h he hs) h
theorem Dx1{c1:ι->ah} [hg:aT P g](hs:Spec P g vs pre val (fun x=>[c1 x]))(h:∀x,DC P n l tb az H0 F0 K todo fl (put f d (val x)) (c1 x::rest))
   (ho:l[i]?=some ⟨d,.call ⟨.value (.func g),xs.toArray,ts⟩,T,ps,af,gd⟩:=by rfl) (hA:az.any (Nat.beq i)=true:=by rfl) (hw:Wt n l f gd:=by exact iZ) (he:gY n f xs vs:=by exact bG)
   (hn:xs.all (fun x=>d_ x (di l ⟨d,.call ⟨.value (.func g),xs.toArray,ts⟩,T,ps,af,gd⟩))=true:=by rfl) (hl:eX cs pre rest:=by exact oP) (hfl:jM tb i rest fl:=by exact SB):
   DC P n l tb az H0 F0 K (i::todo) fl f cs:=je hA ho hw hl hfl (fun ha=>bT hg.h (LA ha he hn) hs) h
theorem Ei{c1 c2:ι->ah} [hg:aT P g](hs:Spec P g vs pre val (fun x=>[c1 x,c2 x]))(h:∀x,aU P n H0 F0 A r (put f d (val x)) (c1 x::c2 x::rest) K)(he:gY n f xs vs:=by exact bG)(hl:eX cs pre rest:=by exact oP):
   aU P n H0 F0 A (⟨d,.call ⟨.value (.func g),xs.toArray,ts⟩,T,ps,af,none⟩::r) f cs K:=oO hl (bT hg.h he hs) h
theorem Rh{T2:TypeId} [dA R] [hA:iX P T true] [ht:iY P T s b zv](ul:ι->List Value)(hop:∀H e,R H e a-> ∃i,off+s<=e.cells.size/\(e.cells.toList.drop off).take s=ul i/\ ∀c∈([]:List ah),c.P H/\c.F=[])
   (h:∀i,DC P n l tb az H0 F0 K todo fl (put f d (.agg (ul i).toArray)) (cs)) (ho:l[i]?=some ⟨d,.load T x,T2,ps,af,gd⟩:=by rfl) (hw:Wt n l f gd:=by exact iZ)
   (hx:EV n f x (.pointer (some ⟨k,j,some off⟩)):=by exact bR) (mX:d_ x (di l ⟨d,.load T x,T2,ps,af,gd⟩)=true:=by rfl) (hm:Mem (jV E R k j a) cs:=by exact jg) (h0:Nat.blt 0 s=true:=by rfl):
   DC P n l tb az H0 F0 K (i::todo) fl f cs:=Ya ul hA.h ht.h.sz h0 ho hw hx mX hm hop h
theorem Ab{T2:TypeId} [dA R]{c1:ι->ah} [hA:iX P T true] [ht:iY P T s b zv](ul:ι->List Value)(hop:∀H e,R H e a-> ∃i,off+s<=e.cells.size/\(e.cells.toList.drop off).take s=ul i/\ ∀c∈([c1 i]:List ah),c.P H/\c.F=[])
   (h:∀i,aU P n H0 F0 A r (put f d (.agg (ul i).toArray)) (c1 i::cs) K) (hx:EV n f x (.pointer (some ⟨k,j,some off⟩)):=by exact bR) (hm:Mem (jV E R k j a) cs:=by exact jg) (h0:Nat.blt 0 s=true:=by rfl):
   aU P n H0 F0 A (⟨d,.load T x,T2,ps,af,none⟩::r) f cs K:=Yb ul hA.h ht.h.sz h0 hx hm hop h
theorem fF{c1:ah}{l:List Oper}(hs:eX cs pre rest)(hv:Conv pre [c1])(h:aU P n H0 F0 A l f (c1::rest) K):aU P n H0 F0 A l f cs K:=zQ hs hv bP h
theorem Ej{c1:ah}{r:List Nat}(hs:eX cs pre rest)(hv:Conv pre [c1])(h:DC P n l tb az H0 F0 K r fl f (c1::rest)):DC P n l tb az H0 F0 K r fl f cs:=FT hs hv bP h
theorem bnd{α β:Type}{G:Prop}{x:Option α}{g:α->Option β}{b:β}(h:x.bind g=some b)(k:∀a,x=some a->g a=some b->G):G:=by
 obtain⟨a,h1,h2⟩:=bind_some h
 exact k a h1 h2
theorem Ci{β:Type}{b:Bool}{p q:Option β}{R0:β}{c1 c2:Code}{Q:Exit->Fr->List ah->Prop}(hF:(if b=true then p else q)=some R0)(h1:b=true->p=some R0->CW P n H0 F0 c1 Q f cs)(h2:b=false->q=some R0->CW P n H0 F0 c2 Q f cs)
   (hc:EV n f x (.bool b):=by exact bR):CW P n H0 F0 (.cond x c1 c2) Q f cs:=
 lN hc (fun e=>h1 e (by rwa [if_pos e]at hF)) (fun e=>h2 e (by rwa [if_neg (nt e)]at hF))
theorem Kb{β:Type}{R':ag->Value->β->Prop} [dA R']{T3:TypeId}{u:Value}{cs':List ah}{c:Code}{Q:Exit->Fr->List ah->Prop}(he:aF cs cs')(ys:List β)(h:ys.length<4611686018427387904->CW P n H0 F0 c Q f cs')(hm:Mem (dR (b_ T3 R') u ys) cs':=by exact jg):CW P n H0 F0 c Q f cs:=
 bg he (Qw hm O8 h)
abbrev pz(k:Nat):Value:=.pointer (some ⟨k,0,some 0⟩)
theorem dn{α:Type}{k:Nat}{l:List α}(h:List.drop k l=[]):l.length<=k:=List.drop_eq_nil_iff.1 h
end
end Go.Fw
/-
 More plain laws about loops. No conditions.
-/
set_option linter.unusedVariables false
namespace Go.Fw
open Go
theorem Qi{α β:Type}{P:α->Prop}{p:α->Bool}{g:α->β}{L:List α->Nat->List β->Option (List β)}(h0:∀k c,L [] k c=some c)
   (h1:∀x r k c,P x->c.length+1<4294967296->L (x::r) k c=L r (k+1) (if p x then c++[g x]else c)):
   ∀(l:List α)(k:Nat)(c:List β),(∀x∈l,P x)->c.length+l.length<4294967296->L l k c=some (c++(l.filter p).map g)
 |[],k,c,_,_=>by simp[h0]
 |x::r,k,c,hp,hl=>by
   simp only[List.length_cons]at hl
   rw[h1 x r k c (hp x (by simp)) (by omega),Qi h0 h1 r (k+1) _ (fun y hy=>hp y (by simp[hy])) (by split<;>(try simp only[List.length_append,List.length_cons,List.length_nil])<;>omega),List.filter_cons]
   split<;>simp
end Go.Fw
