/-
  A framework: readings, small rules, plain laws. No conditions.
-/
import Derived.Test.YtfcjmpkenaiomaaGreatFb
import Derived.Deep.Slices
import Derived.ChangeArms
import Derived.SizedLaws
import Derived.Laws.Small
import Derived.WalkSpells
import Derived.Laws.Slices
import Derived.Sort.Grow
import Derived.Lib.SlicesCompact
import Derived.Lib.AppendZerosOnto
import Derived.Lib.Overlaps
import Derived.Laws.Externs
/-
 The bridge: what the arguments of a row's function read a_, a_ data.
-/
namespace Go.Fw
open Go Go.RowKit Go.WideShapes Go.ChangeShapes Go.ChangeAt
def sJ(ρ:eO):Prop:=∀k L,ρ k=some (some L)->L.own=false
def uC{α:Type}(P:Program) [dF P](t:TypeId)(R:aH->Value->α->Prop)(W:α->Prop):Prop:=
 ∀{T:Type}(enc:TypeId×Value->T)(w:World)(fuel:Nat)(cs:List Value)(x:DataW T×List MemPlace),
   DataW.trod enc P w 0 (fun _=>true) true fuel t cs=some x->(∀n∈x.1.weights P t,n<=reachBytes)->
   ∀(ρ:eO)(H:aH),Rel P ρ H w->sJ ρ-> ∃(ρ':eO)(H':aH)(av:Value)(a:α),Rel P ρ' H' w/\sJ ρ'/\Up ρ ρ'/\iP H H'/\cZ ρ' av.cells.toList cs/\R H' av a/\W a
theorem Rel.nil(P:Program) [dF P](w:World)(hV:dF.V P w):Rel P (fun _=>none) [] w:=⟨by simp,by simp,by simp,by simp,⟨w,hV,Nat.le_refl _,fun _ _=>rfl,by simp⟩⟩
theorem sJ.nil:sJ (fun _=>none):=fun _ _ h=>by simp at h
section
variable{P:Program} [dF P]{ρ:eO}{H:aH}{w:World}
theorem VU{ρ:eO}{H:aH}(h:Rel P ρ H w)(o:Option Loc):Up ρ (mJ ρ H.length o):=by
 intro k
 by_cases e:k=H.length
 · subst e; exact .inl (h.dom _ (Nat.le_refl _))
 · exact .inr (.inl (fZ _ _ e))
theorem Rel.foreign{L:Loc}{b:gL}(h:Rel P ρ H w)(hF:sJ ρ)(hL:L.own=false)(hb:wY P ρ L b w):Rel P (mJ ρ H.length (some L)) (H++[some b]) w:=by
 have hu:=VU h (some L)
 constructor
 · intro k L' hk
   by_cases e:k=H.length
   · subst e
     rw[jl]at hk
     obtain rfl:L=L':=by simpa using hk
     exact⟨b,by simp,hb.of_same hu rfl⟩
   · rw[fZ _ _ e]at hk
     obtain⟨b',hb',hr⟩:=h.blk k L' hk
     exact⟨b',by rw[List.getElem?_append_left (sV hb')]; exact hb',hr.of_same hu rfl⟩
 · intro k b' hb' hk
   by_cases e:k=H.length
   · subst e; rw[jl]at hk; simp at hk
   · rw[fZ _ _ e]at hk
     have hkl:k<H.length:=by
       have:=sV hb'
       simp at this; omega
     rw[List.getElem?_append_left hkl]at hb'
     exact h.alive k b' hb' hk
 · intro k hk
   simp at hk
   rw[fZ _ _ (by omega)]
   exact h.dom k (by omega)
 · intro k k' L1 L2 h1 h2 ho _
   exfalso
   by_cases e:k=H.length
   · subst e; rw[jl]at h1
     obtain rfl:L=L1:=by simpa using h1
     rw[hL]at ho; simp at ho
   · rw[fZ _ _ e]at h1
     rw[hF k L1 h1]at ho; simp at ho
 · refine h.vok.keep (Nat.le_refl _) (fun _ _ _=>rfl) fun k L' hk ho=>?_
   by_cases e:k=H.length
   · subst e; rw[jl]at hk
     obtain rfl:L=L':=by simpa using hk
     rw[hL]at ho; simp at ho
   · rw[fZ _ _ e]at hk; exact .inl hk
theorem sJ.foreign{L:Loc}(hF:sJ ρ)(hL:L.own=false)(n:Nat):sJ (mJ ρ n (some L)):=by
 intro k L' hk
 by_cases e:k=n
 · subst e; rw[jl]at hk
   obtain rfl:L=L':=by simpa using hk
   exact hL
 · rw[fZ _ _ e]at hk; exact hF k L' hk
theorem Rel.dead(h:Rel P ρ H w):Rel P (mJ ρ H.length none) (H++[none]) w:=by
 have hu:=VU h none
 constructor
 · intro k L' hk
   by_cases e:k=H.length
   · subst e; rw[jl]at hk; simp at hk
   · rw[fZ _ _ e]at hk
     obtain⟨b',hb',hr⟩:=h.blk k L' hk
     exact⟨b',by rw[List.getElem?_append_left (sV hb')]; exact hb',hr.of_same hu rfl⟩
 · intro k b' hb' hk
   by_cases e:k=H.length
   · subst e; simp at hb'
   · rw[fZ _ _ e]at hk
     have hkl:k<H.length:=by
       have:=sV hb'
       simp at this; omega
     rw[List.getElem?_append_left hkl]at hb'
     exact h.alive k b' hb' hk
 · intro k hk
   simp at hk
   rw[fZ _ _ (by omega)]
   exact h.dom k (by omega)
 · intro k k' L1 L2 h1 h2 ho he
   by_cases e:k=H.length
   · subst e; rw[jl]at h1; simp at h1
   · by_cases e':k'=H.length
     · subst e'; rw[jl]at h2; simp at h2
     · rw[fZ _ _ e]at h1; rw[fZ _ _ e']at h2
       exact h.inj k k' L1 L2 h1 h2 ho he
 · refine h.vok.keep (Nat.le_refl _) (fun _ _ _=>rfl) fun k L' hk ho=>?_
   by_cases e:k=H.length
   · subst e; rw[jl]at hk; simp at hk
   · rw[fZ _ _ e]at hk; exact .inl hk
theorem sJ.dead(hF:sJ ρ)(n:Nat):sJ (mJ ρ n none):=by
 intro k L' hk
 by_cases e:k=n
 · subst e; rw[jl]at hk; simp at hk
 · rw[fZ _ _ e]at hk; exact hF k L' hk
theorem VG(H:aH)(x:Option gL):iP H (H++[x]):=fun k b hk _=>by rw[List.getElem?_append_left (sV hk)]; exact hk
def aik(a:Int):Prop:=-9223372036854775808<=a/\a<=9223372036854775807
def avL(_:UInt8):Prop:=True
def arK{α:Type}(_:α):Prop:=True
def arL(a:List UInt8):Prop:=a.length<=140737488351232
def abX{α:Type}(W:α->Prop)(a:List α):Prop:=a.length<=140737488351232/\ ∀x∈a,W x
theorem uC.int{t:TypeId}(ht:P.underlying t=some (.int .i64)):uC P t az aik:=by
 intro T enc w fuel cs x h _ ρ H hr hF
 obtain⟨n,rfl,rfl,hw⟩:=DataW.trod_int ht h
 refine⟨ρ,H,.int .i64 n,n,hr,hF,Up.refl ρ,iP.refl H,.cons _ _ _ _ (.int _ _) .nil,rfl,?_⟩
 simp only[Lit.wf,IntKind.min,IntKind.max,Bool.and_eq_true]at hw
 unfold aik
 simpa[IntKind.signed,IntKind.bits]using hw
theorem uC.u8{t:TypeId}(ht:P.underlying t=some (.int .u8)):uC P t xh avL:=by
 intro T enc w fuel cs x h _ ρ H hr hF
 obtain⟨n,rfl,rfl,hw⟩:=DataW.trod_int ht h
 simp only[Lit.wf,IntKind.min,IntKind.max,Bool.and_eq_true]at hw
 have hw':0<=n/\n<=255:=by simpa[IntKind.signed,IntKind.bits]using hw
 refine⟨ρ,H,.int .u8 n,UInt8.ofNat n.toNat,hr,hF,Up.refl ρ,iP.refl H,.cons _ _ _ _ (.int _ _) .nil,?_,trivial⟩
 unfold xh
 have:((UInt8.ofNat n.toNat).toNat:Int)=n:=by
   simp[UInt8.toNat_ofNat']
   omega
 rw[this]
theorem uC.bool{t:TypeId}(ht:P.underlying t=some .bool):uC P t rdBool arK:=by
 intro T enc w fuel cs x h _ ρ H hr hF
 obtain⟨b,rfl,rfl⟩:=DataW.trod_bool ht h
 exact⟨ρ,H,.bool b,b,hr,hF,Up.refl ρ,iP.refl H,.cons _ _ _ _ (.bool _) .nil,rfl,trivial⟩
theorem uC.str{t:TypeId}(ht:P.underlying t=some .string):uC P t rdStr arL:=by
 intro T enc w fuel cs x h hw ρ H hr hF
 obtain⟨s,rfl,rfl,hs⟩:=DataW.trod_string ht h
 refine⟨ρ,H,.string s,s.data.toList,hr,hF,Up.refl ρ,iP.refl H,.cons _ _ _ _ (.string _) .nil,rfl,?_⟩
 have:=hw s.data.toList.length (by simp[DataW.weights])
 exact this
theorem amz{Pg:Program}{T:Type}{e:TypeId}{l:List (DataW T)}{d:DataW T}(hd:d∈l){n:Nat}(hn:n∈d.weights Pg e):n∈DataW.weightsAll Pg e l:=by
 induction l with
 |nil=>simp at hd
 |cons x l ih=>
   simp only[DataW.weightsAll,List.mem_append]
   rcases List.mem_cons.1 hd with rfl|h
   · exact .inl hn
   · exact .inr (ih h)
theorem ag'{α T:Type}{enc:TypeId×Value->T}{E:TypeId}{R:aH->Value->α->Prop}{W:α->Prop} [eF R](hE:uC P E R W){fuel:Nat}{C:Nat->List Value}{D:Nat->DataW T×List MemPlace}:
   ∀(len:Nat),(∀i,i<len->DataW.trod enc P w 0 (fun _=>true) true fuel E (C i)=some (D i)/\ ∀n∈(D i).1.weights P E,n<=reachBytes)-> ∀(ρ:eO)(H:aH),Rel P ρ H w->sJ ρ->
     ∃(ρ':eO)(H':aH)(es:List Value)(a_:List α),Rel P ρ' H' w/\sJ ρ'/\Up ρ ρ'/\iP H H'/\es.length=len/\a_.length=len/\(∀(i:Nat) e,es[i]?=some e->cZ ρ' e.cells.toList (C i))/\
       (∀(i:Nat) a,a_[i]?=some a-> ∃e,es[i]?=some e/\R H' e a)/\ ∀a∈a_,W a
 |0,_,ρ,H,hr,hF=>⟨ρ,H,[],[],hr,hF,Up.refl ρ,iP.refl H,rfl,rfl,by simp,by simp,by simp⟩
 |len+1,h,ρ,H,hr,hF=>by
   obtain⟨ρ1,H1,es,a_,r1,f1,u1,i1,l1,l2,g1,g2,g3⟩:=ag' hE len (fun i hi=>h i (by omega)) ρ H hr hF
   obtain⟨t,tw⟩:=h len (by omega)
   obtain⟨ρ2,H2,e,a,r2,f2,u2,i2,v2,q2,w2⟩:=hE enc w fuel _ _ t tw ρ1 H1 r1 f1
   refine⟨ρ2,H2,es++[e],a_++[a],r2,f2,u1.trans u2,i1.trans i2,by simp[l1],by simp[l2],?_,?_,?_⟩
   · intro i e' he'
     by_cases hi:i<es.length
     · rw[List.getElem?_append_left hi]at he'
       exact (g1 i e' he').up u2
     · rw[List.getElem?_append_right (by omega)]at he'
       have hi':i-es.length=0:=by
         rcases Nat.eq_zero_or_pos (i-es.length)with h|h
         · exact h
         · rw[List.getElem?_eq_none (by simp; omega)]at he'; simp at he'
       rw[hi']at he'
       obtain rfl:e=e':=by simpa using he'
       obtain rfl:i=len:=by omega
       exact v2
   · intro i a' ha'
     by_cases hi:i<a_.length
     · rw[List.getElem?_append_left hi]at ha'
       obtain⟨e',he',hq⟩:=g2 i a' ha'
       exact⟨e',by rw[List.getElem?_append_left (by omega)]; exact he',eF.up hq i2⟩
     · rw[List.getElem?_append_right (by omega)]at ha'
       have hi':i-a_.length=0:=by
         rcases Nat.eq_zero_or_pos (i-a_.length)with h|h
         · exact h
         · rw[List.getElem?_eq_none (by simp; omega)]at ha'; simp at ha'
       rw[hi']at ha'
       obtain rfl:a=a':=by simpa using ha'
       exact⟨e,by rw[List.getElem?_append_right (by omega),show i-es.length=0 by omega]; rfl,q2⟩
   · intro a' ha'
     rcases List.mem_append.1 ha' with h|h
     · exact g3 a' h
     · obtain rfl:a'=a:=by simpa using h
       exact w2
theorem uC.slice{α:Type}{t E:TypeId}{R:aH->Value->α->Prop}{W:α->Prop}{s:Nat} [eF R] [Cells R s](ht:P.underlying t=some (.slice E))(hs:P.cellsOf E=s)(h0:0<s)(hb:0<P.bytesOf E)
   (hE:uC P E R W):uC P t (aD E R) (abX W):=by
 intro T enc w fuel cs x h hw ρ H hr hF
 rcases Deep.open_slice ht h with⟨rfl,rfl⟩|⟨a,len,cap,m,n,D,Pl,rfl,-,hlc,hcm,hm,rfl,hx⟩
 · exact⟨ρ,H,.slice none 0 0,[],hr,hF,Up.refl ρ,iP.refl H,.cons _ _ _ _ .nilSlice .nil,.inl ⟨rfl,rfl⟩,by simp[abX]⟩
 have hm':m=cap:=by simpa using hm
 subst hm'
 rcases Nat.eq_zero_or_pos len with rfl|hpos
 · refine⟨_,_,.slice (some ⟨H.length,0,none⟩) 0 0,[],hr.dead,hF.dead _,VU hr none,VG H none,?_,.inr (.inr ⟨_,_,_,rfl,rfl⟩),by simp[abX]⟩
   exact .cons _ _ _ _ (.sliceDead _ _ _ _ _ _ (jl _ _ _)) .nil
 have hwl:len*P.bytesOf E<=reachBytes:=by
   have:=hw _ (by simp only[DataW.weights,ht]; exact List.mem_cons_self)
   simp only[List.length_map,List.length_range]at this
   exact Nat.le_trans (Nat.mul_le_mul_right _ (by omega)) this
 have hlen:len<=140737488351232:=by
   have h1:len*1<=len*P.bytesOf E:=Nat.mul_le_mul_left _ hb
   have h2:reachBytes=140737488351232:=rfl
   omega
 have hch:∀i,∃cs',i<len->w.cells? 0 (a.add (i*P.cellsOf E)) (P.cellsOf E)=some cs'/\DataW.trod enc P w 0 (fun _=>true) true n E cs'=some (D i,Pl i):=by
   intro i
   by_cases hi:i<len
   · obtain⟨cs',h1,h2⟩:=hx i (by omega)
     exact⟨cs',fun _=>⟨h1,h2⟩⟩
   · exact⟨[],fun h=>absurd h hi⟩
 obtain⟨C,hC⟩:=Classical.axiomOfChoice hch
 rw[hs]at hC
 obtain⟨ρ1,H1,es,a_,r1,f1,u1,i1,l1,l2,g1,g2,g3⟩:=ag' (enc:=enc) (D:=fun i=>(D i,Pl i)) hE len (fun i hi=>⟨(hC i hi).2,fun k hk=>hw k (by
   simp only[DataW.weights,ht]
   refine List.mem_cons_of_mem _ (List.mem_append_left _ (amz (d:=D i) (List.mem_map.2 ⟨i,by simpa using hi,rfl⟩) hk)))⟩) ρ H hr hF
 obtain⟨-,hl0,hc0⟩:=World.cells?_some (hC 0 hpos).1
 have hcell:=hc0 0 h0
 rw[List.getElem?_eq_getElem (by omega)]at hcell
 obtain⟨ab,ao,asp⟩:=a
 have hsp:asp=none:=by simpa[Addr.add]using World.cell?_spot hcell
 subst hsp
 have WW:∃c ct fr,w.heap[ab]?=some (.cells c ct fr):=by
   simp only[World.cell?,Addr.add,Nat.zero_mul,if_true]at hcell
   split at hcell
   · exact⟨_,_,_,by assumption⟩
   · simp at hcell
 obtain⟨c,ct,fr,WW⟩:=WW
 have hadd:∀(o:Nat),Addr.add ⟨ab,ao,none⟩ o=⟨ab,ao+o,none⟩:=by
   intro o
   exact addr_add _ _ _
 have hCi:∀i,i<len->(c.toList.drop (ao+i*s)).take s=C i:=by
   intro i hi
   obtain⟨-,hl,hc⟩:=World.cells?_some (hC i hi).1
   apply List.ext_getElem?
   intro j
   by_cases hj:j<s
   · have:=hc j hj
     rw[hadd,show Addr.add ⟨ab,ao+i*s,none⟩ j=⟨ab,ao+i*s+j,none⟩from addr_add _ _ _,Mq WW]at this
     rw[List.getElem?_take_of_lt hj,List.getElem?_drop,←this]
     simp
   · rw[List.getElem?_eq_none (by rw[List.length_take]; omega),List.getElem?_eq_none (by omega)]
 have hbr:wY P ρ1 ⟨ab,ao,s,0,false⟩ ⟨es,E,false,false⟩ w:=by
   refine⟨rfl,hs,c,ct,fr,WW,fun i e he=>?_,by simp⟩
   have hi:i<len:=by
     have:i<es.length:=by
       rcases Nat.lt_or_ge i es.length with h|h
       · exact h
       · simp[List.getElem?_eq_none h]at he
     omega
   obtain⟨e',he',hq⟩:=g2 i _ (List.getElem?_eq_getElem (show i<a_.length by omega))
   rw[he]at he'
   obtain rfl:e=e':=by simpa using he'
   exact⟨(Cells.cells hq).1,by rw[hCi i hi]; exact g1 i e he⟩
 refine⟨_,_,.slice (some ⟨H1.length,0,none⟩) len 0,a_,r1.foreign f1 rfl hbr,f1.foreign rfl _,u1.trans (VU r1 _),i1.trans (VG _ _),?_,?_,by omega,g3⟩
 · refine .cons _ _ _ _ (.slice _ _ _ _ _ _ _ (jl _ _ _) hlc (by simp) (by simp) fun _=>⟨?_,by simp⟩) .nil
   simp
 · refine .inr (.inl ⟨H1.length,0,0,⟨es,E,false,false⟩,by rw[l2],by simp,rfl,rfl,by simp[l1,l2],by omega,fun j a ha=>?_⟩)
   obtain⟨e,he,hq⟩:=g2 j a ha
   exact⟨e,by simpa using he,eF.up hq (VG _ _)⟩
def fieldAt(P:Program) [dF P](t:TypeId)(i:Nat):Option (TypeId×Nat×Nat):=
 match P.underlying t with
 |some (.struct fs)=>(fs[i]?).map fun f=>(f.type,f.offset,P.cellsOf f.type)
 |_=>none
theorem cZ.field{l l' cs:List Value}{o s:Nat}(h:cZ ρ l ((cs.drop o).take s))(h':cZ ρ l' (cs.drop (o+s))):cZ ρ (l++l') (cs.drop o):=by
 have:=h.append h'
 rwa [←List.drop_drop,List.take_append_drop]at this
theorem cZ.one{v:Value}{l:List Value}(h:cZ ρ v.cells.toList l)(hv:Value.cells v= #[v]):cZ ρ [v] l:=by rw[hv]at h; exact h
theorem cZ.end{cs:List Value}{o:Nat}(h:cs.length=o):cZ ρ [] (cs.drop o):=by
 rw[List.drop_of_length_le (by omega)]; exact .nil
def Cw:Value->Bool
 | .agg _=>true
 |_=>false
def abY(P:Program) [dF P](t:TypeId):Bool:=
 match P.underlying t with
 |some (.struct _)|some (.array _ _)=>true
 |_=>false
theorem aon{r:Reach}{base:Nat}{t:TypeId}{v:Value}(h:Value.okWide P w r base t v):Cw v=abY P t:=by
 unfold Value.okWide at h
 unfold abY
 split at h
 · obtain⟨cs,rfl,-⟩:=h; simp_all [Cw]
 · obtain⟨cs,rfl,-⟩:=h; simp_all [Cw]
 · rename_i h1 h2
   have:Cw v=false:=by
     cases v with
     |agg l=>unfold Cell.okWide at h; split at h<;>simp_all [Cell.ok]
     |_=>rfl
   rw[this]
   split<;>simp_all
theorem dQ.of_cells{av v:Value}(h:cZ ρ av.cells.toList v.cells.toList)(hs:Cw v=Cw av):dQ ρ av v:=by
 cases av with
 |agg l'=>
   cases v with
   |agg l=>have:=dQ.agg _ _ h; simpa[Value.cells]using this
   |_=>simp[Cw]at hs
 |_=>
   cases v with
   |agg l=>simp[Cw]at hs
   |_=>cases h with|cons _ _ _ _ h _=>exact h
theorem apt{α T:Type}{enc:TypeId×Value->T}{t:TypeId}{ts:List TypeId}{R:aH->Value->α->Prop}{W:α->Prop}{vs:List Value}{ds:List (DataW T)}{ps:List MemPlace}
   (h:DataW.TrodAll enc P w 0 (fun _=>true) true (t::ts) vs ds ps) (hw:∀n∈DataW.weightsEach P (t::ts) ds,n<=reachBytes) (hE:uC P t R W) (hsh:∀H v a,R H v a->Cw v=abY P t) {r:Reach} {base:Nat} (hok:∀v,vs[0]?=some v->Value.okWide P w r base t v) (hr:Rel P ρ H w) (hF:sJ ρ):
   ∃(v:Value)(vs':List Value)(d:DataW T)(ds':List (DataW T))(q:List MemPlace)(ρ':eO)(H':aH)(av:Value)(a:α),vs=v::vs'/\ds=d::ds'/\DataW.TrodAll enc P w 0 (fun _=>true) true ts vs' ds' q/\
     (∀n∈DataW.weightsEach P ts ds',n<=reachBytes)/\Rel P ρ' H' w/\sJ ρ'/\Up ρ ρ'/\iP H H'/\dQ ρ' av v/\R H' av a/\W a:=by
 cases vs with
 |nil=>cases ds<;>exact h.elim
 |cons v vs=>
   cases ds with
   |nil=>exact h.elim
   |cons d ds=>
     obtain⟨p,q,⟨fuel,h1⟩,h2,rfl⟩:=h
     obtain⟨ρ',H',av,a,g1,g2,g3,g4,g5,g6,g7⟩:=hE enc w fuel _ _ h1 (fun n hn=>hw n (by simp only[DataW.weightsEach,List.mem_append]; exact .inl hn)) ρ H hr hF
     exact⟨v,vs,d,ds,q,ρ',H',av,a,rfl,rfl,h2,fun n hn=>hw n (by simp only[DataW.weightsEach,List.mem_append]; exact .inr hn),g1,g2,g3,g4,.of_cells g5 (by rw[hsh _ _ _ g6,aon (hok v rfl)]),g6,g7⟩
theorem ap5{args:Array Value}{i:Nat}{v:Value}(h:args.toList[i]?=some v):args[i]?=some v:=by simpa using h
theorem ao9{Pg:Program}{T:Type}{enc:TypeId×Value->T}{vs:List Value}{ds:List (DataW T)}{ps:List MemPlace}(h:DataW.TrodAll enc Pg w 0 (fun _=>true) true [] vs ds ps):vs=[]/\ds=[]:=by
 cases vs<;>cases ds<;>first|exact⟨rfl,rfl⟩|exact h.elim
end
end Go.Fw
/-
 Small rules for the generator.
-/
set_option linter.unusedVariables false
namespace Go.Fw
open Go
section
variable{P:Program} [dF P]{n:Nat}{f:Fr}{H:aH}{d:Option Tmp}{x y z:Operand}{T T' T'' E:TypeId}{ps:String}{af:Array Edge}{gd:Option (Nat×Bool)}
theorem rY{g:Bool}{s b:Nat}{zv:Value}(ht:TY P T s b zv)(hv:zv.cells.size=s)(hc:Bv zv=true):y5 P n ⟨d,.alloc T,T',ps,af,gd⟩ f (fun k=>.pointer (some ⟨k,0,some 0⟩)) ⟨[zv],T,true,g⟩:=by
 obtain⟨i,hi,-,-,hz⟩:=ht.inv
 exact apm hi hz ht.sz hv hc
theorem bQ{g:Bool}{s b':Nat}{zv:Value}{len:Nat}{parts:List (Nat×Operand)}{vs:List Value}(hT:SL P T E)(ht:TY P E s b' zv)(hxs:kM n f (parts.map (·.2)) vs)
   (hidx:parts.map (·.1)=List.range' 0 parts.length) (hlen:len=parts.length) (hbig:Nat.ble (len*s) (2 ^ 24)=true) (hv:∀v∈vs,v.cells.size=s):
   y5 P n ⟨d,.buildSlice T len parts.toArray,T',ps,af,gd⟩ f (fun k=>.slice (some ⟨k,0,none⟩) len 1) ⟨vs,E,true,g⟩:=by
 obtain⟨iE,Ar,h1,h2,h3⟩:=ht.inv
 exact anE hT ht.sz Ar h3 hxs hidx hlen hbig hv
theorem arM{a b:Bool}(hT:P.underlying T=some .bool)(hx:EV n f x (.bool a))(hy:EV n f y (.bool b)):gY P n ⟨d,.binOp .eql T x y T',T'',ps,af,none⟩ f H (.bool (a==b)):=
 fun ρ w q _ hf=>⟨.bool (a==b),by simp[execOp,(hx.use hf).bool_inv,(hy.use hf).bool_inv,eqGuard,run_eql_bool w T a b hT],.bool _⟩
theorem Qk{a b:Bool}(hT:P.underlying T=some .bool)(hx:EV n f x (.bool a))(hy:EV n f y (.bool b)):gY P n ⟨d,.binOp .neq T x y T',T'',ps,af,none⟩ f H (.bool (!(a==b))):=
 fun ρ w q _ hf=>⟨.bool (!(a==b)),by simp[execOp,(hx.use hf).bool_inv,(hy.use hf).bool_inv,eqGuard,run_neq_bool w T a b hT],.bool _⟩
theorem jm{o:Oper}{base pre rest:List aL}{ι:Type}{val:ι->Value}{post:ι->List aL}(hs:gN base pre rest)(hx:XC P n o f pre val post):XC P n o f base val post:=by
 intro H hc ρ w a K' Q' hr hf hk
 have hc':=hc.take hs
 have hsub:∀k∈foot pre,k∈foot base:=by
   intro k hk
   have:=(hc'.own k (by simp only[foot,List.flatMap_append,List.mem_append]; exact .inl hk))
   rcases this.1 with h|h
   · exact h
   · omega
 refine hx H hc'.view ρ w a K' Q' hr hf fun f' ρ' H' a' w' h1 h2 h3 h4=>?_
 obtain⟨x,e,h5⟩:=h4
 refine hk f' ρ' H' a' w' h1 h2 h3 ⟨x,e,h5.len,h5.imm,fun k hk hn=>h5.agr k hk (fun h=>hn (hsub k h)),h5.hold,h5.nd,fun k hk=>⟨?_,(h5.own k hk).2⟩⟩
 exact (h5.own k hk).1.imp (hsub k) id
theorem ahv{o:Oper}{base pre:List aL}{ι:Type}{val:ι->Value}{post:ι->List aL}(hp:base.Perm pre)(hx:XC P n o f pre val post):XC P n o f base val post:=by
 intro H hc ρ w a K' Q' hr hf hk
 have hm:∀k,k∈foot pre↔k∈foot base:=fun k=>(hp.flatMap_right aL.F).symm.mem_iff
 have hc2:Ctx H (foot pre) H pre:=by
   have h:=hc.perm hp
   exact⟨h.len,h.imm,fun _ _ _=>rfl,h.hold,h.nd,fun k hk=>⟨.inl hk,(h.own k hk).2⟩⟩
 refine hx H hc2 ρ w a K' Q' hr hf fun f' ρ' H' a' w' h1 h2 h3 h4=>?_
 obtain⟨x,e,h5⟩:=h4
 refine hk f' ρ' H' a' w' h1 h2 h3 ⟨x,e,h5.len,h5.imm,fun k hk hn=>h5.agr k hk (fun h=>hn ((hm k).1 h)),h5.hold,h5.nd,fun k hk=>⟨?_,(h5.own k hk).2⟩⟩
 exact (h5.own k hk).1.imp (hm k).1 id
theorem apu{o:Oper}{c c':aL}{pre:List aL}{ι:Type}{val:ι->Value}{post:ι->List aL}(hf:zW c c')(hl:∀x,xX (post x))(hx:XC P n o f (pre++[c']) val post):XC P n o f (c::pre) val (fun x=>c::post x):=
 jV hf hl (ahv (List.perm_append_singleton c' pre).symm hx)
inductive MZ:List aL->List aL->List aL->Prop
 |nil {pre:List aL}:MZ [] pre pre
 |cons {c c':aL} {cs pre base:List aL} [Q8 c] (h:zW c c') (t:MZ cs (c'::pre) base):MZ (c::cs) pre base
theorem MZ.loc{cl pre base post:List aL}(h:MZ cl pre base)(hl:xX post):xX (cl++post):=by
 induction h with
 |nil=>exact hl
 |cons _ _ ih=>exact .cons ih
theorem jH{o:Oper}{cl pre base:List aL}{ι:Type}{val:ι->Value}{post:ι->List aL}(hf:MZ cl pre base)(hl:∀x,xX (post x))(hx:XC P n o f base val post):XC P n o f (cl++pre) val (fun x=>cl++post x):=by
 induction hf with
 |nil=>exact hx
 |cons h t ih=>exact jV h (fun x=>t.loc (hl x)) (ahv List.perm_middle.symm (ih hx))
end
end Go.Fw
namespace Go.Fw
open Go
theorem Ctx.start(H:aH):Ctx H [] H []:=⟨Nat.le_refl _,iP.refl _,fun _ _ _=>rfl,fun c hc=>by simp at hc,by simp,fun k hk=>by simp at hk⟩
end Go.Fw
/-
 Parts of elements of our own slices: loaded, stored, handed to a callee that turns them.
-/
set_option linter.unusedVariables false
namespace Go.Fw
open Go
theorem aoM{ρ:eO}{c:Value}(h:dQ ρ undef c):c=undef:=by
 generalize hx:undef=x at h
 cases h with
 |tuple a a' h=>
   have:a=[]:=by
     have e:(undef:Value)= .tuple #[]:=rfl
     rw[e]at hx
     injection hx with hx
     have:=congrArg Array.toList hx
     simpa using this.symm
   subst this
   cases h
   rfl
 |_=>simp[undef]at hx
theorem afB{n:Nat}{A:Array Oper}{f:Fr}{o:Oper}{j:Nat}{want:Bool}{t:Tmp}(h:o.guard=some (j,want))(hd:(A[j]?).bind (·.dst)=some t)(hv:f t=undef)(ht:Nat.blt t n=true):Wanted n A f o false:=by
 intro ρ a hf
 have hlt:t<n:=by simpa[Nat.blt_eq]using ht
 have hr:=hf.get t hlt
 rw[hv]at hr
 have hlt':t<a.tmps.size:=by rw[hf.size]; exact hlt
 have hg:a.tmps[t]?=some (a.tmps.getD t undef):=by
   simp[Array.getD_eq_getD_getElem?,hlt']
 rw[aoM hr]at hg
 simp[Region.wanted,h,yielded,hd,hg,undef]
section
variable{P:Program} [dF P]{n:Nat}{H0:aH}{F0:List Nat}{f:Fr}{cs:List aL}{A:Array Oper}{r:List Oper}{K:Fr->List aL->Prop}{d:Option Tmp}{op:Op}{T T' E:TypeId}{ps:String}{af:Array Edge}{gd:Option (Nat×Bool)}{x y:Operand}
variable{l:List Oper}{tb a_ todo:List Nat}{fl:List (Nat×List Nat)}{i:Nat}
theorem ap6{j:Nat}{t:Tmp}{b:Bool}(hd:(A[j]?).bind (·.dst)=some t)(hv:f t=undef)(ht:Nat.blt t n=true)(h:bL P n H0 F0 A r (put f d undef) cs K):
   bL P n H0 F0 A (⟨d,op,T,ps,af,some (j,b)⟩::r) f cs K:=fun H hc=>agD (afB rfl hd hv ht) (h H hc)
theorem ap7(t:Tmp){j:Nat}{b:Bool}(ho:l[i]?=some ⟨d,op,T,ps,af,some (j,b)⟩)(h1:(l[j]?).bind (·.dst)=some t)(h2:f t=undef)(h3:Nat.blt t n=true)(h:DC P n l tb a_ H0 F0 K todo fl (put f d undef) cs):
   DC P n l tb a_ H0 F0 K (i::todo) fl f cs:=
 fun H hc=>.flt (Ks:=[]) ho (.inr ⟨rfl,fun f' ha=>by
   have hv:f' t=undef:=(ha t (Zk h1)).trans h2
   exact afB (o:=⟨d,op,T,ps,af,some (j,b)⟩) rfl (by simpa using h1) hv h3⟩) ((h H hc).cov fun p hp=>by
   rcases List.mem_cons.1 hp with h|h
   · exact .inr (by rw[h])
   · exact .inl h)
variable{α β:Type}{Ro:jb α}{Rf:jb β}
structure Part(Ro:jb α)(off:Nat)(Rf:jb β)(get:α->β)(set:α->β->α):Prop where
 split:∀{F:List Nat}{H:aH}{e:Value}{a:α},Ro F H e a-> ∃(w:Sv)(Fa Fw Fb:List Nat),e.cells.toList[off]?=some w.v/\F=Fa++Fw++Fb/\Rf Fw H w.v (get a)/\
   ∀{H':aH}{Fw':List Nat}{d':β},iP H H'->(∀k,k∈Fa\/k∈Fb->H'[k]?=H[k]?)->Rf Fw' H' w.v d'->Ro (Fa++Fw'++Fb) H' e (set a d')
def avM(E:TypeId)(Ro:jb α)(i off:Nat)(w:Value):jb (List α):=fun F H v xs=>aF E Ro F H v xs/\ ∃k b e,F.head?=some k/\l8 v=some k/\H[k]?=some (some b)/\b.elems[i]?=some e/\e.cells.toList[off]?=some w
instance{i off:Nat}{w:Value} [ik Ro]:ik (avM E Ro i off w):=⟨fun{F H H' v a} h hi hk=>by
 obtain⟨h1,k,b,e,h0,h2,h3,h4,h5⟩:=h
 refine⟨ik.keep h1 hi hk,k,b,e,h0,h2,(hk k ?_).trans h3,h4,h5⟩
 cases F with
 |nil=>simp at h0
 |cons q F=>simp at h0; subst h0; simp⟩
theorem aF.head{F:List Nat}{H:aH}{v:Value}{xs:List α}{k:Nat}(h:aF E Ro F H v xs)(hk:l8 v=some k):F.head?=some k/\ ∃m b G,v= .slice (some ⟨k,0,none⟩) xs.length m/\(m=1\/m=2)/\H[k]?=some (some b)/\b.wr=true/\b.own=true/\b.ty=E/\xs.length<4611686018427387904/\F=k::G/\gI Ro H b.elems xs G:=by
 rcases h with⟨rfl,-,-⟩|⟨k',m,b,G,rfl,h2,h3,h4,h5,h6,h7,rfl,h9⟩
 · simp[l8]at hk
 · have e:k'=k:=by simpa[l8]using hk
   subst e
   exact⟨rfl,m,b,G,rfl,h2,h3,h4,h5,h6,h7,rfl,h9⟩
theorem fP{H:aH}{k s:Nat}{ow w:Bool}{TB:TypeId}{l:List Value}{f:Fr}(hA:AG P T true)(hs:SZ P T s)(h0:Nat.blt 0 s=true)(hx:EV n f x (.pointer (some ⟨k,0,some 0⟩)))(hk:H[k]?=some (some ⟨[.agg l.toArray],TB,ow,w⟩))(hl:l.length=s):
   gY P n ⟨d,.load T x,T',ps,af,none⟩ f H (.agg l.toArray):=
 j_ (e:=.agg l.toArray) hA hs hx hk rfl (by simpa[Nat.blt_eq]using h0) (by simp[Value.cells,hl]) (by subst hl; simp[Value.cells])
theorem an3{E:TypeId}{R:aH->Value->α->Prop}{v:Value}{xs:List α}{H:aH}(h:aD E R H v xs):∃a m,v= .slice a xs.length m/\(a=none->xs=[]):=by
 rcases h with⟨rfl,rfl⟩|⟨k,i,m,b,rfl,-⟩|⟨k,i,m,rfl,rfl⟩
 · exact⟨none,0,rfl,fun _=>rfl⟩
 · exact⟨_,m,rfl,fun h=>by simp at h⟩
 · exact⟨_,m,rfl,fun h=>by simp at h⟩
theorem ao_{E:TypeId}{R:aH->Value->α->Prop} [eF R]{v:Value}{xs:List α}(H:aH)(h:(bB (aD E R) v xs).P H):∃a m,v= .slice a xs.length m/\(a=none->xs=[]):=an3 (R:=R) h
variable{T'':TypeId}
theorem apv{H:aH}{a:Option Addr}{n' m:Nat}{f:Fr}(hT:SL P T E)(hx:EV n f x (.slice a n' m)):gY P n ⟨d,.binOp .eql T x (.const (.slice none 0 0)) T',T'',ps,af,none⟩ f H (.bool a.isNone):=by
 intro ρ w q hr hf
 have hu:P.underlying T=some (.slice E):=hT
 have hv:=hx.use hf
 have key:∃a' c,q.eval x= .slice a' n' c/\a'.isNone=a.isNone:=by
   generalize q.eval x=cv at hv
   cases hv with
   |nilSlice=>exact⟨none,0,rfl,rfl⟩
   |slice k i n m L p cap=>exact⟨some p,cap,rfl,rfl⟩
   |sliceDead k i n m p cap=>exact⟨some p,cap,rfl,rfl⟩
 obtain⟨a',c,he,hi⟩:=key
 refine⟨.bool a'.isNone,?_,by rw[hi]; exact .bool _⟩
 have hc:Act.eval q (.const (.slice none 0 0))= .slice none 0 0:=rfl
 simp[execOp,he,hc,eqGuard,Lib.run_eql_slice_nil w T E a' n' c 0 0 hu]
theorem apw{v:Value}{xs:List α}{c:aL}(hT:SL P T E)(hx:EV n f x v)(hm:Mem c cs)(hc:∀H,c.P H-> ∃a m,v= .slice a xs.length m/\(a=none->xs=[]))(h:∀b:Bool,(b=true->xs=[])->bL P n H0 F0 A r (put f d (.bool b)) cs K):
   bL P n H0 F0 A (⟨d,.binOp .eql T x (.const (.slice none 0 0)) T',T'',ps,af,none⟩::r) f cs K:=by
 intro H gy
 obtain⟨a,m,rfl,ha⟩:=hc H (gy.mem hm)
 exact EQ (apv hT hx) (h a.isNone (fun e=>ha (by simpa using e)) H gy)
def IK(P:Program) [dF P](t:TypeId)(k:IntKind):Prop:=P.underlying t=some (.int k)
theorem aoN{H:aH}{S D:TypeId}{k1 k2:IntKind}{i:Int}(hS:IK P S k1)(hD:IK P D k2)(hx:EV n f x (.int k1 i)):gY P n ⟨d,.convert S D x,T',ps,af,none⟩ f H (.int k2 (k2.wrap i)):=by
 intro ρ w q hr hf
 have hS':P.underlying S=some (.int k1):=hS
 have hD':P.underlying D=some (.int k2):=hD
 exact⟨_,by simp[execOp,(hx.use hf).int_inv,convert,underlying,hS',hD',Conv.intToInt],.int _ _⟩
theorem afC{H:aH}{S D:TypeId}{u:UInt8}(hS:IK P S .u8)(hD:IK P D .i64)(hx:EV n f x (.int .u8 (u.toNat:Int))):gY P n ⟨d,.convert S D x,T',ps,af,none⟩ f H (.int .i64 (u.toNat:Int)):=by
 have:(IntKind.i64.wrap (u.toNat:Int))=u.toNat:=eU (by omega) (by have:=u.toNat_lt; omega)
 have h:=aoN (H:=H) (n:=n) (f:=f) (d:=d) (T':=T') (ps:=ps) (af:=af) hS hD hx
 rwa [this]at h
end
end Go.Fw
/-
 Plain laws on the helpers that laws use: copies, sizes, comparisons.
-/
namespace Go.Fw
open Go
theorem kW{α:Type}(l:List α)(k:Nat):ix l (k:Int)=l[k]?:=by simp[ix]
theorem I1{n:Nat}(h:n<9223372036854775808):IntKind.i64.wrap (n:Int)=n:=eU (by omega) (by omega)
theorem L8{α:Type}{l:List α}{k:Nat}{x:α}{r:List α}(h:l.drop k=x::r):l[k]?=some x/\l.drop (k+1)=r:=by
 have hlt:k<l.length:=by
   rcases Nat.lt_or_ge k l.length with h'|h'
   · exact h'
   · rw[List.drop_of_length_le h']at h; simp at h
 rw[List.drop_eq_getElem_cons hlt]at h
 injection h with h1 h2
 exact⟨by rw[List.getElem?_eq_getElem hlt,h1],h2⟩
def eT{α:Type}(p:α->Prop)(a:List α):Prop:=a.length<4294967296/\ ∀x∈a,p x
def vM{α:Type}(_:α):Prop:=True
theorem sW{α:Type}(a:List α)(ha:a.length<4294967296):eT vM a:=⟨ha,fun _ _=>trivial⟩
theorem qi{α:Type}{p:α->Prop}:eT p []:=⟨by simp,by simp⟩
theorem lu{α:Type}{xs:List α}(h:xs.length<4294967296):app [] xs=some xs:=by unfold app; rw[if_pos (by simpa using h)]; rfl
theorem oN{α:Type}{xs ys:List α}(h:xs.length+ys.length<4294967296):app xs ys=some (xs++ys):=by unfold app; rw[if_pos h]
def nu{α:Type}(p:α->Bool):List α->Nat->Int
 |[],_=>-1
 |x::r,k=>if p x then (k:Int)else nu p r (k+1)
theorem uP{α:Type}{p:α->Bool}:∀(l:List α)(k:Nat),decide ((0:Int)<=nu p l k)=l.any p
 |[],k=>by simp[nu]
 |x::r,k=>by
   rw[nu,List.any_cons]
   by_cases h:p x=true
   · rw[if_pos h,h]; simp
   · rw[if_neg h,uP r (k+1)]; simp[h]
theorem rW{α:Type}{L:List α->Nat->Option Int}{f:α->Option Bool}{p:α->Bool}(h0:∀k,L [] k=some (-1))(h1:∀x r k,L (x::r) k=(f x).bind fun b=>if b then some (k:Int)else L r (k+1)):
   ∀(l:List α)(k:Nat),(∀x∈l,f x=some (p x))->L l k=some (nu p l k)
 |[],k,_=>h0 k
 |x::r,k,hf=>by
   rw[h1,hf x (by simp),Option.bind_some,nu]
   split
   · rfl
   · exact rW h0 h1 r (k+1) fun y hy=>hf y (by simp[hy])
theorem Bn{α:Type}{L:List α->Nat->Option Bool}{f:α->Option Bool}{p:α->Bool}{e:Bool}(h0:∀k,L [] k=some e)(h1:∀x r k,L (x::r) k=(f x).bind fun b=>if (!b)then some false else L r (k+1)):
   ∀(l:List α)(k:Nat),(∀x∈l,f x=some (p x))->L l k=some (l.all p&&e)
 |[],k,_=>by simp[h0]
 |x::r,k,hf=>by
   rw[h1,hf x (by simp),Option.bind_some,List.all_cons]
   cases h:p x
   · simp
   · simp[Bn h0 h1 r (k+1) fun y hy=>hf y (by simp[hy])]
def qc{α:Type}(p:α->α->Bool):List α->List α->Bool
 |[],[]=>true
 |x::a,y::b=>p x y&&qc p a b
 |_,_=>false
theorem ahw{α:Type}{p:α->α->Bool}:∀{a b:List α},a.length≠b.length->qc p a b=false
 |[],[],h=>by simp at h
 |x::a,y::b,h=>by rw[qc,ahw (a:=a) (b:=b) (by simpa using h),Bool.and_false]
 |[],_::_,_=>rfl
 |_::_,[],_=>rfl
theorem aha{α:Type}{L:List α->Nat->Option Bool}{f:α->α->Option Bool}{p:α->α->Bool}{b:List α}{e:Bool}(h0:∀k,L [] k=some e)(h1:∀x r k y,b[k]?=some y->L (x::r) k=(f x y).bind fun c=>if (!c)then some false else L r (k+1)):
   ∀(l:List α)(k:Nat),l.length=(b.drop k).length->(∀x∈l,∀y∈b,f x y=some (p x y))->L l k=some (qc p l (b.drop k)&&e)
 |[],k,hl,_=>by
   have:b.drop k=[]:=List.length_eq_zero_iff.1 hl.symm
   rw[h0,this]; rfl
 |x::r,k,hl,hf=>by
   cases hd:b.drop k with
   |nil=>rw[hd]at hl; simp at hl
   |cons y t=>
     obtain⟨e1,e2⟩:=L8 hd
     have hy:y∈b:=List.mem_of_getElem? e1
     rw[h1 x r k y e1,hf x (by simp) y hy,Option.bind_some,qc]
     cases hp:p x y
     · rfl
     · rw[hd]at hl
       simp only[Bool.not_true,Bool.false_eq_true,if_false,Bool.true_and]
       rw[aha h0 h1 r (k+1) (by rw[e2]; simpa using hl) fun x' hx'=>hf x' (by simp[hx']),e2]
theorem PR{α:Type}{S:List α->List α->Option Bool}{L:List α->List α->Nat->Option Bool}{f:α->α->Option Bool}{p:α->α->Bool}(hS:∀a b,S a b=if (((a.length:Int):Int)!=(b.length:Int))then some false else L b a 0)(h0:∀b k,L b [] k=some true)
   (h1:∀b x r k y,b[k]?=some y->L b (x::r) k=(f x y).bind fun c=>if (!c)then some false else L b r (k+1)) (a b:List α) (hf:∀x∈a,∀y∈b,f x y=some (p x y)):S a b=some (qc p a b):=by
 rw[hS]
 by_cases h:a.length=b.length
 · rw[if_neg (by simp[h]),aha (L:=L b) (h0 b) (h1 b) a 0 (by simpa using h) hf]
   simp
 · rw[if_pos (by simpa[Int.natCast_inj]using h),ahw h]
def lc(x y:Int):Int:=if x<y then -1 else if y<x then 1 else 0
def cmpL:List Int->List Int->Int
 |[],[]=>0
 |[],_::_=>-1
 |_::_,[]=>1
 |x::a,y::b=>if lc x y !=0 then lc x y else cmpL a b
theorem af2{α:Type}{P:α->Prop}{p:α->Bool}{L:List α->Nat->List α->Option (List α)}(h0:∀k c,L [] k c=some c)(h1:∀x r k c,P x->c.length+1<4294967296->L (x::r) k c=L r (k+1) (if p x then c++[x]else c)):
   ∀(l:List α)(k:Nat)(c:List α),(∀x∈l,P x)->c.length+l.length<4294967296->L l k c=some (c++l.filter p)
 |[],k,c,_,_=>by simp[h0]
 |x::r,k,c,hp,hl=>by
   simp only[List.length_cons]at hl
   rw[h1 x r k c (hp x (by simp)) (by omega),af2 h0 h1 r (k+1) _ (fun y hy=>hp y (by simp[hy])) (by split<;>(try simp only[List.length_append,List.length_cons,List.length_nil])<;>omega),List.filter_cons]
   split<;>simp
theorem ZW{α β:Type}{P:α->Prop}{g:α->β}{L:List α->Nat->List β->Option (List β)}(h0:∀k c,L [] k c=some c)(h1:∀x r k c,P x->c.length+1<4294967296->L (x::r) k c=L r (k+1) (c++[g x])):
   ∀(l:List α)(k:Nat)(c:List β),(∀x∈l,P x)->c.length+l.length<4294967296->L l k c=some (c++l.map g)
 |[],k,c,_,_=>by simp[h0]
 |x::r,k,c,hp,hl=>by
   simp only[List.length_cons]at hl
   rw[h1 x r k c (hp x (by simp)) (by omega),ZW h0 h1 r (k+1) _ (fun y hy=>hp y (by simp[hy])) (by simp; omega)]
   simp
theorem Vw{α:Type}{P:α->Prop}{L:List α->Nat->List α->Option (List α)}(h0:∀k c,L [] k c=some c)(h1:∀x r k c,P x->c.length+1<4294967296->L (x::r) k c=L r (k+1) (c++[x]))(l:List α)(h:eT P l):L l 0 []=some l:=by
 have:=ZW (g:=fun x=>x) h0 h1 l 0 [] h.2 (by simpa using h.1)
 simpa using this
theorem app1{α:Type}{c:List α}{x:α}(h:c.length+1<4294967296):app c [x]=some (c++[x]):=oN (by simpa using h)
theorem ahx{α:Type}{p:α->Prop}{a b:List α}(h:a.Sublist b)(hb:eT p b):eT p a:=⟨Nat.lt_of_le_of_lt h.length_le hb.1,fun x hx=>hb.2 x (h.subset hx)⟩
def iA{α:Type}(p:α->Bool)(q:α->α->Bool):Option α->List α->Bool
 |_,[]=>true
 |none,x::r=>p x&&iA p q (some x) r
 |some y,x::r=>p x&&!q y x&&iA p q (some x) r
theorem I4{α:Type}(p:α->Bool)(q:α->α->Bool):∀(o:Option α)(l:List α),iA p q o l=(iA (fun _=>true) q o l&&l.all p)
 |_,[]=>by simp[iA]
 |none,x::r=>by
   rw[iA,iA,I4 p q (some x) r,List.all_cons]
   cases p x<;>cases iA (fun _=>true) q (some x) r<;>simp
 |some y,x::r=>by
   rw[iA,iA,I4 p q (some x) r,List.all_cons]
   cases p x<;>cases q y x<;>cases iA (fun _=>true) q (some x) r<;>simp
theorem ahR{α:Type}{L:List α->Nat->Option Bool}{P:α->Prop}{p:α->Bool}{q:α->α->Bool}{e:Bool}(l:List α)(hP:∀x∈l,P x)(hl:l.length<4294967296)(h0:∀k,L [] k=some e)
   (h2:∀x r k y,P x->P y->l[k]?=some y->k<4294967296->L (x::r) (k+1)=if p x&&!q y x then L r (k+2)else some false):
   ∀(rest:List α)(k:Nat)(y:α),l.drop (k+1)=rest->l[k]?=some y->L rest (k+1)=some (iA p q (some y) rest&&e)
 |[],k,y,_,_=>by rw[h0]; simp[iA]
 |x::r,k,y,hd,hy=>by
   obtain⟨e1,e2⟩:=L8 hd
   have hlt:k<l.length:=by
     rcases Nat.lt_or_ge k l.length with h|h
     · exact h
     · simp[List.getElem?_eq_none h]at hy
   rw[h2 x r k y (hP x (List.mem_of_getElem? e1)) (hP y (List.mem_of_getElem? hy)) hy (by omega),iA]
   cases hpq:(p x&&!q y x)
   · simp
   · rw[if_pos rfl,ahR l hP hl h0 h2 r (k+1) x e2 e1]; simp
theorem I5{α:Type}{L:List α->Nat->Option Bool}{P:α->Prop}{p:α->Bool}{q:α->α->Bool}{e:Bool}(l:List α)(hP:∀x∈l,P x)(hl:l.length<4294967296)(h0:∀k,L [] k=some e)
   (h1:∀x r,P x->L (x::r) 0=if p x then L r 1 else some false)
   (h2:∀x r k y,P x->P y->l[k]?=some y->k<4294967296->L (x::r) (k+1)=if p x&&!q y x then L r (k+2)else some false):
   L l 0=some (iA p q none l&&e):=by
 cases l with
 |nil=>rw[h0]; simp[iA]
 |cons x r=>
   rw[h1 x r (hP x (by simp)),iA]
   cases hp:p x
   · simp
   · rw[if_pos rfl,ahR (x::r) hP hl h0 h2 r 0 x rfl rfl]; simp
theorem I9{α:Type}(l:List α)(k:Nat)(h:k<4294967296):ix l (IntKind.i64.wrap ((((k+1:Nat):Int))-1))=l[k]?:=by
 rw[show (((k+1:Nat):Int))-1=(k:Int) by omega,I1 (by omega),kW]
theorem ES(k:Nat):decide ((0:Int)<((k+1:Nat):Int))=true:=decide_eq_true (by omega)
theorem L9:decide ((0:Int)<((0:Nat):Int))=false:=rfl
def bA(lo hi n:Int):Bool:=decide (lo<=n)&&decide (n<=hi)
theorem Jc{α:Type}{l:List α}{m:Int}(h:bA 0 ((l.length:Int)-1) m=true):∃x,ix l m=some x/\l[m.toNat]?=some x:=by
 simp[bA]at h
 have hlt:m.toNat<l.length:=by omega
 exact⟨l[m.toNat],by unfold ix; rw[if_pos h.1,List.getElem?_eq_getElem hlt],List.getElem?_eq_getElem hlt⟩
theorem ZJ{α:Type}{L:Nat->Int->Option Bool}{p:α->Bool}{e:Bool}(l:List α)(hl:l.length<4294967296)(h0:∀(m k:Nat),l.length<=k->L (m+1) (k:Int)=some e)
   (h1:∀(m k:Nat) x,l[k]?=some x->k<4294967296->k<l.length->L (m+1) (k:Int)=if p x then L m ((k+1:Nat):Int)else some false):
   ∀(rest:List α)(m k:Nat),l.drop k=rest->rest.length<m->L m (k:Int)=some (rest.all p&&e)
 |[],m,k,hd,hm=>by
   obtain⟨m,rfl⟩:∃q,m=q+1:=⟨m-1,by simp at hm; omega⟩
   rw[h0 m k (List.drop_eq_nil_iff.1 hd)]; simp
 |x::r,m,k,hd,hm=>by
   simp only[List.length_cons]at hm
   obtain⟨m,rfl⟩:∃q,m=q+1:=⟨m-1,by omega⟩
   obtain⟨e1,e2⟩:=L8 hd
   have hlt:k<l.length:=by
     rcases Nat.lt_or_ge k l.length with h|h
     · exact h
     · simp[List.getElem?_eq_none h]at e1
   rw[h1 m k x e1 (by omega) hlt,List.all_cons]
   cases p x
   · simp
   · rw[if_pos rfl,ZJ l hl h0 h1 r m (k+1) e2 (by omega)]; simp
theorem ahy{α β:Type}(f:α->Bool)(g:β->Bool):∀(a:List α)(b:List β),a.length=b.length->((a.zip b).all fun q=>f q.1&&g q.2)=(a.all f&&b.all g)
 |[],[],_=>rfl
 |x::a,y::b,h=>by
   rw[List.zip_cons_cons,List.all_cons,List.all_cons,List.all_cons,ahy f g a b (by simpa using h)]
   cases f x<;>cases g y<;>cases a.all f<;>simp
 |[],_::_,h=>by simp at h
 |_::_,[],h=>by simp at h
theorem ahb{α:Type}{L:List α->Nat->Option Bool}{f:α->Option Bool}{p:α->Bool}(h0:∀k,L [] k=some false)(h1:∀x r k,L (x::r) k=(f x).bind fun b=>if b then some true else L r (k+1)):
   ∀(l:List α)(k:Nat),(∀x∈l,f x=some (p x))->L l k=some (l.any p)
 |[],k,_=>h0 k
 |x::r,k,hf=>by
   rw[h1,hf x (by simp),Option.bind_some,List.any_cons]
   cases h:p x
   · simp[ahb h0 h1 r (k+1) fun y hy=>hf y (by simp[hy])]
   · simp
end Go.Fw
/-
 Slice expressions on our own slices; clear; elements that keep their identity; a function that only moves elements, over deep data.
-/
set_option linter.unusedVariables false
namespace Go.Fw
open Go
theorem aoO{z:Value}(hz:Bv z=true)(h0:z.cells.toList.all scal=true)(n:Nat)(hs:0<z.cells.size):∀u∈(Builtin.zeroCells z.cells n).toList,scal u=true:=by
 intro u hu
 simp only[Builtin.zeroCells,Array.toList_map,List.mem_map,Array.toList_range,List.mem_range]at hu
 obtain⟨i,-,rfl⟩:=hu
 have hlt:i % z.cells.size<z.cells.size:=Nat.mod_lt _ hs
 rw[getElem!_pos z.cells (i % z.cells.size) hlt]
 exact List.all_eq_true.1 h0 _ (by simp)
theorem ahc(z:Array Value)(n:Nat):(Builtin.zeroCells z n).toList.length=n*z.size:=by simp[Builtin.zeroCells]
section
variable{P:Program} [dF P]{n:Nat}{f:Fr}{H0:aH}{F0:List Nat}{cs:List aL}{A:Array Oper}{r:List Oper}{K:Fr->List aL->Prop}{d:Option Tmp}{x y z:Operand}{T T' E:TypeId}{ps:String}{af:Array Edge}{gd:Option (Nat×Bool)}
variable{α:Type}{R:aH->Value->α->Prop}{xs:List α}{v:Value}
theorem agL{H:aH}{k m l s:Nat}{b:gL}{kk:IntKind}{i:Int}(hT:SL P T E)(hs:SZ P E s)(hx:EV n f x (.slice (some ⟨k,0,none⟩) l m))(hy:EV n f y (.int kk i))(hk:H[k]?=some (some b))(hbt:b.ty=E)(h0:0<=i)(hi:i<=(l:Int)):
   gY P n ⟨d,.slice T x (some y) none none,T',ps,af,none⟩ f H (.slice (some ⟨k,i.toNat,none⟩) (l-i.toNat) 0):=by
 intro ρ w a hr hf
 obtain⟨L,p,cap,hl,hb,hc,hcap,h1,h2,hp⟩:=(hx.use hf).slice_inv hr hk
 have hyv:a.eval y= .int kk i:=(hy.use hf).int_inv
 have hu:P.underlying T=some (.slice E):=hT
 have he:P.elem T=E:=by simp[Program.elem,hu]
 have hu2:P.underlying T=some (.slice (P.elem T)):=by rw[he]; exact hu
 have avN:L.sz=s:=by rw[←hb.sz,hbt,hs.cells]
 refine⟨sliced (some p) i.toNat l cap s,?_,?_⟩
 · have hrun:=run_slice_l (P:=P) w T (some p) l cap hu2 kk i h0 hi
   rw[he,hs.run,Result.andThen]at hrun
   have h2':=run_sliceAt_slice (P:=P) w T (.slice (some p) l cap) (some (.int kk i)) none none hu2
   simp[execOp,hc,hyv,h2',hrun]
 · have hform:∃q:Addr,sliced (some p) i.toNat l cap s= .slice (some q) (l-i.toNat) (cap-i.toNat)/\(l-i.toNat≠0->q=p.add (i.toNat*s)):=by
     unfold sliced
     by_cases e:cap=i.toNat
     · exact⟨p,by rw[if_pos e],fun h=>by omega⟩
     · exact⟨p.add (i.toNat*s),by rw[if_neg e]; rfl,fun _=>rfl⟩
   obtain⟨q,hq,hqe⟩:=hform
   rw[hq]
   refine dQ.slice k i.toNat _ 0 L q _ hl (by omega) (by simp) (by simp) (fun hn=>⟨?_,fun ho=>?_⟩)
   · rw[hqe hn,hp (by omega),addr_add,avN]
     simp
   · obtain⟨L',hl',hx'⟩:=(hx.use hf).slice_ext hr hk (by omega)
     rw[hl]at hl'
     obtain rfl:L=L':=by simpa using hl'
     have:=hx' ho
     omega
theorem aoP{H:aH}{k m l s:Nat}{b:gL}{kk:IntKind}{i:Int}(hT:SL P T E)(hs:SZ P E s)(hx:EV n f x (.slice (some ⟨k,0,none⟩) l m))(hm:m=1\/m=2)(hy:EV n f y (.int kk i))(hk:H[k]?=some (some b))(ho:b.own=true)(h0:0<=i)(hi:i<=(l:Int))(hl0:l≠0):
   gY P n ⟨d,.slice T x none (some y) none,T',ps,af,none⟩ f H (.slice (some ⟨k,0,none⟩) i.toNat 2):=by
 intro ρ w a hr hf
 obtain⟨L,p,cap,hl,hb,hc,hcap,h1,h2,hp⟩:=(hx.use hf).slice_inv hr hk
 have hyv:a.eval y= .int kk i:=(hy.use hf).int_inv
 have hu:P.underlying T=some (.slice E):=hT
 have he:P.elem T=E:=by simp[Program.elem,hu]
 have hu2:P.underlying T=some (.slice (P.elem T)):=by rw[he]; exact hu
 have hown:L.own=true:=by rw[←hb.own]; exact ho
 obtain⟨cs0,ct,fr,-,-,hr2⟩:=hb.cells
 obtain⟨hoff,-⟩:=hr2 hown
 refine⟨sliced (some p) 0 i.toNat cap s,?_,?_⟩
 · have hrun:=run_slice_h (P:=P) w T (some p) l cap hu2 kk i h0 (by omega)
   rw[he,hs.run,Result.andThen]at hrun
   have h2':=run_sliceAt_slice (P:=P) w T (.slice (some p) l cap) none (some (.int kk i)) none hu2
   simp[execOp,hc,hyv,h2',hrun]
 · have hq:sliced (some p) 0 i.toNat cap s= .slice (some p) i.toNat cap:=by
     unfold sliced
     rw[if_neg (by omega)]
     simp[Addr.add]
   rw[hq]
   have oZ:=hp hl0
   rw[Nat.zero_mul,Nat.add_zero]at oZ
   have NA:cap<=L.cap:=by
     rcases hm with rfl|rfl
     · have:=h1 rfl; omega
     · exact (h2 (Nat.le_refl _)).2.2.1
   exact dQ.slice k 0 _ 2 L p _ hl (by omega) (by simp) (fun _=>⟨rfl,hown,NA,oZ,by omega⟩) (fun _=>⟨by rw[oZ]; simp,fun _=>by omega⟩)
theorem ao'{R:aH->Value->α->Prop} [eF R]{H H':aH}(hi:iP H H'){es:List Value}{ys:List α}{G:List Nat}(h:gI (aC R) H es ys G):∀i,gI (aC R) H' (es.take i) (ys.take i) []:=by
 induction h with
 |nil=>intro i; simpa using gI.nil
 |cons h _ ih=>
   intro i
   cases i with
   |zero=>simpa using gI.nil
   |succ i=>
     have:=gI.cons (Ro:=aC R) (F:=[]) (G:=[]) ⟨rfl,eF.up h.2 hi⟩ (ih i)
     simpa using this
theorem apx [eF R]{F:List Nat}{k l m j i s by':Nat}{zv:Value}{ts:List TypeId}(hT:SL P T E)(ht:TY P E s by' zv)(h0s:Nat.blt 0 s=true)(hzs:zv.cells.size=s)(hzc:Bv zv=true)(hzl:zv.cells.toList.all scal=true)
   (hl:l=xs.length) (hj:i+j=l) (hx:EV n f x (.slice (some ⟨k,i,none⟩) j 0)):
   XC P n ⟨d,.call ⟨.builtin .clear,[x].toArray,(T::ts).toArray⟩,T',ps,af,gd⟩ f [aT (aF E (aC R)) F (.slice (some ⟨k,0,none⟩) l m) xs] (fun _:Unit=>undef)
     (fun _=>[aT (aF E (aC R)) F (.slice (some ⟨k,0,none⟩) i 2) (xs.take i)]):=by
 intro H gy
 have h0:0<s:=by simpa[Nat.blt_eq]using h0s
 have ho:aF E (aC R) F H (.slice (some ⟨k,0,none⟩) l m) xs:=gy.hold _ (List.mem_singleton.2 rfl)
 obtain⟨hh,m',b,G,hv,h2,h3,h4,h5,h6,h7,rfl,h9⟩:=ho.head (k:=k) rfl
 subst hl
 have hlen:=h9.length
 have avO:P.cellsOf E=s:=ht.sz.cells
 intro ρ w a K' Q' hr hf hkk
 obtain⟨L,p,cap,hl,hbr,hc,hcap,g1,g2,gp⟩:=(hx.use hf).slice_inv hr h3
 have hown:L.own=true:=by rw[←hbr.own]; exact h5
 obtain⟨cs,ct,fr,vz,hel,hr2⟩:=hbr.cells
 obtain⟨hoff,tJ,hlenL,hfr,rfl⟩:=hr2 hown
 have mU:L.sz=s:=by rw[←hbr.sz,h6,avO]
 have hu:P.underlying T=some (.slice E):=hT
 obtain⟨it,hit,e1,e2,e3⟩:=ht.inv
 have Qg:∀w:World,(zeroValue E).run P w= .ok zv w:=fun w=>by simp[zeroValue,typeInfo,hit,e3]
 have ajj:i*s+j*s<=cs.size:=by
   have h1:(i+j)*s<=L.cap*L.sz:=by rw[mU]; exact Nat.mul_le_mul_right _ (by omega)
   rw[Nat.add_mul]at h1; omega
 have hend:∀w':World,(w'.heap=w.heap\/ ∃vs:List Value,vs.length=j*s/\w'.heap=w.heap.setIfInBounds L.blk (.cells (splice cs.toList (i*s) vs).toArray b.ty fr))->w'.os=w.os->w'.output=w.output->w'.tape=w.tape->
     Rel P ρ (H.set k (some ⟨b.elems.take i,b.ty,true,b.wr⟩)) w'/\Step ρ H w ρ (H.set k (some ⟨b.elems.take i,b.ty,true,b.wr⟩)) w':=by
   intro w' hw' w1 w2 w3
   have hw'':∃cs':Array Value,w'.heap=w.heap.setIfInBounds L.blk (.cells cs' b.ty fr)/\cs'.size=cs.size/\ ∀q,q+s<=i*s->(cs'.toList.drop q).take s=(cs.toList.drop q).take s:=by
     rcases hw' with hw'|⟨vs,hvl,hw'⟩
     · refine⟨cs,?_,rfl,fun _ _=>rfl⟩
       rw[hw']
       have hlt:=hr.lt hl
       apply Array.ext_getElem?
       intro q
       by_cases hq:L.blk=q
       · subst hq; rw[Array.getElem?_setIfInBounds_self_of_lt hlt]; exact vz
       · rw[Array.getElem?_setIfInBounds_ne hq]
     · refine⟨_,hw',?_,fun q hq=>?_⟩
       · simp only[List.size_toArray]; rw[He _ _ _ (by rw[hvl]; simpa using ajj)]; simp
       · exact Vf _ _ _ _ _ (.inl hq) (by rw[hvl]; simpa using ajj)
   obtain⟨cs',hh',hsz',hsame⟩:=hw''
   refine⟨hr.write (b':=⟨b.elems.take i,b.ty,true,b.wr⟩) hl hown hh' rfl rfl hbr.sz ?_ ⟨hoff,by rw[hsz']; exact tJ,by simp only[List.length_take]; omega,by rw[hsz']; exact hfr⟩,Step.write hl hown hh' w1 w2 w3⟩
   intro q e he
   have hqi:q<i:=by
     rcases Nat.lt_or_ge q i with h|h
     · exact h
     · rw[List.getElem?_eq_none (by simp; omega)]at he; simp at he
   rw[List.getElem?_take_of_lt hqi]at he
   have:=hel q e he
   refine⟨this.1,?_⟩
   rw[hoff,Nat.zero_add,mU]at this ⊢
   rw[hsame (q*s) (by rw[←Nat.succ_mul]; exact Nat.mul_le_mul_right _ hqi)]
   exact this.2
 have hpost:Ctx H (foot [aT (aF E (aC R)) (k::G) (.slice (some ⟨k,0,none⟩) xs.length m) xs]) (H.set k (some ⟨b.elems.take i,b.ty,true,b.wr⟩)) [aT (aF E (aC R)) (k::G) (.slice (some ⟨k,0,none⟩) i 2) (xs.take i)]:=by
   have hnd:=gy.nd
   have hG:G=[]:=by
     have:∀{es:List Value}{ys:List α}{G:List Nat},gI (aC R) H es ys G->G=[]:=by
       intro es ys G h
       induction h with
       |nil=>rfl
       |cons h _ ih=>rw[ih,h.1]; rfl
     exact this h9
   subst hG
   have hne:∀q,q≠k->(H.set k (some ⟨b.elems.take i,b.ty,true,b.wr⟩))[q]?=H[q]?:=fun q hq=>by rw[List.getElem?_set_ne (fun e=>hq e.symm)]
   have nY:iP H (H.set k (some ⟨b.elems.take i,b.ty,true,b.wr⟩)):=by
     intro q b2 hq hw2
     rw[hne q (fun e=>by
       subst e; rw[hq]at h3
       injection h3 with h3; injection h3 with h3
       rw[h3]at hw2; rw[hw2]at h4; simp at h4)]
     exact hq
   refine⟨by simp,nY,fun q hq Tv=>hne q (fun e=>Tv (by subst e; simp[foot,aT])),?_,by simp[foot,aT],fun q hq=>⟨.inl (by simpa[foot,aT]using hq),by simpa[foot,aT]using (gy.own q (by simpa[foot,aT]using hq)).2⟩⟩
   intro c hcm
   simp at hcm; subst hcm
   refine .inr ⟨k,2,_,[],by rw[List.length_take,Nat.min_eq_left (by omega)],.inr rfl,List.getElem?_set_self (sV h3),h4,rfl,h6,by simp only[List.length_take]; omega,rfl,?_⟩
   exact ao' nY h9 i
 by_cases hj0:j=0
 · subst hj0
   have hex:(execOp a.eval ⟨d,.call ⟨.builtin .clear,[x].toArray,(T::ts).toArray⟩,T',ps,af,gd⟩).run P w= .ok (.value undef) w:=by
     simp[execOp,resolve,invoke,builtin,Builtin.clear_,hc,underlying,hu,undef]
   show Oper.upon P _ a K' Q' _
   rw[hex]
   obtain⟨r1,r2⟩:=hend w (.inl rfl) rfl rfl rfl
   exact hkk _ _ _ _ _ (hf.put d (dQ.undef ρ)) r1 r2 ⟨(),rfl,hpost⟩
 · have hp:=gp hj0
   have hvl:=ahc zv.cells j
   obtain⟨w',hrun,hw',w1,w2,w3⟩:=UO P (b:=L.blk) (o:=i*s) (Builtin.zeroCells zv.cells j).toList 0 cs w vz (fun o h=>hfr o (Nat.le_of_lt h)) (aoO hzc hzl j (by rw[hzs]; exact h0)) (by rw[hvl,hzs]; omega)
   have hex:(execOp a.eval ⟨d,.call ⟨.builtin .clear,[x].toArray,(T::ts).toArray⟩,T',ps,af,gd⟩).run P w= .ok (.value undef) w':=by
     obtain⟨j',rfl⟩:∃q,j=q+1:=⟨j-1,by omega⟩
     have hp':p=⟨L.blk,i*s,none⟩:=by rw[hp,hoff,Nat.zero_add,mU]
     simp[execOp,resolve,invoke,builtin,Builtin.clear_,hc,underlying,hu,undef,Qg,hp',hrun]
   show Oper.upon P _ a K' Q' _
   rw[hex]
   obtain⟨r1,r2⟩:=hend w' (.inr ⟨_,by rw[hvl,hzs],by rw[hw',Nat.add_zero]⟩) w1 w2 w3
   exact hkk _ _ _ _ _ (hf.put d (dQ.undef ρ)) r1 r2 ⟨(),rfl,hpost⟩
end
def rq{α:Type}(R:aH->Value->α->Prop)(H:aH)(e:Value)(q:Value×α):Prop:=e=q.1/\R H e q.2
instance{α:Type}{R:aH->Value->α->Prop} [eF R]:eF (rq R):=⟨fun h hi=>⟨h.1,eF.up h.2 hi⟩⟩
instance{α:Type}{R:aH->Value->α->Prop}{s:Nat} [Cells R s]:Cells (rq R) s:=⟨fun h=>Cells.cells h.2⟩
def Tw{α:Type}(_:aH)(e:Value)(q:Value×α):Prop:=e=q.1
instance{α:Type}:Pure (Tw (α:=α)):=⟨fun h=>h⟩
section
variable{α:Type}{R:aH->Value->α->Prop}{Ro:jb α}{E:TypeId}
theorem gI.map{β:Type}{R1 R2:jb β}{H:aH}(hm:∀F e a,R1 F H e a->R2 F H e a){es:List Value}{xs:List β}{G:List Nat}(h:gI R1 H es xs G):gI R2 H es xs G:=by
 induction h with
 |nil=>exact .nil
 |cons h _ ih=>exact .cons (hm _ _ _ h) ih
theorem aF.map{β:Type}{R1 R2:jb β}{F:List Nat}{H:aH}{v:Value}{xs:List β}(hm:∀F e a,R1 F H e a->R2 F H e a)(h:aF E R1 F H v xs):aF E R2 F H v xs:=by
 rcases h with h|⟨k,m,b,G,h1,h2,h3,h4,h5,h6,h7,h8,h9⟩
 · exact .inl h
 · exact .inr ⟨k,m,b,G,h1,h2,h3,h4,h5,h6,h7,h8,h9.map hm⟩
theorem apa{β:Type}{Q:aH->Value->β->Prop}{H:aH}{es:List Value}{ys:List β}{G:List Nat}(h:gI (aC Q) H es ys G):G=[]:=by
 induction h with
 |nil=>rfl
 |cons h _ ih=>rw[ih,h.1]; rfl
theorem ap8{H:aH}{es:List Value}{ys:List (Value×α)}{G:List Nat}(h:gI (aC Tw) H es ys G):es=ys.map Prod.fst:=by
 induction h with
 |nil=>rfl
 |cons h _ ih=>rw[ih,h.2]; rfl
theorem gI.sub{H:aH}{es:List Value}{xs:List α}{G:List Nat}(h:gI Ro H es xs G):∀{sel:List (Value×α)},sel.Sublist (es.zip xs)-> ∃G',G'.Sublist G/\gI Ro H (sel.map Prod.fst) (sel.map Prod.snd) G':=by
 induction h with
 |nil=>intro sel hs; simp at hs; subst hs; exact⟨[],.slnil,.nil⟩
 | @cons e es a xs F G h t ih=>
   intro sel hs
   rw[List.zip_cons_cons]at hs
   cases hs with
   |cons _ hs=>
     obtain⟨G',h1,h2⟩:=ih hs
     exact⟨G',h1.trans (List.sublist_append_right _ _),h2⟩
   |cons_cons _ hs=>
     obtain⟨G',h1,h2⟩:=ih hs
     exact⟨F++G',(List.Sublist.refl _).append h1,.cons h h2⟩
theorem aoQ [eF R] [lT Ro] [lV Ro R]{F:List Nat}{H:aH}{v:Value}{xs:List α}(h:aF E Ro F H v xs)(hnd:F.Nodup):
   ∃es F1 G,F=F1++G/\es.length=xs.length/\gI Ro H es xs G/\aF E (aC (rq R)) F1 (frz H G) v (es.zip xs):=by
 rcases h with⟨rfl,rfl,rfl⟩|⟨k,m,b,G,rfl,h2,h3,h4,h5,h6,h7,rfl,h9⟩
 · exact⟨[],[],[],rfl,rfl,.nil,.inl ⟨rfl,rfl,rfl⟩⟩
 · have hk:k∉G:=(List.nodup_cons.1 hnd).1
   have hl:=h9.length
   have hz:(b.elems.zip xs).length=xs.length:=by simp[hl]
   refine⟨b.elems,[k],G,rfl,hl,h9,.inr ⟨k,m,b,[],by rw[hz],h2,by rw[EY _ _ hk]; exact h3,h4,h5,h6,by rw[hz]; exact h7,rfl,?_⟩⟩
   refine aah (R:=rq R) (by simp[hl]) fun j q hj=>?_
   rw[List.getElem?_zip_eq_some]at hj
   obtain⟨e,he,hr⟩:=h9.frz (fun _ h=>h) j q.2 hj.2
   rw[hj.1]at he
   obtain rfl:q.1=e:=by simpa using he
   exact⟨q.1,hj.1,rfl,hr⟩
theorem apb{F:List Nat}{H:aH}{v:Value}{es:List Value}{xs:List α}{G:List Nat}{sel:List (Value×α)}(h:aF E (aC Tw) F H v sel)(hs:sel.Sublist (es.zip xs))(he:gI Ro H es xs G):
   ∃G',G'.Sublist G/\aF E Ro (F++G') H v (sel.map Prod.snd):=by
 obtain⟨G',h1,h2⟩:=he.sub hs
 rcases h with⟨rfl,rfl,rfl⟩|⟨k,m,b,G0,rfl,g2,g3,g4,g5,g6,g7,rfl,g9⟩
 · cases h2
   exact⟨[],List.nil_sublist _,.inl ⟨rfl,rfl,rfl⟩⟩
 · obtain rfl:=apa g9
   refine⟨G',h1,.inr ⟨k,m,b,G',by simp,g2,g3,g4,g5,g6,by simpa using g7,rfl,?_⟩⟩
   rw[ap8 g9]; exact h2
end
theorem aoR{P:Program} [dF P]{α:Type}{R:aH->Value->α->Prop}{Ro:jb α} [ik Ro] [eF R] [Local Ro] [lT Ro] [lV Ro R]{E:TypeId}{g:FuncId}{args:List Value}{F:List Nat}{v:Value}{xs ys:List α}{cc:List aL}(hcc:foot cc=[])
   (h:∀(es:List Value)(F1:List Nat),es.length=xs.length-> ∃sel:List (Value×α),sel.Sublist (es.zip xs)/\sel.map Prod.snd=ys/\Spec P g args (aT (aF E (aC (rq R))) F1 v (es.zip xs)::cc) (fun q:Sv×List Nat=>q.1.v) (fun q=>[aT (aF E (aC (rq R))) q.2 q.1.v sel])):
   Spec P g args (aT (aF E Ro) F v xs::cc) (fun q:Sv×List Nat=>q.1.v) (fun q=>[aT (aF E Ro) q.2 q.1.v ys]):=by
 intro H F0 gy ρ w ou hr hargs
 have ho:aF E Ro F H v xs:=gy.hold (aT (aF E Ro) F v xs) (by simp)
 have hfp:foot (aT (aF E Ro) F v xs::cc)=F:=by
   have:foot (aT (aF E Ro) F v xs::cc)=F++foot cc:=rfl
   rw[this,hcc,List.append_nil]
 have hnd:F.Nodup:=by have:=gy.nd; rwa [hfp]at this
 have hown:∀q∈F,q∈F0/\q<H.length:=fun q hq=>by
   obtain⟨h1,h2⟩:=gy.own q (by rw[hfp]; exact hq)
   exact⟨h1.resolve_right (by omega),h2⟩
 obtain⟨es,F1,G,rfl,hel,ajk,hsh⟩:=aoQ (R:=R) ho hnd
 obtain⟨n1,n2,n3⟩:=List.nodup_append.1 hnd
 have hw:=ajk.owns
 obtain⟨sel,hsel,hys,hspec⟩:=h es F1 hel
 have Tx:foot (aT (aF E (aC (rq R))) F1 v (es.zip xs)::cc)=F1:=by
   have:foot (aT (aF E (aC (rq R))) F1 v (es.zip xs)::cc)=F1++foot cc:=rfl
   rw[this,hcc,List.append_nil]
 have hc2:Ctx (frz H G) F1 (frz H G) (aT (aF E (aC (rq R))) F1 v (es.zip xs)::cc):=by
   refine⟨Nat.le_refl _,iP.refl _,fun _ _ _=>rfl,fun c hc=>?_,by rw[Tx]; exact n1,fun q hq=>?_⟩
   · rcases List.mem_cons.1 hc with rfl|hc
     · exact hsh
     · refine c.keep (gy.hold c (by simp[hc])) (zA _ _) fun q hq=>?_
       have:q∈foot cc:=List.mem_flatMap.2 ⟨c,hc,hq⟩
       rw[hcc]at this; simp at this
   · rw[Tx]at hq
     exact⟨.inl hq,by rw[l5]; exact (hown q (by simp[hq])).2⟩
 refine (hspec (frz H G) F1 hc2 ρ w ou (hr.recore (l5 _ _) (Bl _ H)) hargs).mono fun e w' hp=>?_
 obtain⟨v0,r,ρ',H',h1,h2,h3,h4,q,rfl,h5⟩:=hp
 have hG:∀k∈G,H'[k]?=(frz H G)[k]?:=fun k hk=>h5.agr k (by rw[l5]; exact (hown k (by simp[hk])).2) (fun hk1=>n3 k hk1 k hk rfl)
 have avP:∀k∈G,(qC H' G)[k]?=H[k]?:=fun k hk=>Z_ hw hG hk
 have hpost:aF E (aC (rq R)) q.2 H' q.1.v sel:=h5.hold (aT (aF E (aC (rq R))) q.2 q.1.v sel) (by simp)
 have Gg:∀k∈q.2,k∉G/\(k∈F1\/H.length<=k)/\k<H'.length:=fun k hk=>by
   obtain⟨g1,g2⟩:=h5.own k (by simpa[foot,aT]using hk)
   rw[l5]at g1
   refine⟨fun Ye=>?_,g1,g2⟩
   rcases g1 with g1|g1
   · exact n3 k g1 k Ye rfl
   · have:=(hown k (by simp[Ye])).2; omega
 have hid:aF E (aC Tw) q.2 (qC H' G) q.1.v sel:=
   Local.keep (R:=aF E (aC Tw)) (hpost.map fun F e a h=>⟨h.1,h.2.1⟩) fun k hk=>Bw _ _ (Gg k hk).1
 obtain⟨G',hG',hfin⟩:=apb hid hsel (ajk.local avP)
 rw[hys]at hfin
 have hlen:H.length<=(qC H' G).length:=by rw[wW]; have:=h5.len; rwa [l5]at this
 refine⟨v0,_,ρ',qC H' G,h1,h2,h3.recore (wW _ _) (LZ _ H'),(Step.recore (H:=H) (l5 _ _) (Bl _ H)).trans (h4.trans (Step.recore (wW _ _) (LZ _ H'))),(q.1,q.2++G'),rfl,hlen,?_,?_,?_,?_,?_⟩
 · intro k b hb hbw
   have Ye:k∉G:=fun hk=>by
     obtain⟨b',hb',hw'⟩:=hw k hk
     rw[hb]at hb'
     injection hb' with hb'; injection hb' with hb'
     rw[hb',hw']at hbw; simp at hbw
   rw[Bw _ _ Ye]
   exact h5.imm k b ((zA H G) k b hb hbw) hbw
 · intro k hk Dy
   have WX:k∉F1++G:=fun h=>Dy (hown k h).1
   simp only[List.mem_append,not_or]at WX
   rw[Bw _ _ WX.2,h5.agr k (by rw[l5]; exact hk) WX.1,EY _ _ WX.2]
 · intro c hc
   simp at hc; subst hc
   exact hfin
 · have hq2:q.2.Nodup:=by have:=h5.nd; simpa[foot,aT]using this
   simp only[foot,aT,List.flatMap_cons,List.flatMap_nil,List.append_nil]
   exact List.nodup_append.2 ⟨hq2,n2.sublist hG',fun a ha b hb e=>(Gg a ha).1 (e ▸ hG'.subset hb)⟩
 · intro k hk
   simp only[foot,aT,List.flatMap_cons,List.flatMap_nil,List.append_nil,List.mem_append]at hk
   rcases hk with hk|hk
   · obtain⟨-,g1,g2⟩:=Gg k hk
     exact⟨g1.imp (fun h=>(hown k (by simp[h])).1) id,by rw[wW]; exact g2⟩
   · have:=hown k (by simp[hG'.subset hk])
     exact⟨.inl this.1,Nat.lt_of_lt_of_le this.2 hlen⟩
def M0{β:Type}(f:β->Option Bool):List β->Option (List β)
 |[]=>some []
 |x::r=>(f x).bind fun b=>(M0 f r).bind fun ys=>some (if b then ys else x::ys)
theorem agM{β:Type}{f:β->Option Bool}:∀{xs ys:List β},M0 f xs=some ys->(∀x∈xs,f x=some ((f x).getD false))/\ys=xs.filter (fun a=>!(f a).getD false)
 |[],ys,h=>by simp[M0]at h; subst h; simp
 |x::r,ys,h=>by
   obtain⟨b,hb,h⟩:=bind_some h
   obtain⟨zs,hz,h⟩:=bind_some h
   obtain⟨h1,h2⟩:=agM hz
   obtain rfl:=Option.some.inj h
   refine⟨fun y hy=>?_,?_⟩
   · rcases List.mem_cons.1 hy with rfl|hy
     · rw[hb]; rfl
     · exact h1 y hy
   · rw[List.filter_cons,hb,h2]
     cases b<;>simp
theorem ahz{β:Type}{f:β->Option Bool}{p:β->Bool}:∀{xs:List β},(∀x∈xs,f x=some (p x))->M0 f xs=some (xs.filter fun a=>!p a)
 |[],_=>rfl
 |x::r,h=>by
   rw[M0,h x (by simp),Option.bind_some,ahz (p:=p) fun y hy=>h y (by simp[hy]),Option.bind_some,List.filter_cons]
   cases p x<;>simp
theorem ahA{β γ:Type}(g:β->γ)(p:γ->Bool):∀(l:List β)(k:Nat),nu p (l.map g) k=nu (fun a=>p (g a)) l k
 |[],_=>rfl
 |x::r,k=>by simp only[List.map_cons,nu,ahA g p r (k+1)]
structure u6{β:Type}(p:β->Bool)(qs cur:List β)(i j:Nat):Prop where
 len:cur.length=qs.length
 lt:i<j
 le:j<=qs.length
 tk:cur.take i=(qs.take j).filter fun a=>!p a
 dr:cur.drop j=qs.drop j
theorem ahS{β:Type}{p:β->Bool}:∀{l:List β}{k i:Nat},nu p l k=(i:Int)-> ∃q,i=k+q/\q<l.length/\(l.take q).filter (fun a=>!p a)=l.take q/\ ∃x,l[q]?=some x/\p x=true
 |[],k,i,h=>by simp[nu]at h
 |x::r,k,i,h=>by
   rw[nu]at h
   by_cases hp:p x=true
   · rw[if_pos hp]at h
     exact⟨0,by omega,by simp,by simp,x,by simp,hp⟩
   · rw[if_neg hp]at h
     obtain⟨q,h1,h2,h3,y,h4,h5⟩:=ahS h
     refine⟨q+1,by omega,by simpa using h2,?_,y,by simpa using h4,h5⟩
     rw[List.take_succ_cons,List.filter_cons,h3]
     simp[hp]
theorem ahd{β:Type}{p:β->Bool}:∀{l:List β}{k:Nat},nu p l k= -1->l.filter (fun a=>!p a)=l
 |[],_,_=>rfl
 |x::r,k,h=>by
   rw[nu]at h
   by_cases hp:p x=true
   · rw[if_pos hp]at h; omega
   · rw[if_neg hp]at h
     rw[List.filter_cons,ahd h]; simp[hp]
theorem agN{β:Type}(p:β->Bool):∀(l:List β)(k:Nat),nu p l k= -1\/ ∃i:Nat,nu p l k=(i:Int)/\i<k+l.length
 |[],k=>.inl rfl
 |x::r,k=>by
   rw[nu]
   by_cases hp:p x=true
   · rw[if_pos hp]; exact .inr ⟨k,rfl,by simp⟩
   · rw[if_neg hp]
     rcases agN p r (k+1)with h|⟨i,h,hi⟩
     · exact .inl h
     · exact .inr ⟨i,h,by simp; omega⟩
section
variable{β:Type}{p:β->Bool}{qs cur:List β}{i j:Nat}{x:β}
theorem YR(hx:qs[j]?=some x):(qs.take (j+1)).filter (fun a=>!p a)=(qs.take j).filter (fun a=>!p a)++(if p x then []else [x]):=by
 have hlt:j<qs.length:=by
   rcases Nat.lt_or_ge j qs.length with h|h
   · exact h
   · simp[List.getElem?_eq_none h]at hx
 rw[List.take_succ_eq_append_getElem hlt,List.filter_append]
 rw[List.getElem?_eq_getElem hlt]at hx
 obtain rfl:=Option.some.inj hx
 cases hp:p qs[j]<;>simp[hp]
theorem u6.init(h:nu p qs 0=(i:Int)):u6 p qs qs i (i+1):=by
 obtain⟨q,h1,h2,h3,y,h4,h5⟩:=ahS h
 obtain rfl:i=q:=by omega
 exact⟨rfl,Nat.lt_succ_self _,h2,by rw[YR h4,h3,h5]; simp,rfl⟩
theorem u6.at(h:u6 p qs cur i j)(hj:j<qs.length):∃x,cur[j]?=some x/\qs[j]?=some x:=by
 refine⟨qs[j],?_,List.getElem?_eq_getElem hj⟩
 have:=congrArg (fun l:List β=>l[0]?) h.dr
 simpa[List.getElem?_eq_getElem hj]using this
theorem u6.yes(h:u6 p qs cur i j)(hx:qs[j]?=some x)(hp:p x=true):u6 p qs cur i (j+1):=by
 have hlt:j<qs.length:=O8 hx
 refine⟨h.len,by have:=h.lt; omega,hlt,by rw[YR hx,←h.tk,hp]; simp,?_⟩
 rw[←List.drop_drop,h.dr,List.drop_drop]
theorem u6.no(h:u6 p qs cur i j)(hx:qs[j]?=some x)(hp:p x=false):u6 p qs (cur.set i x) (i+1) (j+1):=by
 have hlt:j<qs.length:=O8 hx
 have hi:i<cur.length:=by have:=h.lt; have:=h.len; omega
 refine⟨by simpa using h.len,by have:=h.lt; omega,hlt,?_,?_⟩
 · rw[YR hx,←h.tk,hp,List.take_succ_eq_append_getElem (by simpa using hi)]
   simp[List.take_set_of_le]
 · rw[List.drop_set_of_lt (by have:=h.lt; omega),←List.drop_drop,h.dr,List.drop_drop]
theorem u6.fin(h:u6 p qs cur i j)(hj:qs.length<=j):cur.take i=qs.filter fun a=>!p a:=by
 rw[h.tk,List.take_of_length_le hj]
end
section
variable{P:Program} [dF P]{n:Nat}{f:Fr}{H0:aH}{F0:List Nat}{cs:List aL}{A:Array Oper}{r:List Oper}{K:Fr->List aL->Prop}{d:Option Tmp}{x y z:Operand}{T T' E:TypeId}{ps:String}{af:Array Edge}{gd:Option (Nat×Bool)}
variable{α:Type}{R:aH->Value->α->Prop}{Ro':jb α}{xs:List α}{v:Value}
theorem ap9 [eF R]{ι:Type}{F:List Nat}{k j s:Nat}{a:α}{ul:ι->List Value}{cc:ι->List aL}(hA:AG P T true)(hs:SZ P T s)(h0:Nat.blt 0 s=true)(hx:EV n f x (.pointer (some ⟨k,j,some 0⟩)))(hm:Mem (aT (aF E (aC R)) F v xs) cs)(hk:l8 v=some k)(hj:xs[j]?=some a)
   (hop:∀H e,R H e a-> ∃i,e= .agg (ul i).toArray/\(ul i).length=s/\ ∀c∈cc i,c.P H/\c.F=[]) (h:∀i,bL P n H0 F0 A r (put f d (.agg (ul i).toArray)) (bB R (.agg (ul i).toArray) a::(cc i++cs)) K):bL P n H0 F0 A (⟨d,.load T x,T',ps,af,none⟩::r) f cs K:=by
 intro H hc
 have ho:aF E (aC R) F H v xs:=hc.mem hm
 obtain⟨-,m,b,G,rfl,-,h3,-,-,-,-,rfl,h9⟩:=ho.head hk
 obtain⟨e,F1,Fj,F2,g1,g2,g3,-⟩:=h9.at hj
 obtain⟨i,he,hl,hcc⟩:=hop H e g3.2
 subst he
 refine EQ (j_ hA hs hx h3 g1 (by simpa[Nat.blt_eq]using h0) (by simp[Value.cells,hl]) (show ((Value.agg (ul i).toArray).cells.toList.drop 0).take s=ul i by subst hl; simp[Value.cells])) (h i H ?_)
 have hb:∀(l:List aL),(∀c∈l,c.P H/\c.F=[])->Ctx H0 F0 H (l++cs):=by
   intro l
   induction l with
   |nil=>intro _; exact hc
   |cons c l ih=>intro hl; exact (ih fun d hd=>hl d (by simp[hd])).dup (hl c (by simp)).1 (hl c (by simp)).2
 exact (hb _ hcc).dup (c:=bB R (.agg (ul i).toArray) a) g3.2 rfl
theorem ap_ [eF R]{F:List Nat}{v:Value}{qs:List (Value×α)}:zW (aT (aF E (aC (rq R))) F v qs) (bB (aD E R) v (qs.map Prod.snd)):=
 ⟨fun H h=>by
   have h2:=(aG (Ro:=aF E (aC (rq R))) (R':=aD E (rq R)) (F:=F) (v:=v) (a:=qs)).P H h
   have h3:aD E (rq R) (frz H F) v qs:=h2
   rcases h3 with⟨rfl,rfl⟩|⟨k,i,m,b,rfl,g1,g2,g3,g4,g5,g6⟩|⟨k,i,m,rfl,rfl⟩
   · exact .inl ⟨rfl,rfl⟩
   · refine .inr (.inl ⟨k,i,m,b,by simp,g1,g2,g3,by simpa using g4,by simpa using g5,fun j a hj=>?_⟩)
     rw[List.getElem?_map]at hj
     cases hq:qs[j]? with
     |none=>rw[hq]at hj; simp at hj
     |some q=>
       rw[hq]at hj
       obtain rfl:q.2=a:=by simpa using hj
       obtain⟨e,he,hr⟩:=g6 j q hq
       exact⟨e,he,hr.2⟩
   · exact .inr (.inr ⟨k,i,m,rfl,rfl⟩),fun H h=>(aG (Ro:=aF E (aC (rq R))) (R':=aD E (rq R)) (F:=F) (v:=v) (a:=qs)).w H h,rfl⟩
theorem ZX [ik Ro']{F:List Nat}{v:Sv}(hne:xs≠[])(H:aH)(h:(aT (aF E Ro') F v.v xs).P H):∃k m,v=⟨some ⟨k,0,none⟩,xs.length,m⟩/\(m=1\/m=2):=by
 have h:aF E Ro' F H v.v xs:=h
 rcases h with⟨-,h,-⟩|⟨k,m,b,G,h1,h2,-⟩
 · exact absurd h hne
 · obtain⟨va,vn,vm⟩:=v
   injection h1 with e1 e2 e3
   subst e1 e2 e3
   exact⟨k,_,rfl,h2⟩
theorem aoS [eF R]{F:List Nat}{k l m s:Nat}{kk:IntKind}{i:Int}(hT:SL P T E)(hs:SZ P E s)(hx:EV n f x (.slice (some ⟨k,0,none⟩) l m))(hy:EV n f y (.int kk i))(hm:Mem (aT (aF E (aC R)) F (.slice (some ⟨k,0,none⟩) l m) xs) cs)(h0:0<=i)(hi:i<=(l:Int))
   (h:bL P n H0 F0 A r (put f d (.slice (some ⟨k,i.toNat,none⟩) (l-i.toNat) 0)) cs K):bL P n H0 F0 A (⟨d,.slice T x (some y) none none,T',ps,af,none⟩::r) f cs K:=
 eu hm (fun{H} ho=>by
   have ho:aF E (aC R) F H (.slice (some ⟨k,0,none⟩) l m) xs:=ho
   obtain⟨-,m',b,G,-,-,h3,-,-,h6,-⟩:=ho.head (k:=k) rfl
   exact agL hT hs hx hy h3 h6 h0 hi) h
theorem aoT [eF R]{F:List Nat}{k l m s:Nat}{kk:IntKind}{i:Int}{u:Value}(hT:SL P T E)(hs:SZ P E s)(hx:EV n f x (.slice (some ⟨k,0,none⟩) l m))(hmm:m=1\/m=2)(hy:EV n f y (.int kk i))(hm:Mem (aT (aF E (aC R)) F u xs) cs)(hk:l8 u=some k)(h0:0<=i)(hi:i<=(l:Int))(hl:l≠0)
   (h:bL P n H0 F0 A r (put f d (.slice (some ⟨k,0,none⟩) i.toNat 2)) cs K):bL P n H0 F0 A (⟨d,.slice T x none (some y) none,T',ps,af,none⟩::r) f cs K:=
 eu hm (fun{H} ho=>by
   have ho:aF E (aC R) F H u xs:=ho
   obtain⟨-,m',b,G,rfl,-,h3,-,h5,-⟩:=ho.head hk
   exact aoP hT hs hx hmm hy h3 h5 h0 hi hl) h
end
theorem aoU{P:Program} [dF P]{g:FuncId}{args:List Value}{ι:Type}{val:ι->Value}{post:ι->List aL}{c:aL}{cc:List aL}{p:Prop}(hp:∀H,c.P H->p)(h:p->Spec P g args (c::cc) val post):Spec P g args (c::cc) val post:=
 fun H F0 hc=>h (hp H (hc.hold c (by simp))) H F0 hc
theorem aoo{α:Type}(p:α->Bool)(es:List Value)(xs:List α)(h:es.length=xs.length):((es.zip xs).filter fun a=>!p a.2).map Prod.snd=xs.filter fun a=>!p a:=by
 have:=List.filter_map (f:=Prod.snd) (p:=fun a:α=>!p a) (l:=es.zip xs)
 rw[List.map_snd_zip (Nat.le_of_eq h.symm)]at this
 rw[this]; rfl
section
variable{P:Program} [dF P]{n:Nat}{f:Fr}{H0:aH}{F0:List Nat}{cs:List aL}{A:Array Oper}{r:List Oper}{K:Fr->List aL->Prop}{d:Option Tmp}{T:TypeId}{ps:String}{af:Array Edge}{gd:Option (Nat×Bool)}{t:Tmp}
variable{l:List Oper}{tb a_ todo:List Nat}{fl:List (Nat×List Nat)}{i:Nat}
theorem Cm(v:Value)(hv:f t=v)(ht:Nat.blt t n=true)(h:bL P n H0 F0 A r (put f d v) cs K):bL P n H0 F0 A (⟨d,.move (.tmp t),T,ps,af,none⟩::r) f cs K:=aN (fQ (.tmp hv ht)) h
theorem Ca(v:Value)(hv:f t=v)(ht:Nat.blt t n=true)(h:bL P n H0 F0 A r (put f d v) cs K):bL P n H0 F0 A (⟨d,.assign (.tmp t),T,ps,af,none⟩::r) f cs K:=aN (jW (.tmp hv ht)) h
theorem Dm(v:Value)(ho:l[i]?=some ⟨d,.move (.tmp t),T,ps,af,none⟩)(hv:f t=v)(ht:Nat.blt t n=true)(hn:iI (.tmp t) (gM l ⟨d,.move (.tmp t),T,ps,af,none⟩)=true)(h:DC P n l tb a_ H0 F0 K todo fl (put f d v) cs):DC P n l tb a_ H0 F0 K (i::todo) fl f cs:=
 bN ho .no (fun ha=>fQ (EN ha (.tmp hv ht) hn)) h
theorem Da(v:Value)(ho:l[i]?=some ⟨d,.assign (.tmp t),T,ps,af,none⟩)(hv:f t=v)(ht:Nat.blt t n=true)(hn:iI (.tmp t) (gM l ⟨d,.assign (.tmp t),T,ps,af,none⟩)=true)(h:DC P n l tb a_ H0 F0 K todo fl (put f d v) cs):DC P n l tb a_ H0 F0 K (i::todo) fl f cs:=
 bN ho .no (fun ha=>jW (EN ha (.tmp hv ht) hn)) h
end
end Go.Fw
/-
 A slice of our own keeps its array, and its elements turn no more. No conditions.
-/
set_option linter.unusedVariables false
namespace Go.Fw
open Go
section
variable{α:Type}{Ro:jb α}{R':aH->Value->α->Prop}{E:TypeId}{H0:aH}{F0:List Nat}{cs rest cs2:List aL}{F:List Nat}{v:Value}{xs:List α}
variable{P:Program} [dF P]{n:Nat}{f:Fr}{c1:Code}{Q:Exit->Fr->List aL->Prop}
theorem E9{o:Oper}{ι:Type}{val:ι->Value}{pre:List aL}{post post':ι->List aL}(he:∀x,aO (post x) (post' x))(hx:XC P n o f pre val post):XC P n o f pre val post':=by
 intro H hc ρ w a K' Q' hr hf hk
 refine hx H hc ρ w a K' Q' hr hf fun f' ρ' H' a' w' h1 h2 h3 h4=>?_
 obtain⟨x,e,h5⟩:=h4
 obtain⟨H2,l1,l2,l3⟩:=he x H (foot pre) H' h5
 exact hk f' ρ' H2 a' w' h1 (h2.recore l1 l2) (h3.trans (Step.recore l1 l2)) ⟨x,e,l3⟩
end
end Go.Fw
/-
 Lending several own comps at once.
-/
set_option linter.unusedVariables false
namespace Go.Fw
open Go
section
variable{P:Program} [dF P]{n:Nat}{f:Fr}{ι:Type}{val:ι->Value}{pre:List aL}
inductive zY:List aL->List aL->Prop
 |nil:zY [] []
 |cons {c c':aL} {cl cl':List aL} (h:zW c c') (t:zY cl cl'):zY (c::cl) (c'::cl')
theorem zY.foot{cl cl':List aL}(h:zY cl cl'):foot cl'=[]:=by
 induction h with
 |nil=>rfl
 |cons h _ ih=>show _++Go.Fw.foot _=_; rw[h.F,ih]; rfl
theorem zY.wr{cl cl':List aL}(h:zY cl cl'){H:aH}(hp:∀c∈cl,c.P H):∀k∈Go.Fw.foot cl,∃b,H[k]?=some (some b)/\b.wr=true:=by
 induction h with
 |nil=>intro k hk; simp[Go.Fw.foot]at hk
 |cons h _ ih=>
   intro k hk
   simp only[Go.Fw.foot,List.flatMap_cons,List.mem_append]at hk
   rcases hk with hk|hk
   · exact h.w H (hp _ (by simp)) k hk
   · exact ih (fun c hc=>hp c (by simp[hc])) k hk
theorem apy(H:aH)(F G:List Nat):frz H (F++G)=frz (frz H F) G:=by unfold frz; rw[List.foldl_append]
theorem zY.hold{cl cl':List aL}(h:zY cl cl'):∀{H:aH},(∀c∈cl,c.P H)->(Go.Fw.foot cl).Nodup-> ∀c∈cl',c.P (frz H (Go.Fw.foot cl)):=by
 induction h with
 |nil=>intro H _ _ c hc; simp at hc
 | @cons c c' cl cl' h t ih=>
   intro H hp hnd d hd
   have e:Go.Fw.foot (c::cl)=c.F++Go.Fw.foot cl:=rfl
   rw[e]at hnd ⊢
   obtain⟨n1,n2,n3⟩:=List.nodup_append.1 hnd
   rw[apy]
   rcases List.mem_cons.1 hd with rfl|hd
   · exact d.keep (h.P H (hp c (by simp))) (zA _ _) fun k hk=>by rw[h.F]at hk; simp at hk
   · refine ih (H:=frz H c.F) (fun x hx=>x.keep (hp x (by simp[hx])) (zA _ _) fun k hk=>EY _ _ fun hkc=>n3 k hkc k (List.mem_flatMap.2 ⟨x,hx,hk⟩) rfl) n2 d hd
theorem apz{cl cl':List aL}{o:Oper}{post:ι->List aL}(hf:zY cl cl')(hl:∀x,xX (post x))(hx:XC P n o f (cl'++pre) val post):XC P n o f (cl++pre) val (fun x=>cl++post x):=by
 intro H hc
 have hcP:∀c∈cl,c.P H:=fun c h=>hc.hold c (by simp[h])
 have hw:=hf.wr hcP
 have hfo:∀l,foot (cl++l)=foot cl++foot l:=fun l=>by simp[foot]
 have M3:∀l,foot (cl'++l)=foot l:=fun l=>by
   have:foot (cl'++l)=foot cl'++foot l:=by simp[foot]
   rw[this,hf.foot,List.nil_append]
 have hnd:=hc.nd
 rw[hfo]at hnd
 obtain⟨n1,n2,n3⟩:=List.nodup_append.1 hnd
 have hcl:∀k∈foot cl,k<H.length:=fun k hk=>(hc.own k (by rw[hfo]; exact List.mem_append.2 (.inl hk))).2
 have hpo:∀k∈foot pre,k∉foot cl:=fun k hk hkc=>n3 k hkc k hk rfl
 have gy:Ctx (frz H (foot cl)) (foot (cl'++pre)) (frz H (foot cl)) (cl'++pre):=by
   refine⟨Nat.le_refl _,iP.refl _,fun _ _ _=>rfl,fun d hd=>?_,?_,fun k hk=>⟨.inl hk,?_⟩⟩
   · rcases List.mem_append.1 hd with hd|hd
     · exact hf.hold hcP n1 d hd
     · refine d.keep (hc.hold d (by simp[hd])) (zA _ _) fun k hk=>EY _ _ (hpo k (List.mem_flatMap.2 ⟨d,hd,hk⟩))
   · rw[M3]; exact n2
   · rw[M3]at hk
     rw[l5]
     exact (hc.own k (by rw[hfo]; exact List.mem_append.2 (.inr hk))).2
 intro ρ w a K' Q' hr hF hk
 refine hx (frz H (foot cl)) gy ρ w a K' Q' (hr.recore (l5 _ _) (Bl _ H)) hF fun f2 ρ' H' a' w' h1 h2 h3 h4=>?_
 obtain⟨x,rfl,h5⟩:=h4
 have hFc:∀k∈foot cl,H'[k]?=(frz H (foot cl))[k]?:=fun k hk=>h5.agr k (by rw[l5]; exact hcl k hk) (by
   rw[M3]; exact fun h=>hpo k h hk)
 have PX:∀k∈foot (post x),k∉foot cl:=by
   intro k hk hkc
   rcases (h5.own k hk).1 with h|h
   · rw[M3]at h; exact hpo k h hkc
   · rw[l5]at h; have:=hcl k hkc; omega
 have hget:∀k,k<H.length->k∉foot pre->(qC H' (foot cl))[k]?=H[k]?:=by
   intro k hkl hkp
   by_cases hkc:k∈foot cl
   · exact Z_ hw hFc hkc
   · rw[Bw _ _ hkc,h5.agr k (by rw[l5]; exact hkl) (by rw[M3]; exact hkp),EY _ _ hkc]
 refine hk _ ρ' (qC H' (foot cl)) a' w' h1 (h2.recore (wW _ _) (LZ _ H')) ((Step.recore (H:=H) (l5 _ _) (Bl _ H)).trans (h3.trans (Step.recore (wW _ _) (LZ _ H')))) ⟨x,rfl,?_⟩
 have hlen:H.length<=(qC H' (foot cl)).length:=by rw[wW]; have:=h5.len; rwa [l5]at this
 have nY:iP H (qC H' (foot cl)):=by
   intro k b hb hbw
   have hkc:k∉foot cl:=fun h=>by
     obtain⟨b',hb',hw'⟩:=hw k h
     rw[hb]at hb'
     injection hb' with hb'; injection hb' with hb'
     rw[hb',hw']at hbw; simp at hbw
   rw[Bw _ _ hkc]
   exact h5.imm k b ((zA H (foot cl)) k b hb hbw) hbw
 refine⟨hlen,nY,fun k hkl hkn=>?_,fun d hd=>?_,?_,fun k hkk=>?_⟩
 · rw[hfo]at hkn
   simp only[List.mem_append,not_or]at hkn
   exact hget k hkl hkn.2
 · rcases List.mem_append.1 hd with hd|hd
   · exact d.keep (hcP d hd) nY fun k hk=>hget k (hcl k (List.mem_flatMap.2 ⟨d,hd,hk⟩)) (fun h=>hpo k h (List.mem_flatMap.2 ⟨d,hd,hk⟩))
   · exact (hl x).keep h5.hold (fun k hk=>Bw _ _ (PX k hk)) d hd
 · rw[hfo]
   exact List.nodup_append.2 ⟨n1,h5.nd,fun a ha b hb e=>PX b hb (e ▸ ha)⟩
 · rw[hfo]at hkk
   rw[hfo]
   rcases List.mem_append.1 hkk with h|h
   · exact⟨.inl (List.mem_append.2 (.inl h)),Nat.lt_of_lt_of_le (hcl k h) hlen⟩
   · refine⟨?_,by rw[wW]; exact (h5.own k h).2⟩
     rcases (h5.own k h).1 with g|g
     · rw[M3]at g; exact .inl (List.mem_append.2 (.inr g))
     · rw[l5]at g; exact .inr g
end
end Go.Fw
/-
 Shifts and bits of whole numbers. No conditions.
-/
set_option linter.unusedVariables false
namespace Go.Fw
open Go
def WY(k:IntKind)(i j:Int):Option Int:=if j<0 then none else some (k.wrap (i*2 ^ min j.toNat k.bits))
def Jt(k:IntKind)(i j:Int):Option Int:=if j<0 then none else some (i.fdiv (2 ^ min j.toNat k.bits))
def yh(k:IntKind)(i j:Int):Int:=k.wrap ((BitVec.ofInt k.bits i &&& BitVec.ofInt k.bits j).toNat:Int)
def M4(k:IntKind)(i j:Int):Int:=k.wrap ((BitVec.ofInt k.bits i ^^^ BitVec.ofInt k.bits j).toNat:Int)
def M5(i j:Int):Option Int:=if j=0 then none else some (i.tmod j)
section
variable{P:Program} [dF P]{n:Nat}{f:Fr}{H:aH}{d:Option Tmp}{T T' T'':TypeId}{ps:String}{af:Array Edge}{x y:Operand}
theorem arN{k l:IntKind}{i j q:Int}(hx:EV n f x (.int k i))(hy:EV n f y (.int l j))(h:WY k i j=some q):
   gY P n ⟨d,.binOp .shl T x y T',T'',ps,af,none⟩ f H (.int k q):=by
 unfold WY at h
 split at h
 · simp at h
 rename_i hj
 cases h
 exact fun ρ _ a _ hf=>⟨_,by simp[execOp,(hx.use hf).int_inv,(hy.use hf).int_inv,eqGuard,binOp,Op.shift,hj],.int _ _⟩
theorem aaG{k l:IntKind}{i j q:Int}(hx:EV n f x (.int k i))(hy:EV n f y (.int l j))(h:Jt k i j=some q):
   gY P n ⟨d,.binOp .shr T x y T',T'',ps,af,none⟩ f H (.int k q):=by
 unfold Jt at h
 split at h
 · simp at h
 rename_i hj
 cases h
 exact fun ρ _ a _ hf=>⟨_,by simp[execOp,(hx.use hf).int_inv,(hy.use hf).int_inv,eqGuard,binOp,Op.shift,hj],.int _ _⟩
theorem V7{k:IntKind}{i j:Int}(hx:EV n f x (.int k i))(hy:EV n f y (.int k j)):
   gY P n ⟨d,.binOp .and T x y T',T'',ps,af,none⟩ f H (.int k (yh k i j)):=
 fun ρ _ a _ hf=>⟨_,by simp[execOp,(hx.use hf).int_inv,(hy.use hf).int_inv,eqGuard,binOp,Op.intBits,yh],.int _ _⟩
theorem arO{k:IntKind}{i j:Int}(hx:EV n f x (.int k i))(hy:EV n f y (.int k j)):
   gY P n ⟨d,.binOp .xor T x y T',T'',ps,af,none⟩ f H (.int k (M4 k i j)):=
 fun ρ _ a _ hf=>⟨_,by simp[execOp,(hx.use hf).int_inv,(hy.use hf).int_inv,eqGuard,binOp,Op.intBits,M4],.int _ _⟩
theorem ahT{k:IntKind}{i j q:Int}(hx:EV n f x (.int k i))(hy:EV n f y (.int k j))(h:M5 i j=some q):
   gY P n ⟨d,.binOp .rem T x y T',T'',ps,af,none⟩ f H (.int k q):=by
 unfold M5 at h
 split at h
 · simp at h
 rename_i hj
 cases h
 exact arx hx hy hj
end
end Go.Fw
/-
 Drawn regions: elements of an own slice are read and stored.
-/
set_option linter.unusedVariables false
namespace Go.Fw
open Go Go.RowKit
section
variable{P:Program} [dF P]{n:Nat}{l:List Oper}{tb a_:List Nat}{H0:aH}{F0:List Nat}{K:Fr->List aL->Prop}{cs:List aL}{f:Fr}{i:Nat}{r:List Nat}{fl:List (Nat×List Nat)}{d:Option Tmp}{T E T':TypeId}{ps:String}{af:Array Edge}{gd:Option (Nat×Bool)}{v:Value}{x y:Operand}{α:Type}{Ro:List Nat->aH->Value->α->Prop}{xs:List α}{s:Nat}
end
section
variable{P:Program} [dF P]{n:Nat}{f:Fr}{H:aH}{d:Option Tmp}{x:Operand}{T:TypeId}{ps:String}{af:Array Edge}
theorem zt{v:Value}{q:Addr}(hv:v= .pointer (some q))(hx:EV n f x v):gY P n ⟨d,.nilCheck x,T,ps,af,none⟩ f H v:=fun ρ _ a _ hf=>by
 subst hv
 have h:=hx.use hf
 have:∃p,a.eval x= .pointer (some p):=by
   generalize a.eval x=u at h
   cases h<;>exact⟨_,rfl⟩
 obtain⟨p,hp⟩:=this
 exact⟨a.eval x,by simp[execOp,hp],h⟩
end
end Go.Fw
/-
 A new row, frozen in the same step.
-/
set_option maxRecDepth 100000
namespace Go.Fw
open Go
variable{P:Program} [dF P]{n:Nat}{f:Fr}{H:aH}{o:Oper}{K:Fr->aH->Prop}
theorem aam{α:Type}{R:aH->Value->α->Prop} [eF R]{E:TypeId}{k i m:Nat}:Conv [] [bB (aD E R) (.slice (some ⟨k,i,none⟩) 0 m) []]:=⟨fun H _ c hc=>by
 simp at hc; subst hc; exact .inr (.inr ⟨k,i,m,rfl,rfl⟩),by simp[bB]⟩
end Go.Fw
/-
 Library functions on our own rows of integers: what the shelf's contracts say, at the abstract heap.
-/
set_option linter.unusedVariables false
namespace Go.Fw
open Go Go.Sort
section
variable{P:Program} [dF P]{ρ:eO}{H:aH}{w:World}
theorem Rel.grown{w':World}{os:Array Obj}(h:Rel P ρ H w)(hw:w'.heap=w.heap++os):Rel P ρ H w':=by
 have hs:∀b,b<w.heap.size->w'.heap[b]?=w.heap[b]?:=fun b hb=>by rw[hw,Array.getElem?_append_left hb]
 constructor
 · intro k L hk
   obtain⟨b,hb,hr⟩:=h.blk k L hk
   exact⟨b,hb,hr.of_same (Up.refl ρ) (hs _ (h.lt hk))⟩
 · exact h.alive
 · exact h.dom
 · exact h.inj
 · exact h.vok.keep (by rw[hw]; simp) (fun b hb _=>hs b hb) fun _ _ hk _=>.inl hk
theorem Step.grown{w':World}{os:Array Obj}(hw:w'.heap=w.heap++os)(h1:w'.os=w.os)(h2:w'.output=w.output)(h3:w'.tape=w.tape):Step ρ H w ρ H w' where
 up:=Up.refl ρ
 os:=h1
 output:=h2
 tape:=h3
 size:=by rw[hw]; simp
 frame b hb _:=by rw[hw,Array.getElem?_append_left hb]
 fresh _ _ h:=.inl h
 len:=Nat.le_refl _
 hold k hk hn:=⟨hn,rfl⟩
theorem Rel.row{k n:Nat}{L:Loc}{b:gL}{zs ys:List Int}{os:Array Obj}(h:Rel P ρ H w)(hk:ρ k=some (some L))(hb:H[k]?=some (some b))(hown:b.own=true)(hsz:P.cellsOf b.ty=1)
   (hl:b.elems.length=zs.length) (hys:∀(i:Nat) y,ys[i]?=some y->zs[i]?=some y):
   Rel P ρ (H.set k (some ⟨ys.map (Value.int .i64),b.ty,true,b.wr⟩)) (grow (putRow (Value.int .i64) (Sort.ahead w n) L.blk L.off zs.toArray) os)/\
   Step ρ H w ρ (H.set k (some ⟨ys.map (Value.int .i64),b.ty,true,b.wr⟩)) (grow (putRow (Value.int .i64) (Sort.ahead w n) L.blk L.off zs.toArray) os):=by
 obtain⟨b',hb',hbr⟩:=h.blk k L hk
 rw[hb]at hb'
 obtain rfl:b=b':=by simpa using hb'
 have ho:L.own=true:=by rw[←hbr.own]; exact hown
 have mU:L.sz=1:=by rw[←hbr.sz,hsz]
 obtain⟨cs,ct,fr,vz,hel,hr2⟩:=hbr.cells
 obtain⟨hoff,tJ,hlenL,hfr,rfl⟩:=hr2 ho
 have hlt:=h.lt hk
 have hyl:ys.length<=zs.length:=by
   rcases Nat.lt_or_ge zs.length ys.length with h'|h'
   · have:=hys zs.length ys[zs.length] (List.getElem?_eq_getElem h')
     rw[List.getElem?_eq_none (Nat.le_refl _)]at this; simp at this
   · exact h'
 have hzc:zs.length<=cs.size:=by rw[mU,Nat.mul_one]at tJ; omega
 have hh1:(putRow (Value.int .i64) (Sort.ahead w n) L.blk L.off zs.toArray).heap=w.heap.setIfInBounds L.blk (.cells (putCells (Value.int .i64) L.off zs.toArray cs) b.ty fr):=by
   show w.heap.modify L.blk (onCells (putCells (Value.int .i64) L.off zs.toArray))=_
   apply Array.ext_getElem?
   intro q
   rw[Array.getElem?_modify,Array.getElem?_setIfInBounds]
   by_cases e:L.blk=q
   · subst e
     rw[if_pos rfl,if_pos rfl,if_pos hlt,vz]; rfl
   · rw[if_neg e,if_neg e]
 have hsz':(putCells (Value.int .i64) L.off zs.toArray cs).size=cs.size:=by simp[putCells]
 have R1:Rel P ρ (H.set k (some ⟨ys.map (Value.int .i64),b.ty,true,b.wr⟩)) (putRow (Value.int .i64) (Sort.ahead w n) L.blk L.off zs.toArray):=by
   refine h.write (b:=b) (b':=⟨ys.map (Value.int .i64),b.ty,true,b.wr⟩) hk ho hh1 rfl rfl hbr.sz ?_ ⟨hoff,by rw[hsz']; exact tJ,by simp only[List.length_map]; omega,by rw[hsz']; exact hfr⟩
   intro i e he
   rw[List.getElem?_map]at he
   cases hy:ys[i]? with
   |none=>rw[hy]at he; simp at he
   |some y=>
     rw[hy]at he
     obtain rfl:Value.int .i64 y=e:=by simpa using he
     have hz:=hys i y hy
     obtain⟨hi,hz'⟩:=List.getElem?_eq_some_iff.1 hz
     refine⟨mU ▸ rfl,?_⟩
     rw[hoff,mU,Nat.zero_add,Nat.mul_one]
     have hc:(putCells (Value.int .i64) 0 zs.toArray cs).toList.drop i=Value.int .i64 y::(putCells (Value.int .i64) 0 zs.toArray cs).toList.drop (i+1):=by
       rw[List.drop_eq_getElem_cons (by simp[putCells]; omega)]
       congr 1
       simp[putCells,hi,hz']
     rw[hc]
     exact .cons _ _ _ _ (.int _ _) .nil
 have S1:Step ρ H w ρ (H.set k (some ⟨ys.map (Value.int .i64),b.ty,true,b.wr⟩)) (putRow (Value.int .i64) (Sort.ahead w n) L.blk L.off zs.toArray):=
   Step.write hk ho hh1 rfl rfl rfl
 exact⟨R1.grown rfl,S1.trans (Step.grown rfl rfl rfl rfl)⟩
theorem Rel.holds{k:Nat}{L:Loc}{b:gL}{zs:List Int}(h:Rel P ρ H w)(hk:ρ k=some (some L))(hb:H[k]?=some (some b))(hown:b.own=true)(hsz:P.cellsOf b.ty=1)
   (he:b.elems=zs.map (Value.int .i64)):Holds (Value.int .i64) w L.blk L.off zs.toArray:=by
 obtain⟨b',hb',hbr⟩:=h.blk k L hk
 rw[hb]at hb'
 obtain rfl:b=b':=by simpa using hb'
 have ho:L.own=true:=by rw[←hbr.own]; exact hown
 have mU:L.sz=1:=by rw[←hbr.sz,hsz]
 obtain⟨cs,ct,fr,vz,hel,hr2⟩:=hbr.cells
 obtain⟨hoff,tJ,hlenL,hfr,rfl⟩:=hr2 ho
 rw[mU,Nat.mul_one]at tJ
 rw[he,List.length_map]at hlenL
 intro j hj
 simp only[List.size_toArray]at hj
 have hjc:j<cs.size:=by omega
 rw[hoff,Nat.zero_add]
 have:=(hel j (Value.int .i64 zs[j]) (by rw[he,List.getElem?_map,List.getElem?_eq_getElem hj]; rfl)).2
 rw[hoff,mU,Nat.zero_add,Nat.mul_one,List.drop_eq_getElem_cons (by simpa using hjc)]at this
 have hv:cs[j]=Value.int .i64 zs[j]:=by
   obtain⟨c,h1,h2⟩:=this.get 0 _ rfl
   have h3:=h2.int_inv
   subst h3
   simpa using h1
 constructor
 · rw[Mq vz,Array.getElem?_eq_getElem hjc,hv]
   simp[hj]
 · have:=hfr j (Nat.le_of_lt hjc)
   simp only[World.frozen?,vz]
   simpa using this
end
section
variable{P:Program} [dF P]{H:aH}{F0:List Nat}{E:TypeId}
end
end Go.Fw
/-
 slices.Insert at slices of our own: capacities, copy, overlaps, append of a make.
-/
set_option linter.unusedVariables false
namespace Go.Fw
open Go
def h_(s:Nat)(_:aH)(e q:Value):Prop:=e=q/\e.cells.size=s/\e.cells.toList.all scal=true
instance{s:Nat}:Pure (h_ s):=⟨fun h=>h⟩
instance{s:Nat}:Cells (h_ s) s:=⟨fun h=>h.2⟩
section
variable{H:aH}{s:Nat}
theorem PY{es xs:List Value}{G:List Nat}(h:gI (aC (h_ s)) H es xs G):es=xs/\G=[]/\ ∀e∈es,e.cells.size=s/\e.cells.toList.all scal=true:=by
 induction h with
 |nil=>exact⟨rfl,rfl,by simp⟩
 |cons h _ ih=>
   refine⟨by rw[ih.1,h.2.1],by rw[ih.2.1,h.1]; rfl,fun e he=>?_⟩
   rcases List.mem_cons.1 he with rfl|he
   · exact h.2.2
   · exact ih.2.2 e he
theorem VV:∀{es:List Value},(∀e∈es,e.cells.size=s/\e.cells.toList.all scal=true)->gI (aC (h_ s)) H es es []
 |[],_=>.nil
 |e::es,h=>by simpa using gI.cons (Ro:=aC (h_ s)) (F:=[]) ⟨rfl,rfl,h e (by simp)⟩ (VV fun x hx=>h x (by simp[hx]))
end
theorem kQ.relabel{ρ:eO}{n t:Nat}{f:Fr}{a:Act}{v:Value}(h:kQ ρ n f a)(hv:dQ ρ v (a.tmps.getD t undef)):kQ ρ n (upd f t v) a:=
 ⟨h.defers,h.size,fun u hu=>by
   by_cases e:u=t
   · subst e; rw[IZ]; exact hv
   · rw[upd_ne _ _ e]; exact h.get u hu⟩
theorem aop{α:Type}(l:List α)(p t m:Nat)(vs:List α)(hp:p<=l.length)(h:t+m<=vs.length):((splice l p vs).drop (p+t)).take m=(vs.drop t).take m:=by
 have hl:(l.take p).length=p:=by simp; omega
 unfold splice
 rw[List.append_assoc,←List.drop_drop,List.drop_append_of_le_length (by omega),List.drop_of_length_le (l:=l.take p) (by omega),List.nil_append,List.drop_append_of_le_length (by omega),List.take_append_of_le_length (by simp; omega)]
section
variable{P:Program} [dF P]{ρ:eO}{H:aH}{w:World}
theorem Rel.copyIn{k a s:Nat}{L:Loc}{b:gL}{S:List Value}{vs:List Value}(h:Rel P ρ H w)(hk:ρ k=some (some L))(hb:H[k]?=some (some b))(hown:b.own=true)(hsz:P.cellsOf b.ty=s)
   (hS:∀e∈S,e.cells.size=s/\e.cells.toList.all scal=true) (hv:cZ ρ (flat S) vs) (ha:a<=b.elems.length) (hcap:a+S.length<=L.cap):
   ∃w',(storeCells ⟨L.blk,L.off+a*s,none⟩ vs).run P w= .ok () w'/\
     Rel P ρ (H.set k (some ⟨b.elems.take a++S++b.elems.drop (a+S.length),b.ty,true,b.wr⟩)) w'/\Step ρ H w ρ (H.set k (some ⟨b.elems.take a++S++b.elems.drop (a+S.length),b.ty,true,b.wr⟩)) w':=by
 obtain⟨b',hb',hbr⟩:=h.blk k L hk
 rw[hb]at hb'
 obtain rfl:b=b':=by simpa using hb'
 have ho:L.own=true:=by rw[←hbr.own]; exact hown
 have mU:L.sz=s:=by rw[←hbr.sz,hsz]
 obtain⟨cs,ct,fr,vz,hel,hr2⟩:=hbr.cells
 obtain⟨hoff,tJ,hlenL,hfr,rfl⟩:=hr2 ho
 have hvl:vs.length=S.length*s:=by rw[←hv.length,EB S fun e he=>(hS e he).1]
 have hcs:(a+S.length)*s<=cs.size:=Nat.le_trans (by rw[mU]; exact Nat.mul_le_mul_right _ hcap) tJ
 have hbd:a*s+vs.length<=cs.size:=by rw[hvl,←Nat.add_mul]; exact hcs
 have Qf:∀c∈vs,scal c=true:=by
   intro c hc
   obtain⟨q,hq⟩:=List.mem_iff_getElem?.1 hc
   have J3:q<(flat S).length:=by rw[hv.length]; exact (List.getElem?_eq_some_iff.1 hq).1
   obtain⟨c',hc',hrc⟩:=hv.get q _ (List.getElem?_eq_getElem J3)
   rw[hc']at hq
   obtain rfl:c'=c:=by simpa using hq
   rw[hrc.scal]
   have hm:=List.getElem_mem J3
   simp only[flat,List.mem_flatMap]at hm
   obtain⟨e,he,hx⟩:=hm
   exact List.all_eq_true.1 (hS e he).2 _ hx
 obtain⟨w',hrun,hw',w1,w2,w3⟩:=UO P (b:=L.blk) (o:=L.off+a*s) vs 0 cs w vz (fun o h=>hfr o (Nat.le_of_lt h)) Qf (by rw[hoff]; omega)
 rw[hoff,Nat.zero_add,Nat.add_zero]at hw'
 have hsl:(splice cs.toList (a*s) vs).length=cs.size:=by rw[He _ _ _ (by simpa using hbd)]; simp
 refine⟨w',hrun,h.write (b':=⟨b.elems.take a++S++b.elems.drop (a+S.length),b.ty,true,b.wr⟩) hk ho hw' rfl rfl hbr.sz ?_ ⟨hoff,by simp only[List.size_toArray]; rw[hsl]; exact tJ,?_,by simp only[List.size_toArray]; rw[hsl]; exact hfr⟩,Step.write hk ho hw' w1 w2 w3⟩
 · intro q e he
   rw[hoff,mU,Nat.zero_add]
   show e.cells.size=s/\cZ ρ e.cells.toList (((splice cs.toList (a*s) vs).drop (q*s)).take s)
   have hta:(b.elems.take a).length=a:=by simp; omega
   have hold:b.elems[q]?=some e->(q<a\/a+S.length<=q)->e.cells.size=s/\cZ ρ e.cells.toList (((splice cs.toList (a*s) vs).drop (q*s)).take s):=by
     intro h1 h2
     have:=hel q e h1
     rw[hoff,mU,Nat.zero_add]at this
     refine⟨this.1,?_⟩
     rw[Vf _ _ _ _ _ (h2.imp (fun h=>by rw[←Nat.succ_mul]; exact Nat.mul_le_mul_right _ h) (fun h=>by rw[hvl,←Nat.add_mul]; exact Nat.mul_le_mul_right _ h)) (by simpa using hbd)]
     exact this.2
   rcases Nat.lt_or_ge q a with h1|h1
   · refine hold ?_ (.inl h1)
     rw[List.append_assoc,List.getElem?_append_left (by omega),List.getElem?_take_of_lt h1]at he
     exact he
   rcases Nat.lt_or_ge q (a+S.length)with h2|h2
   · rw[List.getElem?_append_left (by simp; omega),List.getElem?_append_right (by omega),hta]at he
     have:=cZ.elems (ρ:=ρ) S vs [] hv (fun e he=>(hS e he).1) (q-a) e he
     rw[List.append_nil]at this
     refine⟨(hS e (List.mem_of_getElem? he)).1,?_⟩
     have hw:q*s=a*s+(q-a)*s:=by rw[←Nat.add_mul]; congr 1; omega
     rw[hw,aop _ _ _ _ _ (by simp; omega) (by rw[hvl,←Nat.succ_mul]; exact Nat.mul_le_mul_right _ (by omega))]
     exact this
   · refine hold ?_ (.inr h2)
     rw[List.getElem?_append_right (by simp; omega),List.getElem?_drop]at he
     simp only[List.length_append,hta]at he
     rwa [show a+S.length+(q-(a+S.length))=q by omega]at he
 · simp only[List.length_append,List.length_take,List.length_drop]; omega
theorem Rel.cellsOf{k i m s:Nat}{L:Loc}{b:gL}(h:Rel P ρ H w)(hk:ρ k=some (some L))(hb:H[k]?=some (some b))(hsz:P.cellsOf b.ty=s)(hs0:0<s)(him:i+m<=b.elems.length):
   ∃cells:Array Value,(loadCells ⟨L.blk,L.off+i*L.sz,none⟩ (m*s)).run P w= .ok cells w/\cZ ρ (flat ((b.elems.drop i).take m)) cells.toList:=by
 obtain⟨b',hb',hbr⟩:=h.blk k L hk
 rw[hb]at hb'
 obtain rfl:b=b':=by simpa using hb'
 have mU:L.sz=s:=by rw[←hbr.sz,hsz]
 obtain⟨cs,ct,fr,vz,hel,hr2⟩:=hbr.cells
 have hlen:((b.elems.drop i).take m).length=m:=by rw[List.length_take,List.length_drop]; omega
 have hget:∀(q:Nat) e,((b.elems.drop i).take m)[q]?=some e->e.cells.size=s/\cZ ρ e.cells.toList ((cs.toList.drop (L.off+i*L.sz+q*L.sz)).take L.sz):=by
   intro q e he
   have hq:q<m:=by
     rcases Nat.lt_or_ge q m with h|h
     · exact h
     · rw[List.getElem?_eq_none (by omega)]at he; simp at he
   rw[List.getElem?_take_of_lt hq,List.getElem?_drop]at he
   have:=hel (i+q) e he
   rw[Nat.add_mul,←Nat.add_assoc]at this
   exact⟨this.1.trans mU,this.2⟩
 have hrel:cZ ρ (flat ((b.elems.drop i).take m)) ((cs.toList.drop (L.off+i*L.sz)).take (m*L.sz)):=by
   have:=cZ.window (ρ:=ρ) (cs:=cs.toList) (sz:=L.sz) ((b.elems.drop i).take m) (L.off+i*L.sz) (fun q e he=>⟨(hget q e he).2,(hget q e he).1.trans mU.symm⟩)
   rwa [hlen]at this
 by_cases hm:m=0
 · subst hm
   exact⟨#[],by simp[loadCells,loadCellsFrom],by simpa using hrel⟩
 · have hbd:L.off+i*L.sz+m*s<=cs.size:=by
     obtain⟨e,he⟩:∃e,((b.elems.drop i).take m)[m-1]?=some e:=⟨_,List.getElem?_eq_getElem (by omega)⟩
     obtain⟨h1,h2⟩:=hget (m-1) e he
     have:=h2.length
     simp only[Array.length_toList,List.length_take,List.length_drop]at this
     have h3:(m-1)*L.sz+L.sz=m*s:=by rw[mU]; rw[←Nat.succ_mul]; congr 1; omega
     omega
   refine⟨_,run_loadCells P vz (m*s) hbd,?_⟩
   rw[mU]at hrel ⊢
   simpa using hrel
end
section
variable{P:Program} [dF P]{n:Nat}{f:Fr}{H0:aH}{F0:List Nat}{cs:List aL}{A:Array Oper}{r:List Oper}{K:Fr->List aL->Prop}{d:Option Tmp}{x y z:Operand}{T T2 T' E:TypeId}{ts:List TypeId}{ps:String}{af:Array Edge}{gd:Option (Nat×Bool)}{s:Nat}{t:Tmp}{c1:Code}{Q:Exit->Fr->List aL->Prop}
theorem arP{α:Type}{Ro:jb α} [ik Ro]{F:List Nat}{xs:List α}{v:Value}{k l m:Nat}(hv:f t= .slice (some ⟨k,0,none⟩) l m)(ht:Nat.blt t n=true)(hm:m=1\/m=2)(hl:l≠0)(hc:Mem (aT (aF E Ro) F v xs) cs)(hk:l8 v=some k)
   (h:∀c,l<=c->CW P n H0 F0 c1 Q (upd f t (.slice (some ⟨k,0,none⟩) l (c+3))) cs):CW P n H0 F0 c1 Q f cs:=by
 intro H gy ρ w a hr hf
 have ho:aF E Ro F H v xs:=gy.mem hc
 obtain⟨-,m',b,G,hv',-,h3,-,h5,-⟩:=ho.head hk
 have hg:=hf.get t (by simpa[Nat.blt_eq]using ht)
 rw[hv]at hg
 obtain⟨L,p,cap,hl',hbr,hc',hcap,g1,g2,gp⟩:=hg.slice_inv hr h3
 obtain⟨L2,hl2,hx⟩:=hg.slice_ext hr h3 hl
 rw[hl']at hl2
 obtain rfl:L=L2:=by simpa using hl2
 have hown:L.own=true:=by rw[←hbr.own]; exact h5
 obtain⟨cs0,ct,fr,-,-,hr2⟩:=hbr.cells
 obtain⟨hoff,-⟩:=hr2 hown
 have oZ:=gp hl
 rw[Nat.zero_mul,Nat.add_zero]at oZ
 have NA:cap<=L.cap:=by
   rcases hm with rfl|rfl
   · have:=g1 rfl; omega
   · exact (g2 (Nat.le_refl _)).2.2.1
 refine h cap hcap H gy ρ w a hr (hf.relabel ?_)
 rw[hc']
 exact .slice k 0 l (cap+3) L p cap hl' hcap (by omega) (fun _=>⟨rfl,hown,NA,oZ,fun _=>rfl⟩) (fun _=>⟨by rw[oZ]; simp,hx⟩)
theorem apA{k l c:Nat}(hv:f t= .slice (some ⟨k,0,none⟩) l (c+3))(ht:Nat.blt t n=true)(h:CW P n H0 F0 c1 Q (upd f t (.slice (some ⟨k,0,none⟩) l 2)) cs):CW P n H0 F0 c1 Q f cs:=by
 intro H gy ρ w a hr hf
 refine h H gy ρ w a hr (hf.relabel ?_)
 have hg:=hf.get t (by simpa[Nat.blt_eq]using ht)
 rw[hv]at hg
 generalize a.tmps.getD t undef=u at hg
 cases hg with
 |slice _ _ _ _ L p cap hl hc h1 h2 hp=>
   obtain⟨e1,e2,e3,e4,-⟩:=h2 (by omega)
   exact .slice _ _ _ _ L p cap hl hc (by simp) (fun _=>⟨e1,e2,e3,e4,by omega⟩) hp
 |sliceDead _ _ _ _ p cap hl=>exact .sliceDead _ _ _ _ p cap hl
theorem arQ{H:aH}{k l c:Nat}{b:gL}(hT:SL P T E)(hx:EV n f x (.slice (some ⟨k,0,none⟩) l (c+3)))(hk:H[k]?=some (some b)):
   gY P n ⟨d,.call ⟨.builtin .cap,[x].toArray,(T::ts).toArray⟩,T',ps,af,none⟩ f H (.int .i64 (c:Int)):=by
 intro ρ w a hr hf
 obtain⟨L,p,cap,hl',hbr,hc',hcap,g1,g2,gp⟩:=(hx.use hf).slice_inv hr hk
 have:=(g2 (by omega)).2.2.2.2 (by omega)
 obtain rfl:cap=c:=by omega
 have hu:P.underlying T=some (.slice E):=hT
 exact⟨.int .i64 cap,by simp[execOp,resolve,invoke,builtin,Builtin.cap_,hc',goInt,underlying,hu],.int _ _⟩
theorem aoq{H:aH}{k l c:Nat}{b:gL}{kk:IntKind}{j:Nat}(hT:SL P T E)(hs:SZ P E s)(hx:EV n f x (.slice (some ⟨k,0,none⟩) l (c+3)))(hy:EV n f y (.int kk (j:Int)))(hk:H[k]?=some (some b))(hj:j<=c):
   gY P n ⟨d,.slice T x none (some y) none,T',ps,af,none⟩ f H (.slice (some ⟨k,0,none⟩) j (c+3)):=by
 intro ρ w a hr hf
 obtain⟨L,p,cap,hl,hb,hc,hcap,h1,h2,hp⟩:=(hx.use hf).slice_inv hr hk
 obtain⟨-,hown,NA,oZ,h5⟩:=h2 (by omega)
 have:=h5 (by omega)
 obtain rfl:cap=c:=by omega
 have hyv:a.eval y= .int kk (j:Int):=(hy.use hf).int_inv
 have hu:P.underlying T=some (.slice E):=hT
 have he:P.elem T=E:=by simp[Program.elem,hu]
 have hu2:P.underlying T=some (.slice (P.elem T)):=by rw[he]; exact hu
 obtain⟨cs0,ct,fr,-,-,hr2⟩:=hb.cells
 obtain⟨hoff,-⟩:=hr2 hown
 refine⟨sliced (some p) 0 j cap s,?_,?_⟩
 · have hrun:=run_slice_h (P:=P) w T (some p) l cap hu2 kk (j:Int) (by omega) (by omega)
   rw[he,hs.run,Result.andThen]at hrun
   have h2':=run_sliceAt_slice (P:=P) w T (.slice (some p) l cap) none (some (.int kk (j:Int))) none hu2
   rw[Int.toNat_natCast]at hrun
   simp[execOp,hc,hyv,h2',hrun]
 · have hq:sliced (some p) 0 j cap s= .slice (some p) j cap:=by
     unfold sliced
     by_cases e:cap=0
     · rw[if_pos (by omega)]; simp
     · rw[if_neg (by omega)]
       simp[Addr.add]
   rw[hq]
   exact dQ.slice k 0 _ (cap+3) L p _ hl hj (by omega) (fun _=>⟨rfl,hown,NA,oZ,fun _=>rfl⟩) (fun _=>⟨by rw[oZ]; simp,fun _=>by omega⟩)
end
section
variable{H:aH}{F0:List Nat}{E:TypeId}{s:Nat}
theorem Ctx.setw{rest:List aL}{k m':Nat}{b:gL}{u:Value}{es es':List Value}(gy:Ctx H F0 H (aT (aF E (aC (h_ s))) [k] u es::rest))(h3:H[k]?=some (some b))(h4:b.wr=true)(h6:b.ty=E)
   (hm:m'=1\/m'=2) (hb:es'.length<4611686018427387904) (hes:∀e∈es',e.cells.size=s/\e.cells.toList.all scal=true):
   Ctx H F0 (H.set k (some ⟨es',b.ty,true,b.wr⟩)) (aT (aF E (aC (h_ s))) [k] (.slice (some ⟨k,0,none⟩) es'.length m') es'::rest):=by
 have hne:∀q,q≠k->(H.set k (some ⟨es',b.ty,true,b.wr⟩))[q]?=H[q]?:=fun q hq=>by rw[List.getElem?_set_ne (fun e=>hq e.symm)]
 have hkl:=sV h3
 have hf1:foot (aT (aF E (aC (h_ s))) [k] u es::rest)=k::foot rest:=rfl
 have hf2:foot (aT (aF E (aC (h_ s))) [k] (.slice (some ⟨k,0,none⟩) es'.length m') es'::rest)=k::foot rest:=rfl
 have nY:iP H (H.set k (some ⟨es',b.ty,true,b.wr⟩)):=by
   intro q b2 hq hw2
   rw[hne q (fun e=>by subst e; rw[hq]at h3; injection h3 with h3; injection h3 with h3; rw[h3]at hw2; rw[hw2]at h4; simp at h4)]
   exact hq
 have hnd:=gy.nd
 rw[hf1]at hnd
 refine⟨by simp,nY,fun q hq Tv=>hne q (fun e=>Tv ?_),?_,by rw[hf2]; exact hnd,fun q hq=>?_⟩
 · subst e
   rcases (gy.own q (by rw[hf1]; simp)).1 with h|h
   · exact h
   · omega
 · intro c hcm
   rcases List.mem_cons.1 hcm with rfl|hcm2
   · exact .inr ⟨k,m',_,[],rfl,hm,List.getElem?_set_self hkl,h4,rfl,h6,hb,rfl,VV hes⟩
   · refine c.keep (gy.hold c (by simp[hcm2])) nY fun q hq=>hne q (fun e=>?_)
     subst e
     exact (List.nodup_cons.1 hnd).1 (List.mem_flatMap.2 ⟨c,hcm2,hq⟩)
 · rw[hf2,←hf1]at hq
   have:=gy.own q hq
   exact⟨this.1,by simpa using this.2⟩
theorem ahB{es S:List Value}{a:Nat}{p:Value->Prop}(h1:∀e∈es,p e)(h2:∀e∈S,p e):∀e∈es.take a++S++es.drop (a+S.length),p e:=by
 intro e he
 rw[List.mem_append,List.mem_append]at he
 rcases he with (h|h)|h
 · exact h1 e (List.mem_of_mem_take h)
 · exact h2 e h
 · exact h1 e (List.mem_of_mem_drop h)
end
section
variable{P:Program} [dF P]{n:Nat}{f:Fr}{d:Option Tmp}{x y:Operand}{T T2 T' E:TypeId}{ts:List TypeId}{ps:String}{af:Array Edge}{gd:Option (Nat×Bool)}{s:Nat}
theorem afD{w:World}{a:Act}{k k2 ia ja ld ls m1 m2:Nat}{ρ:eO}{H:aH}{b b2:gL}(hT:SL P T E)(hs:SZ P E s)(hs0:0<s)(hr:Rel P ρ H w)(hf:kQ ρ n f a)(hx:EV n f x (.slice (some ⟨k,ia,none⟩) ld m1))(hy:EV n f y (.slice (some ⟨k2,ja,none⟩) ls m2))
   (h3:H[k]?=some (some b)) (h5:b.own=true) (h6:b.ty=E) (g3:H[k2]?=some (some b2)) (g6:b2.ty=E) (hld:ld≠0) (hls:ls≠0) (hj:ja+min ls ld<=b2.elems.length) (ha:ia<=b.elems.length)
   (hS:∀e∈b2.elems,e.cells.size=s/\e.cells.toList.all scal=true):
   ∃w',(execOp a.eval ⟨d,.call ⟨.builtin .copy,[x,y].toArray,(T::T2::ts).toArray⟩,T',ps,af,gd⟩).run P w= .ok (.value (.int .i64 ((min ls ld:Nat):Int))) w'/\
     Rel P ρ (H.set k (some ⟨b.elems.take ia++(b2.elems.drop ja).take (min ls ld)++b.elems.drop (ia+((b2.elems.drop ja).take (min ls ld)).length),b.ty,true,b.wr⟩)) w'/\
     Step ρ H w ρ (H.set k (some ⟨b.elems.take ia++(b2.elems.drop ja).take (min ls ld)++b.elems.drop (ia+((b2.elems.drop ja).take (min ls ld)).length),b.ty,true,b.wr⟩)) w':=by
 obtain⟨L,p,cap,hl,hbr,hc,-,-,-,hp⟩:=(hx.use hf).slice_inv hr h3
 obtain⟨L',hl',xk⟩:=(hx.use hf).slice_ext hr h3 hld
 rw[hl]at hl'
 obtain rfl:L=L':=by simpa using hl'
 obtain⟨L2,p2,cap2,hl2,Rb,hc2,-,-,-,hp2⟩:=(hy.use hf).slice_inv hr g3
 have hown:L.own=true:=by rw[←hbr.own]; exact h5
 have mU:L.sz=s:=by rw[←hbr.sz,h6,hs.cells]
 have ajl:L2.sz=s:=by rw[←Rb.sz,g6,hs.cells]
 obtain⟨cells,arR,Jg⟩:=hr.cellsOf (i:=ja) (m:=min ls ld) hl2 g3 (by rw[g6,hs.cells]) hs0 hj
 have hlen:((b2.elems.drop ja).take (min ls ld)).length=min ls ld:=by rw[List.length_take,List.length_drop]; omega
 obtain⟨w',arS,r1,r2⟩:=hr.copyIn (a:=ia) (S:=(b2.elems.drop ja).take (min ls ld)) (vs:=cells.toList) hl h3 h5 (by rw[h6,hs.cells]) (fun e he=>hS e (List.mem_of_mem_drop (List.mem_of_mem_take he))) Jg ha
   (by rw[hlen]; have:=xk hown; have:=Nat.min_le_right ls ld; omega)
 refine⟨w',?_,r1,r2⟩
 have hu:P.underlying T=some (.slice E):=hT
 have oZ:=hp hld
 have WZ:=hp2 hls
 rw[mU]at oZ
 have ap':(Builtin.firstCells s (min ls ld) (.slice (some p2) ls cap2)).run P w= .ok cells w:=by rw[WZ]; exact arR
 have hmin:Nat.min ls ld=min ls ld:=rfl
 subst oZ
 simp[execOp,resolve,invoke,builtin,Builtin.copy_,hc,hc2,underlying,hu,hs.run,Builtin.lenOf,hmin,ap',arS,goInt]
theorem aaa{F F2:List Nat}{u u2:Value}{es es2:List Value}{k k2 ia ja ld ls m1 m2:Nat}(hT:SL P T E)(hs:SZ P E s)(hs0:Nat.blt 0 s=true)(hk:l8 u=some k)(hk2:l8 u2=some k2)(hx:EV n f x (.slice (some ⟨k,ia,none⟩) ld m1))(hy:EV n f y (.slice (some ⟨k2,ja,none⟩) ls m2))
   (hld:ld≠0) (hls:ls≠0) (hj:ja+min ls ld<=es2.length) (ha:ia<=es.length) {es':List Value} (he:es'=es.take ia++(es2.drop ja).take (min ls ld)++es.drop (ia+min ls ld)) (hb:es'.length<4611686018427387904):
   XC P n ⟨d,.call ⟨.builtin .copy,[x,y].toArray,(T::T2::ts).toArray⟩,T',ps,af,gd⟩ f [aT (aF E (aC (h_ s))) F u es,aT (aF E (aC (h_ s))) F2 u2 es2] (fun _:Unit=>.int .i64 ((min ls ld:Nat):Int))
     (fun _=>[aT (aF E (aC (h_ s))) F (.slice (some ⟨k,0,none⟩) es'.length 2) es',aT (aF E (aC (h_ s))) F2 u2 es2]):=by
 intro H gy
 have ho:aF E (aC (h_ s)) F H u es:=gy.hold (aT (aF E (aC (h_ s))) F u es) (by simp)
 have ho2:aF E (aC (h_ s)) F2 H u2 es2:=gy.hold (aT (aF E (aC (h_ s))) F2 u2 es2) (by simp)
 obtain⟨-,m',b,G,-,-,h3,h4,h5,h6,-,rfl,h9⟩:=ho.head hk
 obtain⟨-,m2',b2,G2,-,-,g3,-,-,g6,-,rfl,g9⟩:=ho2.head hk2
 obtain⟨rfl,rfl,hes⟩:=PY h9
 obtain⟨rfl,rfl,ajm⟩:=PY g9
 intro ρ w a K' Q' hr hf hkk
 have hlen:((b2.elems.drop ja).take (min ls ld)).length=min ls ld:=by rw[List.length_take,List.length_drop]; omega
 obtain⟨w',hex,r1,r2⟩:=afD (d:=d) (ts:=ts) (T':=T') (ps:=ps) (af:=af) (gd:=gd) (T2:=T2) hT hs (by simpa[Nat.blt_eq]using hs0) hr hf hx hy h3 h5 h6 g3 g6 hld hls hj ha ajm
 rw[hlen,←he]at r1 r2
 show Oper.upon P _ a K' Q' _
 rw[hex]
 refine hkk _ _ _ _ _ (hf.put d (.int _ _)) r1 r2 ⟨(),rfl,?_⟩
 refine gy.setw h3 h4 h6 (.inr rfl) hb ?_
 have:=ahB (a:=ia) (p:=fun e=>e.cells.size=s/\e.cells.toList.all scal=true) hes (S:=(b2.elems.drop ja).take (min ls ld)) (fun e he=>ajm e (List.mem_of_mem_drop (List.mem_of_mem_take he)))
 rw[hlen,←he]at this
 exact this
theorem apB{F:List Nat}{u:Value}{es:List Value}{k ia ja ld ls m1 m2:Nat}(hT:SL P T E)(hs:SZ P E s)(hs0:Nat.blt 0 s=true)(hk:l8 u=some k)(hx:EV n f x (.slice (some ⟨k,ia,none⟩) ld m1))(hy:EV n f y (.slice (some ⟨k,ja,none⟩) ls m2))
   (hld:ld≠0) (hls:ls≠0) (hj:ja+min ls ld<=es.length) (ha:ia<=es.length) {es':List Value} (he:es'=es.take ia++(es.drop ja).take (min ls ld)++es.drop (ia+min ls ld)) (hb:es'.length<4611686018427387904):
   XC P n ⟨d,.call ⟨.builtin .copy,[x,y].toArray,(T::T2::ts).toArray⟩,T',ps,af,gd⟩ f [aT (aF E (aC (h_ s))) F u es] (fun _:Unit=>.int .i64 ((min ls ld:Nat):Int))
     (fun _=>[aT (aF E (aC (h_ s))) F (.slice (some ⟨k,0,none⟩) es'.length 2) es']):=by
 intro H gy
 have ho:aF E (aC (h_ s)) F H u es:=gy.hold (aT (aF E (aC (h_ s))) F u es) (by simp)
 obtain⟨-,m',b,G,-,-,h3,h4,h5,h6,-,rfl,h9⟩:=ho.head hk
 obtain⟨rfl,rfl,hes⟩:=PY h9
 intro ρ w a K' Q' hr hf hkk
 have hlen:((b.elems.drop ja).take (min ls ld)).length=min ls ld:=by rw[List.length_take,List.length_drop]; omega
 obtain⟨w',hex,r1,r2⟩:=afD (d:=d) (ts:=ts) (T':=T') (ps:=ps) (af:=af) (gd:=gd) (T2:=T2) hT hs (by simpa[Nat.blt_eq]using hs0) hr hf hx hy h3 h5 h6 h3 h6 hld hls hj ha hes
 rw[hlen,←he]at r1 r2
 show Oper.upon P _ a K' Q' _
 rw[hex]
 refine hkk _ _ _ _ _ (hf.put d (.int _ _)) r1 r2 ⟨(),rfl,?_⟩
 refine gy.setw h3 h4 h6 (.inr rfl) hb ?_
 have:=ahB (a:=ia) (p:=fun e=>e.cells.size=s/\e.cells.toList.all scal=true) hes (S:=(b.elems.drop ja).take (min ls ld)) (fun e he=>hes e (List.mem_of_mem_drop (List.mem_of_mem_take he)))
 rw[hlen,←he]at this
 exact this
end
section
variable{P:Program} [dF P]{n:Nat}{f:Fr}{d:Option Tmp}{x y:Operand}{T T2 T' E B:TypeId}{ts:List TypeId}{ps:String}{af:Array Edge}{gd:Option (Nat×Bool)}{s:Nat}
theorem aor{g:FuncId}{F F2:List Nat}{u u2:Value}{es es2:List Value}{k k2 ia ib la lb m1 m2:Nat}(hT:SL P T E)(hs:SZ P E s)(hs0:Nat.blt 0 s=true)
   (hov:∀args w,(callFunc g args).run P w=((Extern.SlicesOverlaps.overlaps #[T,T] #[B] args).run P w).andThen fun v w'=>.ok (.value v) w')
   (hk:l8 u=some k) (hk2:l8 u2=some k2) (hx:EV n f x (.slice (some ⟨k,ia,none⟩) la m1)) (hy:EV n f y (.slice (some ⟨k2,ib,none⟩) lb m2)) (hla:la≠0) (hlb:lb≠0):
   XC P n ⟨d,.call ⟨.value (.func g),[x,y].toArray,ts.toArray⟩,T',ps,af,gd⟩ f [aT (aF E (aC (h_ s))) F u es,aT (aF E (aC (h_ s))) F2 u2 es2] (fun _:Unit=>.bool false)
     (fun _=>[aT (aF E (aC (h_ s))) F u es,aT (aF E (aC (h_ s))) F2 u2 es2]):=by
 intro H gy
 have ho:aF E (aC (h_ s)) F H u es:=gy.hold (aT (aF E (aC (h_ s))) F u es) (by simp)
 have ho2:aF E (aC (h_ s)) F2 H u2 es2:=gy.hold (aT (aF E (aC (h_ s))) F2 u2 es2) (by simp)
 obtain⟨-,m',b,G,-,-,h3,h4,h5,h6,-,rfl,h9⟩:=ho.head hk
 obtain⟨-,m2',b2,G2,-,-,g3,-,g5,g6,-,rfl,g9⟩:=ho2.head hk2
 have avQ:k≠k2:=by
   intro e; subst e
   have:=gy.nd
   simp[foot,aT]at this
 intro ρ w a K' Q' hr hf hkk
 have abZ:0<s:=by simpa[Nat.blt_eq]using hs0
 obtain⟨L,p,cap,hl,hbr,hc,-,-,-,hp⟩:=(hx.use hf).slice_inv hr h3
 obtain⟨La,ajn,xk⟩:=(hx.use hf).slice_ext hr h3 hla
 rw[hl]at ajn
 obtain rfl:L=La:=by simpa using ajn
 obtain⟨L2,p2,cap2,hl2,Rb,hc2,-,-,-,hp2⟩:=(hy.use hf).slice_inv hr g3
 obtain⟨Lb,ajo,arT⟩:=(hy.use hf).slice_ext hr g3 hlb
 rw[hl2]at ajo
 obtain rfl:L2=Lb:=by simpa using ajo
 have hown:L.own=true:=by rw[←hbr.own]; exact h5
 have hown2:L2.own=true:=by rw[←Rb.own]; exact g5
 have mU:L.sz=s:=by rw[←hbr.sz,h6,hs.cells]
 have ajl:L2.sz=s:=by rw[←Rb.sz,g6,hs.cells]
 obtain⟨cs,ct,fr,vz,-,hr2⟩:=hbr.cells
 obtain⟨hoff,tJ,-,hfr,-⟩:=hr2 hown
 obtain⟨cs2,ct2,fr2,avR,-,avS⟩:=Rb.cells
 obtain⟨azH,aqa,-,-,-⟩:=avS hown2
 have oZ:=hp hla
 have WZ:=hp2 hlb
 have hne:L.blk≠L2.blk:=fun e=>avQ (hr.inj k k2 L L2 hl hl2 hown e)
 have e1:=xk hown
 have e2:=arT hown2
 have q1:(ia+la)*s<=cs.size:=Nat.le_trans (by rw[mU]; exact Nat.mul_le_mul_right _ e1) tJ
 have q2:(ib+lb)*s<=cs2.size:=Nat.le_trans (by rw[ajl]; exact Nat.mul_le_mul_right _ e2) aqa
 have q3:0<(ib+lb)*s:=Nat.mul_pos (by omega) abZ
 have q4:ia*s<=(ia+la)*s:=Nat.mul_le_mul_right _ (by omega)
 have hfz:∀o,o<=cs.size->w.frozen? ⟨L.blk,o,none⟩=false:=fun o ho=>by
   have:=hfr o ho
   simp only[World.frozen?,vz]
   simpa using this
 have hrun:=Lib.run_overlaps_apart (P:=P) w T B E hT s (fun w=>hs.run w) p p2 la cap lb cap2 (by rw[oZ,WZ]; exact hne) ct ct2 cs.size cs2.size (by rw[oZ]; simp[World.shape?,vz]) (by rw[WZ]; simp[World.shape?,avR]) (by omega)
   (by rw[oZ]; exact hfz _ (by rw[hoff,mU]; omega)) (by rw[oZ]; exact hfz _ (Nat.le_refl _))
 have hex:(execOp a.eval ⟨d,.call ⟨.value (.func g),[x,y].toArray,ts.toArray⟩,T',ps,af,gd⟩).run P w= .ok (.value (.bool false)) w:=by
   have h1:=hov #[.slice (some p) la cap,.slice (some p2) lb cap2] w
   rw[hrun]at h1
   simp only[Result.andThen_ok]at h1
   have e0:a.eval (.func g)= .func (.func g) #[] #[]:=rfl
   simp[execOp,resolve,invoke,Deferred.ofValue,e0,hc,hc2,h1]
 show Oper.upon P _ a K' Q' _
 rw[hex]
 exact hkk _ _ _ _ _ (hf.put d (.bool _)) hr (Step.refl _ _ _) ⟨(),rfl,gy⟩
theorem amA(z:Array Value)(q:Nat):Builtin.zeroCells z q=madeCells z (q*z.size):=rfl
theorem anH{F:List Nat}{u zv:Value}{es:List Value}{k i q c by':Nat}{kq kn:IntKind}(hT:SL P T E)(hTI:P.underlying T2=some (.int kn))(ht:TY P E s by' zv)(hs0:Nat.blt 0 s=true)(hzs:zv.cells.size=s)(hzl:zv.cells.toList.all scal=true)(hzc:Bv zv=true)(hby:Nat.ble by' 16384=true)
   (hk:l8 u=some k) (hx:EV n f x (.slice (some ⟨k,0,none⟩) i (c+3))) (hy:EV n f y (.int kq (q:Int))) (hc:c<i+q) (hi:i<=es.length) (hq:0<q) (hb:i+q<4294967296):
   XC P n ⟨d,.call ⟨.builtin .append,[x,y].toArray,[T,T2].toArray⟩,T',ps,af,gd⟩ f [aT (aF E (aC (h_ s))) F u es] (fun k':Nat=>.slice (some ⟨k',0,none⟩) (i+q) 2)
     (fun k'=>[aT (aF E (aC (h_ s))) [k'] (.slice (some ⟨k',0,none⟩) (i+q) 2) (es.take i++List.replicate q zv),aT (aF E (aC (h_ s))) F u es]):=by
 intro H gy
 have abZ:0<s:=by simpa[Nat.blt_eq]using hs0
 have WV:by'<=16384:=by simpa[Nat.ble_eq]using hby
 obtain⟨iE,Ar,h1,h2,h3z⟩:=ht.inv
 have ho:aF E (aC (h_ s)) F H u es:=gy.hold (aT (aF E (aC (h_ s))) F u es) (by simp)
 obtain⟨-,m',b,G,hu',-,h3,h4,h5,h6,h7,rfl,h9⟩:=ho.head hk
 obtain⟨rfl,rfl,hes⟩:=PY h9
 intro ρ w a K' Q' hr hf hkk
 obtain⟨L,p,cap,hl,hbr,hcx,hcap,g1,g2,gp⟩:=(hx.use hf).slice_inv hr h3
 obtain⟨-,hown,NA,oZ,g5⟩:=g2 (by omega)
 have:=g5 (by omega)
 obtain rfl:cap=c:=by omega
 have hcy:a.eval y= .int kq (q:Int):=(hy.use hf).int_inv
 have hr1:Rel P ρ H w.drew:=hr.of_heap rfl
 have hcz:P.cellsOf b.ty=s:=by rw[h6]; exact ht.sz.cells
 have mU:L.sz=s:=by rw[←hbr.sz,hcz]
 obtain⟨cells,hrun,hrel⟩:=hr1.cellsOf (i:=0) (m:=i) hl h3 hcz abZ (by omega)
 rw[List.drop_zero,Nat.zero_mul,Nat.add_zero]at*
 obtain⟨newCap,hnew,hnc⟩:∃nc,i+q<=nc/\grownCap w (i+q) cap E=nc:=⟨_,grownCap_ge w (i+q) cap E,rfl⟩
 have happ:=Lib.run_append_grow_zeros (P:=P) w T T2 T' E iE zv kq kn hT hTI Ar h3z (some p) i cap cells.toList (by rw[oZ,h1]; exact hrun) q hq (by omega) hc (by omega)
   (by rw[h2]; exact Nat.le_trans (Nat.mul_le_mul (show q<=4294967296 by omega) WV) (by decide))
   (by rw[h2]; exact growslice_fits hc (Nat.le_trans (Nat.mul_le_mul (show i+q<=4294967296 by omega) WV) (by decide)))
 rw[hnc]at happ
 have hex:(execOp a.eval ⟨d,.call ⟨.builtin .append,[x,y].toArray,[T,T2].toArray⟩,T',ps,af,gd⟩).run P w=
     .ok (.value (.slice (some ⟨w.heap.size,0,none⟩) (i+q) newCap)) (w.drew.alloc (.cells (cells++Builtin.zeroCells zv.cells q++Builtin.zeroCells zv.cells (newCap-(i+q))) E)):=by
   simp[execOp,resolve,invoke,builtin,hcx,hcy,happ]
 show Oper.upon P _ a K' Q' _
 rw[hex]
 have hcl:cells.toList.length=i*s:=by
   rw[←hrel.length,EB (s:=s) _ (fun e he=>(hes e (List.mem_of_mem_take he)).1),List.length_take,Nat.min_eq_left hi]
 have hcsz:cells.size=i*s:=by simpa using hcl
 have hpush:=hr1.push (g:=true) (w':=w.drew.alloc (.cells (cells++Builtin.zeroCells zv.cells q++Builtin.zeroCells zv.cells (newCap-(i+q))) E)) (cs:=cells++Builtin.zeroCells zv.cells q++Builtin.zeroCells zv.cells (newCap-(i+q))) (ty:=E)
   (es:=b.elems.take i++List.replicate q zv) (sz:=s) (cap:=newCap) rfl ht.sz.cells
   (by
     intro j e he
     have htl:(b.elems.take i).length=i:=by simp; omega
     rcases Nat.lt_or_ge j i with hj|hj
     · rw[List.getElem?_append_left (by omega)]at he
       have:=cZ.elems (ρ:=ρ) (b.elems.take i) cells.toList ((Builtin.zeroCells zv.cells q).toList++(Builtin.zeroCells zv.cells (newCap-(i+q))).toList) hrel (fun e he=>(hes e (List.mem_of_mem_take he)).1) j e he
       exact⟨(hes e (List.mem_of_mem_take (List.mem_of_getElem? he))).1,by simpa[List.append_assoc]using this⟩
     · rw[List.getElem?_append_right (by omega),htl]at he
       have hjq:j-i<q:=by
         rcases Nat.lt_or_ge (j-i) q with h|h
         · exact h
         · rw[List.getElem?_eq_none (by simpa using h)]at he; simp at he
       obtain rfl:zv=e:=by rw[List.getElem?_replicate,if_pos hjq]at he; simpa using he
       refine⟨hzs,?_⟩
       have hz:=amy zv.cells q s (j-i) hzs hjq
       have hjs:j*s=i*s+(j-i)*s:=by rw[←Nat.add_mul]; congr 1; omega
       have azI:(Builtin.zeroCells zv.cells q).toList.length=q*s:=by rw[ahc,hzs]
       have hjl:(j-i)*s+s<=q*s:=by rw[←Nat.succ_mul]; exact Nat.mul_le_mul_right _ hjq
       rw[Array.toList_append,Array.toList_append,List.append_assoc,hjs,←hcl,←List.drop_drop,List.drop_append_of_le_length (Nat.le_refl _),List.drop_length,List.nil_append,List.drop_append_of_le_length (by omega),List.take_append_of_le_length (by rw[List.length_drop]; omega),amA,hzs,hz]
       exact (dQ.closed hzc).cells)
   (by
     rw[Array.size_append,Array.size_append,YY,YY,hcsz,hzs,←Nat.add_mul,←Nat.add_mul]
     exact Nat.mul_le_mul_right _ (by omega)) (by simp; omega)
 have zV:Step ρ H w ρ H w.drew:=⟨Up.refl ρ,rfl,rfl,rfl,Nat.le_refl _,fun _ _ _=>rfl,fun _ _ h=>.inl h,Nat.le_refl _,fun _ _ h=>⟨h,rfl⟩⟩
 have hsp:=Step.push (b:=⟨b.elems.take i++List.replicate q zv,E,true,true⟩) (sz:=s) (cap:=newCap) hr1 (w':=w.drew.alloc (.cells (cells++Builtin.zeroCells zv.cells q++Builtin.zeroCells zv.cells (newCap-(i+q))) E)) rfl rfl rfl rfl
 refine hkk _ _ _ _ _ ((hf.up hsp.up).put d (dQ.slice H.length 0 _ 2 ⟨w.heap.size,0,s,newCap,true⟩ _ newCap (jl _ _ _) hnew (by simp) (fun _=>⟨rfl,rfl,Nat.le_refl _,rfl,by omega⟩) (fun _=>⟨by simp,fun _=>Nat.le_trans (Nat.le_of_eq (Nat.zero_add _)) hnew⟩))) hpush (zV.trans hsp) ⟨H.length,rfl,?_⟩
 have hkl:=sV h3
 have nY:iP H (H++[some ⟨b.elems.take i++List.replicate q zv,E,true,true⟩]):=VG _ _
 have hlen:(b.elems.take i++List.replicate q zv).length=i+q:=by simp; omega
 refine⟨by simp,nY,fun j hj _=>List.getElem?_append_left hj,?_,?_,?_⟩
 · intro c0 hcm
   rcases List.mem_cons.1 hcm with rfl|hcm2
   · refine .inr ⟨H.length,2,⟨b.elems.take i++List.replicate q zv,E,true,true⟩,[],by rw[hlen],.inr rfl,by simp,rfl,rfl,rfl,by omega,rfl,VV fun e he=>?_⟩
     rcases List.mem_append.1 he with h|h
     · exact hes e (List.mem_of_mem_take h)
     · rw[(List.mem_replicate.1 h).2]; exact⟨hzs,hzl⟩
   · obtain rfl:=List.mem_singleton.1 hcm2
     exact aL.keep _ (gy.hold _ (by simp)) nY fun j hj=>List.getElem?_append_left (gy.own j (by simpa[foot,aT]using hj)).2
 · simp[foot,aT]; omega
 · intro j hj
   simp only[foot,aT,List.flatMap_cons,List.flatMap_nil,List.append_nil,List.cons_append,List.nil_append,List.mem_cons,List.not_mem_nil,or_false]at hj
   rcases hj with rfl|rfl
   · exact⟨.inr (Nat.le_refl _),by simp⟩
   · exact⟨.inl (by simp[foot,aT]),by simp; omega⟩
end
section
variable{P:Program} [dF P]{n:Nat}{f:Fr}{d:Option Tmp}{x y:Operand}{T T2 T' E B:TypeId}{ts:List TypeId}{ps:String}{af:Array Edge}{gd:Option (Nat×Bool)}{s:Nat}{α:Type}{Ro:jb α}{F:List Nat}{u:Value}{xs:List α}{H:aH}
theorem EJ [ik Ro]{k m l j:Nat}{kk:IntKind}(hT:SL P T E)(hs:SZ P E s)(hp:(aT (aF E Ro) F u xs).P H)(hk:l8 u=some k)(hx:EV n f x (.slice (some ⟨k,0,none⟩) l m))(hy:EV n f y (.int kk (j:Int)))(hj:j<=l):
   gY P n ⟨d,.slice T x (some y) none none,T',ps,af,none⟩ f H (.slice (some ⟨k,j,none⟩) (l-j) 0):=by
 have ho:aF E Ro F H u xs:=hp
 obtain⟨-,m',b,G,-,-,h3,-,-,h6,-⟩:=ho.head hk
 exact agL hT hs hx hy h3 h6 (by omega) (by omega)
theorem aqb [ik Ro]{k l c:Nat}(hT:SL P T E)(hp:(aT (aF E Ro) F u xs).P H)(hk:l8 u=some k)(hx:EV n f x (.slice (some ⟨k,0,none⟩) l (c+3))):
   gY P n ⟨d,.call ⟨.builtin .cap,[x].toArray,(T::ts).toArray⟩,T',ps,af,none⟩ f H (.int .i64 (c:Int)):=by
 have ho:aF E Ro F H u xs:=hp
 obtain⟨-,m',b,G,-,-,h3,-⟩:=ho.head hk
 exact arQ hT hx h3
theorem af3 [ik Ro]{k l c j:Nat}{kk:IntKind}(hT:SL P T E)(hs:SZ P E s)(hp:(aT (aF E Ro) F u xs).P H)(hk:l8 u=some k)(hx:EV n f x (.slice (some ⟨k,0,none⟩) l (c+3)))(hy:EV n f y (.int kk (j:Int)))(hj:j<=c):
   gY P n ⟨d,.slice T x none (some y) none,T',ps,af,none⟩ f H (.slice (some ⟨k,0,none⟩) j (c+3)):=by
 have ho:aF E Ro F H u xs:=hp
 obtain⟨-,m',b,G,-,-,h3,-⟩:=ho.head hk
 exact aoq hT hs hx hy h3 hj
theorem aos{es:List Value}{j:Nat}{kk:IntKind}(hT:SL P T E)(hs:SZ P E s)(hx:EV n f x u)(hy:EV n f y (.int kk (j:Int)))(hj:j<=es.length):
   XC P n ⟨d,.slice T x (some y) none none,T',ps,af,none⟩ f [aT (aF E (aC (h_ s))) F u es] (fun w:Value=>w) (fun _=>[aT (aF E (aC (h_ s))) F u es]):=by
 intro H gy
 have ho:aF E (aC (h_ s)) F H u es:=gy.hold (aT (aF E (aC (h_ s))) F u es) (by simp)
 have ho':=ho
 rcases ho with⟨rfl,rfl,rfl⟩|⟨k,m,b,G,rfl,-⟩
 · refine Vn (v:=.slice none 0 0) (fun ρ w a hr hf=>?_) ⟨.slice none 0 0,rfl,gy⟩
   have hc:a.eval x= .slice none 0 0:=by have:=hx.use hf; generalize a.eval x=c at this; cases this; rfl
   have hyv:a.eval y= .int kk (j:Int):=(hy.use hf).int_inv
   have hj0:j=0:=by simpa using hj
   subst hj0
   have hu:P.underlying T=some (.slice E):=hT
   have he:P.elem T=E:=by simp[Program.elem,hu]
   have hu2:P.underlying T=some (.slice (P.elem T)):=by rw[he]; exact hu
   refine⟨.slice none 0 0,?_,.nilSlice⟩
   have hrun:=run_slice_l (P:=P) w T none 0 0 hu2 kk 0 (by omega) (by omega)
   rw[he,hs.run,Result.andThen]at hrun
   have h2':=run_sliceAt_slice (P:=P) w T (.slice none 0 0) (some (.int kk 0)) none none hu2
   have avT:a.eval y= .int kk 0:=hyv
   simp[execOp,hc,avT,h2',hrun,sliced]
 · refine Vn (v:=.slice (some ⟨k,j,none⟩) (es.length-j) 0) (EJ hT hs ho' rfl hx hy hj) ⟨_,rfl,gy⟩
end
end Go.Fw
namespace Go.Fw
section
variable{es:List Value}{e z:Value}{i:Nat}
theorem apC(hi:i<=es.length):(es.take i++e::es.drop i).length=es.length+1:=by simp; omega
theorem aqc(hi:i<es.length):es.take i++e::List.replicate (es.length-i) z=(es.take i++List.replicate (es.length+1-i) z).take i++([e].drop 0).take (min 1 (es.length+1-i))++(es.take i++List.replicate (es.length+1-i) z).drop (i+min 1 (es.length+1-i)):=by
 have hl:(es.take i).length=i:=by simp; omega
 have hm:min 1 (es.length+1-i)=1:=by omega
 rw[hm,List.take_append_of_le_length (by omega),List.take_of_length_le (l:=es.take i) (by omega),←List.drop_drop,List.drop_append_of_le_length (by omega),List.drop_of_length_le (l:=es.take i) (by omega),List.nil_append,List.drop_replicate,show es.length+1-i-1=es.length-i by omega]
 simp
theorem aqd(hi:i<es.length):es.take i++e::es.drop i=(es.take i++e::List.replicate (es.length-i) z).take (i+1)++(es.drop i).take (min (es.length-i) (es.length+1-(i+1)))++(es.take i++e::List.replicate (es.length-i) z).drop (i+1+min (es.length-i) (es.length+1-(i+1))):=by
 have hl:(es.take i).length=i:=by simp; omega
 have hm:min (es.length-i) (es.length+1-(i+1))=es.length-i:=by omega
 rw[hm,List.take_of_length_le (l:=es.drop i) (by simp),List.drop_of_length_le (l:=es.take i++e::List.replicate (es.length-i) z) (by simp; omega),List.append_nil,List.take_append,hl,List.take_of_length_le (l:=es.take i) (by omega),show i+1-i=1 by omega]
 simp
theorem aqe(hi:i<es.length):es.take (i+1)++es.drop i=es.take (i+1)++(es.drop i).take (min (es.length+1-i) (es.length+1-(i+1)))++es.drop (i+1+min (es.length+1-i) (es.length+1-(i+1))):=by
 have hm:min (es.length+1-i) (es.length+1-(i+1))=es.length-i:=by omega
 rw[hm,List.take_of_length_le (l:=es.drop i) (by simp),List.drop_of_length_le (l:=es) (i:=i+1+(es.length-i)) (by omega),List.append_nil]
theorem aqf(hi:i<es.length):es.take i++e::es.drop i=(es.take (i+1)++es.drop i).take i++([e].drop 0).take (min 1 (es.length+1-i))++(es.take (i+1)++es.drop i).drop (i+min 1 (es.length+1-i)):=by
 have hl:(es.take (i+1)).length=i+1:=by simp; omega
 have hm:min 1 (es.length+1-i)=1:=by omega
 rw[hm,List.take_append_of_le_length (by omega),List.take_take,Nat.min_eq_left (by omega),List.drop_append_of_le_length (by omega),List.drop_of_length_le (l:=es.take (i+1)) (by omega),List.nil_append]
 simp
end
end Go.Fw
namespace Go.Fw
section
variable{P:Program} [dF P]{α:Type}{Ro:jb α}{E:TypeId}{s:Nat}{H H':aH}{F:List Nat}{u:Value}{xs:List α}
theorem aF.rawD [qj Ro s](h:aF E Ro F H u xs):∃(es:List Value)(Fh G:List Nat),F=Fh++G/\aF E (aC (h_ s)) Fh H u es/\gI Ro H es xs G:=by
 rcases h with⟨rfl,rfl,rfl⟩|⟨k,m,b,G,rfl,h2,h3,h4,h5,h6,h7,rfl,h9⟩
 · exact⟨[],[],[],rfl,.inl ⟨rfl,rfl,rfl⟩,.nil⟩
 · exact⟨b.elems,[k],G,rfl,.inr ⟨k,m,b,[],by rw[h9.length],h2,h3,h4,h5,h6,by rw[h9.length]; exact h7,rfl,VV (h9.cells (s:=s))⟩,h9⟩
theorem aF.unrawD{es:List Value}{G:List Nat}(h:aF E (aC (h_ s)) F H u es)(hne:es≠[])(hE:gI Ro H es xs G):aF E Ro (F++G) H u xs:=by
 have hl:=hE.length
 rcases h with⟨rfl,rfl,rfl⟩|⟨k,m,b,G0,rfl,h2,h3,h4,h5,h6,h7,rfl,h9⟩
 · exact absurd rfl hne
 · obtain⟨rfl,rfl,-⟩:=PY h9
   exact .inr ⟨k,m,b,G,by rw[hl],h2,h3,h4,h5,h6,by rw[←hl]; exact h7,rfl,hE⟩
theorem gI.cut{es:List Value}{G:List Nat}(h:gI Ro H es xs G):∀i,∃Ga Gb,G=Ga++Gb/\gI Ro H (es.take i) (xs.take i) Ga/\gI Ro H (es.drop i) (xs.drop i) Gb:=by
 induction h with
 |nil=>intro i; exact⟨[],[],rfl,by simpa using gI.nil,by simpa using gI.nil⟩
 | @cons e es a xs F G h t ih=>
   intro i
   cases i with
   |zero=>exact⟨[],F++G,rfl,.nil,.cons h t⟩
   |succ i=>
     obtain⟨Ga,Gb,rfl,h1,h2⟩:=ih i
     exact⟨F++Ga,Gb,by rw[List.append_assoc],.cons h h1,h2⟩
theorem aoV [ik Ro] [Local Ro] [qj Ro s]{g:FuncId}{v iv:Value}{F2:List Nat}{a:α}{i:Nat}
   (hraw:∀(es:List Value)(e:Value)(Fa Fb:List Nat),es.length=xs.length->Fw.Spec P g [v,iv,u] [aT (aF E (aC (h_ s))) Fa v es,aT (aF E (aC (h_ s))) Fb u [e]] (fun q:Sv×List Nat=>q.1.v) (fun q=>[aT (aF E (aC (h_ s))) q.2 q.1.v (es.take i++e::es.drop i)])):
   Fw.Spec P g [v,iv,u] [aT (aF E Ro) F v xs,aT (aF E Ro) F2 u [a]] (fun q:Sv×List Nat=>q.1.v) (fun q=>[aT (aF E Ro) q.2 q.1.v (xs.take i++a::xs.drop i)]):=by
 intro H F0 gy ρ w ou hr hargs
 have ho:aF E Ro F H v xs:=gy.hold (aT (aF E Ro) F v xs) (by simp)
 have ho2:aF E Ro F2 H u [a]:=gy.hold (aT (aF E Ro) F2 u [a]) (by simp)
 obtain⟨es,Fh,G,rfl,h1,h2⟩:=ho.rawD
 obtain⟨es2,vB,G2,rfl,g1,g2⟩:=ho2.rawD
 have hl2:=g2.length
 obtain⟨e,rfl⟩:∃e,es2=[e]:=by
   rcases es2 with _|⟨e,_|⟨_,_⟩⟩
   · simp at hl2
   · exact⟨e,rfl⟩
   · simp at hl2
 have hfp:foot [aT (aF E Ro) (Fh++G) v xs,aT (aF E Ro) (vB++G2) u [a]]=(Fh++G)++(vB++G2):=by simp[foot,aT]
 have hnd:=gy.nd
 rw[hfp]at hnd
 have hown:∀q∈(Fh++G)++(vB++G2),q∈F0/\q<H.length:=fun q hq=>by
   obtain⟨h1,h2⟩:=gy.own q (by rw[hfp]; exact hq)
   exact⟨h1.resolve_right (by omega),h2⟩
 obtain⟨n1,n2,n3⟩:=List.nodup_append.1 hnd
 obtain⟨n4,n5,n6⟩:=List.nodup_append.1 n1
 obtain⟨n7,n8,n9⟩:=List.nodup_append.1 n2
 have ajp:∀k∈G++G2,k∉Fh++vB:=by
   intro k hk hk2
   rcases List.mem_append.1 hk with hk|hk<;>rcases List.mem_append.1 hk2 with hk2|hk2
   · exact n6 k hk2 k hk rfl
   · exact n3 k (by simp[hk]) k (by simp[hk2]) rfl
   · exact n3 k (by simp[hk2]) k (by simp[hk]) rfl
   · exact n9 k hk2 k hk rfl
 have hin:∀k∈Fh++vB,k∈(Fh++G)++(vB++G2):=fun k hk=>by
   rcases List.mem_append.1 hk with hk|hk<;>simp[hk]
 have hin2:∀k∈G++G2,k∈(Fh++G)++(vB++G2):=fun k hk=>by
   rcases List.mem_append.1 hk with hk|hk<;>simp[hk]
 have Tx:foot [aT (aF E (aC (h_ s))) Fh v es,aT (aF E (aC (h_ s))) vB u [e]]=Fh++vB:=by simp[foot,aT]
 have hc2:Ctx H (Fh++vB) H [aT (aF E (aC (h_ s))) Fh v es,aT (aF E (aC (h_ s))) vB u [e]]:=
   ⟨Nat.le_refl _,iP.refl _,fun _ _ _=>rfl,fun c hc=>by
     rcases List.mem_cons.1 hc with rfl|hc
     · exact h1
     · obtain rfl:=List.mem_singleton.1 hc
       exact g1,by rw[Tx]; exact List.nodup_append.2 ⟨n4,n7,fun x hx y hy e=>n3 x (by simp[hx]) y (by simp[hy]) e⟩,fun q hq=>by
     rw[Tx]at hq
     exact⟨.inl hq,(hown q (hin q hq)).2⟩⟩
 refine (hraw es e Fh vB h2.length H (Fh++vB) hc2 ρ w ou hr hargs).mono ?_
 rintro en w' ⟨v0,r,ρ',H',rfl,q1,q2,q3,q,rfl,q4⟩
 have hsame:∀k∈G++G2,H'[k]?=H[k]?:=fun k hk=>q4.agr k (hown k (hin2 k hk)).2 (ajp k hk)
 have e1:=h2.local (H':=H') (fun k hk=>hsame k (by simp[hk]))
 have e2:=g2.local (H':=H') (fun k hk=>hsame k (by simp[hk]))
 obtain⟨Ga,Gb,rfl,e3,e4⟩:=e1.cut i
 have arU:aF E (aC (h_ s)) q.2 H' q.1.v (es.take i++e::es.drop i):=q4.hold (aT (aF E (aC (h_ s))) q.2 q.1.v (es.take i++e::es.drop i)) (by simp)
 have hfin:=arU.unrawD (by simp) (e3.append (e2.append e4))
 have hq:∀k∈q.2,(k∈Fh++vB\/H.length<=k)/\k<H'.length:=fun k hk=>q4.own k (by simpa[foot,aT]using hk)
 have hmem:∀k∈Ga++(G2++Gb),k∈(Ga++Gb)++G2:=fun k hk=>by
   simp only[List.mem_append]at hk ⊢
   rcases hk with hk|hk|hk<;>simp[hk]
 have avU:((Ga++Gb)++G2).Nodup:=List.nodup_append.2 ⟨n5,n8,fun x hx y hy e=>n3 x (List.mem_append_right _ hx) y (List.mem_append_right _ hy) e⟩
 have hperm:(Ga++(G2++Gb)).Perm ((Ga++Gb)++G2):=by
   rw[List.append_assoc]
   exact (List.perm_append_comm).append_left Ga
 refine⟨v0,_,ρ',H',rfl,q1,q2,q3,(q.1,q.2++(Ga++(G2++Gb))),rfl,q4.len,q4.imm,fun k hk Dy=>q4.agr k hk (fun h=>Dy (hown k (hin k h)).1),fun c hc=>?_,?_,fun k hk=>?_⟩
 · obtain rfl:=List.mem_singleton.1 hc
   exact hfin
 · simp only[foot,aT,List.flatMap_cons,List.flatMap_nil,List.append_nil]
   refine List.nodup_append.2 ⟨by have:=q4.nd; simpa[foot,aT]using this,hperm.nodup_iff.2 avU,fun x hx y hy e=>?_⟩
   subst e
   have hy':=hmem x hy
   rcases (hq x hx).1 with h|h
   · exact ajp x hy' h
   · have:=(hown x (hin2 x hy')).2; omega
 · simp only[foot,aT,List.flatMap_cons,List.flatMap_nil,List.append_nil]at hk
   rcases List.mem_append.1 hk with hk|hk
   · exact⟨(hq k hk).1.imp (fun h=>(hown k (hin k h)).1) id,(hq k hk).2⟩
   · have:=hown k (hin2 k (hmem k hk))
     exact⟨.inl this.1,Nat.lt_of_lt_of_le this.2 q4.len⟩
end
end Go.Fw
namespace Go.Fw
section
variable{P:Program} [dF P]{n:Nat}{f:Fr}{d:Option Tmp}{x y:Operand}{T T2 T' E:TypeId}{ts:List TypeId}{ps:String}{af:Array Edge}{gd:Option (Nat×Bool)}{s:Nat}{H:aH}
end
end Go.Fw
namespace Go.Fw
section
variable{P:Program} [dF P]{n:Nat}{f:Fr}{H0:aH}{F0:List Nat}{cs:List aL}{A:Array Oper}{r:List Oper}{K:Fr->List aL->Prop}{d:Option Tmp}{x y:Operand}{T T' E:TypeId}{ps:String}{af:Array Edge}{α:Type}{Ro:jb α}{xs:List α}
end
end Go.Fw
/-
 Rules that look up by themselves what they need: names of temporaries, facts of the context, facts of the program's tables. No conditions.
-/
set_option linter.unusedVariables false
namespace Go.Fw
open Go
class il(P:Program) [dF P](t i:Nat)(off:outParam Nat):Prop where h:FD P t i off
class jE(P:Program) [dF P](t:Nat)(b:outParam Bool):Prop where h:AG P t b
class jM(P:Program) [dF P](t:Nat)(s b:outParam Nat)(z:outParam Value):Prop where h:TY P t s b z
class qD(P:Program) [dF P](t:Nat)(e:outParam Nat):Prop where h:SL P t e
class bf(P:Program) [dF P](g:Nat):Prop where h:CF P g
section
variable{P:Program} [dF P]{n:Nat}{f:Fr}{H0:aH}{F0:List Nat}{cs pre rest:List aL}{c c':aL}{x y z:Operand}{v:Value}
theorem ng(h:Mem c cs:=by
   first
   |((repeat (first|with_reducible exact Mem.h|with_reducible apply Mem.t)); done)
   |((repeat (first|exact Mem.h|apply Mem.t)); done)):Mem c cs:=h
theorem ail{r:List aL}(h:Sel cs c r:=by
   first
   |((repeat (first|with_reducible exact Sel.h|with_reducible apply Sel.t)); done)
   |((repeat (first|exact Sel.h|apply Sel.t)); done)):Sel cs c r:=h
theorem arV{α:Type}{R:aH->Value->α->Prop}{_:eF R}{a:α}(h:Mem (bB R v a) cs)(t:gN cs pre rest):gN cs (bB R v a::pre) rest:=.rd h rfl t
theorem arW{k:Nat}{b:gL}(h:Mem (uQ k b) cs)(t:gN cs pre rest):gN cs (uQ k b::pre) rest:=.rd h rfl t
theorem tZ(h:gN cs pre rest:=by
   first
   |exact gN.nil
   |((with_reducible refine' arV ?hm ?ht); (case hm=>exact ng); (case ht=>exact tZ))
   |((with_reducible refine' arW ?hm ?ht); (case hm=>exact ng); (case ht=>exact tZ))
   |exact gN.cons ail tZ
   |exact gN.rd ng rfl tZ):gN cs pre rest:=h
theorem f_(h:EV n f x v:=by
   first|exact EV.tmp rfl rfl|exact EV.int _ _|exact EV.bool _|exact EV.str _|exact EV.nilSlice|exact EV.nilPtr|exact EV.nilFunc|exact EV.nilIface|exact EV.fn _):EV n f x v:=h
theorem sK(h:EV n f x v:=by
   first
   |exact EV.tmp (v:=.int _ _) rfl rfl|exact EV.tmp (v:=.bool _) rfl rfl|exact EV.tmp (v:=Sv.v _) rfl rfl|exact EV.tmp (v:=.slice _ _ _) rfl rfl
   |exact EV.tmp (v:=.pointer _) rfl rfl|exact EV.tmp (v:=.agg _) rfl rfl|exact EV.tmp (v:=sv _) rfl rfl|exact EV.tmp (v:=.string _) rfl rfl
   |exact EV.tmp (v:=.func _ _ _) rfl rfl|exact EV.tmp (v:=.tuple _) rfl rfl|exact EV.tmp (v:=undef) rfl rfl
   |exact EV.int _ _|exact EV.bool _|exact EV.str _|exact EV.nilSlice|exact EV.nilPtr|exact EV.nilFunc|exact EV.nilIface|exact EV.fn _):EV n f x v:=h
theorem atV{o:Option Value}(h:o=some v:=by
   first
   |exact (rfl:_=some (Value.int _ _))|exact (rfl:_=some (Sv.v _))|exact (rfl:_=some (Value.bool _))|exact (rfl:_=some (Value.slice _ _ _))
   |exact (rfl:_=some (sv _))|exact (rfl:_=some (Value.string _))|exact (rfl:_=some (Value.pointer _))|exact (rfl:_=some (Value.func _ _ _))):o=some v:=h
theorem cu{xs:List Operand}{vs:List Value}(h:kM n f xs vs:=by first|exact kM.nil|exact kM.cons f_ cu):kM n f xs vs:=h
theorem aA{l:List (Nat×Value)}(h:b_ f l:=by
   repeat (first|exact b_.nil|refine' b_.cons rfl ?_)):f=aQ f l:=h.eq
variable{A:Array Oper}{r:List Oper}{K:Fr->List aL->Prop}{d:Option Tmp}{op:Op}{T T' T'' E:TypeId}{ps:String}{af:Array Edge}
theorem avV(hx:EV n f x v)(h:bL P n H0 F0 A r (put f d v) cs K):bL P n H0 F0 A (⟨d,.move x,T,ps,af,none⟩::r) f cs K:=aN (fQ hx) h
theorem avW(hx:EV n f x v)(h:bL P n H0 F0 A r (put f d v) cs K):bL P n H0 F0 A (⟨d,.assign x,T,ps,af,none⟩::r) f cs K:=aN (jW hx) h
theorem ahC{H:aH}{u:Value}(hc:EV n f x (.bool true))(hy:EV n f y u):gY P n ⟨d,.pick x y z,T,ps,af,none⟩ f H u:=
 fun ρ _ a _ hf=>⟨a.eval y,by simp[execOp,(hc.use hf).bool_inv,asBool],hy.use hf⟩
theorem ahD{H:aH}{u:Value}(hc:EV n f x (.bool false))(hy:EV n f z u):gY P n ⟨d,.pick x y z,T,ps,af,none⟩ f H u:=
 fun ρ _ a _ hf=>⟨a.eval z,by simp[execOp,(hc.use hf).bool_inv,asBool],hy.use hf⟩
theorem arX(hc:EV n f x (.bool true))(hy:EV n f y v)(h:bL P n H0 F0 A r (put f d v) cs K):bL P n H0 F0 A (⟨d,.pick x y z,T,ps,af,none⟩::r) f cs K:=aN (ahC hc hy) h
theorem arY(hc:EV n f x (.bool false))(hy:EV n f z v)(h:bL P n H0 F0 A r (put f d v) cs K):bL P n H0 F0 A (⟨d,.pick x y z,T,ps,af,none⟩::r) f cs K:=aN (ahD hc hy) h
theorem avX{k i j fi off:Nat} [hF:il P T fi off](hx:EV n f x (.pointer (some ⟨k,i,some j⟩)))(h:bL P n H0 F0 A r (put f d (.pointer (some ⟨k,i,some (j+off)⟩))) cs K):
   bL P n H0 F0 A (⟨d,.fieldAddr T x fi,T',ps,af,none⟩::r) f cs K:=aN (iK hF.h hx) h
theorem arZ{k j:Nat}{TB:TypeId}{e:Value} [hA:jE P T false](hx:EV n f x (.pointer (some ⟨k,0,some j⟩)))(hm:Mem (uQ k ⟨[e],TB,true,false⟩) cs)(hv:e.cells.toList[j]?=some v)
   (h:bL P n H0 F0 A r (put f d v) cs K):bL P n H0 F0 A (⟨d,.load T x,T',ps,af,none⟩::r) f cs K:=eu hm (fun hp=>fw hA.h hx hp.2 rfl hv) h
theorem ar0{k j:Nat}{TB:TypeId}{e:Value} [hA:jE P T false](hx:EV n f x (.pointer (some ⟨k,0,some j⟩)))(hm:Mem (l7 k ⟨[e],TB,true,true⟩) cs)(hv:e.cells.toList[j]?=some v)
   (h:bL P n H0 F0 A r (put f d v) cs K):bL P n H0 F0 A (⟨d,.load T x,T',ps,af,none⟩::r) f cs K:=eu hm (fun hp=>fw hA.h hx hp.2 rfl hv) h
theorem ar1{k s b:Nat}{zv:Value}{TB:TypeId}{l:List Value} [hA:jE P T true] [ht:jM P T s b zv](hx:EV n f x (.pointer (some ⟨k,0,some 0⟩)))(hm:Mem (uQ k ⟨[.agg l.toArray],TB,true,false⟩) cs)(h0:Nat.blt 0 s=true)(hl:l.length=s)
   (h:bL P n H0 F0 A r (put f d (.agg l.toArray)) cs K):bL P n H0 F0 A (⟨d,.load T x,T',ps,af,none⟩::r) f cs K:=eu hm (fun hp=>fP hA.h ht.h.sz h0 hx hp.2 hl) h
theorem ar2{k s b:Nat}{zv:Value}{TB:TypeId}{l:List Value} [hA:jE P T true] [ht:jM P T s b zv](hx:EV n f x (.pointer (some ⟨k,0,some 0⟩)))(hm:Mem (l7 k ⟨[.agg l.toArray],TB,true,true⟩) cs)(h0:Nat.blt 0 s=true)(hl:l.length=s)
   (h:bL P n H0 F0 A r (put f d (.agg l.toArray)) cs K):bL P n H0 F0 A (⟨d,.load T x,T',ps,af,none⟩::r) f cs K:=eu hm (fun hp=>fP hA.h ht.h.sz h0 hx hp.2 hl) h
theorem ar3{α:Type}{R:aH->Value->α->Prop}{_:eF R}{xs:List α}{ts:List TypeId} [hT:qD P T E](hx:EV n f x v)(hm:Mem (bB (aD E R) v xs) cs)
   (h:bL P n H0 F0 A r (put f d (.int .i64 xs.length)) cs K):bL P n H0 F0 A (⟨d,.call ⟨.builtin .len,[x].toArray,(T::ts).toArray⟩,T',ps,af,none⟩::r) f cs K:=eu hm (fun hp=>rZ hT.h hx (zB hp)) h
theorem aqg{α:Type}{Ro:jb α}{_:ik Ro}{F:List Nat}{xs:List α}{ts:List TypeId} [hT:qD P T E](hx:EV n f x v)(hm:Mem (aT (aF E Ro) F v xs) cs)
   (h:bL P n H0 F0 A r (put f d (.int .i64 xs.length)) cs K):bL P n H0 F0 A (⟨d,.call ⟨.builtin .len,[x].toArray,(T::ts).toArray⟩,T',ps,af,none⟩::r) f cs K:=eu hm (fun hp=>rZ hT.h hx (L6 hp)) h
theorem avY{j:Nat}{t:Tmp}{b:Bool}(hd:(A[j]?).bind (·.dst)=some t)(hv:f t= .bool b)(ht:Nat.blt t n=true)(h:bL P n H0 F0 A (⟨d,op,T,ps,af,none⟩::r) f cs K):
   bL P n H0 F0 A (⟨d,op,T,ps,af,some (j,b)⟩::r) f cs K:=iM hd hv ht h
theorem avZ{j:Nat}{t:Tmp}{b:Bool}(hd:(A[j]?).bind (·.dst)=some t)(hv:f t= .bool (!b))(ht:Nat.blt t n=true)(h:bL P n H0 F0 A r (put f d undef) cs K):
   bL P n H0 F0 A (⟨d,op,T,ps,af,some (j,b)⟩::r) f cs K:=gT hd hv ht h
theorem av1{j:Nat}{t:Tmp}{b:Bool}(hd:(A[j]?).bind (·.dst)=some t)(hv:f t=undef)(ht:Nat.blt t n=true)(h:bL P n H0 F0 A r (put f d undef) cs K):
   bL P n H0 F0 A (⟨d,op,T,ps,af,some (j,b)⟩::r) f cs K:=ap6 hd hv ht h
theorem ar4{kk:IntKind}{q q2:Int}(hx:EV n f x (.int kk q))(hy:EV n f y (.int kk q2))(h:bL P n H0 F0 A r (put f d (.int kk (kk.wrap (q+q2)))) cs K):bL P n H0 F0 A (⟨d,.binOp .add T x y T',T'',ps,af,none⟩::r) f cs K:=aN (nW hx hy) h
theorem ar5{kk:IntKind}{q q2:Int}(hx:EV n f x (.int kk q))(hy:EV n f y (.int kk q2))(h:bL P n H0 F0 A r (put f d (.int kk (kk.wrap (q-q2)))) cs K):bL P n H0 F0 A (⟨d,.binOp .sub T x y T',T'',ps,af,none⟩::r) f cs K:=aN (ME hx hy) h
theorem ar6{kk:IntKind}{q q2:Int}(hx:EV n f x (.int kk q))(hy:EV n f y (.int kk q2))(h:bL P n H0 F0 A r (put f d (.int kk (kk.wrap (q*q2)))) cs K):bL P n H0 F0 A (⟨d,.binOp .mul T x y T',T'',ps,af,none⟩::r) f cs K:=aN (ah_ hx hy) h
theorem ar7{kk:IntKind}{q q2:Int}(hx:EV n f x (.int kk q))(hy:EV n f y (.int kk q2))(h:bL P n H0 F0 A r (put f d (.bool (decide (q<q2)))) cs K):bL P n H0 F0 A (⟨d,.binOp .lss T x y T',T'',ps,af,none⟩::r) f cs K:=aN (Fg hx hy) h
theorem ar8{kk:IntKind}{q q2:Int}(hx:EV n f x (.int kk q))(hy:EV n f y (.int kk q2))(h:bL P n H0 F0 A r (put f d (.bool (decide (q<=q2)))) cs K):bL P n H0 F0 A (⟨d,.binOp .leq T x y T',T'',ps,af,none⟩::r) f cs K:=aN (VZ hx hy) h
theorem ar9{kk:IntKind}{q q2:Int}(hx:EV n f x (.int kk q))(hy:EV n f y (.int kk q2))(h:bL P n H0 F0 A r (put f d (.bool (decide (q2<q)))) cs K):bL P n H0 F0 A (⟨d,.binOp .gtr T x y T',T'',ps,af,none⟩::r) f cs K:=aN (Je hx hy) h
theorem ar_{kk:IntKind}{q q2:Int}(hx:EV n f x (.int kk q))(hy:EV n f y (.int kk q2))(h:bL P n H0 F0 A r (put f d (.bool (decide (q2<=q)))) cs K):bL P n H0 F0 A (⟨d,.binOp .geq T x y T',T'',ps,af,none⟩::r) f cs K:=aN (ah' hx hy) h
theorem ar'{kk:IntKind}{q q2:Int}(hx:EV n f x (.int kk q))(hy:EV n f y (.int kk q2))(h:bL P n H0 F0 A r (put f d (.bool (q==q2))) cs K):bL P n H0 F0 A (⟨d,.binOp .eql T x y T',T'',ps,af,none⟩::r) f cs K:=aN (tH hx hy) h
theorem asa{kk:IntKind}{q q2:Int}(hx:EV n f x (.int kk q))(hy:EV n f y (.int kk q2))(h:bL P n H0 F0 A r (put f d (.bool (q !=q2))) cs K):bL P n H0 F0 A (⟨d,.binOp .neq T x y T',T'',ps,af,none⟩::r) f cs K:=aN (aia hx hy) h
theorem asb{b:Bool}(hx:EV n f x (.bool b))(h:bL P n H0 F0 A r (put f d (.bool (!b))) cs K):bL P n H0 F0 A (⟨d,.unOp .not T x,T',ps,af,none⟩::r) f cs K:=aN (Jf hx) h
variable{l:List Oper}{tb a_ todo:List Nat}{fl:List (Nat×List Nat)}{i:Nat}{gd:Option (Nat×Bool)}
theorem mV(h:Wt n l f gd:=by first|exact Wt.no|exact Wt.on _ rfl rfl rfl):Wt n l f gd:=h
theorem asc{kk:IntKind}{q q2:Int}(ho:l[i]?=some ⟨d,.binOp .add T x y T',T'',ps,af,gd⟩)(hw:Wt n l f gd)(hx:EV n f x (.int kk q))(hn:iI x (gM l ⟨d,.binOp .add T x y T',T'',ps,af,gd⟩)=true)(hy:EV n f y (.int kk q2))(hm:iI y (gM l ⟨d,.binOp .add T x y T',T'',ps,af,gd⟩)=true)
   (h:DC P n l tb a_ H0 F0 K todo fl (put f d (.int kk (kk.wrap (q+q2)))) cs):DC P n l tb a_ H0 F0 K (i::todo) fl f cs:=bN ho hw (fun ha=>nW (EN ha hx hn) (EN ha hy hm)) h
theorem ase{kk:IntKind}{q q2:Int}(ho:l[i]?=some ⟨d,.binOp .sub T x y T',T'',ps,af,gd⟩)(hw:Wt n l f gd)(hx:EV n f x (.int kk q))(hn:iI x (gM l ⟨d,.binOp .sub T x y T',T'',ps,af,gd⟩)=true)(hy:EV n f y (.int kk q2))(hm:iI y (gM l ⟨d,.binOp .sub T x y T',T'',ps,af,gd⟩)=true)
   (h:DC P n l tb a_ H0 F0 K todo fl (put f d (.int kk (kk.wrap (q-q2)))) cs):DC P n l tb a_ H0 F0 K (i::todo) fl f cs:=bN ho hw (fun ha=>ME (EN ha hx hn) (EN ha hy hm)) h
theorem asf{kk:IntKind}{q q2:Int}(ho:l[i]?=some ⟨d,.binOp .mul T x y T',T'',ps,af,gd⟩)(hw:Wt n l f gd)(hx:EV n f x (.int kk q))(hn:iI x (gM l ⟨d,.binOp .mul T x y T',T'',ps,af,gd⟩)=true)(hy:EV n f y (.int kk q2))(hm:iI y (gM l ⟨d,.binOp .mul T x y T',T'',ps,af,gd⟩)=true)
   (h:DC P n l tb a_ H0 F0 K todo fl (put f d (.int kk (kk.wrap (q*q2)))) cs):DC P n l tb a_ H0 F0 K (i::todo) fl f cs:=bN ho hw (fun ha=>ah_ (EN ha hx hn) (EN ha hy hm)) h
theorem asg{kk:IntKind}{q q2:Int}(ho:l[i]?=some ⟨d,.binOp .lss T x y T',T'',ps,af,gd⟩)(hw:Wt n l f gd)(hx:EV n f x (.int kk q))(hn:iI x (gM l ⟨d,.binOp .lss T x y T',T'',ps,af,gd⟩)=true)(hy:EV n f y (.int kk q2))(hm:iI y (gM l ⟨d,.binOp .lss T x y T',T'',ps,af,gd⟩)=true)
   (h:DC P n l tb a_ H0 F0 K todo fl (put f d (.bool (decide (q<q2)))) cs):DC P n l tb a_ H0 F0 K (i::todo) fl f cs:=bN ho hw (fun ha=>Fg (EN ha hx hn) (EN ha hy hm)) h
theorem ash{kk:IntKind}{q q2:Int}(ho:l[i]?=some ⟨d,.binOp .leq T x y T',T'',ps,af,gd⟩)(hw:Wt n l f gd)(hx:EV n f x (.int kk q))(hn:iI x (gM l ⟨d,.binOp .leq T x y T',T'',ps,af,gd⟩)=true)(hy:EV n f y (.int kk q2))(hm:iI y (gM l ⟨d,.binOp .leq T x y T',T'',ps,af,gd⟩)=true)
   (h:DC P n l tb a_ H0 F0 K todo fl (put f d (.bool (decide (q<=q2)))) cs):DC P n l tb a_ H0 F0 K (i::todo) fl f cs:=bN ho hw (fun ha=>VZ (EN ha hx hn) (EN ha hy hm)) h
theorem asi{kk:IntKind}{q q2:Int}(ho:l[i]?=some ⟨d,.binOp .gtr T x y T',T'',ps,af,gd⟩)(hw:Wt n l f gd)(hx:EV n f x (.int kk q))(hn:iI x (gM l ⟨d,.binOp .gtr T x y T',T'',ps,af,gd⟩)=true)(hy:EV n f y (.int kk q2))(hm:iI y (gM l ⟨d,.binOp .gtr T x y T',T'',ps,af,gd⟩)=true)
   (h:DC P n l tb a_ H0 F0 K todo fl (put f d (.bool (decide (q2<q)))) cs):DC P n l tb a_ H0 F0 K (i::todo) fl f cs:=bN ho hw (fun ha=>Je (EN ha hx hn) (EN ha hy hm)) h
theorem asj{kk:IntKind}{q q2:Int}(ho:l[i]?=some ⟨d,.binOp .geq T x y T',T'',ps,af,gd⟩)(hw:Wt n l f gd)(hx:EV n f x (.int kk q))(hn:iI x (gM l ⟨d,.binOp .geq T x y T',T'',ps,af,gd⟩)=true)(hy:EV n f y (.int kk q2))(hm:iI y (gM l ⟨d,.binOp .geq T x y T',T'',ps,af,gd⟩)=true)
   (h:DC P n l tb a_ H0 F0 K todo fl (put f d (.bool (decide (q2<=q)))) cs):DC P n l tb a_ H0 F0 K (i::todo) fl f cs:=bN ho hw (fun ha=>ah' (EN ha hx hn) (EN ha hy hm)) h
theorem asl{kk:IntKind}{q q2:Int}(ho:l[i]?=some ⟨d,.binOp .eql T x y T',T'',ps,af,gd⟩)(hw:Wt n l f gd)(hx:EV n f x (.int kk q))(hn:iI x (gM l ⟨d,.binOp .eql T x y T',T'',ps,af,gd⟩)=true)(hy:EV n f y (.int kk q2))(hm:iI y (gM l ⟨d,.binOp .eql T x y T',T'',ps,af,gd⟩)=true)
   (h:DC P n l tb a_ H0 F0 K todo fl (put f d (.bool (q==q2))) cs):DC P n l tb a_ H0 F0 K (i::todo) fl f cs:=bN ho hw (fun ha=>tH (EN ha hx hn) (EN ha hy hm)) h
theorem asn{kk:IntKind}{q q2:Int}(ho:l[i]?=some ⟨d,.binOp .neq T x y T',T'',ps,af,gd⟩)(hw:Wt n l f gd)(hx:EV n f x (.int kk q))(hn:iI x (gM l ⟨d,.binOp .neq T x y T',T'',ps,af,gd⟩)=true)(hy:EV n f y (.int kk q2))(hm:iI y (gM l ⟨d,.binOp .neq T x y T',T'',ps,af,gd⟩)=true)
   (h:DC P n l tb a_ H0 F0 K todo fl (put f d (.bool (q !=q2))) cs):DC P n l tb a_ H0 F0 K (i::todo) fl f cs:=bN ho hw (fun ha=>aia (EN ha hx hn) (EN ha hy hm)) h
theorem aso{b:Bool}(ho:l[i]?=some ⟨d,.unOp .not T x,T',ps,af,gd⟩)(hw:Wt n l f gd)(hx:EV n f x (.bool b))(hn:iI x (gM l ⟨d,.unOp .not T x,T',ps,af,gd⟩)=true)
   (h:DC P n l tb a_ H0 F0 K todo fl (put f d (.bool (!b))) cs):DC P n l tb a_ H0 F0 K (i::todo) fl f cs:=bN ho hw (fun ha=>Jf (EN ha hx hn)) h
theorem av2(ho:l[i]?=some ⟨d,.move x,T,ps,af,gd⟩)(hw:Wt n l f gd)
   (hx:EV n f x v) (hn:iI x (gM l ⟨d,.move x,T,ps,af,gd⟩)=true) (h:DC P n l tb a_ H0 F0 K todo fl (put f d v) cs):
   DC P n l tb a_ H0 F0 K (i::todo) fl f cs:=bN ho hw (fun ha=>fQ (EN ha hx hn)) h
theorem av3(ho:l[i]?=some ⟨d,.assign x,T,ps,af,gd⟩)(hw:Wt n l f gd)
   (hx:EV n f x v) (hn:iI x (gM l ⟨d,.assign x,T,ps,af,gd⟩)=true) (h:DC P n l tb a_ H0 F0 K todo fl (put f d v) cs):
   DC P n l tb a_ H0 F0 K (i::todo) fl f cs:=bN ho hw (fun ha=>jW (EN ha hx hn)) h
theorem asq(ho:l[i]?=some ⟨d,.pick x y z,T,ps,af,gd⟩)(hw:Wt n l f gd)(hc:EV n f x (.bool true))(hn:iI x (gM l ⟨d,.pick x y z,T,ps,af,gd⟩)=true)
   (hy:EV n f y v) (hm:iI y (gM l ⟨d,.pick x y z,T,ps,af,gd⟩)=true) (h:DC P n l tb a_ H0 F0 K todo fl (put f d v) cs):
   DC P n l tb a_ H0 F0 K (i::todo) fl f cs:=bN ho hw (fun ha=>ahC (EN ha hc hn) (EN ha hy hm)) h
theorem asr(ho:l[i]?=some ⟨d,.pick x y z,T,ps,af,gd⟩)(hw:Wt n l f gd)(hc:EV n f x (.bool false))(hn:iI x (gM l ⟨d,.pick x y z,T,ps,af,gd⟩)=true)
   (hy:EV n f z v) (hm:iI z (gM l ⟨d,.pick x y z,T,ps,af,gd⟩)=true) (h:DC P n l tb a_ H0 F0 K todo fl (put f d v) cs):
   DC P n l tb a_ H0 F0 K (i::todo) fl f cs:=bN ho hw (fun ha=>ahD (EN ha hc hn) (EN ha hy hm)) h
theorem av4{k i0 j fi off:Nat}(ho:l[i]?=some ⟨d,.fieldAddr T x fi,T',ps,af,gd⟩){hF:il P T fi off}(hw:Wt n l f gd)
   (hx:EV n f x (.pointer (some ⟨k,i0,some j⟩))) (hn:iI x (gM l ⟨d,.fieldAddr T x fi,T',ps,af,gd⟩)=true) (h:DC P n l tb a_ H0 F0 K todo fl (put f d (.pointer (some ⟨k,i0,some (j+off)⟩))) cs):
   DC P n l tb a_ H0 F0 K (i::todo) fl f cs:=bN ho hw (fun ha=>iK hF.h (EN ha hx hn)) h
theorem ass{k j:Nat}{TB:TypeId}{e:Value}(ho:l[i]?=some ⟨d,.load T x,T',ps,af,gd⟩){hA:jE P T false}(hw:Wt n l f gd)
   (hx:EV n f x (.pointer (some ⟨k,0,some j⟩))) (hn:iI x (gM l ⟨d,.load T x,T',ps,af,gd⟩)=true) (hm:Mem (uQ k ⟨[e],TB,true,false⟩) cs) (hv:e.cells.toList[j]?=some v)
   (h:DC P n l tb a_ H0 F0 K todo fl (put f d v) cs):DC P n l tb a_ H0 F0 K (i::todo) fl f cs:=xm ho hw hm rfl (fun ha hp=>fw hA.h (EN ha hx hn) hp.2 rfl hv) h
theorem ast{k s b:Nat}{zv:Value}{TB:TypeId}{e:List Value}(ho:l[i]?=some ⟨d,.load T x,T',ps,af,gd⟩){hA:jE P T true}{ht:jM P T s b zv}(hw:Wt n l f gd)
   (hx:EV n f x (.pointer (some ⟨k,0,some 0⟩))) (hn:iI x (gM l ⟨d,.load T x,T',ps,af,gd⟩)=true) (hm:Mem (uQ k ⟨[.agg e.toArray],TB,true,false⟩) cs) (h0:Nat.blt 0 s=true) (hl:e.length=s)
   (h:DC P n l tb a_ H0 F0 K todo fl (put f d (.agg e.toArray)) cs):DC P n l tb a_ H0 F0 K (i::todo) fl f cs:=xm ho hw hm rfl (fun ha hp=>fP hA.h ht.h.sz h0 (EN ha hx hn) hp.2 hl) h
theorem asu{α:Type}{R:aH->Value->α->Prop}{_:eF R}{xs:List α}{ts:List TypeId}(ho:l[i]?=some ⟨d,.call ⟨.builtin .len,[x].toArray,(T::ts).toArray⟩,T',ps,af,gd⟩){hT:qD P T E}(hw:Wt n l f gd)
   (hx:EV n f x v) (hn:iI x (gM l ⟨d,.call ⟨.builtin .len,[x].toArray,(T::ts).toArray⟩,T',ps,af,gd⟩)=true) (hm:Mem (bB (aD E R) v xs) cs)
   (h:DC P n l tb a_ H0 F0 K todo fl (put f d (.int .i64 xs.length)) cs):DC P n l tb a_ H0 F0 K (i::todo) fl f cs:=xm ho hw hm rfl (fun ha hp=>rZ hT.h (EN ha hx hn) (zB hp)) h
theorem av5{t:Tmp}{j:Nat}{b:Bool}(ho:l[i]?=some ⟨d,op,T,ps,af,some (j,b)⟩)(h1:(l[j]?).bind (·.dst)=some t)(h2:f t= .bool (!b))(h3:Nat.blt t n=true)(h:DC P n l tb a_ H0 F0 K todo fl (put f d undef) cs):
   DC P n l tb a_ H0 F0 K (i::todo) fl f cs:=nG t ho h1 h2 h3 h
theorem av6{t:Tmp}{j:Nat}{b:Bool}(ho:l[i]?=some ⟨d,op,T,ps,af,some (j,b)⟩)(h1:(l[j]?).bind (·.dst)=some t)(h2:f t=undef)(h3:Nat.blt t n=true)(h:DC P n l tb a_ H0 F0 K todo fl (put f d undef) cs):
   DC P n l tb a_ H0 F0 K (i::todo) fl f cs:=ap7 t ho h1 h2 h3 h
theorem aoW{K:Fr->List aL->Prop}{Q:Exit->Fr->List aL->Prop}(h:K f cs):Jh K Q .normal f cs:=h
theorem apD{id:Nat}{Q:Exit->Fr->List aL->Prop}(h:Q .normal f cs):Dw id Q .normal f cs:=h
theorem au{G N:Prop}(k:N)(h:N->G:=by
   intro k
   repeat (first|with_reducible refine aoW ?_|with_reducible refine apD ?_)
   first
   |((with_reducible refine' avV ?hx k); (case hx=>exact sK))
   |((with_reducible refine' avX ?hx k); (case hx=>exact f_))
   |with_reducible exact df k
   |((with_reducible refine' avY ?r1 ?r2 ?r3 k); (case r1=>exact rfl); (case r2=>exact rfl); (case r3=>exact rfl))
   |((with_reducible refine' avZ ?r1 ?r2 ?r3 k); (case r1=>exact rfl); (case r2=>exact rfl); (case r3=>exact rfl))
   |((with_reducible refine' avW ?hx k); (case hx=>exact sK))
   |((with_reducible refine' arZ ?hx ?hm ?hv k); (case hx=>exact f_); (case hm=>exact ng); (case hv=>exact atV))
   |((with_reducible refine' ar0 ?hx ?hm ?hv k); (case hx=>exact f_); (case hm=>exact ng); (case hv=>exact atV))
   |((with_reducible refine' ar1 ?hx ?hm ?r1 ?r2 k); (case hx=>exact f_); (case hm=>exact ng); (case r1=>exact rfl); (case r2=>exact rfl))
   |((with_reducible refine' ar2 ?hx ?hm ?r1 ?r2 k); (case hx=>exact f_); (case hm=>exact ng); (case r1=>exact rfl); (case r2=>exact rfl))
   |((with_reducible refine' ar3 ?hx ?hm k); (case hx=>exact sK); (case hm=>exact ng); all_goals infer_instance)
   |((with_reducible refine' aqg ?hx ?hm k); (case hx=>exact sK); (case hm=>exact ng); all_goals infer_instance)
   |((with_reducible refine' ar7 ?a ?b k); (case a=>exact f_); (case b=>exact f_))
   |((with_reducible refine' asb ?a k); (case a=>exact f_))
   |((with_reducible refine' arX ?hc ?hy k); (case hc=>exact f_); (case hy=>exact sK))
   |((with_reducible refine' arY ?hc ?hy k); (case hc=>exact f_); (case hy=>exact sK))
   |((with_reducible refine' av1 ?r1 ?r2 ?r3 k); (case r1=>exact rfl); (case r2=>exact rfl); (case r3=>exact rfl))
   |((with_reducible refine' ar4 ?a ?b k); (case a=>exact f_); (case b=>exact f_))
   |((with_reducible refine' ar5 ?a ?b k); (case a=>exact f_); (case b=>exact f_))
   |((with_reducible refine' ar' ?a ?b k); (case a=>exact f_); (case b=>exact f_))
   |((with_reducible refine' asa ?a ?b k); (case a=>exact f_); (case b=>exact f_))
   |((with_reducible refine' ar8 ?a ?b k); (case a=>exact f_); (case b=>exact f_))
   |((with_reducible refine' ar9 ?a ?b k); (case a=>exact f_); (case b=>exact f_))
   |((with_reducible refine' ar_ ?a ?b k); (case a=>exact f_); (case b=>exact f_))
   |((with_reducible refine' ar6 ?a ?b k); (case a=>exact f_); (case b=>exact f_))
   |with_reducible exact dC k
   |with_reducible exact kT k
   |with_reducible exact PQ k
   |with_reducible exact nU k
   |with_reducible exact j4 k
   |with_reducible exact Bb k
   |with_reducible exact aoK k
   |with_reducible exact ER k
   |((with_reducible refine' apZ ?a k); (case a=>exact rfl))
   |with_reducible exact apo k
   |with_reducible exact EZ k
   |with_reducible exact qN k):G:=h k
theorem du{G N:Prop}(k:N)(h:N->G:=by
   intro k
   first
   |((with_reducible refine' av2 ?r1 ?hw ?hx ?r2 k); (case r1=>exact rfl); (case hw=>exact mV); (case hx=>exact sK); (case r2=>exact rfl))
   |((with_reducible refine' av4 ?r1 ?hw ?hx ?r2 k); (case r1=>exact rfl); (case hw=>exact mV); (case hx=>exact f_); (case r2=>exact rfl); all_goals infer_instance)
   |((with_reducible refine' ass ?r1 ?hw ?hx ?r2 ?hm ?hv k); (case r1=>exact rfl); (case hw=>exact mV); (case hx=>exact f_); (case r2=>exact rfl); (case hm=>exact ng); (case hv=>exact atV); all_goals infer_instance)
   |((with_reducible refine' av5 ?r1 ?r2 ?r3 ?r4 k); (case r1=>exact rfl); (case r2=>exact rfl); (case r3=>exact rfl); (case r4=>exact rfl))
   |((with_reducible refine' av6 ?r1 ?r2 ?r3 ?r4 k); (case r1=>exact rfl); (case r2=>exact rfl); (case r3=>exact rfl); (case r4=>exact rfl))
   |((with_reducible refine' asu ?r1 ?hw ?hx ?r2 ?hm k); (case r1=>exact rfl); (case hw=>exact mV); (case hx=>exact sK); (case r2=>exact rfl); (case hm=>exact ng); all_goals infer_instance)
   |((with_reducible refine' asq ?r1 ?hw ?hc ?r2 ?hy ?r3 k); (case r1=>exact rfl); (case hw=>exact mV); (case hc=>exact f_); (case r2=>exact rfl); (case hy=>exact sK); (case r3=>exact rfl))
   |((with_reducible refine' asr ?r1 ?hw ?hc ?r2 ?hy ?r3 k); (case r1=>exact rfl); (case hw=>exact mV); (case hc=>exact f_); (case r2=>exact rfl); (case hy=>exact sK); (case r3=>exact rfl))
   |((with_reducible refine' aso ?r1 ?hw ?hx ?r2 k); (case r1=>exact rfl); (case hw=>exact mV); (case hx=>exact f_); (case r2=>exact rfl))
   |((with_reducible refine' asg ?r1 ?hw ?hx ?r2 ?hy ?r3 k); (case r1=>exact rfl); (case hw=>exact mV); (case hx=>exact f_); (case r2=>exact rfl); (case hy=>exact f_); (case r3=>exact rfl))
   |((with_reducible refine' asl ?r1 ?hw ?hx ?r2 ?hy ?r3 k); (case r1=>exact rfl); (case hw=>exact mV); (case hx=>exact f_); (case r2=>exact rfl); (case hy=>exact f_); (case r3=>exact rfl))
   |((with_reducible refine' asn ?r1 ?hw ?hx ?r2 ?hy ?r3 k); (case r1=>exact rfl); (case hw=>exact mV); (case hx=>exact f_); (case r2=>exact rfl); (case hy=>exact f_); (case r3=>exact rfl))
   |((with_reducible refine' asc ?r1 ?hw ?hx ?r2 ?hy ?r3 k); (case r1=>exact rfl); (case hw=>exact mV); (case hx=>exact f_); (case r2=>exact rfl); (case hy=>exact f_); (case r3=>exact rfl))
   |((with_reducible refine' ase ?r1 ?hw ?hx ?r2 ?hy ?r3 k); (case r1=>exact rfl); (case hw=>exact mV); (case hx=>exact f_); (case r2=>exact rfl); (case hy=>exact f_); (case r3=>exact rfl))
   |((with_reducible refine' ash ?r1 ?hw ?hx ?r2 ?hy ?r3 k); (case r1=>exact rfl); (case hw=>exact mV); (case hx=>exact f_); (case r2=>exact rfl); (case hy=>exact f_); (case r3=>exact rfl))
   |((with_reducible refine' asi ?r1 ?hw ?hx ?r2 ?hy ?r3 k); (case r1=>exact rfl); (case hw=>exact mV); (case hx=>exact f_); (case r2=>exact rfl); (case hy=>exact f_); (case r3=>exact rfl))
   |((with_reducible refine' asj ?r1 ?hw ?hx ?r2 ?hy ?r3 k); (case r1=>exact rfl); (case hw=>exact mV); (case hx=>exact f_); (case r2=>exact rfl); (case hy=>exact f_); (case r3=>exact rfl))
   |((with_reducible refine' asf ?r1 ?hw ?hx ?r2 ?hy ?r3 k); (case r1=>exact rfl); (case hw=>exact mV); (case hx=>exact f_); (case r2=>exact rfl); (case hy=>exact f_); (case r3=>exact rfl))
   |((with_reducible refine' av3 ?r1 ?hw ?hx ?r2 k); (case r1=>exact rfl); (case hw=>exact mV); (case hx=>exact sK); (case r2=>exact rfl))
   |((with_reducible refine' ast ?r1 ?hw ?hx ?r2 ?hm ?r3 ?r4 k); (case r1=>exact rfl); (case hw=>exact mV); (case hx=>exact f_); (case r2=>exact rfl); (case hm=>exact ng); (all_goals (try infer_instance)); (case r3=>exact rfl); (case r4=>exact rfl))
   |with_reducible exact l6 k):G:=h k
theorem flA{fl:List (Nat×List Nat)}(h:lJ tb i rest fl:=by
   repeat (first
     |exact lJ.nil
     |refine' lJ.dep rfl ?_
     |refine' lJ.imm (by exact ng) ?_)):lJ tb i rest fl:=h
theorem Yf{f':Fr}{o:Oper}:∀{xs:List Operand}{vs:List Value},jG l o f f'->kM n f xs vs->xs.all (fun x=>iI x (gM l o))=true->kM n f' xs vs
 |[],[],_,_,_=>.nil
 |x::xs,v::vs,ha,⟨h,t⟩,hn=>by
   simp only[List.all_cons,Bool.and_eq_true]at hn
   exact .cons (EN ha h hn.1) (Yf ha t hn.2)
 |[],_::_,_,h,_=>h.elim
 |_::_,[],_,h,_=>h.elim
variable{ι α:Type}{val:ι->Value}{R:aH->Value->α->Prop}{xs:List α}{a:α}{g k j s b off:Nat}{zv e:Value}{kk:IntKind}{q:Int}{TB:TypeId}{Q:Exit->Fr->List aL->Prop}{c1 c2:Code}
theorem Cc{b:Bool}(h1:b=true->CW P n H0 F0 c1 Q f cs)(h2:b=false->CW P n H0 F0 c2 Q f cs)(hc:EV n f x (.bool b):=by exact f_):CW P n H0 F0 (.cond x c1 c2) Q f cs:=kg hc h1 h2
theorem CcT{b:Bool}(hb:b=true)(h1:CW P n H0 F0 c1 Q f cs)(hc:EV n f x (.bool b):=by exact f_):CW P n H0 F0 (.cond x c1 c2) Q f cs:=kg hc (fun _=>h1) (fun h=>absurd (hb.symm.trans h) (by decide))
theorem CcF{b:Bool}(hb:b=false)(h2:CW P n H0 F0 c2 Q f cs)(hc:EV n f x (.bool b):=by exact f_):CW P n H0 F0 (.cond x c1 c2) Q f cs:=kg hc (fun h=>absurd (hb.symm.trans h) (by decide)) (fun _=>h2)
theorem dK{p:Prop}{_:Decidable p}(h1:CW P n H0 F0 c1 Q f cs)(hc:EV n f x (.bool (decide p)):=by exact f_)(hp:p:=by omega):CW P n H0 F0 (.cond x c1 c2) Q f cs:=CcT (decide_eq_true hp) h1 hc
theorem dL{p:Prop}{_:Decidable p}(h2:CW P n H0 F0 c2 Q f cs)(hc:EV n f x (.bool (decide p)):=by exact f_)(hp:¬ p:=by omega):CW P n H0 F0 (.cond x c1 c2) Q f cs:=CcF (decide_eq_false hp) h2 hc
theorem Ai [eF R] [hT:qD P T E] [hs:jM P E s b zv](hi:xs[q.toNat]?=some a)(h:∀k j,bL P n H0 F0 A r (put f d (.pointer (some ⟨k,j,some 0⟩))) (m_ E R k j a::cs) K)
   (hx:EV n f x v:=by exact sK) (hy:EV n f y (.int kk q):=by exact f_) (hm:Mem (bB (aD E R) v xs) cs:=by exact ng) (h0:0<=q:=by first|exact Int.natCast_nonneg _|assumption):
   bL P n H0 F0 A (⟨d,.indexAddr T x y,T',ps,af,none⟩::r) f cs K:=MF hT.h hs.h.sz hx hy hm h0 hi h
theorem Di [eF R] [hT:qD P T E] [hs:jM P E s b zv](hi:xs[q.toNat]?=some a)(h:∀k j,DC P n l tb a_ H0 F0 K todo fl (put f d (.pointer (some ⟨k,j,some 0⟩))) (m_ E R k j a::cs))
   (ho:l[i]?=some ⟨d,.indexAddr T x y,T',ps,af,gd⟩:=by rfl) (hw:Wt n l f gd:=by exact mV)
   (hx:EV n f x v:=by exact sK) (hy:EV n f y (.int kk q):=by exact f_) (qb:iI x (gM l ⟨d,.indexAddr T x y,T',ps,af,gd⟩)=true:=by rfl) (hyn:iI y (gM l ⟨d,.indexAddr T x y,T',ps,af,gd⟩)=true:=by rfl)
   (hm:Mem (bB (aD E R) v xs) cs:=by exact ng) (h0:0<=q:=by first|exact Int.natCast_nonneg _|assumption):
   DC P n l tb a_ H0 F0 K (i::todo) fl f cs:=V6 hT.h hs.h.sz ho hw hx hy qb hyn hm h0 hi h
theorem Al [eF R] [hA:jE P T false](hop:∀H e,R H e a->e.cells.toList[off]?=some v)(h:bL P n H0 F0 A r (put f d v) cs K)(hx:EV n f x (.pointer (some ⟨k,j,some off⟩)):=by exact f_)(hm:Mem (m_ E R k j a) cs:=by exact ng):
   bL P n H0 F0 A (⟨d,.load T x,T',ps,af,none⟩::r) f cs K:=aaE hA.h hx hm hop h
theorem Dl [eF R] [hA:jE P T false](hop:∀H e,R H e a->e.cells.toList[off]?=some v)(h:DC P n l tb a_ H0 F0 K todo fl (put f d v) cs)(ho:l[i]?=some ⟨d,.load T x,T',ps,af,gd⟩:=by rfl)(hw:Wt n l f gd:=by exact mV)
   (hx:EV n f x (.pointer (some ⟨k,j,some off⟩)):=by exact f_) (qb:iI x (gM l ⟨d,.load T x,T',ps,af,gd⟩)=true:=by rfl) (hm:Mem (m_ E R k j a) cs:=by exact ng):
   DC P n l tb a_ H0 F0 K (i::todo) fl f cs:=arJ hA.h ho hw hx qb hm hop h
theorem bP [ht:jM P T s b zv](h:∀k,bL P n H0 F0 A r (put f d (.pointer (some ⟨k,0,some 0⟩))) (uQ k ⟨[v],T,true,false⟩::cs) K)(hx:EV n f x v:=by exact sK)(hv:v.cells.size=s:=by rfl):
   bL P n H0 F0 A (⟨d,.box T x,T',ps,af,none⟩::r) f cs K:=ahP rfl (aaD ht.h.sz hx hv) h
theorem AbW [ht:jM P T s b zv](h:∀k,bL P n H0 F0 A r (put f d (.pointer (some ⟨k,0,some 0⟩))) (l7 k ⟨[v],T,true,true⟩::cs) K)(hx:EV n f x v:=by exact sK)(hv:v.cells.size=s:=by rfl):
   bL P n H0 F0 A (⟨d,.box T x,T',ps,af,none⟩::r) f cs K:=dH rfl (aaD ht.h.sz hx hv) h
theorem d_ [ht:jM P T s b zv](h:∀k,bL P n H0 F0 A r (put f d (.pointer (some ⟨k,0,some 0⟩))) (l7 k ⟨[zv],T,true,true⟩::cs) K)(hv:zv.cells.size=s:=by rfl)(hc:Bv zv=true:=by rfl):
   bL P n H0 F0 A (⟨d,.alloc T,T',ps,af,none⟩::r) f cs K:=dH rfl (rY ht.h hv hc) h
theorem As [ht:jM P T s b zv](e'':Value)(h:bL P n H0 F0 A r (put f d undef) (aW k TB e''::rest) K)(hx:EV n f x (.pointer (some ⟨k,0,some j⟩)):=by exact f_)(hy:EV n f y v:=by exact sK)(hm:Sel cs (aW k TB e) rest:=by exact ail)
   (hv:v.cells.size=s:=by rfl) (hsc:v.cells.toList.all scal=true:=by rfl) (h0:Nat.blt 0 s=true:=by rfl) (hj:Nat.ble (j+s) e.cells.size=true:=by rfl) (he:zz e j v.cells.toList=e'':=by rfl):
   bL P n H0 F0 A (⟨d,.store T x y,T',ps,af,none⟩::r) f cs K:=ek (.cons hm .nil) (gD ht.h.sz hx hy hv hsc h0 hj he) (fun _=>h)
theorem av7{rs:List ResultVar}{vs:List Value}(h:qx P n f cs rs vs:=by
   first
   |exact qx.nil|exact .tmp rfl rfl .nil|exact .tmp rfl rfl (.tmp rfl rfl .nil)|exact .tmp rfl rfl (.tmp rfl rfl (.tmp rfl rfl .nil))|exact .tmp rfl rfl (.tmp rfl rfl (.tmp rfl rfl (.tmp rfl rfl .nil)))
   |exact qx.cellA rfl rfl (by exact ng) (by exact rfl) jE.h (TY.sz jM.h) (by exact rfl) (by exact rfl) .nil
   |exact qx.cellS rfl rfl (by exact ng) (by exact rfl) jE.h (by exact rfl) .nil):qx P n f cs rs vs:=h
theorem Er{rs:List ResultVar}{post:ι->List aL}{vs:List Value}(x:ι)(h1:qx P n f cs rs vs:=by exact av7)(h2:tK vs=val x:=by rfl)(h3:gN cs (post x) rest:=by exact tZ):Q_ P n rs val post .ret f cs:=gU x h1 h2 (.sel h3)
theorem ay(h:gN cs pre rest:=by exact tZ):aO cs pre:=.sel h
theorem wk(k:Nat)(h:k<9223372036854775807:=by omega):IntKind.i64.wrap ((k:Int)+1)=((k+1:Nat):Int):=by rw[eU (by omega) (by omega)]; rfl
end
end Go.Fw
/-
 The same for calls: with the facts that come of them in a list.  No conditions.
-/
set_option linter.unusedVariables false
namespace Go.Fw
open Go
section
variable{P:Program} [dF P]{n:Nat}{f:Fr}{H0:aH}{F0:List Nat}{cs pre rest:List aL}{x y:Operand}{v:Value}{A:Array Oper}{r:List Oper}{K:Fr->List aL->Prop}{d:Option Tmp}{T E:TypeId}{ps:String}{af:Array Edge}
variable{l:List Oper}{tb a_ todo:List Nat}{fl:List (Nat×List Nat)}{i g:Nat}{gd:Option (Nat×Bool)}{ι α:Type}{val:ι->Value}{R:aH->Value->α->Prop}{a:α}{k j s b off:Nat}{zv:Value}{xs:List Operand}{ts:Array TypeId}{vs:List Value}
theorem nt{b:Bool}(h:b=false):¬ b=true:=by rw[h]; exact Bool.false_ne_true
theorem Se{fn:Func}{c:Code}{args:List Value}{post:ι->List aL}(n:Nat)(hf:P.funcs[g]?=some fn)(rs:List ResultVar)(h:∀H0 F0,CW P n H0 F0 c (Q_ P n rs val post) (aag args) pre)
   (hb:fn.body=some c:=by rfl) (hn:fn.ntmps=n:=by rfl) (hr:fn.results=rs.toArray:=by rfl) (hl:Nat.ble rs.length 6=true:=by rfl) (ha:Nat.ble args.length n=true:=by rfl):Spec P g args pre val post:=Iz hf hb hn hr hl ha h
theorem bC [hg:bf P g](hs:Spec P g vs pre val (fun x=>[]))(h:∀x,bL P n H0 F0 A r (put f d (val x)) (rest) K)(he:kM n f xs vs:=by exact cu)(hl:gN cs pre rest:=by exact tZ):
   bL P n H0 F0 A (⟨d,.call ⟨.value (.func g),xs.toArray,ts⟩,T,ps,af,none⟩::r) f cs K:=l9 hl (bV hg.h he hs) h
theorem fu [hg:bf P g](hs:Spec P g vs pre val (fun x=>[]))(h:∀x,DC P n l tb a_ H0 F0 K todo fl (put f d (val x)) (rest))
   (ho:l[i]?=some ⟨d,.call ⟨.value (.func g),xs.toArray,ts⟩,T,ps,af,gd⟩:=by rfl) (hA:a_.any (Nat.beq i)=true:=by rfl) (hw:Wt n l f gd:=by exact mV) (he:kM n f xs vs:=by exact cu)
   (hn:xs.all (fun x=>iI x (gM l ⟨d,.call ⟨.value (.func g),xs.toArray,ts⟩,T,ps,af,gd⟩))=true:=by rfl) (hl:gN cs pre rest:=by exact tZ) (hfl:lJ tb i rest fl:=by exact flA):
   DC P n l tb a_ H0 F0 K (i::todo) fl f cs:=ahQ hA ho hw hl hfl (fun ha=>bV hg.h (Yf ha he hn) hs) h
theorem gB{c1:ι->aL} [hg:bf P g](hs:Spec P g vs pre val (fun x=>[c1 x]))(h:∀x,bL P n H0 F0 A r (put f d (val x)) (c1 x::rest) K)(he:kM n f xs vs:=by exact cu)(hl:gN cs pre rest:=by exact tZ):
   bL P n H0 F0 A (⟨d,.call ⟨.value (.func g),xs.toArray,ts⟩,T,ps,af,none⟩::r) f cs K:=ek hl (bV hg.h he hs) h
theorem qE{c1:ι->aL} [hg:bf P g](hs:Spec P g vs pre val (fun x=>[c1 x]))(h:∀x,DC P n l tb a_ H0 F0 K todo fl (put f d (val x)) (c1 x::rest))
   (ho:l[i]?=some ⟨d,.call ⟨.value (.func g),xs.toArray,ts⟩,T,ps,af,gd⟩:=by rfl) (hA:a_.any (Nat.beq i)=true:=by rfl) (hw:Wt n l f gd:=by exact mV) (he:kM n f xs vs:=by exact cu)
   (hn:xs.all (fun x=>iI x (gM l ⟨d,.call ⟨.value (.func g),xs.toArray,ts⟩,T,ps,af,gd⟩))=true:=by rfl) (hl:gN cs pre rest:=by exact tZ) (hfl:lJ tb i rest fl:=by exact flA):
   DC P n l tb a_ H0 F0 K (i::todo) fl f cs:=cO hA ho hw hl hfl (fun ha=>bV hg.h (Yf ha he hn) hs) h
theorem Av{c1 c2:ι->aL} [hg:bf P g](hs:Spec P g vs pre val (fun x=>[c1 x,c2 x]))(h:∀x,bL P n H0 F0 A r (put f d (val x)) (c1 x::c2 x::rest) K)(he:kM n f xs vs:=by exact cu)(hl:gN cs pre rest:=by exact tZ):
   bL P n H0 F0 A (⟨d,.call ⟨.value (.func g),xs.toArray,ts⟩,T,ps,af,none⟩::r) f cs K:=uZ hl (bV hg.h he hs) h
theorem Cx3{c1 c2 c3:ι->aL} [hg:bf P g](hs:Spec P g vs pre val (fun x=>[c1 x,c2 x,c3 x]))(h:∀x,bL P n H0 F0 A r (put f d (val x)) (c1 x::c2 x::c3 x::rest) K)(he:kM n f xs vs:=by exact cu)(hl:gN cs pre rest:=by exact tZ):
   bL P n H0 F0 A (⟨d,.call ⟨.value (.func g),xs.toArray,ts⟩,T,ps,af,none⟩::r) f cs K:=Ra hl (bV hg.h he hs) h
theorem Cx4{c1 c2 c3 c4:ι->aL} [hg:bf P g](hs:Spec P g vs pre val (fun x=>[c1 x,c2 x,c3 x,c4 x]))(h:∀x,bL P n H0 F0 A r (put f d (val x)) (c1 x::c2 x::c3 x::c4 x::rest) K)(he:kM n f xs vs:=by exact cu)(hl:gN cs pre rest:=by exact tZ):
   bL P n H0 F0 A (⟨d,.call ⟨.value (.func g),xs.toArray,ts⟩,T,ps,af,none⟩::r) f cs K:=avJ hl (bV hg.h he hs) h
theorem Ty{c1 c2 c3 c4 c5 c6 c7 c8:ι->aL} [hg:bf P g](hs:Spec P g vs pre val (fun x=>[c1 x,c2 x,c3 x,c4 x,c5 x,c6 x,c7 x,c8 x]))(h:∀x,bL P n H0 F0 A r (put f d (val x)) (c1 x::c2 x::c3 x::c4 x::c5 x::c6 x::c7 x::c8 x::rest) K)(he:kM n f xs vs:=by exact cu)(hl:gN cs pre rest:=by exact tZ):
   bL P n H0 F0 A (⟨d,.call ⟨.value (.func g),xs.toArray,ts⟩,T,ps,af,none⟩::r) f cs K:=abV hl (bV hg.h he hs) h
theorem Yg{c1 c2 c3 c4 c5 c6 c7 c8:ι->aL} [hg:bf P g](hs:Spec P g vs pre val (fun x=>[c1 x,c2 x,c3 x,c4 x,c5 x,c6 x,c7 x,c8 x]))(h:∀x,DC P n l tb a_ H0 F0 K todo fl (put f d (val x)) (c1 x::c2 x::c3 x::c4 x::c5 x::c6 x::c7 x::c8 x::rest))
   (ho:l[i]?=some ⟨d,.call ⟨.value (.func g),xs.toArray,ts⟩,T,ps,af,gd⟩:=by rfl) (hA:a_.any (Nat.beq i)=true:=by rfl) (hw:Wt n l f gd:=by exact mV) (he:kM n f xs vs:=by exact cu)
   (hn:xs.all (fun x=>iI x (gM l ⟨d,.call ⟨.value (.func g),xs.toArray,ts⟩,T,ps,af,gd⟩))=true:=by rfl) (hl:gN cs pre rest:=by exact tZ) (hfl:lJ tb i rest fl:=by exact flA):
   DC P n l tb a_ H0 F0 K (i::todo) fl f cs:=VT hA ho hw hl hfl (fun ha=>bV hg.h (Yf ha he hn) hs) h
theorem ni{T2:TypeId} [eF R]{c1:ι->aL} [hA:jE P T true] [ht:jM P T s b zv](ul:ι->List Value)(hop:∀H e,R H e a-> ∃i,off+s<=e.cells.size/\(e.cells.toList.drop off).take s=ul i/\ ∀c∈([c1 i]:List aL),c.P H/\c.F=[])
   (h:∀i,bL P n H0 F0 A r (put f d (.agg (ul i).toArray)) (c1 i::cs) K) (hx:EV n f x (.pointer (some ⟨k,j,some off⟩)):=by exact f_) (hm:Mem (m_ E R k j a) cs:=by exact ng) (h0:Nat.blt 0 s=true:=by rfl):
   bL P n H0 F0 A (⟨d,.load T x,T2,ps,af,none⟩::r) f cs K:=ap2 ul hA.h ht.h.sz h0 hx hm hop h
theorem jR{T2:TypeId} [eF R]{c1:ι->aL} [hA:jE P T true] [ht:jM P T s b zv](ul:ι->List Value)(hop:∀H e,R H e a-> ∃i,off+s<=e.cells.size/\(e.cells.toList.drop off).take s=ul i/\ ∀c∈([c1 i]:List aL),c.P H/\c.F=[])
   (h:∀i,DC P n l tb a_ H0 F0 K todo fl (put f d (.agg (ul i).toArray)) (c1 i::cs)) (ho:l[i]?=some ⟨d,.load T x,T2,ps,af,gd⟩:=by rfl) (hw:Wt n l f gd:=by exact mV)
   (hx:EV n f x (.pointer (some ⟨k,j,some off⟩)):=by exact f_) (qb:iI x (gM l ⟨d,.load T x,T2,ps,af,gd⟩)=true:=by rfl) (hm:Mem (m_ E R k j a) cs:=by exact ng) (h0:Nat.blt 0 s=true:=by rfl):
   DC P n l tb a_ H0 F0 K (i::todo) fl f cs:=aal ul hA.h ht.h.sz h0 ho hw hx qb hm hop h
theorem yj{T2:TypeId} [eF R]{c1 c2:ι->aL} [hA:jE P T true] [ht:jM P T s b zv](ul:ι->List Value)(hop:∀H e,R H e a-> ∃i,off+s<=e.cells.size/\(e.cells.toList.drop off).take s=ul i/\ ∀c∈([c1 i,c2 i]:List aL),c.P H/\c.F=[])
   (h:∀i,bL P n H0 F0 A r (put f d (.agg (ul i).toArray)) (c1 i::c2 i::cs) K) (hx:EV n f x (.pointer (some ⟨k,j,some off⟩)):=by exact f_) (hm:Mem (m_ E R k j a) cs:=by exact ng) (h0:Nat.blt 0 s=true:=by rfl):
   bL P n H0 F0 A (⟨d,.load T x,T2,ps,af,none⟩::r) f cs K:=ap3 ul hA.h ht.h.sz h0 hx hm hop h
theorem zZ{T2:TypeId} [eF R]{c1 c2:ι->aL} [hA:jE P T true] [ht:jM P T s b zv](ul:ι->List Value)(hop:∀H e,R H e a-> ∃i,off+s<=e.cells.size/\(e.cells.toList.drop off).take s=ul i/\ ∀c∈([c1 i,c2 i]:List aL),c.P H/\c.F=[])
   (h:∀i,DC P n l tb a_ H0 F0 K todo fl (put f d (.agg (ul i).toArray)) (c1 i::c2 i::cs)) (ho:l[i]?=some ⟨d,.load T x,T2,ps,af,gd⟩:=by rfl) (hw:Wt n l f gd:=by exact mV)
   (hx:EV n f x (.pointer (some ⟨k,j,some off⟩)):=by exact f_) (qb:iI x (gM l ⟨d,.load T x,T2,ps,af,gd⟩)=true:=by rfl) (hm:Mem (m_ E R k j a) cs:=by exact ng) (h0:Nat.blt 0 s=true:=by rfl):
   DC P n l tb a_ H0 F0 K (i::todo) fl f cs:=ap4 ul hA.h ht.h.sz h0 ho hw hx qb hm hop h
theorem dR{c1:aL}{l:List Oper}(hs:gN cs pre rest)(hv:Conv pre [c1])(h:bL P n H0 F0 A l f (c1::rest) K):bL P n H0 F0 A l f cs K:=Mv hs hv cK h
theorem jk{c1:aL}{r:List Nat}(hs:gN cs pre rest)(hv:Conv pre [c1])(h:DC P n l tb a_ H0 F0 K r fl f (c1::rest)):DC P n l tb a_ H0 F0 K r fl f cs:=ap0 hs hv cK h
theorem bnd{α β:Type}{G:Prop}{x:Option α}{g:α->Option β}{b:β}(h:x.bind g=some b)(k:∀a,x=some a->g a=some b->G):G:=by
 obtain⟨a,h1,h2⟩:=bind_some h
 exact k a h1 h2
theorem Ci{β:Type}{b:Bool}{p q:Option β}{R0:β}{c1 c2:Code}{Q:Exit->Fr->List aL->Prop}(hF:(if b=true then p else q)=some R0)(h1:b=true->p=some R0->CW P n H0 F0 c1 Q f cs)(h2:b=false->q=some R0->CW P n H0 F0 c2 Q f cs)
   (hc:EV n f x (.bool b):=by exact f_):CW P n H0 F0 (.cond x c1 c2) Q f cs:=
 kg hc (fun e=>h1 e (by rwa [if_pos e]at hF)) (fun e=>h2 e (by rwa [if_neg (nt e)]at hF))
theorem Kb{β:Type}{R':aH->Value->β->Prop} [eF R']{T3:TypeId}{u:Value}{cs':List aL}{c:Code}{Q:Exit->Fr->List aL->Prop}(he:aO cs cs')(ys:List β)(h:ys.length<4611686018427387904->CW P n H0 F0 c Q f cs')(hm:Mem (bB (aD T3 R') u ys) cs':=by exact ng):CW P n H0 F0 c Q f cs:=
 bu he (PS hm agJ h)
abbrev pz(k:Nat):Value:=.pointer (some ⟨k,0,some 0⟩)
theorem dn{α:Type}{k:Nat}{l:List α}(h:List.drop k l=[]):l.length<=k:=List.drop_eq_nil_iff.1 h
end
end Go.Fw
/-
 More plain laws about loops. No conditions.
-/
set_option linter.unusedVariables false
namespace Go.Fw
open Go
theorem ahE{α β:Type}{P:α->Prop}{p:α->Bool}{g:α->β}{L:List α->Nat->List β->Option (List β)}(h0:∀k c,L [] k c=some c)
   (h1:∀x r k c,P x->c.length+1<4294967296->L (x::r) k c=L r (k+1) (if p x then c++[g x]else c)):
   ∀(l:List α)(k:Nat)(c:List β),(∀x∈l,P x)->c.length+l.length<4294967296->L l k c=some (c++(l.filter p).map g)
 |[],k,c,_,_=>by simp[h0]
 |x::r,k,c,hp,hl=>by
   simp only[List.length_cons]at hl
   rw[h1 x r k c (hp x (by simp)) (by omega),ahE h0 h1 r (k+1) _ (fun y hy=>hp y (by simp[hy])) (by split<;>(try simp only[List.length_append,List.length_cons,List.length_nil])<;>omega),List.filter_cons]
   split<;>simp
theorem ahe{α β:Type}{P:α->Prop}{p:α->Bool}{g:α->β}{L:Nat->List β->Int->Option (List β)}(l:List α)(hl:l.length<4294967296)(hP:∀x∈l,P x)(h0:∀(m:Nat) c (k:Nat),l.length<=k->L (m+1) c (k:Int)=some c)
   (h1:∀(m:Nat) c (k:Nat) x,l[k]?=some x->P x->k<l.length->c.length+1<4294967296->L (m+1) c (k:Int)=L m (if p x then c++[g x]else c) ((k+1:Nat):Int)):
   ∀(rest:List α)(m k:Nat)(c:List β),l.drop k=rest->rest.length<m->c.length+rest.length<4294967296->L m c (k:Int)=some (c++(rest.filter p).map g)
 |[],m,k,c,hd,hm,_=>by
   obtain⟨m,rfl⟩:∃q,m=q+1:=⟨m-1,by simp at hm; omega⟩
   rw[h0 m c k (List.drop_eq_nil_iff.1 hd)]; simp
 |x::r,m,k,c,hd,hm,hc=>by
   simp only[List.length_cons]at hm hc
   obtain⟨m,rfl⟩:∃q,m=q+1:=⟨m-1,by omega⟩
   obtain⟨e1,e2⟩:=L8 hd
   have hlt:k<l.length:=by
     rcases Nat.lt_or_ge k l.length with h|h
     · exact h
     · rw[List.getElem?_eq_none h]at e1; simp at e1
   rw[h1 m c k x e1 (hP x (List.mem_of_getElem? e1)) hlt (by omega),ahe l hl hP h0 h1 r m (k+1) _ e2 (by omega) (by split<;>(try simp only[List.length_append,List.length_cons,List.length_nil])<;>omega),List.filter_cons]
   split<;>simp
theorem ahf{α β γ:Type}{P:α->Prop}{p:α->Bool}{g:α->β}{L:List α->Nat->List β->Option γ}(K:List β->Option γ)(h0:∀k c,L [] k c=K c)
   (h1:∀x r k c,P x->c.length+1<4294967296->L (x::r) k c=L r (k+1) (if p x then c++[g x]else c)):
   ∀(l:List α)(k:Nat)(c:List β),(∀x∈l,P x)->c.length+l.length<4294967296->L l k c=K (c++(l.filter p).map g)
 |[],k,c,_,_=>by simp[h0]
 |x::r,k,c,hp,hl=>by
   simp only[List.length_cons]at hl
   rw[h1 x r k c (hp x (by simp)) (by omega),ahf K h0 h1 r (k+1) _ (fun y hy=>hp y (by simp[hy])) (by split<;>(try simp only[List.length_append,List.length_cons,List.length_nil])<;>omega),List.filter_cons]
   split<;>simp
theorem V8{α γ:Type}{P:α->Prop}{L:List α->Nat->List α->Option γ}(K:List α->Option γ)(h0:∀k c,L [] k c=K c)
   (h1:∀x r k c,P x->c.length+1<4294967296->L (x::r) k c=L r (k+1) (c++[x])) (l:List α) (h:eT P l):L l 0 []=K l:=by
 have:=ahf (p:=fun _=>true) (g:=fun x=>x) K h0 (fun x r k c hx hc=>by rw[h1 x r k c hx hc,if_pos rfl]) l 0 [] h.2 (by simpa using h.1)
 rw[this,List.filter_eq_self.2 (fun _ _=>rfl),List.map_id',List.nil_append]
end Go.Fw
