/-
  A framework: readings, small rules, plain laws. No conditions.
-/
import Derived.Test.YtmmlepaliceaiaaGreatDoorFb
import Derived.Deep.Slices
import Derived.ChangeArms
import Derived.SizedLaws
import Derived.Laws.Small
import Derived.WalkSpells
import Derived.Laws.Slices
import Derived.Below
import Derived.Sort.Grow
import Derived.Lib.LaidTab
import Derived.Lib.ItoaNum
import Derived.Lib.Join
import Derived.Deep.Draws
import Derived.Laws.BytesString
import Derived.WideLaws
import Derived.Shelf.Strings.Split
import Derived.Shelf.Strings.Search3
import Derived.Shelf.Strconv.ErrVarAll
import Derived.Lib.SlicesCompact
/-
 The bridge: what the arguments of a row's function read az, az data.
-/
namespace Go.Fw
open Go Go.RowKit Go.WideShapes Go.ChangeShapes Go.ChangeAt
def jD(ρ:a_):Prop:=∀k L,ρ k=some (some L)->L.own=false
def jP{α:Type}(P:Program) [aO P](t:TypeId)(R:ag->Value->α->Prop)(W:α->Prop):Prop:=
 ∀{T:Type}(enc:TypeId×Value->T)(w:World)(fuel:Nat)(cs:List Value)(x:DataW T×List MemPlace),
   DataW.trod enc P w 0 (fun _=>true) true fuel t cs=some x->(∀n∈x.1.weights P t,n<=reachBytes)->
   ∀(ρ:a_)(H:ag),Rel P ρ H w->jD ρ-> ∃(ρ':a_)(H':ag)(av:Value)(a:α),Rel P ρ' H' w/\jD ρ'/\Up ρ ρ'/\dJ H H'/\aI ρ' av.cells.toList cs/\R H' av a/\W a
theorem Rel.nil(P:Program) [aO P](w:World)(hV:aO.V P w):Rel P (fun _=>none) [] w:=⟨by simp,by simp,by simp,by simp,⟨w,hV,Nat.le_refl _,fun _ _=>rfl,by simp⟩⟩
theorem jD.nil:jD (fun _=>none):=fun _ _ h=>by simp at h
section
variable{P:Program} [aO P]{ρ:a_}{H:ag}{w:World}
theorem xw{ρ:a_}{H:ag}(h:Rel P ρ H w)(o:Option Loc):Up ρ (fI ρ H.length o):=by
 intro k
 by_cases e:k=H.length
 · subst e; exact .inl (h.dom _ (Nat.le_refl _))
 · exact .inr (.inl (bJ _ _ e))
theorem Rel.foreign{L:Loc}{b:cO}(h:Rel P ρ H w)(hF:jD ρ)(hL:L.own=false)(hb:kV P ρ L b w):Rel P (fI ρ H.length (some L)) (H++[some b]) w:=by
 have hu:=xw h (some L)
 constructor
 · intro k L' hk
   by_cases e:k=H.length
   · subst e
     rw[dC]at hk
     obtain rfl:L=L':=by simpa using hk
     exact⟨b,by simp,hb.of_same hu rfl⟩
   · rw[bJ _ _ e]at hk
     obtain⟨b',hb',hr⟩:=h.blk k L' hk
     exact⟨b',by rw[List.getElem?_append_left (jo hb')]; exact hb',hr.of_same hu rfl⟩
 · intro k b' hb' hk
   by_cases e:k=H.length
   · subst e; rw[dC]at hk; simp at hk
   · rw[bJ _ _ e]at hk
     have hkl:k<H.length:=by
       have:=jo hb'
       simp at this; omega
     rw[List.getElem?_append_left hkl]at hb'
     exact h.alive k b' hb' hk
 · intro k hk
   simp at hk
   rw[bJ _ _ (by omega)]
   exact h.dom k (by omega)
 · intro k k' L1 L2 h1 h2 ho _
   exfalso
   by_cases e:k=H.length
   · subst e; rw[dC]at h1
     obtain rfl:L=L1:=by simpa using h1
     rw[hL]at ho; simp at ho
   · rw[bJ _ _ e]at h1
     rw[hF k L1 h1]at ho; simp at ho
 · refine h.vok.keep (Nat.le_refl _) (fun _ _ _=>rfl) fun k L' hk ho=>?_
   by_cases e:k=H.length
   · subst e; rw[dC]at hk
     obtain rfl:L=L':=by simpa using hk
     rw[hL]at ho; simp at ho
   · rw[bJ _ _ e]at hk; exact .inl hk
theorem jD.foreign{L:Loc}(hF:jD ρ)(hL:L.own=false)(n:Nat):jD (fI ρ n (some L)):=by
 intro k L' hk
 by_cases e:k=n
 · subst e; rw[dC]at hk
   obtain rfl:L=L':=by simpa using hk
   exact hL
 · rw[bJ _ _ e]at hk; exact hF k L' hk
theorem Rel.dead(h:Rel P ρ H w):Rel P (fI ρ H.length none) (H++[none]) w:=by
 have hu:=xw h none
 constructor
 · intro k L' hk
   by_cases e:k=H.length
   · subst e; rw[dC]at hk; simp at hk
   · rw[bJ _ _ e]at hk
     obtain⟨b',hb',hr⟩:=h.blk k L' hk
     exact⟨b',by rw[List.getElem?_append_left (jo hb')]; exact hb',hr.of_same hu rfl⟩
 · intro k b' hb' hk
   by_cases e:k=H.length
   · subst e; simp at hb'
   · rw[bJ _ _ e]at hk
     have hkl:k<H.length:=by
       have:=jo hb'
       simp at this; omega
     rw[List.getElem?_append_left hkl]at hb'
     exact h.alive k b' hb' hk
 · intro k hk
   simp at hk
   rw[bJ _ _ (by omega)]
   exact h.dom k (by omega)
 · intro k k' L1 L2 h1 h2 ho he
   by_cases e:k=H.length
   · subst e; rw[dC]at h1; simp at h1
   · by_cases e':k'=H.length
     · subst e'; rw[dC]at h2; simp at h2
     · rw[bJ _ _ e]at h1; rw[bJ _ _ e']at h2
       exact h.inj k k' L1 L2 h1 h2 ho he
 · refine h.vok.keep (Nat.le_refl _) (fun _ _ _=>rfl) fun k L' hk ho=>?_
   by_cases e:k=H.length
   · subst e; rw[dC]at hk; simp at hk
   · rw[bJ _ _ e]at hk; exact .inl hk
theorem jD.dead(hF:jD ρ)(n:Nat):jD (fI ρ n none):=by
 intro k L' hk
 by_cases e:k=n
 · subst e; rw[dC]at hk; simp at hk
 · rw[bJ _ _ e]at hk; exact hF k L' hk
theorem CK(H:ag)(x:Option cO):dJ H (H++[x]):=fun k b hk _=>by rw[List.getElem?_append_left (jo hk)]; exact hk
def J4(a:Int):Prop:=-9223372036854775808<=a/\a<=9223372036854775807
def Tv(_:UInt8):Prop:=True
def Q3{α:Type}(_:α):Prop:=True
def Q4(a:List UInt8):Prop:=a.length<=140737488351232
def Dy{α:Type}(W:α->Prop)(a:List α):Prop:=a.length<=140737488351232/\ ∀x∈a,W x
theorem jP.int{t:TypeId}(ht:P.underlying t=some (.int .i64)):jP P t aF J4:=by
 intro T enc w fuel cs x h _ ρ H hr hF
 obtain⟨n,rfl,rfl,hw⟩:=DataW.trod_int ht h
 refine⟨ρ,H,.int .i64 n,n,hr,hF,Up.refl ρ,dJ.refl H,.cons _ _ _ _ (.int _ _) .nil,rfl,?_⟩
 simp only[Lit.wf,IntKind.min,IntKind.max,Bool.and_eq_true]at hw
 unfold J4
 simpa[IntKind.signed,IntKind.bits]using hw
theorem jP.u8{t:TypeId}(ht:P.underlying t=some (.int .u8)):jP P t ek Tv:=by
 intro T enc w fuel cs x h _ ρ H hr hF
 obtain⟨n,rfl,rfl,hw⟩:=DataW.trod_int ht h
 simp only[Lit.wf,IntKind.min,IntKind.max,Bool.and_eq_true]at hw
 have hw':0<=n/\n<=255:=by simpa[IntKind.signed,IntKind.bits]using hw
 refine⟨ρ,H,.int .u8 n,UInt8.ofNat n.toNat,hr,hF,Up.refl ρ,dJ.refl H,.cons _ _ _ _ (.int _ _) .nil,?_,trivial⟩
 unfold ek
 have:((UInt8.ofNat n.toNat).toNat:Int)=n:=by
   simp[UInt8.toNat_ofNat']
   omega
 rw[this]
theorem jP.bool{t:TypeId}(ht:P.underlying t=some .bool):jP P t rdBool Q3:=by
 intro T enc w fuel cs x h _ ρ H hr hF
 obtain⟨b,rfl,rfl⟩:=DataW.trod_bool ht h
 exact⟨ρ,H,.bool b,b,hr,hF,Up.refl ρ,dJ.refl H,.cons _ _ _ _ (.bool _) .nil,rfl,trivial⟩
theorem jP.str{t:TypeId}(ht:P.underlying t=some .string):jP P t rdStr Q4:=by
 intro T enc w fuel cs x h hw ρ H hr hF
 obtain⟨s,rfl,rfl,hs⟩:=DataW.trod_string ht h
 refine⟨ρ,H,.string s,s.data.toList,hr,hF,Up.refl ρ,dJ.refl H,.cons _ _ _ _ (.string _) .nil,rfl,?_⟩
 have:=hw s.data.toList.length (by simp[DataW.weights])
 exact this
theorem MV{Pg:Program}{T:Type}{e:TypeId}{l:List (DataW T)}{d:DataW T}(hd:d∈l){n:Nat}(hn:n∈d.weights Pg e):n∈DataW.weightsAll Pg e l:=by
 induction l with
 |nil=>simp at hd
 |cons x l ih=>
   simp only[DataW.weightsAll,List.mem_append]
   rcases List.mem_cons.1 hd with rfl|h
   · exact .inl hn
   · exact .inr (ih h)
theorem IB{α T:Type}{enc:TypeId×Value->T}{E:TypeId}{R:ag->Value->α->Prop}{W:α->Prop} [bP R](hE:jP P E R W){fuel:Nat}{C:Nat->List Value}{D:Nat->DataW T×List MemPlace}:
   ∀(len:Nat),(∀i,i<len->DataW.trod enc P w 0 (fun _=>true) true fuel E (C i)=some (D i)/\ ∀n∈(D i).1.weights P E,n<=reachBytes)-> ∀(ρ:a_)(H:ag),Rel P ρ H w->jD ρ->
     ∃(ρ':a_)(H':ag)(es:List Value)(az:List α),Rel P ρ' H' w/\jD ρ'/\Up ρ ρ'/\dJ H H'/\es.length=len/\az.length=len/\(∀(i:Nat) e,es[i]?=some e->aI ρ' e.cells.toList (C i))/\
       (∀(i:Nat) a,az[i]?=some a-> ∃e,es[i]?=some e/\R H' e a)/\ ∀a∈az,W a
 |0,_,ρ,H,hr,hF=>⟨ρ,H,[],[],hr,hF,Up.refl ρ,dJ.refl H,rfl,rfl,by simp,by simp,by simp⟩
 |len+1,h,ρ,H,hr,hF=>by
   obtain⟨ρ1,H1,es,az,r1,f1,u1,i1,l1,l2,g1,g2,g3⟩:=IB hE len (fun i hi=>h i (by omega)) ρ H hr hF
   obtain⟨t,tw⟩:=h len (by omega)
   obtain⟨ρ2,H2,e,a,r2,f2,u2,i2,v2,q2,w2⟩:=hE enc w fuel _ _ t tw ρ1 H1 r1 f1
   refine⟨ρ2,H2,es++[e],az++[a],r2,f2,u1.trans u2,i1.trans i2,by simp[l1],by simp[l2],?_,?_,?_⟩
   · intro i e' he'
     by_cases hi:i<es.length
     · rw[List.getElem?_append_left hi]at he'
       exact (g1 i e' he').up u2
     · rw[List.getElem?_append_right (by omega)]at he'
       have hi':i-es.length=0:=by
         rcases Nat.eq_zero_or_pos (i-es.length)with h|h
         · exact h
         · rw[List.getElem?_eq_none (by simp; omega)]at he'; simp at he'
       rw[hi']at he'
       obtain rfl:e=e':=by simpa using he'
       obtain rfl:i=len:=by omega
       exact v2
   · intro i a' ha'
     by_cases hi:i<az.length
     · rw[List.getElem?_append_left hi]at ha'
       obtain⟨e',he',hq⟩:=g2 i a' ha'
       exact⟨e',by rw[List.getElem?_append_left (by omega)]; exact he',bP.up hq i2⟩
     · rw[List.getElem?_append_right (by omega)]at ha'
       have hi':i-az.length=0:=by
         rcases Nat.eq_zero_or_pos (i-az.length)with h|h
         · exact h
         · rw[List.getElem?_eq_none (by simp; omega)]at ha'; simp at ha'
       rw[hi']at ha'
       obtain rfl:a=a':=by simpa using ha'
       exact⟨e,by rw[List.getElem?_append_right (by omega),show i-es.length=0 by omega]; rfl,q2⟩
   · intro a' ha'
     rcases List.mem_append.1 ha' with h|h
     · exact g3 a' h
     · obtain rfl:a'=a:=by simpa using h
       exact w2
theorem jP.slice{α:Type}{t E:TypeId}{R:ag->Value->α->Prop}{W:α->Prop}{s:Nat} [bP R] [Cells R s](ht:P.underlying t=some (.slice E))(hs:P.cellsOf E=s)(h0:0<s)(hb:0<P.bytesOf E)
   (hE:jP P E R W):jP P t (bf E R) (Dy W):=by
 intro T enc w fuel cs x h hw ρ H hr hF
 rcases Deep.open_slice ht h with⟨rfl,rfl⟩|⟨a,len,cap,m,n,D,Pl,rfl,-,hlc,hcm,hm,rfl,hx⟩
 · exact⟨ρ,H,.slice none 0 0,[],hr,hF,Up.refl ρ,dJ.refl H,.cons _ _ _ _ .nilSlice .nil,.inl ⟨rfl,rfl⟩,by simp[Dy]⟩
 have hm':m=cap:=by simpa using hm
 subst hm'
 rcases Nat.eq_zero_or_pos len with rfl|hpos
 · refine⟨_,_,.slice (some ⟨H.length,0,none⟩) 0 0,[],hr.dead,hF.dead _,xw hr none,CK H none,?_,.inr (.inr ⟨_,_,_,rfl,rfl⟩),by simp[Dy]⟩
   exact .cons _ _ _ _ (.sliceDead _ _ _ _ _ _ (dC _ _ _)) .nil
 have hwl:len*P.bytesOf E<=reachBytes:=by
   have:=hw _ (by simp only[DataW.weights,ht]; exact List.mem_cons_self)
   simp only[List.length_map,List.length_range]at this
   exact Nat.le_trans (Nat.mul_le_mul_right _ (by omega)) this
 have hlen:len<=140737488351232:=by
   have h1:len*1<=len*P.bytesOf E:=Nat.mul_le_mul_left _ hb
   have h2:reachBytes=140737488351232:=rfl
   omega
 have hch:∀i,∃cs',i<len->w.cells? 0 (a.add (i*P.cellsOf E)) (P.cellsOf E)=some cs'/\DataW.trod enc P w 0 (fun _=>true) true n E cs'=some (D i,Pl i):=by
   intro i
   by_cases hi:i<len
   · obtain⟨cs',h1,h2⟩:=hx i (by omega)
     exact⟨cs',fun _=>⟨h1,h2⟩⟩
   · exact⟨[],fun h=>absurd h hi⟩
 obtain⟨C,hC⟩:=Classical.axiomOfChoice hch
 rw[hs]at hC
 obtain⟨ρ1,H1,es,az,r1,f1,u1,i1,l1,l2,g1,g2,g3⟩:=IB (enc:=enc) (D:=fun i=>(D i,Pl i)) hE len (fun i hi=>⟨(hC i hi).2,fun k hk=>hw k (by
   simp only[DataW.weights,ht]
   refine List.mem_cons_of_mem _ (List.mem_append_left _ (MV (d:=D i) (List.mem_map.2 ⟨i,by simpa using hi,rfl⟩) hk)))⟩) ρ H hr hF
 obtain⟨-,hl0,hc0⟩:=World.cells?_some (hC 0 hpos).1
 have hcell:=hc0 0 h0
 rw[List.getElem?_eq_getElem (by omega)]at hcell
 obtain⟨ab,ao,asp⟩:=a
 have hsp:asp=none:=by simpa[Addr.add]using World.cell?_spot hcell
 subst hsp
 have AO:∃c ct fr,w.heap[ab]?=some (.cells c ct fr):=by
   simp only[World.cell?,Addr.add,Nat.zero_mul,if_true]at hcell
   split at hcell
   · exact⟨_,_,_,by assumption⟩
   · simp at hcell
 obtain⟨c,ct,fr,AO⟩:=AO
 have hadd:∀(o:Nat),Addr.add ⟨ab,ao,none⟩ o=⟨ab,ao+o,none⟩:=by
   intro o
   exact addr_add _ _ _
 have V3:∀i,i<len->(c.toList.drop (ao+i*s)).take s=C i:=by
   intro i hi
   obtain⟨-,hl,hc⟩:=World.cells?_some (hC i hi).1
   apply List.ext_getElem?
   intro j
   by_cases hj:j<s
   · have:=hc j hj
     rw[hadd,show Addr.add ⟨ab,ao+i*s,none⟩ j=⟨ab,ao+i*s+j,none⟩from addr_add _ _ _,rC AO]at this
     rw[List.getElem?_take_of_lt hj,List.getElem?_drop,←this]
     simp
   · rw[List.getElem?_eq_none (by rw[List.length_take]; omega),List.getElem?_eq_none (by omega)]
 have hbr:kV P ρ1 ⟨ab,ao,s,0,false⟩ ⟨es,E,false,false⟩ w:=by
   refine⟨rfl,hs,c,ct,fr,AO,fun i e he=>?_,by simp⟩
   have hi:i<len:=by
     have:i<es.length:=by
       rcases Nat.lt_or_ge i es.length with h|h
       · exact h
       · simp[List.getElem?_eq_none h]at he
     omega
   obtain⟨e',he',hq⟩:=g2 i _ (List.getElem?_eq_getElem (show i<az.length by omega))
   rw[he]at he'
   obtain rfl:e=e':=by simpa using he'
   exact⟨(Cells.cells hq).1,by rw[V3 i hi]; exact g1 i e he⟩
 refine⟨_,_,.slice (some ⟨H1.length,0,none⟩) len 0,az,r1.foreign f1 rfl hbr,f1.foreign rfl _,u1.trans (xw r1 _),i1.trans (CK _ _),?_,?_,by omega,g3⟩
 · refine .cons _ _ _ _ (.slice _ _ _ _ _ _ _ (dC _ _ _) hlc (by simp) (by simp) fun _=>⟨?_,by simp⟩) .nil
   simp
 · refine .inr (.inl ⟨H1.length,0,0,⟨es,E,false,false⟩,by rw[l2],by simp,rfl,rfl,by simp[l1,l2],by omega,fun j a ha=>?_⟩)
   obtain⟨e,he,hq⟩:=g2 j a ha
   exact⟨e,by simpa using he,bP.up hq (CK _ _)⟩
def fieldAt(P:Program) [aO P](t:TypeId)(i:Nat):Option (TypeId×Nat×Nat):=
 match P.underlying t with
 |some (.struct fs)=>(fs[i]?).map fun f=>(f.type,f.offset,P.cellsOf f.type)
 |_=>none
theorem aI.field{l l' cs:List Value}{o s:Nat}(h:aI ρ l ((cs.drop o).take s))(h':aI ρ l' (cs.drop (o+s))):aI ρ (l++l') (cs.drop o):=by
 have:=h.append h'
 rwa [←List.drop_drop,List.take_append_drop]at this
theorem aI.one{v:Value}{l:List Value}(h:aI ρ v.cells.toList l)(hv:Value.cells v= #[v]):aI ρ [v] l:=by rw[hv]at h; exact h
theorem aI.end{cs:List Value}{o:Nat}(h:cs.length=o):aI ρ [] (cs.drop o):=by
 rw[List.drop_of_length_le (by omega)]; exact .nil
def oz:Value->Bool
 | .agg _=>true
 |_=>false
def Dz(P:Program) [aO P](t:TypeId):Bool:=
 match P.underlying t with
 |some (.struct _)|some (.array _ _)=>true
 |_=>false
theorem Og{r:Reach}{base:Nat}{t:TypeId}{v:Value}(h:Value.okWide P w r base t v):oz v=Dz P t:=by
 unfold Value.okWide at h
 unfold Dz
 split at h
 · obtain⟨cs,rfl,-⟩:=h; simp_all [oz]
 · obtain⟨cs,rfl,-⟩:=h; simp_all [oz]
 · rename_i h1 h2
   have:oz v=false:=by
     cases v with
     |agg l=>unfold Cell.okWide at h; split at h<;>simp_all [Cell.ok]
     |_=>rfl
   rw[this]
   split<;>simp_all
theorem aP.of_cells{av v:Value}(h:aI ρ av.cells.toList v.cells.toList)(hs:oz v=oz av):aP ρ av v:=by
 cases av with
 |agg l'=>
   cases v with
   |agg l=>have:=aP.agg _ _ h; simpa[Value.cells]using this
   |_=>simp[oz]at hs
 |_=>
   cases v with
   |agg l=>simp[oz]at hs
   |_=>cases h with|cons _ _ _ _ h _=>exact h
theorem PV{α T:Type}{enc:TypeId×Value->T}{t:TypeId}{ts:List TypeId}{R:ag->Value->α->Prop}{W:α->Prop}{vs:List Value}{ds:List (DataW T)}{ps:List MemPlace}
   (h:DataW.TrodAll enc P w 0 (fun _=>true) true (t::ts) vs ds ps) (hw:∀n∈DataW.weightsEach P (t::ts) ds,n<=reachBytes) (hE:jP P t R W) (hsh:∀H v a,R H v a->oz v=Dz P t) {r:Reach} {base:Nat} (hok:∀v,vs[0]?=some v->Value.okWide P w r base t v) (hr:Rel P ρ H w) (hF:jD ρ):
   ∃(v:Value)(vs':List Value)(d:DataW T)(ds':List (DataW T))(q:List MemPlace)(ρ':a_)(H':ag)(av:Value)(a:α),vs=v::vs'/\ds=d::ds'/\DataW.TrodAll enc P w 0 (fun _=>true) true ts vs' ds' q/\
     (∀n∈DataW.weightsEach P ts ds',n<=reachBytes)/\Rel P ρ' H' w/\jD ρ'/\Up ρ ρ'/\dJ H H'/\aP ρ' av v/\R H' av a/\W a:=by
 cases vs with
 |nil=>cases ds<;>exact h.elim
 |cons v vs=>
   cases ds with
   |nil=>exact h.elim
   |cons d ds=>
     obtain⟨p,q,⟨fuel,h1⟩,h2,rfl⟩:=h
     obtain⟨ρ',H',av,a,g1,g2,g3,g4,g5,g6,g7⟩:=hE enc w fuel _ _ h1 (fun n hn=>hw n (by simp only[DataW.weightsEach,List.mem_append]; exact .inl hn)) ρ H hr hF
     exact⟨v,vs,d,ds,q,ρ',H',av,a,rfl,rfl,h2,fun n hn=>hw n (by simp only[DataW.weightsEach,List.mem_append]; exact .inr hn),g1,g2,g3,g4,.of_cells g5 (by rw[hsh _ _ _ g6,Og (hok v rfl)]),g6,g7⟩
theorem Qs{args:Array Value}{i:Nat}{v:Value}(h:args.toList[i]?=some v):args[i]?=some v:=by simpa using h
theorem Ph{Pg:Program}{T:Type}{enc:TypeId×Value->T}{vs:List Value}{ds:List (DataW T)}{ps:List MemPlace}(h:DataW.TrodAll enc Pg w 0 (fun _=>true) true [] vs ds ps):vs=[]/\ds=[]:=by
 cases vs<;>cases ds<;>first|exact⟨rfl,rfl⟩|exact h.elim
end
end Go.Fw
/-
 Small rules for the generator.
-/
set_option linter.unusedVariables false
namespace Go.Fw
open Go
section
variable{P:Program} [aO P]{n:Nat}{f:Fr}{H:ag}{d:Option Tmp}{x y z:Operand}{T T' T'' E:TypeId}{ps:String}{af:Array Edge}{gd:Option (Nat×Bool)}
theorem mU{g:Bool}{s b:Nat}{zv:Value}(ht:TY P T s b zv)(hv:zv.cells.size=s)(hc:pR zv=true):mo P n ⟨d,.alloc T,T',ps,af,gd⟩ f (fun k=>.pointer (some ⟨k,0,some 0⟩)) ⟨[zv],T,true,g⟩:=by
 obtain⟨i,hi,-,-,hz⟩:=ht.inv
 exact PS hi hz ht.sz hv hc
theorem bz{g:Bool}{s b':Nat}{zv:Value}{len:Nat}{parts:List (Nat×Operand)}{vs:List Value}(hT:SL P T E)(ht:TY P E s b' zv)(hxs:fe n f (parts.map (·.2)) vs)
   (hidx:parts.map (·.1)=List.range' 0 parts.length) (hlen:len=parts.length) (hbig:Nat.ble (len*s) (2 ^ 24)=true) (hv:∀v∈vs,v.cells.size=s):
   mo P n ⟨d,.buildSlice T len parts.toArray,T',ps,af,gd⟩ f (fun k=>.slice (some ⟨k,0,none⟩) len 1) ⟨vs,E,true,g⟩:=by
 obtain⟨iE,ql,h1,h2,h3⟩:=ht.inv
 exact Nn hT ht.sz ql h3 hxs hidx hlen hbig hv
theorem f_{s t u:List UInt8}(hx:EV n f x (sv s))(hy:EV n f y (sv t))(h:bM s t=some u):bR P n ⟨d,.binOp .add T x y T',T'',ps,af,none⟩ f H (sv u):=by
 obtain⟨rfl,hl⟩:=fT h
 exact O7 hx hy hl
theorem xG{a b:Bool}(hT:P.underlying T=some .bool)(hx:EV n f x (.bool a))(hy:EV n f y (.bool b)):bR P n ⟨d,.binOp .eql T x y T',T'',ps,af,none⟩ f H (.bool (a==b)):=
 fun ρ w q _ hf=>⟨.bool (a==b),by simp[execOp,(hx.use hf).bool_inv,(hy.use hf).bool_inv,eqGuard,run_eql_bool w T a b hT],.bool _⟩
theorem iI{o:Oper}{base pre rest:List aj}{ι:Type}{val:ι->Value}{post:ι->List aj}(hs:dI base pre rest)(hx:XC P n o f pre val post):XC P n o f base val post:=by
 intro H hc ρ w a K' Q' hr hf hk
 have hc':=hc.take hs
 have hsub:∀k∈foot pre,k∈foot base:=by
   intro k hk
   have:=(hc'.own k (by simp only[foot,List.flatMap_append,List.mem_append]; exact .inl hk))
   rcases this.1 with h|h
   · exact h
   · omega
 refine hx H hc'.view ρ w a K' Q' hr hf fun f' ρ' H' a' w' h1 h2 h3 h4=>?_
 obtain⟨x,e,h5⟩:=h4
 refine hk f' ρ' H' a' w' h1 h2 h3 ⟨x,e,h5.len,h5.imm,fun k hk hn=>h5.agr k hk (fun h=>hn (hsub k h)),h5.hold,h5.nd,fun k hk=>⟨?_,(h5.own k hk).2⟩⟩
 exact (h5.own k hk).1.imp (hsub k) id
theorem I9{o:Oper}{base pre:List aj}{ι:Type}{val:ι->Value}{post:ι->List aj}(hp:base.Perm pre)(hx:XC P n o f pre val post):XC P n o f base val post:=by
 intro H hc ρ w a K' Q' hr hf hk
 have hm:∀k,k∈foot pre↔k∈foot base:=fun k=>(hp.flatMap_right aj.F).symm.mem_iff
 have hc2:Ctx H (foot pre) H pre:=by
   have h:=hc.perm hp
   exact⟨h.len,h.imm,fun _ _ _=>rfl,h.hold,h.nd,fun k hk=>⟨.inl hk,(h.own k hk).2⟩⟩
 refine hx H hc2 ρ w a K' Q' hr hf fun f' ρ' H' a' w' h1 h2 h3 h4=>?_
 obtain⟨x,e,h5⟩:=h4
 refine hk f' ρ' H' a' w' h1 h2 h3 ⟨x,e,h5.len,h5.imm,fun k hk hn=>h5.agr k hk (fun h=>hn ((hm k).1 h)),h5.hold,h5.nd,fun k hk=>⟨?_,(h5.own k hk).2⟩⟩
 exact (h5.own k hk).1.imp (hm k).1 id
theorem PW{o:Oper}{c c':aj}{pre:List aj}{ι:Type}{val:ι->Value}{post:ι->List aj}(hf:rP c c')(hl:∀x,mZ (post x))(hx:XC P n o f (pre++[c']) val post):XC P n o f (c::pre) val (fun x=>c::post x):=
 dW hf hl (I9 (List.perm_append_singleton c' pre).symm hx)
inductive uZ:List aj->List aj->List aj->Prop
 |nil {pre:List aj}:uZ [] pre pre
 |cons {c c':aj} {cs pre base:List aj} [xR c] (h:rP c c') (t:uZ cs (c'::pre) base):uZ (c::cs) pre base
theorem uZ.loc{cl pre base post:List aj}(h:uZ cl pre base)(hl:mZ post):mZ (cl++post):=by
 induction h with
 |nil=>exact hl
 |cons _ _ ih=>exact .cons ih
theorem mX{o:Oper}{cl pre base:List aj}{ι:Type}{val:ι->Value}{post:ι->List aj}(hf:uZ cl pre base)(hl:∀x,mZ (post x))(hx:XC P n o f base val post):XC P n o f (cl++pre) val (fun x=>cl++post x):=by
 induction hf with
 |nil=>exact hx
 |cons h t ih=>exact dW h (fun x=>t.loc (hl x)) (I9 List.perm_middle.symm (ih hx))
end
end Go.Fw
namespace Go.Fw
open Go
theorem Ctx.start(H:ag):Ctx H [] H []:=⟨Nat.le_refl _,dJ.refl _,fun _ _ _=>rfl,fun c hc=>by simp at hc,by simp,fun k hk=>by simp at hk⟩
end Go.Fw
/-
 Parts of elements of our own slices: loaded, stored, handed to a callee that turns them.
-/
set_option linter.unusedVariables false
namespace Go.Fw
open Go
theorem OH{ρ:a_}{c:Value}(h:aP ρ undef c):c=undef:=by
 generalize hx:undef=x at h
 cases h with
 |tuple a a' h=>
   have:a=[]:=by
     have e:(undef:Value)= .tuple #[]:=rfl
     rw[e]at hx
     injection hx with hx
     have:=congrArg Array.toList hx
     simpa using this.symm
   subst this
   cases h
   rfl
 |_=>simp[undef]at hx
theorem GY{n:Nat}{A:Array Oper}{f:Fr}{o:Oper}{j:Nat}{want:Bool}{t:Tmp}(h:o.guard=some (j,want))(hd:(A[j]?).bind (·.dst)=some t)(hv:f t=undef)(ht:Nat.blt t n=true):Wanted n A f o false:=by
 intro ρ a hf
 have hlt:t<n:=by simpa[Nat.blt_eq]using ht
 have hr:=hf.get t hlt
 rw[hv]at hr
 have hlt':t<a.tmps.size:=by rw[hf.size]; exact hlt
 have hg:a.tmps[t]?=some (a.tmps.getD t undef):=by
   simp[Array.getD_eq_getD_getElem?,hlt']
 rw[OH hr]at hg
 simp[Region.wanted,h,yielded,hd,hg,undef]
section
variable{P:Program} [aO P]{n:Nat}{H0:ag}{F0:List Nat}{f:Fr}{cs:List aj}{A:Array Oper}{r:List Oper}{K:Fr->List aj->Prop}{d:Option Tmp}{op:Op}{T T' E:TypeId}{ps:String}{af:Array Edge}{gd:Option (Nat×Bool)}{x y:Operand}
variable{l:List Oper}{tb az todo:List Nat}{fl:List (Nat×List Nat)}{i:Nat}
theorem Qt{j:Nat}{t:Tmp}{b:Bool}(hd:(A[j]?).bind (·.dst)=some t)(hv:f t=undef)(ht:Nat.blt t n=true)(h:aD P n H0 F0 A r (put f d undef) cs K):
   aD P n H0 F0 A (⟨d,op,T,ps,af,some (j,b)⟩::r) f cs K:=fun H hc=>H5 (GY rfl hd hv ht) (h H hc)
theorem Qu(t:Tmp){j:Nat}{b:Bool}(ho:l[i]?=some ⟨d,op,T,ps,af,some (j,b)⟩)(h1:(l[j]?).bind (·.dst)=some t)(h2:f t=undef)(h3:Nat.blt t n=true)(h:DC P n l tb az H0 F0 K todo fl (put f d undef) cs):
   DC P n l tb az H0 F0 K (i::todo) fl f cs:=
 fun H hc=>.flt (Ks:=[]) ho (.inr ⟨rfl,fun f' ha=>by
   have hv:f' t=undef:=(ha t (B_ h1)).trans h2
   exact GY (o:=⟨d,op,T,ps,af,some (j,b)⟩) rfl (by simpa using h1) hv h3⟩) ((h H hc).cov fun p hp=>by
   rcases List.mem_cons.1 hp with h|h
   · exact .inr (by rw[h])
   · exact .inl h)
variable{α β:Type}{Ro:dX α}{Rf:dX β}
structure Part(Ro:dX α)(off:Nat)(Rf:dX β)(get:α->β)(set:α->β->α):Prop where
 split:∀{F:List Nat}{H:ag}{e:Value}{a:α},Ro F H e a-> ∃(w:Sv)(Fa Fw Fb:List Nat),e.cells.toList[off]?=some w.v/\F=Fa++Fw++Fb/\Rf Fw H w.v (get a)/\
   ∀{H':ag}{KW:List Nat}{d':β},dJ H H'->(∀k,k∈Fa\/k∈Fb->H'[k]?=H[k]?)->Rf KW H' w.v d'->Ro (Fa++KW++Fb) H' e (set a d')
def Tw(E:TypeId)(Ro:dX α)(i off:Nat)(w:Value):dX (List α):=fun F H v xs=>aH E Ro F H v xs/\ ∃k b e,F.head?=some k/\iM v=some k/\H[k]?=some (some b)/\b.elems[i]?=some e/\e.cells.toList[off]?=some w
instance{i off:Nat}{w:Value} [eu Ro]:eu (Tw E Ro i off w):=⟨fun{F H H' v a} h hi hk=>by
 obtain⟨h1,k,b,e,h0,h2,h3,h4,h5⟩:=h
 refine⟨eu.keep h1 hi hk,k,b,e,h0,h2,(hk k ?_).trans h3,h4,h5⟩
 cases F with
 |nil=>simp at h0
 |cons q F=>simp at h0; subst h0; simp⟩
theorem aH.head{F:List Nat}{H:ag}{v:Value}{xs:List α}{k:Nat}(h:aH E Ro F H v xs)(hk:iM v=some k):F.head?=some k/\ ∃m b G,v= .slice (some ⟨k,0,none⟩) xs.length m/\(m=1\/m=2)/\H[k]?=some (some b)/\b.wr=true/\b.own=true/\b.ty=E/\xs.length<4611686018427387904/\F=k::G/\di Ro H b.elems xs G:=by
 rcases h with⟨rfl,-,-⟩|⟨k',m,b,G,rfl,h2,h3,h4,h5,h6,h7,rfl,h9⟩
 · simp[iM]at hk
 · have e:k'=k:=by simpa[iM]using hk
   subst e
   exact⟨rfl,m,b,G,rfl,h2,h3,h4,h5,h6,h7,rfl,h9⟩
theorem ku{H:ag}{k s:Nat}{ow w:Bool}{TB:TypeId}{l:List Value}{f:Fr}(hA:AG P T true)(hs:SZ P T s)(h0:Nat.blt 0 s=true)(hx:EV n f x (.pointer (some ⟨k,0,some 0⟩)))(hk:H[k]?=some (some ⟨[.agg l.toArray],TB,ow,w⟩))(hl:l.length=s):
   bR P n ⟨d,.load T x,T',ps,af,none⟩ f H (.agg l.toArray):=
 Aa (e:=.agg l.toArray) hA hs hx hk rfl (by simpa[Nat.blt_eq]using h0) (by simp[Value.cells,hl]) (by subst hl; simp[Value.cells])
theorem NG{E:TypeId}{R:ag->Value->α->Prop}{v:Value}{xs:List α}{H:ag}(h:bf E R H v xs):∃a m,v= .slice a xs.length m/\(a=none->xs=[]):=by
 rcases h with⟨rfl,rfl⟩|⟨k,i,m,b,rfl,-⟩|⟨k,i,m,rfl,rfl⟩
 · exact⟨none,0,rfl,fun _=>rfl⟩
 · exact⟨_,m,rfl,fun h=>by simp at h⟩
 · exact⟨_,m,rfl,fun h=>by simp at h⟩
theorem Pi{E:TypeId}{R:ag->Value->α->Prop} [bP R]{v:Value}{xs:List α}(H:ag)(h:(bS (bf E R) v xs).P H):∃a m,v= .slice a xs.length m/\(a=none->xs=[]):=NG (R:=R) h
variable{T'':TypeId}
theorem PX{H:ag}{a:Option Addr}{n' m:Nat}{f:Fr}(hT:SL P T E)(hx:EV n f x (.slice a n' m)):bR P n ⟨d,.binOp .eql T x (.const (.slice none 0 0)) T',T'',ps,af,none⟩ f H (.bool a.isNone):=by
 intro ρ w q hr hf
 have hu:P.underlying T=some (.slice E):=hT
 have hv:=hx.use hf
 have key:∃a' c,q.eval x= .slice a' n' c/\a'.isNone=a.isNone:=by
   generalize q.eval x=cv at hv
   cases hv with
   |nilSlice=>exact⟨none,0,rfl,rfl⟩
   |slice k i n m L p cap=>exact⟨some p,cap,rfl,rfl⟩
   |sliceDead k i n m p cap=>exact⟨some p,cap,rfl,rfl⟩
 obtain⟨a',c,he,hi⟩:=key
 refine⟨.bool a'.isNone,?_,by rw[hi]; exact .bool _⟩
 have hc:Act.eval q (.const (.slice none 0 0))= .slice none 0 0:=rfl
 simp[execOp,he,hc,eqGuard,Lib.run_eql_slice_nil w T E a' n' c 0 0 hu]
theorem PY{v:Value}{xs:List α}{c:aj}(hT:SL P T E)(hx:EV n f x v)(hm:Mem c cs)(hc:∀H,c.P H-> ∃a m,v= .slice a xs.length m/\(a=none->xs=[]))(h:∀b:Bool,(b=true->xs=[])->aD P n H0 F0 A r (put f d (.bool b)) cs K):
   aD P n H0 F0 A (⟨d,.binOp .eql T x (.const (.slice none 0 0)) T',T'',ps,af,none⟩::r) f cs K:=by
 intro H df
 obtain⟨a,m,rfl,ha⟩:=hc H (df.mem hm)
 exact pJ (PX hT hx) (h a.isNone (fun e=>ha (by simpa using e)) H df)
def IK(P:Program) [aO P](t:TypeId)(k:IntKind):Prop:=P.underlying t=some (.int k)
theorem Cr{H:ag}{S D:TypeId}{k1 k2:IntKind}{i:Int}(hS:IK P S k1)(hD:IK P D k2)(hx:EV n f x (.int k1 i)):bR P n ⟨d,.convert S D x,T',ps,af,none⟩ f H (.int k2 (k2.wrap i)):=by
 intro ρ w q hr hf
 have hS':P.underlying S=some (.int k1):=hS
 have hD':P.underlying D=some (.int k2):=hD
 exact⟨_,by simp[execOp,(hx.use hf).int_inv,convert,underlying,hS',hD',Conv.intToInt],.int _ _⟩
def dO(i:Int):UInt8:=UInt8.ofNat (IntKind.u8.wrap i).toNat
theorem PZ(i:Int):((dO i).toNat:Int)=IntKind.u8.wrap i:=by
 have h:IntKind.u8.wrap i=i % 256:=by simp[IntKind.wrap,IntKind.bits,IntKind.signed]
 unfold dO
 rw[h]
 have h1:0<=i % 256:=Int.emod_nonneg _ (by decide)
 have h2:i % 256<256:=Int.emod_lt_of_pos _ (by decide)
 simp[UInt8.toNat_ofNat']
 omega
theorem pK{H:ag}{S D:TypeId}{k1:IntKind}{i:Int}(hS:IK P S k1)(hD:IK P D .u8)(hx:EV n f x (.int k1 i)):bR P n ⟨d,.convert S D x,T',ps,af,none⟩ f H (.int .u8 ((dO i).toNat:Int)):=by
 rw[PZ]; exact Cr hS hD hx
theorem ww{H:ag}{S D:TypeId}{u:UInt8}(hS:IK P S .u8)(hD:IK P D .i64)(hx:EV n f x (.int .u8 (u.toNat:Int))):bR P n ⟨d,.convert S D x,T',ps,af,none⟩ f H (.int .i64 (u.toNat:Int)):=by
 have:(IntKind.i64.wrap (u.toNat:Int))=u.toNat:=dD (by omega) (by have:=u.toNat_lt; omega)
 have h:=Cr (H:=H) (n:=n) (f:=f) (d:=d) (T':=T') (ps:=ps) (af:=af) hS hD hx
 rwa [this]at h
end
end Go.Fw
/-
 Plain laws on the helpers that laws use: copies, sizes, comparisons.
-/
namespace Go.Fw
open Go
theorem kv{b:Bool}(h:b=true):fP b=some ():=by simp[fP,h]
theorem jv{α:Type}(l:List α)(k:Nat):ix l (k:Int)=l[k]?:=by simp[ix]
theorem Pj{n:Nat}(h:n<9223372036854775808):IntKind.i64.wrap (n:Int)=n:=dD (by omega) (by omega)
theorem Pk{α:Type}{l:List α}{k:Nat}{x:α}{r:List α}(h:l.drop k=x::r):l[k]?=some x/\l.drop (k+1)=r:=by
 have hlt:k<l.length:=by
   rcases Nat.lt_or_ge k l.length with h'|h'
   · exact h'
   · rw[List.drop_of_length_le h']at h; simp at h
 rw[List.drop_eq_getElem_cons hlt]at h
 injection h with h1 h2
 exact⟨by rw[List.getElem?_eq_getElem hlt,h1],h2⟩
def fB{α:Type}(p:α->Prop)(a:List α):Prop:=a.length<4294967296/\ ∀x∈a,p x
def Ay{α:Type}(_:α):Prop:=True
theorem Cy{α:Type}(a:List α)(ha:a.length<4294967296):fB Ay a:=⟨ha,fun _ _=>trivial⟩
theorem CL{α:Type}{p:α->Prop}:fB p []:=⟨by simp,by simp⟩
theorem Ad{α:Type}{xs:List α}(h:xs.length<4294967296):app [] xs=some xs:=by unfold app; rw[if_pos (by simpa using h)]; rfl
theorem jU{α:Type}{xs ys:List α}(h:xs.length+ys.length<4294967296):app xs ys=some (xs++ys):=by unfold app; rw[if_pos h]
def ik{α:Type}(p:α->Bool):List α->Nat->Int
 |[],_=>-1
 |x::r,k=>if p x then (k:Int)else ik p r (k+1)
theorem I_{α:Type}{p:α->Bool}:∀(l:List α)(k:Nat),decide ((0:Int)<=ik p l k)=l.any p
 |[],k=>by simp[ik]
 |x::r,k=>by
   rw[ik,List.any_cons]
   by_cases h:p x=true
   · rw[if_pos h,h]; simp
   · rw[if_neg h,I_ r (k+1)]; simp[h]
theorem Cj{α:Type}{L:List α->Nat->Option Int}{f:α->Option Bool}{p:α->Bool}(h0:∀k,L [] k=some (-1))(h1:∀x r k,L (x::r) k=(f x).bind fun b=>if b then some (k:Int)else L r (k+1)):
   ∀(l:List α)(k:Nat),(∀x∈l,f x=some (p x))->L l k=some (ik p l k)
 |[],k,_=>h0 k
 |x::r,k,hf=>by
   rw[h1,hf x (by simp),Option.bind_some,ik]
   split
   · rfl
   · exact Cj h0 h1 r (k+1) fun y hy=>hf y (by simp[hy])
theorem IC{α:Type}{L:List α->Nat->Option Bool}{f:α->Option Bool}{p:α->Bool}{e:Bool}(h0:∀k,L [] k=some e)(h1:∀x r k,L (x::r) k=(f x).bind fun b=>if (!b)then some false else L r (k+1)):
   ∀(l:List α)(k:Nat),(∀x∈l,f x=some (p x))->L l k=some (l.all p&&e)
 |[],k,_=>by simp[h0]
 |x::r,k,hf=>by
   rw[h1,hf x (by simp),Option.bind_some,List.all_cons]
   cases h:p x
   · simp
   · simp[IC h0 h1 r (k+1) fun y hy=>hf y (by simp[hy])]
def gy{α:Type}(p:α->α->Bool):List α->List α->Bool
 |[],[]=>true
 |x::a,y::b=>p x y&&gy p a b
 |_,_=>false
theorem Ja{α:Type}{p:α->α->Bool}:∀{a b:List α},a.length≠b.length->gy p a b=false
 |[],[],h=>by simp at h
 |x::a,y::b,h=>by rw[gy,Ja (a:=a) (b:=b) (by simpa using h),Bool.and_false]
 |[],_::_,_=>rfl
 |_::_,[],_=>rfl
theorem IE{α:Type}{L:List α->Nat->Option Bool}{f:α->α->Option Bool}{p:α->α->Bool}{b:List α}{e:Bool}(h0:∀k,L [] k=some e)(h1:∀x r k y,b[k]?=some y->L (x::r) k=(f x y).bind fun c=>if (!c)then some false else L r (k+1)):
   ∀(l:List α)(k:Nat),l.length=(b.drop k).length->(∀x∈l,∀y∈b,f x y=some (p x y))->L l k=some (gy p l (b.drop k)&&e)
 |[],k,hl,_=>by
   have:b.drop k=[]:=List.length_eq_zero_iff.1 hl.symm
   rw[h0,this]; rfl
 |x::r,k,hl,hf=>by
   cases hd:b.drop k with
   |nil=>rw[hd]at hl; simp at hl
   |cons y t=>
     obtain⟨e1,e2⟩:=Pk hd
     have hy:y∈b:=List.mem_of_getElem? e1
     rw[h1 x r k y e1,hf x (by simp) y hy,Option.bind_some,gy]
     cases hp:p x y
     · rfl
     · rw[hd]at hl
       simp only[Bool.not_true,Bool.false_eq_true,if_false,Bool.true_and]
       rw[IE h0 h1 r (k+1) (by rw[e2]; simpa using hl) fun x' hx'=>hf x' (by simp[hx']),e2]
theorem w_{α:Type}{S:List α->List α->Option Bool}{L:List α->List α->Nat->Option Bool}{f:α->α->Option Bool}{p:α->α->Bool}(hS:∀a b,S a b=if (((a.length:Int):Int)!=(b.length:Int))then some false else L b a 0)(h0:∀b k,L b [] k=some true)
   (h1:∀b x r k y,b[k]?=some y->L b (x::r) k=(f x y).bind fun c=>if (!c)then some false else L b r (k+1)) (a b:List α) (hf:∀x∈a,∀y∈b,f x y=some (p x y)):S a b=some (gy p a b):=by
 rw[hS]
 by_cases h:a.length=b.length
 · rw[if_neg (by simp[h]),IE (L:=L b) (h0 b) (h1 b) a 0 (by simpa using h) hf]
   simp
 · rw[if_pos (by simpa[Int.natCast_inj]using h),Ja h]
def l8(x y:Int):Int:=if x<y then -1 else if y<x then 1 else 0
def cmpL:List Int->List Int->Int
 |[],[]=>0
 |[],_::_=>-1
 |_::_,[]=>1
 |x::a,y::b=>if l8 x y !=0 then l8 x y else cmpL a b
theorem G9{α:Type}{P:α->Prop}{p:α->Bool}{L:List α->Nat->List α->Option (List α)}(h0:∀k c,L [] k c=some c)(h1:∀x r k c,P x->c.length+1<4294967296->L (x::r) k c=L r (k+1) (if p x then c++[x]else c)):
   ∀(l:List α)(k:Nat)(c:List α),(∀x∈l,P x)->c.length+l.length<4294967296->L l k c=some (c++l.filter p)
 |[],k,c,_,_=>by simp[h0]
 |x::r,k,c,hp,hl=>by
   simp only[List.length_cons]at hl
   rw[h1 x r k c (hp x (by simp)) (by omega),G9 h0 h1 r (k+1) _ (fun y hy=>hp y (by simp[hy])) (by split<;>(try simp only[List.length_append,List.length_cons,List.length_nil])<;>omega),List.filter_cons]
   split<;>simp
theorem IG{α β:Type}{P:α->Prop}{g:α->β}{L:List α->Nat->List β->Option (List β)}(h0:∀k c,L [] k c=some c)(h1:∀x r k c,P x->c.length+1<4294967296->L (x::r) k c=L r (k+1) (c++[g x])):
   ∀(l:List α)(k:Nat)(c:List β),(∀x∈l,P x)->c.length+l.length<4294967296->L l k c=some (c++l.map g)
 |[],k,c,_,_=>by simp[h0]
 |x::r,k,c,hp,hl=>by
   simp only[List.length_cons]at hl
   rw[h1 x r k c (hp x (by simp)) (by omega),IG h0 h1 r (k+1) _ (fun y hy=>hp y (by simp[hy])) (by simp; omega)]
   simp
theorem Pm{α:Type}{P:α->Prop}{L:List α->Nat->List α->Option (List α)}(h0:∀k c,L [] k c=some c)(h1:∀x r k c,P x->c.length+1<4294967296->L (x::r) k c=L r (k+1) (c++[x]))(l:List α)(h:fB P l):L l 0 []=some l:=by
 have:=IG (g:=fun x=>x) h0 h1 l 0 [] h.2 (by simpa using h.1)
 simpa using this
theorem app1{α:Type}{c:List α}{x:α}(h:c.length+1<4294967296):app c [x]=some (c++[x]):=jU (by simpa using h)
def iT(lo hi n:Int):Bool:=decide (lo<=n)&&decide (n<=hi)
end Go.Fw
/-
 Slice expressions on our own slices; clear; elements that keep their identity; a function that only moves elements, over deep data.
-/
set_option linter.unusedVariables false
namespace Go.Fw
open Go
theorem OI{z:Value}(hz:pR z=true)(h0:z.cells.toList.all scal=true)(n:Nat)(hs:0<z.cells.size):∀u∈(Builtin.zeroCells z.cells n).toList,scal u=true:=by
 intro u hu
 simp only[Builtin.zeroCells,Array.toList_map,List.mem_map,Array.toList_range,List.mem_range]at hu
 obtain⟨i,-,rfl⟩:=hu
 have hlt:i % z.cells.size<z.cells.size:=Nat.mod_lt _ hs
 rw[getElem!_pos z.cells (i % z.cells.size) hlt]
 exact List.all_eq_true.1 h0 _ (by simp)
theorem Pn(z:Array Value)(n:Nat):(Builtin.zeroCells z n).toList.length=n*z.size:=by simp[Builtin.zeroCells]
section
variable{P:Program} [aO P]{n:Nat}{f:Fr}{H0:ag}{F0:List Nat}{cs:List aj}{A:Array Oper}{r:List Oper}{K:Fr->List aj->Prop}{d:Option Tmp}{x y z:Operand}{T T' E:TypeId}{ps:String}{af:Array Edge}{gd:Option (Nat×Bool)}
variable{α:Type}{R:ag->Value->α->Prop}{xs:List α}{v:Value}
theorem OJ{H:ag}{k m l s:Nat}{b:cO}{kk:IntKind}{i:Int}(hT:SL P T E)(hs:SZ P E s)(hx:EV n f x (.slice (some ⟨k,0,none⟩) l m))(hy:EV n f y (.int kk i))(hk:H[k]?=some (some b))(hbt:b.ty=E)(h0:0<=i)(hi:i<=(l:Int)):
   bR P n ⟨d,.slice T x (some y) none none,T',ps,af,none⟩ f H (.slice (some ⟨k,i.toNat,none⟩) (l-i.toNat) 0):=by
 intro ρ w a hr hf
 obtain⟨L,p,cap,hl,hb,hc,hcap,h1,h2,hp⟩:=(hx.use hf).slice_inv hr hk
 have hyv:a.eval y= .int kk i:=(hy.use hf).int_inv
 have hu:P.underlying T=some (.slice E):=hT
 have he:P.elem T=E:=by simp[Program.elem,hu]
 have hu2:P.underlying T=some (.slice (P.elem T)):=by rw[he]; exact hu
 have DD:L.sz=s:=by rw[←hb.sz,hbt,hs.cells]
 refine⟨sliced (some p) i.toNat l cap s,?_,?_⟩
 · have hrun:=run_slice_l (P:=P) w T (some p) l cap hu2 kk i h0 hi
   rw[he,hs.run,Result.andThen]at hrun
   have h2':=run_sliceAt_slice (P:=P) w T (.slice (some p) l cap) (some (.int kk i)) none none hu2
   simp[execOp,hc,hyv,h2',hrun]
 · have hform:∃q:Addr,sliced (some p) i.toNat l cap s= .slice (some q) (l-i.toNat) (cap-i.toNat)/\(l-i.toNat≠0->q=p.add (i.toNat*s)):=by
     unfold sliced
     by_cases e:cap=i.toNat
     · exact⟨p,by rw[if_pos e],fun h=>by omega⟩
     · exact⟨p.add (i.toNat*s),by rw[if_neg e]; rfl,fun _=>rfl⟩
   obtain⟨q,hq,hqe⟩:=hform
   rw[hq]
   refine aP.slice k i.toNat _ 0 L q _ hl (by omega) (by simp) (by simp) (fun hn=>⟨?_,fun ho=>?_⟩)
   · rw[hqe hn,hp (by omega),addr_add,DD]
     simp
   · obtain⟨L',hl',hx'⟩:=(hx.use hf).slice_ext hr hk (by omega)
     rw[hl]at hl'
     obtain rfl:L=L':=by simpa using hl'
     have:=hx' ho
     omega
theorem OL{H:ag}{k m l s:Nat}{b:cO}{kk:IntKind}{i:Int}(hT:SL P T E)(hs:SZ P E s)(hx:EV n f x (.slice (some ⟨k,0,none⟩) l m))(hm:m=1\/m=2)(hy:EV n f y (.int kk i))(hk:H[k]?=some (some b))(ho:b.own=true)(h0:0<=i)(hi:i<=(l:Int))(hl0:l≠0):
   bR P n ⟨d,.slice T x none (some y) none,T',ps,af,none⟩ f H (.slice (some ⟨k,0,none⟩) i.toNat 2):=by
 intro ρ w a hr hf
 obtain⟨L,p,cap,hl,hb,hc,hcap,h1,h2,hp⟩:=(hx.use hf).slice_inv hr hk
 have hyv:a.eval y= .int kk i:=(hy.use hf).int_inv
 have hu:P.underlying T=some (.slice E):=hT
 have he:P.elem T=E:=by simp[Program.elem,hu]
 have hu2:P.underlying T=some (.slice (P.elem T)):=by rw[he]; exact hu
 have hown:L.own=true:=by rw[←hb.own]; exact ho
 obtain⟨cs0,ct,fr,-,-,hr2⟩:=hb.cells
 obtain⟨hoff,-⟩:=hr2 hown
 refine⟨sliced (some p) 0 i.toNat cap s,?_,?_⟩
 · have hrun:=run_slice_h (P:=P) w T (some p) l cap hu2 kk i h0 (by omega)
   rw[he,hs.run,Result.andThen]at hrun
   have h2':=run_sliceAt_slice (P:=P) w T (.slice (some p) l cap) none (some (.int kk i)) none hu2
   simp[execOp,hc,hyv,h2',hrun]
 · have hq:sliced (some p) 0 i.toNat cap s= .slice (some p) i.toNat cap:=by
     unfold sliced
     rw[if_neg (by omega)]
     simp[Addr.add]
   rw[hq]
   have mq:=hp hl0
   rw[Nat.zero_mul,Nat.add_zero]at mq
   have V4:cap<=L.cap:=by
     rcases hm with rfl|rfl
     · have:=h1 rfl; omega
     · exact (h2 (Nat.le_refl _)).2.2.1
   exact aP.slice k 0 _ 2 L p _ hl (by omega) (by simp) (fun _=>⟨rfl,hown,V4,mq,by omega⟩) (fun _=>⟨by rw[mq]; simp,fun _=>by omega⟩)
theorem Po{R:ag->Value->α->Prop} [bP R]{H H':ag}(hi:dJ H H'){es:List Value}{ys:List α}{G:List Nat}(h:di (ay R) H es ys G):∀i,di (ay R) H' (es.take i) (ys.take i) []:=by
 induction h with
 |nil=>intro i; simpa using di.nil
 |cons h _ ih=>
   intro i
   cases i with
   |zero=>simpa using di.nil
   |succ i=>
     have:=di.cons (Ro:=ay R) (F:=[]) (G:=[]) ⟨rfl,bP.up h.2 hi⟩ (ih i)
     simpa using this
theorem P5 [bP R]{F:List Nat}{k l m j i s by':Nat}{zv:Value}{ts:List TypeId}(hT:SL P T E)(ht:TY P E s by' zv)(V5:Nat.blt 0 s=true)(hzs:zv.cells.size=s)(hzc:pR zv=true)(hzl:zv.cells.toList.all scal=true)
   (hl:l=xs.length) (hj:i+j=l) (hx:EV n f x (.slice (some ⟨k,i,none⟩) j 0)):
   XC P n ⟨d,.call ⟨.builtin .clear,[x].toArray,(T::ts).toArray⟩,T',ps,af,gd⟩ f [aS (aH E (ay R)) F (.slice (some ⟨k,0,none⟩) l m) xs] (fun _:Unit=>undef)
     (fun _=>[aS (aH E (ay R)) F (.slice (some ⟨k,0,none⟩) i 2) (xs.take i)]):=by
 intro H df
 have h0:0<s:=by simpa[Nat.blt_eq]using V5
 have ho:aH E (ay R) F H (.slice (some ⟨k,0,none⟩) l m) xs:=df.hold _ (List.mem_singleton.2 rfl)
 obtain⟨hh,m',b,G,hv,h2,h3,h4,h5,h6,h7,rfl,h9⟩:=ho.head (k:=k) rfl
 subst hl
 have hlen:=h9.length
 have Tx:P.cellsOf E=s:=ht.sz.cells
 intro ρ w a K' Q' hr hf hkk
 obtain⟨L,p,cap,hl,hbr,hc,hcap,g1,g2,gp⟩:=(hx.use hf).slice_inv hr h3
 have hown:L.own=true:=by rw[←hbr.own]; exact h5
 obtain⟨cs,ct,fr,kJ,hel,hr2⟩:=hbr.cells
 obtain⟨hoff,ng,hlenL,hfr,rfl⟩:=hr2 hown
 have jh:L.sz=s:=by rw[←hbr.sz,h6,Tx]
 have hu:P.underlying T=some (.slice E):=hT
 obtain⟨it,hit,e1,e2,e3⟩:=ht.inv
 have xA:∀w:World,(zeroValue E).run P w= .ok zv w:=fun w=>by simp[zeroValue,typeInfo,hit,e3]
 have Kn:i*s+j*s<=cs.size:=by
   have h1:(i+j)*s<=L.cap*L.sz:=by rw[jh]; exact Nat.mul_le_mul_right _ (by omega)
   rw[Nat.add_mul]at h1; omega
 have hend:∀w':World,(w'.heap=w.heap\/ ∃vs:List Value,vs.length=j*s/\w'.heap=w.heap.setIfInBounds L.blk (.cells (splice cs.toList (i*s) vs).toArray b.ty fr))->w'.os=w.os->w'.output=w.output->w'.tape=w.tape->
     Rel P ρ (H.set k (some ⟨b.elems.take i,b.ty,true,b.wr⟩)) w'/\Step ρ H w ρ (H.set k (some ⟨b.elems.take i,b.ty,true,b.wr⟩)) w':=by
   intro w' hw' w1 w2 w3
   have hw'':∃cs':Array Value,w'.heap=w.heap.setIfInBounds L.blk (.cells cs' b.ty fr)/\cs'.size=cs.size/\ ∀q,q+s<=i*s->(cs'.toList.drop q).take s=(cs.toList.drop q).take s:=by
     rcases hw' with hw'|⟨vs,hvl,hw'⟩
     · refine⟨cs,?_,rfl,fun _ _=>rfl⟩
       rw[hw']
       have hlt:=hr.lt hl
       apply Array.ext_getElem?
       intro q
       by_cases hq:L.blk=q
       · subst hq; rw[Array.getElem?_setIfInBounds_self_of_lt hlt]; exact kJ
       · rw[Array.getElem?_setIfInBounds_ne hq]
     · refine⟨_,hw',?_,fun q hq=>?_⟩
       · simp only[List.size_toArray]; rw[ui _ _ _ (by rw[hvl]; simpa using Kn)]; simp
       · exact Cf _ _ _ _ _ (.inl hq) (by rw[hvl]; simpa using Kn)
   obtain⟨cs',hh',hsz',hsame⟩:=hw''
   refine⟨hr.write (b':=⟨b.elems.take i,b.ty,true,b.wr⟩) hl hown hh' rfl rfl hbr.sz ?_ ⟨hoff,by rw[hsz']; exact ng,by simp only[List.length_take]; omega,by rw[hsz']; exact hfr⟩,Step.write hl hown hh' w1 w2 w3⟩
   intro q e he
   have hqi:q<i:=by
     rcases Nat.lt_or_ge q i with h|h
     · exact h
     · rw[List.getElem?_eq_none (by simp; omega)]at he; simp at he
   rw[List.getElem?_take_of_lt hqi]at he
   have:=hel q e he
   refine⟨this.1,?_⟩
   rw[hoff,Nat.zero_add,jh]at this ⊢
   rw[hsame (q*s) (by rw[←Nat.succ_mul]; exact Nat.mul_le_mul_right _ hqi)]
   exact this.2
 have hpost:Ctx H (foot [aS (aH E (ay R)) (k::G) (.slice (some ⟨k,0,none⟩) xs.length m) xs]) (H.set k (some ⟨b.elems.take i,b.ty,true,b.wr⟩)) [aS (aH E (ay R)) (k::G) (.slice (some ⟨k,0,none⟩) i 2) (xs.take i)]:=by
   have hnd:=df.nd
   have hG:G=[]:=by
     have:∀{es:List Value}{ys:List α}{G:List Nat},di (ay R) H es ys G->G=[]:=by
       intro es ys G h
       induction h with
       |nil=>rfl
       |cons h _ ih=>rw[ih,h.1]; rfl
     exact this h9
   subst hG
   have hne:∀q,q≠k->(H.set k (some ⟨b.elems.take i,b.ty,true,b.wr⟩))[q]?=H[q]?:=fun q hq=>by rw[List.getElem?_set_ne (fun e=>hq e.symm)]
   have kC:dJ H (H.set k (some ⟨b.elems.take i,b.ty,true,b.wr⟩)):=by
     intro q b2 hq hw2
     rw[hne q (fun e=>by
       subst e; rw[hq]at h3
       injection h3 with h3; injection h3 with h3
       rw[h3]at hw2; rw[hw2]at h4; simp at h4)]
     exact hq
   refine⟨by simp,kC,fun q hq yN=>hne q (fun e=>yN (by subst e; simp[foot,aS])),?_,by simp[foot,aS],fun q hq=>⟨.inl (by simpa[foot,aS]using hq),by simpa[foot,aS]using (df.own q (by simpa[foot,aS]using hq)).2⟩⟩
   intro c hcm
   simp at hcm; subst hcm
   refine .inr ⟨k,2,_,[],by rw[List.length_take,Nat.min_eq_left (by omega)],.inr rfl,List.getElem?_set_self (jo h3),h4,rfl,h6,by simp only[List.length_take]; omega,rfl,?_⟩
   exact Po kC h9 i
 by_cases hj0:j=0
 · subst hj0
   have hex:(execOp a.eval ⟨d,.call ⟨.builtin .clear,[x].toArray,(T::ts).toArray⟩,T',ps,af,gd⟩).run P w= .ok (.value undef) w:=by
     simp[execOp,resolve,invoke,builtin,Builtin.clear_,hc,underlying,hu,undef]
   show Oper.upon P _ a K' Q' _
   rw[hex]
   obtain⟨r1,r2⟩:=hend w (.inl rfl) rfl rfl rfl
   exact hkk _ _ _ _ _ (hf.put d (aP.undef ρ)) r1 r2 ⟨(),rfl,hpost⟩
 · have hp:=gp hj0
   have hvl:=Pn zv.cells j
   obtain⟨w',hrun,hw',w1,w2,w3⟩:=BR P (b:=L.blk) (o:=i*s) (Builtin.zeroCells zv.cells j).toList 0 cs w kJ (fun o h=>hfr o (Nat.le_of_lt h)) (OI hzc hzl j (by rw[hzs]; exact h0)) (by rw[hvl,hzs]; omega)
   have hex:(execOp a.eval ⟨d,.call ⟨.builtin .clear,[x].toArray,(T::ts).toArray⟩,T',ps,af,gd⟩).run P w= .ok (.value undef) w':=by
     obtain⟨j',rfl⟩:∃q,j=q+1:=⟨j-1,by omega⟩
     have hp':p=⟨L.blk,i*s,none⟩:=by rw[hp,hoff,Nat.zero_add,jh]
     simp[execOp,resolve,invoke,builtin,Builtin.clear_,hc,underlying,hu,undef,xA,hp',hrun]
   show Oper.upon P _ a K' Q' _
   rw[hex]
   obtain⟨r1,r2⟩:=hend w' (.inr ⟨_,by rw[hvl,hzs],by rw[hw',Nat.add_zero]⟩) w1 w2 w3
   exact hkk _ _ _ _ _ (hf.put d (aP.undef ρ)) r1 r2 ⟨(),rfl,hpost⟩
end
def rq{α:Type}(R:ag->Value->α->Prop)(H:ag)(e:Value)(q:Value×α):Prop:=e=q.1/\R H e q.2
instance{α:Type}{R:ag->Value->α->Prop} [bP R]:bP (rq R):=⟨fun h hi=>⟨h.1,bP.up h.2 hi⟩⟩
instance{α:Type}{R:ag->Value->α->Prop}{s:Nat} [Cells R s]:Cells (rq R) s:=⟨fun h=>Cells.cells h.2⟩
def yO{α:Type}(_:ag)(e:Value)(q:Value×α):Prop:=e=q.1
instance{α:Type}:Pure (yO (α:=α)):=⟨fun h=>h⟩
section
variable{α:Type}{R:ag->Value->α->Prop}{Ro:dX α}{E:TypeId}
theorem di.map{β:Type}{R1 R2:dX β}{H:ag}(hm:∀F e a,R1 F H e a->R2 F H e a){es:List Value}{xs:List β}{G:List Nat}(h:di R1 H es xs G):di R2 H es xs G:=by
 induction h with
 |nil=>exact .nil
 |cons h _ ih=>exact .cons (hm _ _ _ h) ih
theorem aH.map{β:Type}{R1 R2:dX β}{F:List Nat}{H:ag}{v:Value}{xs:List β}(hm:∀F e a,R1 F H e a->R2 F H e a)(h:aH E R1 F H v xs):aH E R2 F H v xs:=by
 rcases h with h|⟨k,m,b,G,h1,h2,h3,h4,h5,h6,h7,h8,h9⟩
 · exact .inl h
 · exact .inr ⟨k,m,b,G,h1,h2,h3,h4,h5,h6,h7,h8,h9.map hm⟩
theorem Pp{β:Type}{Q:ag->Value->β->Prop}{H:ag}{es:List Value}{ys:List β}{G:List Nat}(h:di (ay Q) H es ys G):G=[]:=by
 induction h with
 |nil=>rfl
 |cons h _ ih=>rw[ih,h.1]; rfl
theorem Qv{H:ag}{es:List Value}{ys:List (Value×α)}{G:List Nat}(h:di (ay yO) H es ys G):es=ys.map Prod.fst:=by
 induction h with
 |nil=>rfl
 |cons h _ ih=>rw[ih,h.2]; rfl
theorem di.sub{H:ag}{es:List Value}{xs:List α}{G:List Nat}(h:di Ro H es xs G):∀{sel:List (Value×α)},sel.Sublist (es.zip xs)-> ∃G',G'.Sublist G/\di Ro H (sel.map Prod.fst) (sel.map Prod.snd) G':=by
 induction h with
 |nil=>intro sel hs; simp at hs; subst hs; exact⟨[],.slnil,.nil⟩
 | @cons e es a xs F G h t ih=>
   intro sel hs
   rw[List.zip_cons_cons]at hs
   cases hs with
   |cons _ hs=>
     obtain⟨G',h1,h2⟩:=ih hs
     exact⟨G',h1.trans (List.sublist_append_right _ _),h2⟩
   |cons_cons _ hs=>
     obtain⟨G',h1,h2⟩:=ih hs
     exact⟨F++G',(List.Sublist.refl _).append h1,.cons h h2⟩
theorem OM [bP R] [jK Ro] [jO Ro R]{F:List Nat}{H:ag}{v:Value}{xs:List α}(h:aH E Ro F H v xs)(hnd:F.Nodup):
   ∃es F1 G,F=F1++G/\es.length=xs.length/\di Ro H es xs G/\aH E (ay (rq R)) F1 (frz H G) v (es.zip xs):=by
 rcases h with⟨rfl,rfl,rfl⟩|⟨k,m,b,G,rfl,h2,h3,h4,h5,h6,h7,rfl,h9⟩
 · exact⟨[],[],[],rfl,rfl,.nil,.inl ⟨rfl,rfl,rfl⟩⟩
 · have hk:k∉G:=(List.nodup_cons.1 hnd).1
   have hl:=h9.length
   have hz:(b.elems.zip xs).length=xs.length:=by simp[hl]
   refine⟨b.elems,[k],G,rfl,hl,h9,.inr ⟨k,m,b,[],by rw[hz],h2,by rw[wZ _ _ hk]; exact h3,h4,h5,h6,by rw[hz]; exact h7,rfl,?_⟩⟩
   refine CU (R:=rq R) (by simp[hl]) fun j q hj=>?_
   rw[List.getElem?_zip_eq_some]at hj
   obtain⟨e,he,hr⟩:=h9.frz (fun _ h=>h) j q.2 hj.2
   rw[hj.1]at he
   obtain rfl:q.1=e:=by simpa using he
   exact⟨q.1,hj.1,rfl,hr⟩
theorem Pq{F:List Nat}{H:ag}{v:Value}{es:List Value}{xs:List α}{G:List Nat}{sel:List (Value×α)}(h:aH E (ay yO) F H v sel)(hs:sel.Sublist (es.zip xs))(he:di Ro H es xs G):
   ∃G',G'.Sublist G/\aH E Ro (F++G') H v (sel.map Prod.snd):=by
 obtain⟨G',h1,h2⟩:=he.sub hs
 rcases h with⟨rfl,rfl,rfl⟩|⟨k,m,b,G0,rfl,g2,g3,g4,g5,g6,g7,rfl,g9⟩
 · cases h2
   exact⟨[],List.nil_sublist _,.inl ⟨rfl,rfl,rfl⟩⟩
 · obtain rfl:=Pp g9
   refine⟨G',h1,.inr ⟨k,m,b,G',by simp,g2,g3,g4,g5,g6,by simpa using g7,rfl,?_⟩⟩
   rw[Qv g9]; exact h2
end
theorem OO{P:Program} [aO P]{α:Type}{R:ag->Value->α->Prop}{Ro:dX α} [eu Ro] [bP R] [Local Ro] [jK Ro] [jO Ro R]{E:TypeId}{g:FuncId}{args:List Value}{F:List Nat}{v:Value}{xs ys:List α}{cc:List aj}(hcc:foot cc=[])
   (h:∀(es:List Value)(F1:List Nat),es.length=xs.length-> ∃sel:List (Value×α),sel.Sublist (es.zip xs)/\sel.map Prod.snd=ys/\Spec P g args (aS (aH E (ay (rq R))) F1 v (es.zip xs)::cc) (fun q:Sv×List Nat=>q.1.v) (fun q=>[aS (aH E (ay (rq R))) q.2 q.1.v sel])):
   Spec P g args (aS (aH E Ro) F v xs::cc) (fun q:Sv×List Nat=>q.1.v) (fun q=>[aS (aH E Ro) q.2 q.1.v ys]):=by
 intro H F0 df ρ w dZ hr hargs
 have ho:aH E Ro F H v xs:=df.hold (aS (aH E Ro) F v xs) (by simp)
 have hfp:foot (aS (aH E Ro) F v xs::cc)=F:=by
   have:foot (aS (aH E Ro) F v xs::cc)=F++foot cc:=rfl
   rw[this,hcc,List.append_nil]
 have hnd:F.Nodup:=by have:=df.nd; rwa [hfp]at this
 have hown:∀q∈F,q∈F0/\q<H.length:=fun q hq=>by
   obtain⟨h1,h2⟩:=df.own q (by rw[hfp]; exact hq)
   exact⟨h1.resolve_right (by omega),h2⟩
 obtain⟨es,F1,G,rfl,hel,Ko,hsh⟩:=OM (R:=R) ho hnd
 obtain⟨n1,n2,n3⟩:=List.nodup_append.1 hnd
 have hw:=Ko.owns
 obtain⟨sel,hsel,hys,hspec⟩:=h es F1 hel
 have KX:foot (aS (aH E (ay (rq R))) F1 v (es.zip xs)::cc)=F1:=by
   have:foot (aS (aH E (ay (rq R))) F1 v (es.zip xs)::cc)=F1++foot cc:=rfl
   rw[this,hcc,List.append_nil]
 have hc2:Ctx (frz H G) F1 (frz H G) (aS (aH E (ay (rq R))) F1 v (es.zip xs)::cc):=by
   refine⟨Nat.le_refl _,dJ.refl _,fun _ _ _=>rfl,fun c hc=>?_,by rw[KX]; exact n1,fun q hq=>?_⟩
   · rcases List.mem_cons.1 hc with rfl|hc
     · exact hsh
     · refine c.keep (df.hold c (by simp[hc])) (uK _ _) fun q hq=>?_
       have:q∈foot cc:=List.mem_flatMap.2 ⟨c,hc,hq⟩
       rw[hcc]at this; simp at this
   · rw[KX]at hq
     exact⟨.inl hq,by rw[iH]; exact (hown q (by simp[hq])).2⟩
 refine (hspec (frz H G) F1 hc2 ρ w dZ (hr.recore (iH _ _) (uG _ H)) hargs).mono fun e w' hp=>?_
 obtain⟨v0,r,ρ',H',h1,h2,h3,h4,q,rfl,h5⟩:=hp
 have hG:∀k∈G,H'[k]?=(frz H G)[k]?:=fun k hk=>h5.agr k (by rw[iH]; exact (hown k (by simp[hk])).2) (fun hk1=>n3 k hk1 k hk rfl)
 have Ty:∀k∈G,(j4 H' G)[k]?=H[k]?:=fun k hk=>I8 hw hG hk
 have hpost:aH E (ay (rq R)) q.2 H' q.1.v sel:=h5.hold (aS (aH E (ay (rq R))) q.2 q.1.v sel) (by simp)
 have qm:∀k∈q.2,k∉G/\(k∈F1\/H.length<=k)/\k<H'.length:=fun k hk=>by
   obtain⟨g1,g2⟩:=h5.own k (by simpa[foot,aS]using hk)
   rw[iH]at g1
   refine⟨fun Bn=>?_,g1,g2⟩
   rcases g1 with g1|g1
   · exact n3 k g1 k Bn rfl
   · have:=(hown k (by simp[Bn])).2; omega
 have hid:aH E (ay yO) q.2 (j4 H' G) q.1.v sel:=
   Local.keep (R:=aH E (ay yO)) (hpost.map fun F e a h=>⟨h.1,h.2.1⟩) fun k hk=>uJ _ _ (qm k hk).1
 obtain⟨G',hG',hfin⟩:=Pq hid hsel (Ko.local Ty)
 rw[hys]at hfin
 have hlen:H.length<=(j4 H' G).length:=by rw[pU]; have:=h5.len; rwa [iH]at this
 refine⟨v0,_,ρ',j4 H' G,h1,h2,h3.recore (pU _ _) (zU _ H'),(Step.recore (H:=H) (iH _ _) (uG _ H)).trans (h4.trans (Step.recore (pU _ _) (zU _ H'))),(q.1,q.2++G'),rfl,hlen,?_,?_,?_,?_,?_⟩
 · intro k b hb hbw
   have Bn:k∉G:=fun hk=>by
     obtain⟨b',hb',hw'⟩:=hw k hk
     rw[hb]at hb'
     injection hb' with hb'; injection hb' with hb'
     rw[hb',hw']at hbw; simp at hbw
   rw[uJ _ _ Bn]
   exact h5.imm k b ((uK H G) k b hb hbw) hbw
 · intro k hk sK
   have AP:k∉F1++G:=fun h=>sK (hown k h).1
   simp only[List.mem_append,not_or]at AP
   rw[uJ _ _ AP.2,h5.agr k (by rw[iH]; exact hk) AP.1,wZ _ _ AP.2]
 · intro c hc
   simp at hc; subst hc
   exact hfin
 · have hq2:q.2.Nodup:=by have:=h5.nd; simpa[foot,aS]using this
   simp only[foot,aS,List.flatMap_cons,List.flatMap_nil,List.append_nil]
   exact List.nodup_append.2 ⟨hq2,n2.sublist hG',fun a ha b hb e=>(qm a ha).1 (e ▸ hG'.subset hb)⟩
 · intro k hk
   simp only[foot,aS,List.flatMap_cons,List.flatMap_nil,List.append_nil,List.mem_append]at hk
   rcases hk with hk|hk
   · obtain⟨-,g1,g2⟩:=qm k hk
     exact⟨g1.imp (fun h=>(hown k (by simp[h])).1) id,by rw[pU]; exact g2⟩
   · have:=hown k (by simp[hG'.subset hk])
     exact⟨.inl this.1,Nat.lt_of_lt_of_le this.2 hlen⟩
def u6{β:Type}(f:β->Option Bool):List β->Option (List β)
 |[]=>some []
 |x::r=>(f x).bind fun b=>(u6 f r).bind fun ys=>some (if b then ys else x::ys)
theorem Ic{β:Type}{f:β->Option Bool}:∀{xs ys:List β},u6 f xs=some ys->(∀x∈xs,f x=some ((f x).getD false))/\ys=xs.filter (fun a=>!(f a).getD false)
 |[],ys,h=>by simp[u6]at h; subst h; simp
 |x::r,ys,h=>by
   obtain⟨b,hb,h⟩:=bind_some h
   obtain⟨zs,hz,h⟩:=bind_some h
   obtain⟨h1,h2⟩:=Ic hz
   obtain rfl:=Option.some.inj h
   refine⟨fun y hy=>?_,?_⟩
   · rcases List.mem_cons.1 hy with rfl|hy
     · rw[hb]; rfl
     · exact h1 y hy
   · rw[List.filter_cons,hb,h2]
     cases b<;>simp
theorem Jb{β:Type}{f:β->Option Bool}{p:β->Bool}:∀{xs:List β},(∀x∈xs,f x=some (p x))->u6 f xs=some (xs.filter fun a=>!p a)
 |[],_=>rfl
 |x::r,h=>by
   rw[u6,h x (by simp),Option.bind_some,Jb (p:=p) fun y hy=>h y (by simp[hy]),Option.bind_some,List.filter_cons]
   cases p x<;>simp
theorem Jc{β γ:Type}(g:β->γ)(p:γ->Bool):∀(l:List β)(k:Nat),ik p (l.map g) k=ik (fun a=>p (g a)) l k
 |[],_=>rfl
 |x::r,k=>by simp only[List.map_cons,ik,Jc g p r (k+1)]
structure jX{β:Type}(p:β->Bool)(qs cur:List β)(i j:Nat):Prop where
 len:cur.length=qs.length
 lt:i<j
 le:j<=qs.length
 tk:cur.take i=(qs.take j).filter fun a=>!p a
 dr:cur.drop j=qs.drop j
theorem JC{β:Type}{p:β->Bool}:∀{l:List β}{k i:Nat},ik p l k=(i:Int)-> ∃q,i=k+q/\q<l.length/\(l.take q).filter (fun a=>!p a)=l.take q/\ ∃x,l[q]?=some x/\p x=true
 |[],k,i,h=>by simp[ik]at h
 |x::r,k,i,h=>by
   rw[ik]at h
   by_cases hp:p x=true
   · rw[if_pos hp]at h
     exact⟨0,by omega,by simp,by simp,x,by simp,hp⟩
   · rw[if_neg hp]at h
     obtain⟨q,h1,h2,h3,y,h4,h5⟩:=JC h
     refine⟨q+1,by omega,by simpa using h2,?_,y,by simpa using h4,h5⟩
     rw[List.take_succ_cons,List.filter_cons,h3]
     simp[hp]
theorem II{β:Type}{p:β->Bool}:∀{l:List β}{k:Nat},ik p l k= -1->l.filter (fun a=>!p a)=l
 |[],_,_=>rfl
 |x::r,k,h=>by
   rw[ik]at h
   by_cases hp:p x=true
   · rw[if_pos hp]at h; omega
   · rw[if_neg hp]at h
     rw[List.filter_cons,II h]; simp[hp]
theorem Ie{β:Type}(p:β->Bool):∀(l:List β)(k:Nat),ik p l k= -1\/ ∃i:Nat,ik p l k=(i:Int)/\i<k+l.length
 |[],k=>.inl rfl
 |x::r,k=>by
   rw[ik]
   by_cases hp:p x=true
   · rw[if_pos hp]; exact .inr ⟨k,rfl,by simp⟩
   · rw[if_neg hp]
     rcases Ie p r (k+1)with h|⟨i,h,hi⟩
     · exact .inl h
     · exact .inr ⟨i,h,by simp; omega⟩
section
variable{β:Type}{p:β->Bool}{qs cur:List β}{i j:Nat}{x:β}
theorem BQ(hx:qs[j]?=some x):(qs.take (j+1)).filter (fun a=>!p a)=(qs.take j).filter (fun a=>!p a)++(if p x then []else [x]):=by
 have hlt:j<qs.length:=by
   rcases Nat.lt_or_ge j qs.length with h|h
   · exact h
   · simp[List.getElem?_eq_none h]at hx
 rw[List.take_succ_eq_append_getElem hlt,List.filter_append]
 rw[List.getElem?_eq_getElem hlt]at hx
 obtain rfl:=Option.some.inj hx
 cases hp:p qs[j]<;>simp[hp]
theorem jX.init(h:ik p qs 0=(i:Int)):jX p qs qs i (i+1):=by
 obtain⟨q,h1,h2,h3,y,h4,h5⟩:=JC h
 obtain rfl:i=q:=by omega
 exact⟨rfl,Nat.lt_succ_self _,h2,by rw[BQ h4,h3,h5]; simp,rfl⟩
theorem jX.at(h:jX p qs cur i j)(hj:j<qs.length):∃x,cur[j]?=some x/\qs[j]?=some x:=by
 refine⟨qs[j],?_,List.getElem?_eq_getElem hj⟩
 have:=congrArg (fun l:List β=>l[0]?) h.dr
 simpa[List.getElem?_eq_getElem hj]using this
theorem jX.yes(h:jX p qs cur i j)(hx:qs[j]?=some x)(hp:p x=true):jX p qs cur i (j+1):=by
 have hlt:j<qs.length:=wH hx
 refine⟨h.len,by have:=h.lt; omega,hlt,by rw[BQ hx,←h.tk,hp]; simp,?_⟩
 rw[←List.drop_drop,h.dr,List.drop_drop]
theorem jX.no(h:jX p qs cur i j)(hx:qs[j]?=some x)(hp:p x=false):jX p qs (cur.set i x) (i+1) (j+1):=by
 have hlt:j<qs.length:=wH hx
 have hi:i<cur.length:=by have:=h.lt; have:=h.len; omega
 refine⟨by simpa using h.len,by have:=h.lt; omega,hlt,?_,?_⟩
 · rw[BQ hx,←h.tk,hp,List.take_succ_eq_append_getElem (by simpa using hi)]
   simp[List.take_set_of_le]
 · rw[List.drop_set_of_lt (by have:=h.lt; omega),←List.drop_drop,h.dr,List.drop_drop]
theorem jX.fin(h:jX p qs cur i j)(hj:qs.length<=j):cur.take i=qs.filter fun a=>!p a:=by
 rw[h.tk,List.take_of_length_le hj]
end
section
variable{P:Program} [aO P]{n:Nat}{f:Fr}{H0:ag}{F0:List Nat}{cs:List aj}{A:Array Oper}{r:List Oper}{K:Fr->List aj->Prop}{d:Option Tmp}{x y z:Operand}{T T' E:TypeId}{ps:String}{af:Array Edge}{gd:Option (Nat×Bool)}
variable{α:Type}{R:ag->Value->α->Prop}{EE:dX α}{xs:List α}{v:Value}
theorem Qw [bP R]{ι:Type}{F:List Nat}{k j s:Nat}{a:α}{ul:ι->List Value}{cc:ι->List aj}(hA:AG P T true)(hs:SZ P T s)(h0:Nat.blt 0 s=true)(hx:EV n f x (.pointer (some ⟨k,j,some 0⟩)))(hm:Mem (aS (aH E (ay R)) F v xs) cs)(hk:iM v=some k)(hj:xs[j]?=some a)
   (hop:∀H e,R H e a-> ∃i,e= .agg (ul i).toArray/\(ul i).length=s/\ ∀c∈cc i,c.P H/\c.F=[]) (h:∀i,aD P n H0 F0 A r (put f d (.agg (ul i).toArray)) (bS R (.agg (ul i).toArray) a::(cc i++cs)) K):aD P n H0 F0 A (⟨d,.load T x,T',ps,af,none⟩::r) f cs K:=by
 intro H hc
 have ho:aH E (ay R) F H v xs:=hc.mem hm
 obtain⟨-,m,b,G,rfl,-,h3,-,-,-,-,rfl,h9⟩:=ho.head hk
 obtain⟨e,F1,Fj,F2,g1,g2,g3,-⟩:=h9.at hj
 obtain⟨i,he,hl,hcc⟩:=hop H e g3.2
 subst he
 refine pJ (Aa hA hs hx h3 g1 (by simpa[Nat.blt_eq]using h0) (by simp[Value.cells,hl]) (show ((Value.agg (ul i).toArray).cells.toList.drop 0).take s=ul i by subst hl; simp[Value.cells])) (h i H ?_)
 have hb:∀(l:List aj),(∀c∈l,c.P H/\c.F=[])->Ctx H0 F0 H (l++cs):=by
   intro l
   induction l with
   |nil=>intro _; exact hc
   |cons c l ih=>intro hl; exact (ih fun d hd=>hl d (by simp[hd])).dup (hl c (by simp)).1 (hl c (by simp)).2
 exact (hb _ hcc).dup (c:=bS R (.agg (ul i).toArray) a) g3.2 rfl
theorem Qx [bP R]{F:List Nat}{v:Value}{qs:List (Value×α)}:rP (aS (aH E (ay (rq R))) F v qs) (bS (bf E R) v (qs.map Prod.snd)):=
 ⟨fun H h=>by
   have h2:=(bU (Ro:=aH E (ay (rq R))) (R':=bf E (rq R)) (F:=F) (v:=v) (a:=qs)).P H h
   have h3:bf E (rq R) (frz H F) v qs:=h2
   rcases h3 with⟨rfl,rfl⟩|⟨k,i,m,b,rfl,g1,g2,g3,g4,g5,g6⟩|⟨k,i,m,rfl,rfl⟩
   · exact .inl ⟨rfl,rfl⟩
   · refine .inr (.inl ⟨k,i,m,b,by simp,g1,g2,g3,by simpa using g4,by simpa using g5,fun j a hj=>?_⟩)
     rw[List.getElem?_map]at hj
     cases hq:qs[j]? with
     |none=>rw[hq]at hj; simp at hj
     |some q=>
       rw[hq]at hj
       obtain rfl:q.2=a:=by simpa using hj
       obtain⟨e,he,hr⟩:=g6 j q hq
       exact⟨e,he,hr.2⟩
   · exact .inr (.inr ⟨k,i,m,rfl,rfl⟩),fun H h=>(bU (Ro:=aH E (ay (rq R))) (R':=bf E (rq R)) (F:=F) (v:=v) (a:=qs)).w H h,rfl⟩
theorem Ps [eu EE]{F:List Nat}{v:Sv}(hne:xs≠[])(H:ag)(h:(aS (aH E EE) F v.v xs).P H):∃k m,v=⟨some ⟨k,0,none⟩,xs.length,m⟩/\(m=1\/m=2):=by
 have h:aH E EE F H v.v xs:=h
 rcases h with⟨-,h,-⟩|⟨k,m,b,G,h1,h2,-⟩
 · exact absurd h hne
 · obtain⟨va,vn,vm⟩:=v
   injection h1 with e1 e2 e3
   subst e1 e2 e3
   exact⟨k,_,rfl,h2⟩
theorem OP [bP R]{F:List Nat}{k l m s:Nat}{kk:IntKind}{i:Int}(hT:SL P T E)(hs:SZ P E s)(hx:EV n f x (.slice (some ⟨k,0,none⟩) l m))(hy:EV n f y (.int kk i))(hm:Mem (aS (aH E (ay R)) F (.slice (some ⟨k,0,none⟩) l m) xs) cs)(h0:0<=i)(hi:i<=(l:Int))
   (h:aD P n H0 F0 A r (put f d (.slice (some ⟨k,i.toNat,none⟩) (l-i.toNat) 0)) cs K):aD P n H0 F0 A (⟨d,.slice T x (some y) none none,T',ps,af,none⟩::r) f cs K:=
 eB hm (fun{H} ho=>by
   have ho:aH E (ay R) F H (.slice (some ⟨k,0,none⟩) l m) xs:=ho
   obtain⟨-,m',b,G,-,-,h3,-,-,h6,-⟩:=ho.head (k:=k) rfl
   exact OJ hT hs hx hy h3 h6 h0 hi) h
theorem OQ [bP R]{F:List Nat}{k l m s:Nat}{kk:IntKind}{i:Int}{u:Value}(hT:SL P T E)(hs:SZ P E s)(hx:EV n f x (.slice (some ⟨k,0,none⟩) l m))(hmm:m=1\/m=2)(hy:EV n f y (.int kk i))(hm:Mem (aS (aH E (ay R)) F u xs) cs)(hk:iM u=some k)(h0:0<=i)(hi:i<=(l:Int))(hl:l≠0)
   (h:aD P n H0 F0 A r (put f d (.slice (some ⟨k,0,none⟩) i.toNat 2)) cs K):aD P n H0 F0 A (⟨d,.slice T x none (some y) none,T',ps,af,none⟩::r) f cs K:=
 eB hm (fun{H} ho=>by
   have ho:aH E (ay R) F H u xs:=ho
   obtain⟨-,m',b,G,rfl,-,h3,-,h5,-⟩:=ho.head hk
   exact OL hT hs hx hmm hy h3 h5 h0 hi hl) h
end
theorem OT{P:Program} [aO P]{g:FuncId}{args:List Value}{ι:Type}{val:ι->Value}{post:ι->List aj}{c:aj}{cc:List aj}{p:Prop}(hp:∀H,c.P H->p)(h:p->Spec P g args (c::cc) val post):Spec P g args (c::cc) val post:=
 fun H F0 hc=>h (hp H (hc.hold c (by simp))) H F0 hc
theorem Oh{α:Type}(p:α->Bool)(es:List Value)(xs:List α)(h:es.length=xs.length):((es.zip xs).filter fun a=>!p a.2).map Prod.snd=xs.filter fun a=>!p a:=by
 have:=List.filter_map (f:=Prod.snd) (p:=fun a:α=>!p a) (l:=es.zip xs)
 rw[List.map_snd_zip (Nat.le_of_eq h.symm)]at this
 rw[this]; rfl
section
variable{P:Program} [aO P]{n:Nat}{f:Fr}{H0:ag}{F0:List Nat}{cs:List aj}{A:Array Oper}{r:List Oper}{K:Fr->List aj->Prop}{d:Option Tmp}{T:TypeId}{ps:String}{af:Array Edge}{gd:Option (Nat×Bool)}{t:Tmp}
variable{l:List Oper}{tb az todo:List Nat}{fl:List (Nat×List Nat)}{i:Nat}
theorem Cm(v:Value)(hv:f t=v)(ht:Nat.blt t n=true)(h:aD P n H0 F0 A r (put f d v) cs K):aD P n H0 F0 A (⟨d,.move (.tmp t),T,ps,af,none⟩::r) f cs K:=ax (gq (.tmp hv ht)) h
theorem Ca(v:Value)(hv:f t=v)(ht:Nat.blt t n=true)(h:aD P n H0 F0 A r (put f d v) cs K):aD P n H0 F0 A (⟨d,.assign (.tmp t),T,ps,af,none⟩::r) f cs K:=ax (gG (.tmp hv ht)) h
theorem Dm(v:Value)(ho:l[i]?=some ⟨d,.move (.tmp t),T,ps,af,none⟩)(hv:f t=v)(ht:Nat.blt t n=true)(hn:dA (.tmp t) (cB l ⟨d,.move (.tmp t),T,ps,af,none⟩)=true)(h:DC P n l tb az H0 F0 K todo fl (put f d v) cs):DC P n l tb az H0 F0 K (i::todo) fl f cs:=
 bY ho .no (fun ha=>gq (EN ha (.tmp hv ht) hn)) h
end
end Go.Fw
/-
 A slice of our own keeps its array, and its elements turn no more. No conditions.
-/
set_option linter.unusedVariables false
namespace Go.Fw
open Go
section
variable{α:Type}{Ro:dX α}{R':ag->Value->α->Prop}{E:TypeId}{H0:ag}{F0:List Nat}{cs rest cs2:List aj}{F:List Nat}{v:Value}{xs:List α}
variable{P:Program} [aO P]{n:Nat}{f:Fr}{c1:Code}{Q:Exit->Fr->List aj->Prop}
theorem Qy{o:Oper}{ι:Type}{val:ι->Value}{pre:List aj}{post post':ι->List aj}(he:∀x,aT (post x) (post' x))(hx:XC P n o f pre val post):XC P n o f pre val post':=by
 intro H hc ρ w a K' Q' hr hf hk
 refine hx H hc ρ w a K' Q' hr hf fun f' ρ' H' a' w' h1 h2 h3 h4=>?_
 obtain⟨x,e,h5⟩:=h4
 obtain⟨H2,l1,l2,l3⟩:=he x H (foot pre) H' h5
 exact hk f' ρ' H2 a' w' h1 (h2.recore l1 l2) (h3.trans (Step.recore l1 l2)) ⟨x,e,l3⟩
end
end Go.Fw
/-
 l[i:] of a slice that is read. No conditions.
-/
set_option linter.unusedVariables false
namespace Go.Fw
open Go
section
variable{P:Program} [aO P]{n:Nat}{f:Fr}{H:ag}{d:Option Tmp}{x y:Operand}{T T' E:TypeId}{ps:String}{af:Array Edge}{gd:Option (Nat×Bool)}
theorem Oi{k i0 m l s:Nat}{b:cO}{kk:IntKind}{i:Int}(hT:SL P T E)(hs:SZ P E s)(hx:EV n f x (.slice (some ⟨k,i0,none⟩) l m))(hy:EV n f y (.int kk i))(hk:H[k]?=some (some b))(hbt:b.ty=E)(h0:0<=i)(hi:i<=(l:Int)):
   bR P n ⟨d,.slice T x (some y) none none,T',ps,af,none⟩ f H (.slice (some ⟨k,i0+i.toNat,none⟩) (l-i.toNat) 0):=by
 intro ρ w a hr hf
 obtain⟨L,p,cap,hl,hb,hc,hcap,h1,h2,hp⟩:=(hx.use hf).slice_inv hr hk
 have hyv:a.eval y= .int kk i:=(hy.use hf).int_inv
 have hu:P.underlying T=some (.slice E):=hT
 have he:P.elem T=E:=by simp[Program.elem,hu]
 have hu2:P.underlying T=some (.slice (P.elem T)):=by rw[he]; exact hu
 have DD:L.sz=s:=by rw[←hb.sz,hbt,hs.cells]
 refine⟨sliced (some p) i.toNat l cap s,?_,?_⟩
 · have hrun:=run_slice_l (P:=P) w T (some p) l cap hu2 kk i h0 hi
   rw[he,hs.run,Result.andThen]at hrun
   have h2':=run_sliceAt_slice (P:=P) w T (.slice (some p) l cap) (some (.int kk i)) none none hu2
   simp[execOp,hc,hyv,h2',hrun]
 · have hform:∃q:Addr,sliced (some p) i.toNat l cap s= .slice (some q) (l-i.toNat) (cap-i.toNat)/\(l-i.toNat≠0->q=p.add (i.toNat*s)):=by
     unfold sliced
     by_cases e:cap=i.toNat
     · exact⟨p,by rw[if_pos e],fun h=>by omega⟩
     · exact⟨p.add (i.toNat*s),by rw[if_neg e]; rfl,fun _=>rfl⟩
   obtain⟨q,hq,hqe⟩:=hform
   rw[hq]
   refine aP.slice k (i0+i.toNat) _ 0 L q _ hl (by omega) (by simp) (by simp) (fun hn=>⟨?_,fun ho=>?_⟩)
   · rw[hqe hn,hp (by omega),addr_add,DD,Nat.add_mul,Nat.add_assoc]
   · obtain⟨L',hl',hx'⟩:=(hx.use hf).slice_ext hr hk (by omega)
     rw[hl]at hl'
     obtain rfl:L=L':=by simpa using hl'
     have:=hx' ho
     omega
theorem Hm{m s:Nat}{p:Option Addr}{kk:IntKind}(hp:p=none\/ ∃k i0,p=some ⟨k,i0,none⟩)(hT:SL P T E)(hs:SZ P E s)(hx:EV n f x (.slice p 0 m))(hy:EV n f y (.int kk 0)):
   bR P n ⟨d,.slice T x (some y) none none,T',ps,af,none⟩ f H (.slice p 0 0):=by
 intro ρ w a hr hf
 have hyv:a.eval y= .int kk 0:=(hy.use hf).int_inv
 have hu:P.underlying T=some (.slice E):=hT
 have he:P.elem T=E:=by simp[Program.elem,hu]
 have hu2:P.underlying T=some (.slice (P.elem T)):=by rw[he]; exact hu
 have key:∀(q:Option Addr)(cap:Nat),a.eval x= .slice q 0 cap->(execOp a.eval ⟨d,.slice T x (some y) none none,T',ps,af,none⟩).run P w= .ok (.value (sliced q 0 0 cap s)) w:=fun q cap hc=>by
   have hrun:=run_slice_l (P:=P) w T q 0 cap hu2 kk 0 (by omega) (by omega)
   rw[he,hs.run,Result.andThen]at hrun
   have h2':=run_sliceAt_slice (P:=P) w T (.slice q 0 cap) (some (.int kk 0)) none none hu2
   simp[execOp,hc,hyv,h2',hrun]
 have hrx:=hx.use hf
 generalize hc:a.eval x=c at hrx
 cases hrx with
 |nilSlice=>
   refine⟨_,key none 0 hc,?_⟩
   simp[sliced]
   exact .nilSlice
 |slice k i0 n m L p cap h hcp h1 h2 hp=>
   refine⟨_,key (some p) cap hc,?_⟩
   have hq:∃q:Addr,sliced (some p) 0 0 cap s= .slice (some q) 0 cap:=by
     unfold sliced
     simp[Addr.add]
   obtain⟨q,hq⟩:=hq
   rw[hq]
   exact aP.slice k i0 _ 0 L q _ h (by omega) (by simp) (by simp) (fun h'=>absurd rfl h')
 |sliceDead k i0 n m p cap h=>
   refine⟨_,key (some p) cap hc,?_⟩
   have hq:∃q:Addr,sliced (some p) 0 0 cap s= .slice (some q) 0 cap:=by
     unfold sliced
     simp[Addr.add]
   obtain⟨q,hq⟩:=hq
   rw[hq]
   exact aP.sliceDead k i0 _ 0 q _ h
end
section
variable{P:Program} [aO P]{n:Nat}{f:Fr}{H0:ag}{F0:List Nat}{cs:List aj}{A:Array Oper}{r:List Oper}{K:Fr->List aj->Prop}{d:Option Tmp}{x y:Operand}{T T' E:TypeId}{ps:String}{af:Array Edge}{α:Type}{R:ag->Value->α->Prop}{xs:List α}{v:Value}
end
section
variable{P:Program} [aO P]{n:Nat}{l:List Oper}{tb az:List Nat}{H0:ag}{F0:List Nat}{K:Fr->List aj->Prop}{cs:List aj}{f:Fr}{i:Nat}{r:List Nat}{fl:List (Nat×List Nat)}{d:Option Tmp}{T E T':TypeId}{ps:String}{af:Array Edge}{gd:Option (Nat×Bool)}{v:Value}{x y:Operand}{α:Type}{R:ag->Value->α->Prop}{xs:List α}{s:Nat}
theorem Oj [bP R]{kk:IntKind}{z:Int}(hT:SL P T E)(hs:SZ P E s)(ho:l[i]?=some ⟨d,.slice T x (some y) none none,T',ps,af,gd⟩)(hw:Wt n l f gd)(hx:EV n f x v)(hy:EV n f y (.int kk z))
   (gN:dA x (cB l ⟨d,.slice T x (some y) none none,T',ps,af,gd⟩)=true) (hyn:dA y (cB l ⟨d,.slice T x (some y) none none,T',ps,af,gd⟩)=true) (hm:Mem (bS (bf E R) v xs) cs) (h0:0<=z) (hi:z<=(xs.length:Int))
   (h:∀w:Sv,DC P n l tb az H0 F0 K r fl (put f d w.v) (bS (bf E R) w.v (xs.drop z.toNat)::cs)):DC P n l tb az H0 F0 K (i::r) fl f cs:=by
 intro H hc
 have hr:bf E R H v xs:=hc.mem hm
 have key:∀w:Sv,bf E R H w.v (xs.drop z.toNat)->(∀f' H',ed l ⟨d,.slice T x (some y) none none,T',ps,af,gd⟩ f f'->(∀(k:Nat) b,H[k]?=some (some b)->b.wr=false->H'[k]?=some (some b))->bR P n ⟨d,.slice T x (some y) none none,T',ps,af,none⟩ f' H' w.v)->eY P n l tb az (fun f' H'=>∃cs',K f' cs'/\Ctx H0 F0 H' cs') (i::r) (fun _=>False) fl f H:=fun w hw1 hv=>
   .flt (Ks:=[]) ho (.inl ⟨hw.wanted,fun f' H' ha hl=>xu (hv f' H' ha hl.2.1)⟩) (((h w) H (hc.dup (c:=bS (bf E R) w.v (xs.drop z.toNat)) hw1 rfl)).cov fun p hp=>by
     rcases List.mem_cons.1 hp with h|h
     · exact .inr (by rw[h])
     · exact .inl h)
 rcases hr with⟨rfl,rfl⟩|⟨k,i0,m,b,rfl,h1,h2,h3,h4,hL,h6⟩|⟨k,i0,m,rfl,rfl⟩
 · obtain rfl:z=0:=by simp at hi; omega
   exact key ⟨none,0,0⟩ (.inl ⟨rfl,rfl⟩) fun f' H' ha hl=>Hm (.inl rfl) hT hs (EN ha hx gN) (EN ha hy hyn)
 · have e:(xs.drop z.toNat).length=xs.length-z.toNat:=List.length_drop
   exact key ⟨some ⟨k,i0+z.toNat,none⟩,xs.length-z.toNat,0⟩ (.inr (.inl ⟨k,i0+z.toNat,0,b,by rw[e],h1,h2,h3,by omega,by omega,fun j a hj=>by
     rw[List.getElem?_drop]at hj
     have:=h6 _ a hj
     rwa [←Nat.add_assoc]at this⟩)) fun f' H' ha hl=>Oi hT hs (EN ha hx gN) (EN ha hy hyn) (hl _ _ h1 h2) h3 h0 hi
 · obtain rfl:z=0:=by simp at hi; omega
   exact key ⟨some ⟨k,i0,none⟩,0,0⟩ (.inr (.inr ⟨k,i0,0,rfl,rfl⟩)) fun f' H' ha hl=>Hm (.inr ⟨k,i0,rfl⟩) hT hs (EN ha hx gN) (EN ha hy hyn)
end
end Go.Fw
/-
 Shifts and bits of whole numbers. No conditions.
-/
set_option linter.unusedVariables false
namespace Go.Fw
open Go
def AQ(k:IntKind)(i j:Int):Option Int:=if j<0 then none else some (i.fdiv (2 ^ min j.toNat k.bits))
def nz(k:IntKind)(i j:Int):Int:=k.wrap ((BitVec.ofInt k.bits i &&& BitVec.ofInt k.bits j).toNat:Int)
def lh(k:IntKind)(i j:Int):Int:=k.wrap ((BitVec.ofInt k.bits i ^^^ BitVec.ofInt k.bits j).toNat:Int)
def u_(i j:Int):Option Int:=if j=0 then none else some (i.tmod j)
section
variable{P:Program} [aO P]{n:Nat}{f:Fr}{H:ag}{d:Option Tmp}{T T' T'':TypeId}{ps:String}{af:Array Edge}{x y:Operand}
theorem J5{k l:IntKind}{i j q:Int}(hx:EV n f x (.int k i))(hy:EV n f y (.int l j))(h:AQ k i j=some q):
   bR P n ⟨d,.binOp .shr T x y T',T'',ps,af,none⟩ f H (.int k q):=by
 unfold AQ at h
 split at h
 · simp at h
 rename_i hj
 cases h
 exact fun ρ _ a _ hf=>⟨_,by simp[execOp,(hx.use hf).int_inv,(hy.use hf).int_inv,eqGuard,binOp,Op.shift,hj],.int _ _⟩
theorem Dj{k:IntKind}{i j:Int}(hx:EV n f x (.int k i))(hy:EV n f y (.int k j)):
   bR P n ⟨d,.binOp .and T x y T',T'',ps,af,none⟩ f H (.int k (nz k i j)):=
 fun ρ _ a _ hf=>⟨_,by simp[execOp,(hx.use hf).int_inv,(hy.use hf).int_inv,eqGuard,binOp,Op.intBits,nz],.int _ _⟩
theorem J6{k:IntKind}{i j:Int}(hx:EV n f x (.int k i))(hy:EV n f y (.int k j)):
   bR P n ⟨d,.binOp .xor T x y T',T'',ps,af,none⟩ f H (.int k (lh k i j)):=
 fun ρ _ a _ hf=>⟨_,by simp[execOp,(hx.use hf).int_inv,(hy.use hf).int_inv,eqGuard,binOp,Op.intBits,lh],.int _ _⟩
theorem JD{k:IntKind}{i j q:Int}(hx:EV n f x (.int k i))(hy:EV n f y (.int k j))(h:u_ i j=some q):
   bR P n ⟨d,.binOp .rem T x y T',T'',ps,af,none⟩ f H (.int k q):=by
 unfold u_ at h
 split at h
 · simp at h
 rename_i hj
 cases h
 exact lX hx hy hj
end
end Go.Fw
/-
 Drawn regions: elements of an own slice are read and stored.
-/
set_option linter.unusedVariables false
namespace Go.Fw
open Go Go.RowKit
section
variable{P:Program} [aO P]{n:Nat}{l:List Oper}{tb az:List Nat}{H0:ag}{F0:List Nat}{K:Fr->List aj->Prop}{cs:List aj}{f:Fr}{i:Nat}{r:List Nat}{fl:List (Nat×List Nat)}{d:Option Tmp}{T E T':TypeId}{ps:String}{af:Array Edge}{gd:Option (Nat×Bool)}{v:Value}{x y:Operand}{α:Type}{Ro:List Nat->ag->Value->α->Prop}{xs:List α}{s:Nat}
theorem JE [eu Ro]{F:List Nat}{kk:IntKind}{q:Int}(hT:SL P T E)(hs:SZ P E s)(ho:l[i]?=some ⟨d,.indexAddr T x y,T',ps,af,gd⟩)(hw:Wt n l f gd)(hx:EV n f x v)(hy:EV n f y (.int kk q))
   (gN:dA x (cB l ⟨d,.indexAddr T x y,T',ps,af,gd⟩)=true) (hyn:dA y (cB l ⟨d,.indexAddr T x y,T',ps,af,gd⟩)=true) (hm:Mem (aS (aH E Ro) F v xs) cs) (hi:(decide (0<=q)&&decide (q<(xs.length:Int)))=true)
   (h:∀k,iM v=some k->DC P n l tb az H0 F0 K r ((i,F)::fl) (put f d (.pointer (some ⟨k,q.toNat,some 0⟩))) cs):DC P n l tb az H0 F0 K (i::r) fl f cs:=by
 intro H hc
 simp only[Bool.and_eq_true,decide_eq_true_eq]at hi
 have ho':aH E Ro F H v xs:=hc.mem hm
 have hv:∃k m,v= .slice (some ⟨k,0,none⟩) xs.length m:=by
   rcases ho' with⟨rfl,rfl,-⟩|⟨k,m,b,G,rfl,-⟩
   · simp at hi; omega
   · exact⟨k,m,rfl⟩
 obtain⟨k,m,rfl⟩:=hv
 refine iJ (c:=aS (aH E Ro) F (.slice (some ⟨k,0,none⟩) xs.length m) xs) ho hw hm (fun ha hp=>?_) (h k rfl) H hc
 have hp:aH E Ro F _ (.slice (some ⟨k,0,none⟩) xs.length m) xs:=hp
 rcases hp with⟨e,e2,-⟩|⟨k',m',b,G,e,h2,h3,h4,h5,h6,h7,-,h9⟩
 · simp at e
 · obtain rfl:k=k':=by simpa using congrArg (fun v=>match v with|Value.slice (some p) _ _=>p.block|_=>0) e
   simpa using zF (i0:=0) hT hs (EN ha hx gN) (EN ha hy hyn) h3 h6 hi.1 (by omega)
end
section
variable{P:Program} [aO P]{n:Nat}{f:Fr}{H:ag}{d:Option Tmp}{x:Operand}{T:TypeId}{ps:String}{af:Array Edge}
theorem mP{v:Value}{q:Addr}(hv:v= .pointer (some q))(hx:EV n f x v):bR P n ⟨d,.nilCheck x,T,ps,af,none⟩ f H v:=fun ρ _ a _ hf=>by
 subst hv
 have h:=hx.use hf
 have:∃p,a.eval x= .pointer (some p):=by
   generalize a.eval x=u at h
   cases h<;>exact⟨_,rfl⟩
 obtain⟨p,hp⟩:=this
 exact⟨a.eval x,by simp[execOp,hp],h⟩
end
end Go.Fw
/-
 Library functions that hand back strings: what the shelf's contracts say, at the abstract heap.
-/
set_option linter.unusedVariables false
namespace Go.Fw
open Go Go.RowKit
section
variable{P:Program} [aO P]{ρ:a_}{H:ag}{w:World}
theorem Rel.ofBelow{w':World}(h:Rel P ρ H w)(hb:Below w.heap.size w w'):Rel P ρ H w':=by
 constructor
 · intro k L hk
   obtain⟨b,hbk,hr⟩:=h.blk k L hk
   exact⟨b,hbk,hr.of_same (Up.refl ρ) (hb.block _ (h.lt hk))⟩
 · exact h.alive
 · exact h.dom
 · exact h.inj
 · exact h.vok.keep hb.size (fun b hb' _=>hb.block b hb') fun _ _ hk _=>.inl hk
theorem Step.ofBelow{w':World}(hb:Below w.heap.size w w'):Step ρ H w ρ H w' where
 up:=Up.refl ρ
 os:=hb.os
 output:=hb.output
 tape:=hb.tape
 size:=hb.size
 frame b hb' _:=hb.block b hb'
 fresh _ _ h:=.inl h
 len:=Nat.le_refl _
 hold k hk hn:=⟨hn,rfl⟩
theorem below_grow(w:World)(k:Nat)(os:Array Obj):Below w.heap.size w (Sort.grow (w.drewN k) os):=
 ⟨rfl,rfl,rfl,by simp[Sort.grow,World.drewN],fun j hj=>by
   show (w.heap++os)[j]?=_
   rw[Array.getElem?_append_left hj]⟩
theorem jf.var{name:String}{cs:Array Value}(hV:∀w0,aO.V P w0->w0.var? P name=some cs)(h:jf P ρ w):w.var? P name=some cs:=by
 obtain⟨w0,h1,h2,h3,-⟩:=h
 have:=hV w0 h1
 unfold World.var? at this ⊢
 cases hg:P.globalNamed name with
 |none=>rw[hg]at this; simp at this
 |some g=>
   rw[hg,Option.bind_some]at this
   rw[Option.bind_some]
   have hlt:g<w0.heap.size:=by
     rcases Nat.lt_or_ge g w0.heap.size with h|h
     · exact h
     · rw[Array.getElem?_eq_none h]at this; simp at this
   rw[h3 g hlt]
   exact this
theorem OU{g:FuncId}{n:Int}(h:∀w,(∃ρ,jf P ρ w)->Calls P g #[.int .i64 n] w fun e w'=>e= .returned (.string ⟨(Lib.itoa n).toArray⟩)/\ ∃k os,w'=Sort.grow (w.drewN k) os):
   Fw.Spec P g [.int .i64 n] [] (fun _:Unit=>sv (Lib.itoa n)) (fun _=>[]):=by
 intro H F0 df ρ w dZ hr hargs
 obtain⟨l⟩:=dZ
 cases hargs with
 |cons _ c _ _ hc t=>
   cases t
   obtain rfl:=hc.int_inv
   refine (h w ⟨ρ,hr.vok⟩).mono ?_
   rintro e w' ⟨rfl,k,os,rfl⟩
   have hb:=below_grow w k os
   exact⟨_,_,ρ,H,rfl,.string _,hr.ofBelow hb,Step.ofBelow hb,(),rfl,df⟩
theorem OV{g:FuncId}{E:TypeId}{v:Value}{xs:List (List UInt8)}{sep:List UInt8}(hs:SZ P E 1)
   (h1:∀(a:Option Addr)(c:Nat)(s:ByteArray) w,Calls P g #[.slice a 0 c,.string s] w fun e w'=>e= .returned (.string ⟨#[]⟩)/\w'=w)
   (h2:∀bk o c (ys:List ByteArray)(s:ByteArray) w,(∀(j:Nat) x,ys[j]?=some x->w.cell? ⟨bk,o+j,none⟩=some (.string x))->bk<w.heap.size->ys.length<=140737488355328->ys.length<=c->
     (Lib.join (ys.map (·.data.toList)) s.data.toList).length<=140737488355328->Calls P g #[.slice (some ⟨bk,o,none⟩) ys.length c,.string s] w fun e w'=>e= .returned (.string ⟨(Lib.join (ys.map (·.data.toList)) s.data.toList).toArray⟩)/\Below w.heap.size w w')
   (hN:xs.length<4294967296) (hlen:(Lib.join xs sep).length<4294967296):
   Fw.Spec P g [v,sv sep] [bS (bf E rdStr) v xs] (fun _:Unit=>sv (Lib.join xs sep)) (fun _=>[]):=by
 intro H F0 df ρ w dZ hr hargs
 obtain⟨l⟩:=dZ
 have hnil:xs=[]->Lib.join xs sep=[]:=fun h=>by subst h; rfl
 have hdone:∀w',Below w.heap.size w w'-> ∃x0 r ρ' H',Ending.returned (sv (Lib.join xs sep))= .returned x0/\aP ρ' r x0/\Rel P ρ' H' w'/\Step ρ H w ρ' H' w'/\ ∃x:Unit,r=sv (Lib.join xs sep)/\Ctx H F0 H' []:=fun w' hb=>
   ⟨_,_,ρ,H,rfl,.string _,hr.ofBelow hb,Step.ofBelow hb,(),rfl,df.sublist (List.nil_sublist _)⟩
 cases hargs with
 |cons _ c _ _ hc t=>
   cases t with
   |cons _ c2 _ _ hc2 t=>
     cases t
     obtain rfl:=hc2.sv_inv
     have hemp:∀a cap,c= .slice a 0 cap->xs=[]->Calls P g #[c,sv sep] w fun e w'=>∃x0 r ρ' H',e= .returned x0/\aP ρ' r x0/\Rel P ρ' H' w'/\Step ρ H w ρ' H' w'/\ ∃x:Unit,r=sv (Lib.join xs sep)/\Ctx H F0 H' []:=by
       intro a cap e hx
       subst e
       refine (h1 a cap _ w).mono ?_
       rintro e w' ⟨rfl,rfl⟩
       have:=hdone w' (Below.refl _ _)
       rw[hnil hx]at this ⊢
       exact this
     have hrd:bf E rdStr H v xs:=df.hold (bS (bf E rdStr) v xs) (by simp)
     rcases hrd with⟨rfl,hx⟩|⟨k,i,m,b,rfl,g2,g3,g4,g5,g6,g7⟩|⟨k,i,m,rfl,hx⟩
     · cases hc
       exact hemp none 0 rfl hx
     · obtain⟨L,p,cap,hl,hbr,rfl,hcap,-,-,hp⟩:=hc.slice_inv hr g2
       by_cases hx:xs.length=0
       · have hx':=List.length_eq_zero_iff.1 hx
         exact hemp (some p) cap (by rw[hx]) hx'
       have mq:=hp hx
       have jh:L.sz=1:=by rw[←hbr.sz,g4,hs.cells]
       obtain⟨cs,ct,fr,kJ,hel,-⟩:=hbr.cells
       have hmap:(xs.map fun l=>(⟨l.toArray⟩:ByteArray)).map (·.data.toList)=xs:=by
         rw[List.map_map]
         exact List.map_id' xs
       have hl2:(xs.map fun l=>(⟨l.toArray⟩:ByteArray)).length=xs.length:=by simp
       have:=h2 L.blk (L.off+i) cap (xs.map fun l=>(⟨l.toArray⟩:ByteArray)) ⟨sep.toArray⟩ w (fun j x hj=>by
         rw[List.getElem?_map]at hj
         cases hxj:xs[j]? with
         |none=>rw[hxj]at hj; simp at hj
         |some a=>
           rw[hxj]at hj
           obtain rfl:(⟨a.toArray⟩:ByteArray)=x:=by simpa using hj
           obtain⟨e,he,hr'⟩:=g7 j a hxj
           have hr2:e=sv a:=hr'
           subst hr2
           have:=(hel (i+j) _ he).2
           rw[jh,Nat.mul_one,←Nat.add_assoc]at this
           obtain⟨c0,q1,q2⟩:=this.get 0 _ rfl
           have q3:=q2.sv_inv
           subst q3
           rw[rC kJ]
           rw[List.getElem?_take_of_lt (by omega),List.getElem?_drop,Nat.add_zero,Array.getElem?_toList]at q1
           exact q1) (hr.lt hl) (by rw[hl2]; omega) (by rw[hl2]; exact hcap) (by rw[hmap]; show (Lib.join xs sep).length<=_; omega)
       rw[hl2,hmap]at this
       rw[mq,jh,Nat.mul_one]
       refine this.mono ?_
       rintro e w' ⟨rfl,hb⟩
       exact hdone w' hb
     · obtain⟨p,cap,rfl⟩:∃p cap,c= .slice (some p) 0 cap:=by
         cases hc with
         |slice _ _ _ _ L p cap=>exact⟨p,cap,rfl⟩
         |sliceDead _ _ _ _ p cap=>exact⟨p,cap,rfl⟩
       exact hemp (some p) cap rfl hx
end
section
variable{P:Program} [aO P]{n:Nat}{f:Fr}{d:Option Tmp}{x:Operand}{S T D E:TypeId}{ps:String}{af:Array Edge}{H:ag}{F:List Nat}{v:Value}{u:UInt8}
theorem zW(hS:SL P S E)(hE:IK P E .u8)(hD:P.underlying D=some .string)(hs:SZ P E 1)(hx:EV n f x v)(hp:(aS (aH E (ay ek)) F v [u]).P H):bR P n ⟨d,.convert S D x,T,ps,af,none⟩ f H (sv [u]):=by
 have ho:aH E (ay ek) F H v [u]:=hp
 rcases ho with⟨-,h,-⟩|⟨k,m,b,G,rfl,hm,h3,h4,h5,h6,h7,rfl,h9⟩
 · simp at h
 intro ρ w a hr hf
 obtain⟨L,p,cap,hl,hbr,hc,hcap,-,-,hp2⟩:=(hx.use hf).slice_inv hr h3
 have mq:=hp2 (by simp)
 rw[Nat.zero_mul,Nat.add_zero]at mq
 have hcz:P.cellsOf b.ty=1:=by rw[h6]; exact hs.cells
 obtain⟨e,F1,Fj,F2,g1,-,g3,-⟩:=h9.at (j:=0) rfl
 have g4:e= .int .u8 (u.toNat:Int):=g3.2
 subst g4
 have jh:L.sz=1:=by rw[←hbr.sz,hcz]
 obtain⟨cs,ct,fr,kJ,hel,-⟩:=hbr.cells
 have:=(hel 0 _ g1).2
 rw[Nat.zero_mul,Nat.add_zero,jh]at this
 obtain⟨c0,q1,q2⟩:=this.get 0 _ rfl
 have q3:=q2.int_inv
 subst q3
 rw[List.getElem?_take_of_lt (by omega),List.getElem?_drop,Nat.add_zero,Array.getElem?_toList]at q1
 obtain⟨hlt,hv⟩:=Array.getElem?_eq_some_iff.1 q1
 have hrun:=run_loadCells P kJ 1 (o:=L.off) (Nat.succ_le_of_lt hlt)
 have hd:(cs.toList.drop L.off).take 1=[Value.int .u8 (u.toNat:Int)]:=by
   rw[List.drop_eq_getElem_cons (by simpa using hlt)]
   simp[hv]
 rw[hd]at hrun
 have hu:P.underlying S=some (.slice E):=hS
 have hue:P.underlying E=some (.int .u8):=hE
 have hcv:(Conv.bytesToString (.slice (some p) 1 cap)).run P w= .ok (sv [u]) w:=by
   subst mq
   simp[Conv.bytesToString,hrun,sv]
   rfl
 refine⟨sv [u],?_,.string _⟩
 have hc1:a.eval x= .slice (some p) 1 cap:=hc
 simp[execOp,hc1,Go.convert,underlying,hu,hD,hue,hcv]
end
end Go.Fw
namespace Go.Fw
open Go
section
variable{P:Program} [aO P]{n:Nat}{f:Fr}{H:ag}{d:Option Tmp}{x:Operand}{T T':TypeId}{ps:String}{af:Array Edge}
theorem J7{k:IntKind}{i:Int}(hx:EV n f x (.int k i)):bR P n ⟨d,.unOp .neg T x,T',ps,af,none⟩ f H (.int k (k.wrap (-i))):=
 fun ρ _ a _ hf=>⟨_,by simp[execOp,(hx.use hf).int_inv,Op.unary,Op.intArith],.int _ _⟩
end
end Go.Fw
/-
 string(b) of a row of bytes of our own.  No conditions.
-/
set_option linter.unusedVariables false
namespace Go.Fw
open Go
section
variable{P:Program} [aO P]{n:Nat}{f:Fr}{d:Option Tmp}{x:Operand}{S T D E:TypeId}{ps:String}{af:Array Edge}{H:ag}{F:List Nat}{v:Value}{xs:List UInt8}
theorem Ho:∀(xs:List UInt8)(s:ByteArray),((xs.map fun u=>(u.toNat:Int)).foldl (fun r n=>r.push (UInt8.ofNat n.toNat)) s).data.toList=s.data.toList++xs
 |[],s=>by simp
 |u::xs,s=>by
   simp only[List.map_cons,List.foldl_cons]
   rw[Ho xs]
   simp[ByteArray.push]
theorem Pt(hS:SL P S E)(hE:IK P E .u8)(hD:P.underlying D=some .string)(hs:SZ P E 1)(hx:EV n f x v)(hp:(aS (aH E (ay ek)) F v xs).P H):bR P n ⟨d,.convert S D x,T,ps,af,none⟩ f H (sv xs):=by
 have ho:aH E (ay ek) F H v xs:=hp
 have hu:P.underlying S=some (.slice E):=hS
 have hue:P.underlying E=some (.int .u8):=hE
 rcases ho with⟨rfl,rfl,-⟩|⟨k,m,b,G,rfl,hm,h3,h4,h5,h6,h7,rfl,h9⟩
 · intro ρ w a hr hf
   have hc1:a.eval x= .slice none 0 0:=by
     have:=hx.use hf
     generalize a.eval x=z at this
     cases this
     rfl
   refine⟨sv [],?_,.string _⟩
   have hcv:(convert S D (.slice none 0 0)).run P w= .ok (sv []) w:=by
     rw[run_convert_bytes_string w S D E none 0 0 hu hue hD]
     rfl
   simp only[execOp,hc1,Sem.run_bind,hcv,Result.andThen,Sem.run_pure]
 intro ρ w a hr hf
 obtain⟨L,p,cap,hl,hbr,hc,hcap,-,-,hp2⟩:=(hx.use hf).slice_inv hr h3
 have hcz:P.cellsOf b.ty=1:=by rw[h6]; exact hs.cells
 have jh:L.sz=1:=by rw[←hbr.sz,hcz]
 obtain⟨cs,ct,fr,kJ,hel,-⟩:=hbr.cells
 have hat:∀j u,xs[j]?=some u->cs.toList[L.off+j]?=some (Value.int .u8 (u.toNat:Int)):=by
   intro j u hj
   obtain⟨e,F1,Fj,F2,g1,-,g3,-⟩:=h9.at hj
   have g4:e= .int .u8 (u.toNat:Int):=g3.2
   subst g4
   have:=(hel j _ g1).2
   rw[jh,Nat.mul_one]at this
   obtain⟨c0,q1,q2⟩:=this.get 0 _ rfl
   have q3:=q2.int_inv
   subst q3
   rw[List.getElem?_take_of_lt (by omega),List.getElem?_drop,Nat.add_zero]at q1
   exact q1
 have hc1:a.eval x= .slice (some p) xs.length cap:=hc
 have hdrop:(cs.toList.drop L.off).take xs.length=xs.map fun u=>Value.int .u8 (u.toNat:Int):=by
   apply List.ext_getElem?
   intro j
   by_cases hj:j<xs.length
   · rw[List.getElem?_take_of_lt hj,List.getElem?_drop,hat j _ (List.getElem?_eq_getElem hj),List.getElem?_map,List.getElem?_eq_getElem hj]
     rfl
   · rw[List.getElem?_eq_none (by rw[List.length_take]; omega),List.getElem?_eq_none (by simp; omega)]
 refine⟨sv xs,?_,.string _⟩
 have hsv:sv xs= .string ((xs.map fun u=>(u.toNat:Int)).foldl (fun r n=>r.push (UInt8.ofNat n.toNat)) ByteArray.empty):=by
   unfold sv
   congr 1
   have h:=Ho xs ByteArray.empty
   generalize (xs.map fun u=>(u.toNat:Int)).foldl (fun r n=>r.push (UInt8.ofNat n.toNat)) ByteArray.empty=bb at h
   cases bb with
   |mk dd=>
     simp at h
     congr 1
     apply Array.ext'
     simp[h]
 suffices hcv:(convert S D (.slice (some p) xs.length cap)).run P w= .ok (sv xs) w by
   simp only[execOp,hc1,Sem.run_bind,hcv,Result.andThen,Sem.run_pure]
 rw[run_convert_bytes_string w S D E _ _ _ hu hue hD,hsv]
 refine run_bytesToString w p xs.length cap _ ?_
 rcases Nat.eq_zero_or_pos xs.length with h0|h0
 · have:xs=[]:=List.length_eq_zero_iff.1 h0
   subst this
   rfl
 · have mq:=hp2 (by omega)
   rw[Nat.zero_mul,Nat.add_zero]at mq
   subst mq
   have hlen:L.off+xs.length<=cs.size:=by
     have:=hat (xs.length-1) _ (List.getElem?_eq_getElem (by omega))
     have h2:=(List.getElem?_eq_some_iff.1 this).1
     simp at h2
     omega
   have hrun:=run_loadCells P kJ xs.length (o:=L.off) hlen
   rw[hdrop]at hrun
   rw[hrun]
   simp[Function.comp_def]
end
end Go.Fw
/-
 Library functions that cut and read texts: what the shelf's contracts say, at the abstract heap.
-/
set_option linter.unusedVariables false
namespace Go.Fw
open Go Go.RowKit
def nA(T:TypeId)(k:Nat)(ok:Bool):Value:=bif ok then .nilIface else .iface T (.pointer (some ⟨k,0,none⟩))
section
variable{P:Program} [aO P]{n:Nat}{f:Fr}{H:ag}{d:Option Tmp}{x:Operand}{T T' T'' E:TypeId}{ps:String}{af:Array Edge}
theorem Pv{ρ:a_}{k:Nat}{b:Bool}{c:Value}(h:aP ρ (nA E k b) c):(b=true/\c= .nilIface)\/(b=false/\ ∃v,c= .iface E v):=by
 cases b
 · have h':aP ρ (.iface E (.pointer (some ⟨k,0,none⟩))) c:=h
   cases h' with
   |iface _ _ v' _=>exact .inr ⟨rfl,v',rfl⟩
 · have h':aP ρ .nilIface c:=h
   cases h'
   exact .inl ⟨rfl,rfl⟩
theorem P6{k:Nat}{b:Bool}(hT:P.underlying T=some (.interface (P.methodsAt T)))(hx:EV n f x (nA E k b)):bR P n ⟨d,.binOp .neq T x (.const .nilIface) T',T'',ps,af,none⟩ f H (.bool (!b)):=by
 intro ρ w a _ hf
 have he:a.eval (.const .nilIface)= .nilIface:=rfl
 rcases Pv (hx.use hf)with⟨rfl,hc⟩|⟨rfl,v,hc⟩
 · exact⟨.bool false,by simp[execOp,hc,he,eqGuard,run_neq_nil_nil w T hT],.bool _⟩
 · exact⟨.bool true,by simp[execOp,hc,he,eqGuard,run_neq_held_nil w T E v hT],.bool _⟩
end
section
variable{P:Program} [aO P]
theorem jf.varE{ρ:a_}{w:World}{name:String}(hV:∀w0,aO.V P w0-> ∃tp p,w0.var? P name=some #[.iface tp p])(h:jf P ρ w):∃tp p,w.var? P name=some #[.iface tp p]:=by
 obtain⟨w0,h1,h2,h3,-⟩:=h
 obtain⟨tp,p,this⟩:=hV w0 h1
 refine⟨tp,p,?_⟩
 unfold World.var? at this ⊢
 cases hg:P.globalNamed name with
 |none=>rw[hg]at this; simp at this
 |some g=>
   rw[hg,Option.bind_some]at this
   rw[Option.bind_some]
   have hlt:g<w0.heap.size:=by
     rcases Nat.lt_or_ge g w0.heap.size with h|h
     · exact h
     · rw[Array.getElem?_eq_none h]at this; simp at this
   rw[h3 g hlt]
   exact this
theorem Ol{g:FuncId}{vs:List Value}{r:Value}(hi:∀ρ c,aI ρ vs c->c=vs)(hrel:∀ρ,aP ρ r r)(h:∀w,Calls P g vs.toArray w fun e w'=>e= .returned r/\Below w.heap.size w w'):
   Fw.Spec P g vs [] (fun _:Unit=>r) (fun _=>[]):=by
 intro H F0 df ρ w dZ hr hargs
 obtain⟨l⟩:=dZ
 obtain rfl:=hi ρ l hargs
 refine (h w).mono ?_
 rintro e w' ⟨rfl,hb⟩
 exact⟨_,_,ρ,H,rfl,hrel ρ,hr.ofBelow hb,Step.ofBelow hb,(),rfl,df⟩
theorem JF{s:List UInt8}(ρ:a_)(c:List Value)(h:aI ρ [sv s] c):c=[sv s]:=by
 cases h with
 |cons _ c _ _ hc t=>cases t; rw[hc.sv_inv]
theorem Qz{s t:List UInt8}(ρ:a_)(c:List Value)(h:aI ρ [sv s,sv t] c):c=[sv s,sv t]:=by
 cases h with
 |cons _ c _ _ hc h=>rw[hc.sv_inv,JF ρ _ h]
theorem Om{g:FuncId}{E:TypeId}{vs:List Value}{ys:List (List UInt8)}(hi:∀ρ c,aI ρ vs c->c=vs)(hs:SZ P E 1)(hl:ys.length<4294967296)
   (h:∀w,Calls P g vs.toArray w fun e w'=>e= .returned (.slice (some ⟨w.heap.size,0,none⟩) ys.length ys.length)/\w'=w.alloc (.cells (ys.map sv).toArray E)):
   Fw.Spec P g vs [] (fun p:Sv=>p.v) (fun p=>[bS (bf E rdStr) p.v ys]):=by
 intro H F0 df ρ w dZ hr hargs
 obtain⟨l⟩:=dZ
 obtain rfl:=hi ρ l hargs
 refine (h w).mono ?_
 rintro e w' ⟨rfl,rfl⟩
 have hcell:∀(i:Nat) e,(ys.map sv)[i]?=some e->e.cells.size=1/\aI ρ e.cells.toList ((((ys.map sv).toArray).toList.drop (i*1)).take 1):=fun i e he=>by
   rw[List.getElem?_map]at he
   obtain⟨y,hy,rfl⟩:=Option.map_eq_some_iff.1 he
   refine⟨rfl,?_⟩
   have hlt:=(List.getElem?_eq_some_iff.1 hy).1
   have e1:((ys.map sv).toArray.toList.drop (i*1)).take 1=[sv y]:=by
     rw[Nat.mul_one,List.drop_eq_getElem_cons (by simpa using hlt)]
     have:=(List.getElem?_eq_some_iff.1 hy).2
     simp[this]
   rw[e1]
   exact .cons _ _ _ _ (.string _) .nil
 have h1:=Rel.push (w':=w.alloc (.cells (ys.map sv).toArray E)) (g:=false) (cap:=ys.length) (es:=ys.map sv) hr rfl hs.cells hcell (by simp) (by simp)
 have h2:Step ρ H w _ (H++[some ⟨ys.map sv,E,true,false⟩]) (w.alloc (.cells (ys.map sv).toArray E)):=Step.push (sz:=1) (cap:=ys.length) hr rfl rfl rfl rfl
 have hi2:dJ H (H++[some ⟨ys.map sv,E,true,false⟩]):=fun k x hx _=>by
   rw[List.getElem?_append_left (jo hx)]; exact hx
 refine⟨_,.slice (some ⟨H.length,0,none⟩) ys.length 0,_,_,rfl,?_,h1,h2,⟨(some ⟨H.length,0,none⟩),ys.length,0⟩,rfl,?_⟩
 · refine .slice H.length 0 ys.length 0 ⟨w.heap.size,0,1,ys.length,true⟩ _ ys.length (dC _ _ _) (Nat.le_refl _) (by simp) (by simp) fun _=>⟨by simp,by simp⟩
 · have:=df.step (pre:=[]) (rest:=[]) (post:=[bS (bf E rdStr) (.slice (some ⟨H.length,0,none⟩) ys.length 0) ys]) (H':=H++[some ⟨ys.map sv,E,true,false⟩]) (by simp) hi2 (fun k hk _=>List.getElem?_append_left hk) (fun c hc=>?_) (by simp[foot,bS]) (fun k hk=>by simp[foot,bS]at hk)
   · exact this
   · rw[List.mem_singleton]at hc
     subst hc
     refine .inr (.inl ⟨H.length,0,0,⟨ys.map sv,E,true,false⟩,rfl,by simp,rfl,rfl,by simp,by omega,fun j a hj=>⟨sv a,?_,rfl⟩⟩)
     rw[Nat.zero_add,List.getElem?_map,hj]; rfl
theorem OW{g:FuncId}{T:TypeId}{s:List UInt8}{r:Int×Bool}
   (h:∀w,(∃ρ,jf P ρ w)->Calls P g #[sv s] w fun e w'=>Below w.heap.size w w'/\((r.2=true/\e= .returned (.tuple #[.int .i64 r.1,.nilIface]))\/(r.2=false/\ ∃N,e= .returned (.tuple #[.int .i64 r.1,.iface T (.pointer (some ⟨N,0,none⟩))])))):
   Fw.Spec P g [sv s] [] (fun k:Nat=>.tuple [.int .i64 r.1,nA T k r.2].toArray) (fun _=>[]):=by
 intro H F0 df ρ w dZ hr hargs
 obtain⟨l⟩:=dZ
 obtain rfl:=JF ρ l hargs
 refine (h w ⟨ρ,hr.vok⟩).mono ?_
 rintro e w' ⟨hb,⟨h1,rfl⟩|⟨h1,N,rfl⟩⟩
 · exact⟨_,.tuple [.int .i64 r.1,.nilIface].toArray,ρ,H,rfl,.tuple _ [.int .i64 r.1,.nilIface] (.cons _ _ _ _ (.int _ _) (.cons _ _ _ _ .nilIface .nil)),hr.ofBelow hb,Step.ofBelow hb,0,by rw[h1]; rfl,df⟩
 · have g1:=(hr.ofBelow hb).dead
   have hi2:dJ H (H++[none]):=fun k x hx _=>by
     rw[List.getElem?_append_left (jo hx)]; exact hx
   refine⟨_,.tuple [.int .i64 r.1,.iface T (.pointer (some ⟨H.length,0,none⟩))].toArray,_,_,rfl,
     .tuple _ [.int .i64 r.1,.iface T (.pointer (some ⟨N,0,none⟩))] (.cons _ _ _ _ (.int _ _) (.cons _ _ _ _ (.iface _ _ _ (.ptrDead _ _ _ _ (dC _ _ _))) .nil)),g1,?_,H.length,by rw[h1]; rfl,?_⟩
   · exact {
       up:=xw hr none
       os:=hb.os
       output:=hb.output
       tape:=hb.tape
       size:=hb.size
       frame:=fun b hb' _=>hb.block b hb'
       fresh:=fun k L hk=>by
         by_cases e:k=H.length
         · subst e; rw[dC]at hk; simp at hk
         · rw[bJ _ _ e]at hk; exact .inl hk
       len:=by simp
       hold:=fun k hk hn=>⟨by rw[bJ _ _ (by omega)]; exact hn,by rw[List.getElem?_append_left hk]⟩}
   · exact df.step (pre:=[]) (rest:=[]) (post:=[]) (by simp) hi2 (fun k hk _=>List.getElem?_append_left hk) (fun c hc=>by simp at hc) (by simp[foot]) (fun k hk=>by simp[foot]at hk)
end
end Go.Fw
/-
 strings.Split and stringslite.Index at a separator of one byte, over any program and any numbering.
-/
set_option linter.unusedVariables false
namespace Go.Fw
open Go Go.RowKit Go.Shelf Go.Proofs
section
variable{P:Program}{ρ:Ren}
theorem Jd(s:List UInt8):(⟨s.toArray⟩:ByteArray).data.toList=s:=by simp
theorem Ae(s:List UInt8):(⟨s.toArray⟩:ByteArray).size=s.length:=by simp[ByteArray.size]
theorem Hq(c:UInt8):∀l:List UInt8,Lib.index l [c]=Lib.indexByte l c
 |[]=>rfl
 |b::l=>by
   rw[Lib.index,Lib.indexByte,Hq c l]
   have:[c].isPrefixOf (b::l)=(b==c):=by
     by_cases h:b=c
     · subst h; simp[List.isPrefixOf]
     · have h':c≠b:=fun e=>h e.symm
       simp[List.isPrefixOf,beq_eq_false_iff_ne.2 h,beq_eq_false_iff_ne.2 h']
   rw[this]
theorem NH(L:Lays.n219 P ρ)(s:List UInt8)(c:UInt8)(w:World):Calls P (ρ.f 219) #[sv s,sv [c]] w fun e w'=>e= .returned (.int .i64 (Lib.indexByte s c))/\Below w.heap.size w w':=by
 refine (Go.Proofs.Any.stringslite_Index_one L ⟨s.toArray⟩ c w).mono ?_
 rintro e w' ⟨rfl,rfl⟩
 exact⟨by rw[Jd],Below.refl _ _⟩
theorem NI(L:Lays.n221 P ρ)(hi9:(P.info? (ρ.t 9)).map (fun i=>(i.zero,i.size,i.bytes))=some (some (.string ByteArray.empty),1,16))(s:List UInt8)(c:UInt8)(hs:s.length<4294967281)(w:World):
   Calls P (ρ.f 221) #[sv s,sv [c],.int .i64 0,.int .i64 (-1)] w fun e w'=>e= .returned (.slice (some ⟨w.heap.size,0,none⟩) (Lib.split s [c]).length (Lib.split s [c]).length)/\w'=w.alloc (.cells ((Lib.split s [c]).map sv).toArray (ρ.t 9)):=by
 have h1:1<=(⟨#[c]⟩:ByteArray).size:=Nat.le_refl _
 have hle:=Lib.countB_le ⟨#[c]⟩ h1 _ ⟨s.toArray⟩ (Nat.le_refl _)
 have hlen:=Lib.splitB_all ⟨#[c]⟩ h1 0 _ ⟨s.toArray⟩ rfl
 have hI:∀(x:ByteArray)(d:Array Value),x.size<=(⟨s.toArray⟩:ByteArray).size->Calls P (ρ.f 143) #[.string x,.string ⟨#[c]⟩] (w.alloc (.cells d (ρ.t 9))) fun e w'=>e= .returned (.int .i64 (Lib.indexB x ⟨#[c]⟩))/\w'=w.alloc (.cells d (ρ.t 9)):=fun x d hx=>by
   refine (Go.Proofs.Any.strings_Index_one {L with} x c _).mono ?_
   rintro e w' ⟨rfl,rfl⟩
   exact⟨by rw[←Hq],rfl⟩
 have hC:Calls P (ρ.f 138) #[.string ⟨s.toArray⟩,.string ⟨#[c]⟩] w fun e w'=>e= .returned (.int .i64 (Lib.countB ⟨s.toArray⟩ ⟨#[c]⟩))/\w'=w:=by
   refine (Go.Proofs.Any.strings_Count_one {L with} ⟨s.toArray⟩ c w).mono ?_
   rintro e w' ⟨he,rfl⟩
   exact⟨by rw[he]; show _=Ending.returned (Value.int .i64 ((Lib.count (⟨s.toArray⟩:ByteArray).data.toList [c]:Nat):Int)); rw[Lib.count_one]; rfl,rfl⟩
 have:=Go.Proofs.Any.strings_genSplit_core L hi9 ⟨s.toArray⟩ ⟨#[c]⟩ 0 (-1) (Lib.countB ⟨s.toArray⟩ ⟨#[c]⟩+1) w (by rw[Ae]; exact hs) h1 (by omega) hI hC (by decide) (by decide) (by rw[if_pos (by decide)]; omega)
 rw[Nat.add_sub_cancel,hlen]at this
 have e2:Lib.cellsOf (Lib.splitB ⟨#[c]⟩ 0 (Lib.countB ⟨s.toArray⟩ ⟨#[c]⟩) ⟨s.toArray⟩) (Lib.countB ⟨s.toArray⟩ ⟨#[c]⟩+1)=((Lib.split s [c]).map sv).toArray:=by
   rw[←hlen,Lib.cellsOf_full]
   have e3:=Lib.splitB_data ⟨#[c]⟩ 0 (Lib.countB ⟨s.toArray⟩ ⟨#[c]⟩) ⟨s.toArray⟩
   have e4:Lib.split s [c]=(Lib.splitB ⟨#[c]⟩ 0 (Lib.countB ⟨s.toArray⟩ ⟨#[c]⟩) ⟨s.toArray⟩).map (·.data.toList):=by rw[e3]; rfl
   rw[e4,List.map_map]
   congr 1
 have e5:(Lib.split s [c]).length=Lib.countB ⟨s.toArray⟩ ⟨#[c]⟩+1:=by
   have e3:=Lib.splitB_data ⟨#[c]⟩ 0 (Lib.countB ⟨s.toArray⟩ ⟨#[c]⟩) ⟨s.toArray⟩
   have e4:Lib.split s [c]=(Lib.splitB ⟨#[c]⟩ 0 (Lib.countB ⟨s.toArray⟩ ⟨#[c]⟩) ⟨s.toArray⟩).map (·.data.toList):=by rw[e3]; rfl
   rw[e4,List.length_map,hlen]
 rw[e2,←e5]at this
 exact this
end
end Go.Fw
namespace Go.Fw
open Go
theorem QA{s t:List UInt8}{i j:Int}(ρ:a_)(c:List Value)(h:aI ρ [sv s,sv t,.int .i64 i,.int .i64 j] c):c=[sv s,sv t,.int .i64 i,.int .i64 j]:=by
 cases h with
 |cons _ c _ _ hc h=>
   cases h with
   |cons _ c2 _ _ hc2 h=>
     cases h with
     |cons _ c3 _ _ hc3 h=>
       cases h with
       |cons _ c4 _ _ hc4 h=>
         cases h
         rw[hc.sv_inv,hc2.sv_inv,hc3.int_inv,hc4.int_inv]
end Go.Fw
/-
 strconv.Atoi, over any program and any numbering.
-/
set_option linter.unusedVariables false
namespace Go.Fw
open Go Go.RowKit Go.Shelf Go.Proofs
def oC(s:List UInt8):Int×Bool:=
 match Lib.atoiAll s with
 | .ok v=>(v,true)
 | .range=>(Lib.atoiSat s,false)
 |_=>(0,false)
section
variable{P:Program}{ρ:Ren}
theorem Oo(L:LaysC.n172 P ρ)(s:List UInt8)(hs:s.length<=281474976710656)(w:World)(h1:∃tp p,w.var? P "strconv.ErrSyntax" =some #[.iface tp p])(h2:∃tp p,w.var? P "strconv.ErrRange" =some #[.iface tp p]):
   Calls P (ρ.f 172) #[sv s] w fun e w'=>Below w.heap.size w w'/\(((oC s).2=true/\e= .returned (.tuple #[.int .i64 (oC s).1,.nilIface]))\/((oC s).2=false/\ ∃N,e= .returned (.tuple #[.int .i64 (oC s).1,.iface (ρ.t 168) (.pointer (some ⟨N,0,none⟩))]))):=by
 have hl:=Jd s
 unfold oC
 cases h:Lib.atoiAll s with
 |ok v=>
   refine (Go.Proofs.Any.strconv_Atoi_ok L ⟨s.toArray⟩ (by rw[Ae]; omega) v (by rw[hl]; exact h) w).mono ?_
   rintro e w' ⟨rfl,hw⟩
   refine⟨?_,.inl ⟨rfl,rfl⟩⟩
   rcases hw with rfl|⟨t,rfl⟩
   · exact Below.refl _ _
   · exact Lib.bytesWorld_below _ _ _
 |range=>
   obtain⟨tp,p,hv⟩:=h2
   refine (Go.Proofs.Any.strconv_Atoi_range_var L ⟨s.toArray⟩ (by rw[Ae]; exact hs) (by rw[hl]; exact h) tp p w hv).mono ?_
   rintro e w' ⟨N,rfl,-,-,hb⟩
   exact⟨hb,.inr ⟨rfl,N,by rw[hl]⟩⟩
 |_=>
   obtain⟨tp,p,hv⟩:=h1
   refine (Go.Proofs.Any.strconv_Atoi_syntax_var L ⟨s.toArray⟩ (by rw[Ae]; exact hs) (by rw[hl]; exact h) tp p w hv).mono ?_
   rintro e w' ⟨N,rfl,-,-,hb⟩
   exact⟨hb,.inr ⟨rfl,N,rfl⟩⟩
end
end Go.Fw
/-
 Library functions on our own rows of integers: what the shelf's contracts say, at the abstract heap.
-/
set_option linter.unusedVariables false
namespace Go.Fw
open Go Go.Sort
section
variable{P:Program} [aO P]{ρ:a_}{H:ag}{w:World}
theorem Rel.grown{w':World}{os:Array Obj}(h:Rel P ρ H w)(hw:w'.heap=w.heap++os):Rel P ρ H w':=by
 have hs:∀b,b<w.heap.size->w'.heap[b]?=w.heap[b]?:=fun b hb=>by rw[hw,Array.getElem?_append_left hb]
 constructor
 · intro k L hk
   obtain⟨b,hb,hr⟩:=h.blk k L hk
   exact⟨b,hb,hr.of_same (Up.refl ρ) (hs _ (h.lt hk))⟩
 · exact h.alive
 · exact h.dom
 · exact h.inj
 · exact h.vok.keep (by rw[hw]; simp) (fun b hb _=>hs b hb) fun _ _ hk _=>.inl hk
theorem Step.grown{w':World}{os:Array Obj}(hw:w'.heap=w.heap++os)(h1:w'.os=w.os)(h2:w'.output=w.output)(h3:w'.tape=w.tape):Step ρ H w ρ H w' where
 up:=Up.refl ρ
 os:=h1
 output:=h2
 tape:=h3
 size:=by rw[hw]; simp
 frame b hb _:=by rw[hw,Array.getElem?_append_left hb]
 fresh _ _ h:=.inl h
 len:=Nat.le_refl _
 hold k hk hn:=⟨hn,rfl⟩
theorem Rel.row{k n:Nat}{L:Loc}{b:cO}{zs ys:List Int}{os:Array Obj}(h:Rel P ρ H w)(hk:ρ k=some (some L))(hb:H[k]?=some (some b))(hown:b.own=true)(hsz:P.cellsOf b.ty=1)
   (hl:b.elems.length=zs.length) (hys:∀(i:Nat) y,ys[i]?=some y->zs[i]?=some y):
   Rel P ρ (H.set k (some ⟨ys.map (Value.int .i64),b.ty,true,b.wr⟩)) (grow (putRow (Value.int .i64) (Sort.ahead w n) L.blk L.off zs.toArray) os)/\
   Step ρ H w ρ (H.set k (some ⟨ys.map (Value.int .i64),b.ty,true,b.wr⟩)) (grow (putRow (Value.int .i64) (Sort.ahead w n) L.blk L.off zs.toArray) os):=by
 obtain⟨b',hb',hbr⟩:=h.blk k L hk
 rw[hb]at hb'
 obtain rfl:b=b':=by simpa using hb'
 have ho:L.own=true:=by rw[←hbr.own]; exact hown
 have jh:L.sz=1:=by rw[←hbr.sz,hsz]
 obtain⟨cs,ct,fr,kJ,hel,hr2⟩:=hbr.cells
 obtain⟨hoff,ng,hlenL,hfr,rfl⟩:=hr2 ho
 have hlt:=h.lt hk
 have hyl:ys.length<=zs.length:=by
   rcases Nat.lt_or_ge zs.length ys.length with h'|h'
   · have:=hys zs.length ys[zs.length] (List.getElem?_eq_getElem h')
     rw[List.getElem?_eq_none (Nat.le_refl _)]at this; simp at this
   · exact h'
 have hzc:zs.length<=cs.size:=by rw[jh,Nat.mul_one]at ng; omega
 have KY:(putRow (Value.int .i64) (Sort.ahead w n) L.blk L.off zs.toArray).heap=w.heap.setIfInBounds L.blk (.cells (putCells (Value.int .i64) L.off zs.toArray cs) b.ty fr):=by
   show w.heap.modify L.blk (onCells (putCells (Value.int .i64) L.off zs.toArray))=_
   apply Array.ext_getElem?
   intro q
   rw[Array.getElem?_modify,Array.getElem?_setIfInBounds]
   by_cases e:L.blk=q
   · subst e
     rw[if_pos rfl,if_pos rfl,if_pos hlt,kJ]; rfl
   · rw[if_neg e,if_neg e]
 have hsz':(putCells (Value.int .i64) L.off zs.toArray cs).size=cs.size:=by simp[putCells]
 have R1:Rel P ρ (H.set k (some ⟨ys.map (Value.int .i64),b.ty,true,b.wr⟩)) (putRow (Value.int .i64) (Sort.ahead w n) L.blk L.off zs.toArray):=by
   refine h.write (b:=b) (b':=⟨ys.map (Value.int .i64),b.ty,true,b.wr⟩) hk ho KY rfl rfl hbr.sz ?_ ⟨hoff,by rw[hsz']; exact ng,by simp only[List.length_map]; omega,by rw[hsz']; exact hfr⟩
   intro i e he
   rw[List.getElem?_map]at he
   cases hy:ys[i]? with
   |none=>rw[hy]at he; simp at he
   |some y=>
     rw[hy]at he
     obtain rfl:Value.int .i64 y=e:=by simpa using he
     have hz:=hys i y hy
     obtain⟨hi,hz'⟩:=List.getElem?_eq_some_iff.1 hz
     refine⟨jh ▸ rfl,?_⟩
     rw[hoff,jh,Nat.zero_add,Nat.mul_one]
     have hc:(putCells (Value.int .i64) 0 zs.toArray cs).toList.drop i=Value.int .i64 y::(putCells (Value.int .i64) 0 zs.toArray cs).toList.drop (i+1):=by
       rw[List.drop_eq_getElem_cons (by simp[putCells]; omega)]
       congr 1
       simp[putCells,hi,hz']
     rw[hc]
     exact .cons _ _ _ _ (.int _ _) .nil
 have S1:Step ρ H w ρ (H.set k (some ⟨ys.map (Value.int .i64),b.ty,true,b.wr⟩)) (putRow (Value.int .i64) (Sort.ahead w n) L.blk L.off zs.toArray):=
   Step.write hk ho KY rfl rfl rfl
 exact⟨R1.grown rfl,S1.trans (Step.grown rfl rfl rfl rfl)⟩
theorem Rel.holds{k:Nat}{L:Loc}{b:cO}{zs:List Int}(h:Rel P ρ H w)(hk:ρ k=some (some L))(hb:H[k]?=some (some b))(hown:b.own=true)(hsz:P.cellsOf b.ty=1)
   (he:b.elems=zs.map (Value.int .i64)):Holds (Value.int .i64) w L.blk L.off zs.toArray:=by
 obtain⟨b',hb',hbr⟩:=h.blk k L hk
 rw[hb]at hb'
 obtain rfl:b=b':=by simpa using hb'
 have ho:L.own=true:=by rw[←hbr.own]; exact hown
 have jh:L.sz=1:=by rw[←hbr.sz,hsz]
 obtain⟨cs,ct,fr,kJ,hel,hr2⟩:=hbr.cells
 obtain⟨hoff,ng,hlenL,hfr,rfl⟩:=hr2 ho
 rw[jh,Nat.mul_one]at ng
 rw[he,List.length_map]at hlenL
 intro j hj
 simp only[List.size_toArray]at hj
 have hjc:j<cs.size:=by omega
 rw[hoff,Nat.zero_add]
 have:=(hel j (Value.int .i64 zs[j]) (by rw[he,List.getElem?_map,List.getElem?_eq_getElem hj]; rfl)).2
 rw[hoff,jh,Nat.zero_add,Nat.mul_one,List.drop_eq_getElem_cons (by simpa using hjc)]at this
 have hv:cs[j]=Value.int .i64 zs[j]:=by
   obtain⟨c,h1,h2⟩:=this.get 0 _ rfl
   have h3:=h2.int_inv
   subst h3
   simpa using h1
 constructor
 · rw[rC kJ,Array.getElem?_eq_getElem hjc,hv]
   simp[hj]
 · have:=hfr j (Nat.le_of_lt hjc)
   simp only[World.frozen?,kJ]
   simpa using this
end
section
variable{P:Program} [aO P]{H:ag}{F0:List Nat}{E:TypeId}
theorem zX{es:List Value}{xs:List Int}{G:List Nat}(h:di (ay aF) H es xs G):es=xs.map (Value.int .i64)/\G=[]:=by
 induction h with
 |nil=>exact⟨rfl,rfl⟩
 |cons h _ ih=>exact⟨by rw[ih.1,h.2]; rfl,by rw[ih.2,h.1]; rfl⟩
theorem IJ:∀(xs:List Int),di (ay aF) H (xs.map (Value.int .i64)) xs []
 |[]=>.nil
 |x::xs=>by simpa using di.cons (Ro:=ay aF) (F:=[]) ⟨rfl,rfl⟩ (IJ xs)
theorem Ctx.setrow{k m m':Nat}{b:cO}{xs ys:List Int}(df:Ctx H F0 H [aS (aH E (ay aF)) [k] (.slice (some ⟨k,0,none⟩) xs.length m) xs])(h3:H[k]?=some (some b))(h4:b.wr=true)(h6:b.ty=E)
   (hm:m'=1\/m'=2) (hb:ys.length<4611686018427387904):
   Ctx H F0 (H.set k (some ⟨ys.map (Value.int .i64),b.ty,true,b.wr⟩)) [aS (aH E (ay aF)) [k] (.slice (some ⟨k,0,none⟩) ys.length m') ys]:=by
 have hne:∀q,q≠k->(H.set k (some ⟨ys.map (Value.int .i64),b.ty,true,b.wr⟩))[q]?=H[q]?:=fun q hq=>by rw[List.getElem?_set_ne (fun e=>hq e.symm)]
 have hkl:=jo h3
 refine⟨by simp,?_,fun q hq yN=>hne q (fun e=>yN ?_),?_,by simp[foot,aS],fun q hq=>?_⟩
 · intro q b2 hq hw2
   rw[hne q (fun e=>by subst e; rw[hq]at h3; injection h3 with h3; injection h3 with h3; rw[h3]at hw2; rw[hw2]at h4; simp at h4)]
   exact hq
 · subst e
   rcases (df.own q (by simp[foot,aS])).1 with h|h
   · exact h
   · omega
 · intro c hcm
   simp at hcm; subst hcm
   exact .inr ⟨k,m',_,[],rfl,hm,List.getElem?_set_self hkl,h4,rfl,h6,hb,rfl,IJ ys⟩
 · have hqk:q=k:=by simpa[foot,aS]using hq
   subst hqk
   exact⟨(df.own q (by simp[foot,aS])).1,by simpa using hkl⟩
theorem Ig{ρ:a_}{v:Value}{dZ:Array Value}(h:aI ρ [v] dZ.toList):∃c,dZ= #[c]/\aP ρ v c:=by
 obtain⟨l⟩:=dZ
 cases h with
 |cons _ c _ _ h t=>cases t; exact⟨c,rfl,h⟩
theorem OX{g:FuncId}{F:List Nat}{v:Value}{xs:List Int}(hty:TY P E 1 8 (.int .i64 0))
   (h1:∀(p:Option Addr) cap w,Calls P g #[.slice p 0 cap] w fun e w'=>e= .returned (.tuple #[])/\w'=w)
   (h2:∀blk off cap (zs:List Int) w,Holds (Value.int .i64) w blk off zs.toArray->blk<w.heap.size->zs.length<4611686018427387904->Calls P g #[.slice (some ⟨blk,off,none⟩) zs.length cap] w fun e w'=>
     e= .returned (.tuple #[])/\ ∃n os,w'=grow (putRow (Value.int .i64) (Sort.ahead w n) blk off (zs.mergeSort fun x y=>decide (x<=y)).toArray) os):
   Fw.Spec P g [v] [aS (aH E (ay aF)) F v xs] (fun _:List Nat=>.tuple [].toArray) (fun p=>[aS (aH E (ay aF)) p v (xs.mergeSort fun x y=>decide (x<=y))]):=by
 intro H F0 df ρ w dZ hr hargs
 obtain⟨c,rfl,hc⟩:=Ig hargs
 have ho:aH E (ay aF) F H v xs:=df.hold _ (List.mem_singleton.2 rfl)
 rcases ho with⟨rfl,rfl,rfl⟩|⟨k,m,b,G,rfl,hm,h3,h4,h5,h6,h7,rfl,h9⟩
 · cases hc with
   |nilSlice=>
     refine (h1 none 0 w).mono ?_
     rintro e w' ⟨rfl,rfl⟩
     exact⟨_,_,ρ,H,rfl,.tuple [] [] .nil,hr,Step.refl _ _ _,_,rfl,by simpa using df⟩
 · obtain⟨-,rfl⟩:b.elems=xs.map (Value.int .i64)/\G=[]:=zX h9
   have hel:=(zX h9).1
   obtain⟨L,p,cap,hl,hbr,rfl,hcap,g1,g2,gp⟩:=hc.slice_inv hr h3
   rcases xs with _|⟨x,xs⟩
   · refine (h1 (some p) cap w).mono ?_
     rintro e w' ⟨rfl,rfl⟩
     exact⟨_,_,ρ,H,rfl,.tuple [] [] .nil,hr,Step.refl _ _ _,_,rfl,by simpa using df⟩
   · have hp:=gp (by simp)
     rw[Nat.zero_mul,Nat.add_zero]at hp
     subst hp
     have hcz:P.cellsOf b.ty=1:=by rw[h6]; exact hty.sz.cells
     refine (h2 L.blk L.off cap (x::xs) w (hr.holds hl h3 h5 hcz hel) (hr.lt hl) h7).mono ?_
     rintro e w' ⟨rfl,n,os,rfl⟩
     have hlen:((x::xs).mergeSort fun x y=>decide (x<=y)).length=(x::xs).length:=List.length_mergeSort _
     obtain⟨r1,r2⟩:=hr.row (n:=n) (os:=os) (zs:=(x::xs).mergeSort fun x y=>decide (x<=y)) (ys:=(x::xs).mergeSort fun x y=>decide (x<=y)) hl h3 h5 hcz (by rw[hel,List.length_map,hlen]) (fun _ _ h=>h)
     have:=Ctx.setrow (ys:=(x::xs).mergeSort fun x y=>decide (x<=y)) df h3 h4 h6 hm (by rw[hlen]; exact h7)
     rw[hlen]at this
     exact⟨_,_,ρ,_,rfl,.tuple [] [] .nil,r1,r2,_,rfl,this⟩
theorem Nr{g:FuncId}{F:List Nat}{v:Sv}{xs:List Int}{cm:List Int->List Int}(hty:TY P E 1 8 (.int .i64 0))(hle:∀zs,(cm zs).length<=zs.length)(hnil:cm []=[])
   (h1:∀(p:Option Addr) cap w,Calls P g #[.slice p 0 cap] w fun e w'=>e= .returned (.slice p 0 cap)/\w'=w)
   (h2:∀blk off cap (zs:List Int) w,Holds (Value.int .i64) w blk off zs.toArray->zs.length<=9223372036854775807->zs.length<=cap->Calls P g #[.slice (some ⟨blk,off,none⟩) zs.length cap] w fun e w'=>
     e= .returned (.slice (some ⟨blk,off,none⟩) (cm zs).length cap)/\ ∃q,w'=putRow (Value.int .i64) (Sort.ahead w q) blk off (cm zs++List.replicate (zs.length-(cm zs).length) 0).toArray):
   Fw.Spec P g [v.v] [aS (aH E (ay aF)) F v.v xs] (fun p:Sv×List Nat=>p.1.v) (fun p=>[aS (aH E (ay aF)) p.2 p.1.v (cm xs)]):=by
 intro H F0 df ρ w dZ hr hargs
 obtain⟨c,rfl,hc⟩:=Ig hargs
 have ho:aH E (ay aF) F H v.v xs:=df.hold _ (List.mem_singleton.2 rfl)
 have ho':=ho
 rcases ho with⟨hv,rfl,rfl⟩|⟨k,m,b,G,hv,hm,h3,h4,h5,h6,h7,rfl,h9⟩
 · have hc':=hc
   rw[hv]at hc
   cases hc with
   |nilSlice=>
     refine (h1 none 0 w).mono ?_
     rintro e w' ⟨rfl,rfl⟩
     exact⟨_,_,ρ,H,rfl,hc',hr,Step.refl _ _ _,(v,[]),rfl,by simpa[hnil]using df⟩
 · obtain⟨-,rfl⟩:b.elems=xs.map (Value.int .i64)/\G=[]:=zX h9
   have hel:=(zX h9).1
   have hc':=hc
   rw[hv]at hc
   obtain⟨L,p,cap,hl,hbr,rfl,hcap,g1,g2,gp⟩:=hc.slice_inv hr h3
   rcases xs with _|⟨x,xs⟩
   · refine (h1 (some p) cap w).mono ?_
     rintro e w' ⟨rfl,rfl⟩
     exact⟨_,_,ρ,H,rfl,hc',hr,Step.refl _ _ _,(v,[k]),rfl,by simpa[hnil]using df⟩
   · have hp:=gp (by simp)
     rw[Nat.zero_mul,Nat.add_zero]at hp
     subst hp
     have hcz:P.cellsOf b.ty=1:=by rw[h6]; exact hty.sz.cells
     have hown:L.own=true:=by rw[←hbr.own]; exact h5
     refine (h2 L.blk L.off cap (x::xs) w (hr.holds hl h3 h5 hcz hel) (by omega) hcap).mono ?_
     rintro e w' ⟨rfl,n,rfl⟩
     have hlen:=hle (x::xs)
     obtain⟨r1,r2⟩:=hr.row (n:=n) (os:=#[]) (zs:=cm (x::xs)++List.replicate ((x::xs).length-(cm (x::xs)).length) 0) (ys:=cm (x::xs)) hl h3 h5 hcz (by rw[hel,List.length_map,List.length_append,List.length_replicate]; omega)
       (fun i y h=>by rw[List.getElem?_append_left (List.getElem?_eq_some_iff.1 h).1]; exact h)
     rw[grow_empty]at r1 r2
     have hcc:cap<=L.cap:=by
       rcases hm with rfl|rfl
       · have:=g1 rfl; omega
       · exact (g2 (Nat.le_refl _)).2.2.1
     rw[hv]at df
     have:=Ctx.setrow (ys:=cm (x::xs)) (m':=2) df h3 h4 h6 (.inr rfl) (by omega)
     refine⟨_,.slice (some ⟨k,0,none⟩) (cm (x::xs)).length 2,ρ,_,rfl,.slice _ _ _ _ L _ cap hl (by omega) (by simp) (fun _=>⟨rfl,hown,hcc,rfl,by omega⟩) (fun _=>⟨by simp,fun _=>by omega⟩),r1,r2,(⟨some ⟨k,0,none⟩,(cm (x::xs)).length,2⟩,[k]),rfl,this⟩
end
theorem Oq(zs:List Int):(Lib.compact zs).length<=zs.length:=by
 unfold Lib.compact Lib.compactUpTo
 rw[List.length_map]
 exact Nat.le_trans (List.length_filter_le _ _) (Nat.le_of_eq List.length_range)
end Go.Fw
/-
 Rules that look up by themselves what they need: names of temporaries, facts of the context, facts of the program's tables. No conditions.
-/
set_option linter.unusedVariables false
namespace Go.Fw
open Go
class j6(P:Program) [aO P](t i:Nat)(off:outParam Nat):Prop where h:FD P t i off
class gP(P:Program) [aO P](t:Nat)(b:outParam Bool):Prop where h:AG P t b
class gQ(P:Program) [aO P](t:Nat)(s b:outParam Nat)(z:outParam Value):Prop where h:TY P t s b z
class mr(P:Program) [aO P](t:Nat)(e:outParam Nat):Prop where h:SL P t e
class aQ(P:Program) [aO P](g:Nat):Prop where h:CF P g
section
variable{P:Program} [aO P]{n:Nat}{f:Fr}{H0:ag}{F0:List Nat}{cs pre rest:List aj}{c c':aj}{x y z:Operand}{v:Value}
theorem gD(h:Mem c cs:=by
   first
   |((repeat (first|with_reducible exact Mem.h|with_reducible apply Mem.t)); done)
   |((repeat (first|exact Mem.h|apply Mem.t)); done)):Mem c cs:=h
theorem J8{r:List aj}(h:Sel cs c r:=by
   first
   |((repeat (first|with_reducible exact Sel.h|with_reducible apply Sel.t)); done)
   |((repeat (first|exact Sel.h|apply Sel.t)); done)):Sel cs c r:=h
theorem Q5{α:Type}{R:ag->Value->α->Prop}{_:bP R}{a:α}(h:Mem (bS R v a) cs)(t:dI cs pre rest):dI cs (bS R v a::pre) rest:=.rd h rfl t
theorem Q6{k:Nat}{b:cO}(h:Mem (ky k b) cs)(t:dI cs pre rest):dI cs (ky k b::pre) rest:=.rd h rfl t
theorem kD(h:dI cs pre rest:=by
   first
   |exact dI.nil
   |((with_reducible refine' Q5 ?hm ?ht); (case hm=>exact gD); (case ht=>exact kD))
   |((with_reducible refine' Q6 ?hm ?ht); (case hm=>exact gD); (case ht=>exact kD))
   |exact dI.cons J8 kD
   |exact dI.rd gD rfl kD):dI cs pre rest:=h
theorem bT(h:EV n f x v:=by
   first|exact EV.tmp rfl rfl|exact EV.int _ _|exact EV.bool _|exact EV.str _|exact EV.nilSlice|exact EV.nilPtr|exact EV.nilFunc|exact EV.nilIface|exact EV.fn _):EV n f x v:=h
theorem jE(h:EV n f x v:=by
   first
   |exact EV.tmp (v:=.int _ _) rfl rfl|exact EV.tmp (v:=.bool _) rfl rfl|exact EV.tmp (v:=Sv.v _) rfl rfl|exact EV.tmp (v:=.slice _ _ _) rfl rfl
   |exact EV.tmp (v:=.pointer _) rfl rfl|exact EV.tmp (v:=.agg _) rfl rfl|exact EV.tmp (v:=sv _) rfl rfl|exact EV.tmp (v:=.string _) rfl rfl
   |exact EV.tmp (v:=.func _ _ _) rfl rfl|exact EV.tmp (v:=.tuple _) rfl rfl|exact EV.tmp (v:=undef) rfl rfl
   |exact EV.int _ _|exact EV.bool _|exact EV.str _|exact EV.nilSlice|exact EV.nilPtr|exact EV.nilFunc|exact EV.nilIface|exact EV.fn _):EV n f x v:=h
theorem EF{o:Option Value}(h:o=some v:=by
   first
   |exact (rfl:_=some (Value.int _ _))|exact (rfl:_=some (Sv.v _))|exact (rfl:_=some (Value.bool _))|exact (rfl:_=some (Value.slice _ _ _))
   |exact (rfl:_=some (sv _))|exact (rfl:_=some (Value.string _))|exact (rfl:_=some (Value.pointer _))|exact (rfl:_=some (Value.func _ _ _))):o=some v:=h
theorem bi{xs:List Operand}{vs:List Value}(h:fe n f xs vs:=by first|exact fe.nil|exact fe.cons bT bi):fe n f xs vs:=h
theorem aK{l:List (Nat×Value)}(h:bn f l:=by
   repeat (first|exact bn.nil|refine' bn.cons rfl ?_)):f=aX f l:=h.eq
variable{A:Array Oper}{r:List Oper}{K:Fr->List aj->Prop}{d:Option Tmp}{op:Op}{T T' T'' E:TypeId}{ps:String}{af:Array Edge}
theorem Tz(hx:EV n f x v)(h:aD P n H0 F0 A r (put f d v) cs K):aD P n H0 F0 A (⟨d,.move x,T,ps,af,none⟩::r) f cs K:=ax (gq hx) h
theorem TA(hx:EV n f x v)(h:aD P n H0 F0 A r (put f d v) cs K):aD P n H0 F0 A (⟨d,.assign x,T,ps,af,none⟩::r) f cs K:=ax (gG hx) h
theorem Je{H:ag}{u:Value}(hc:EV n f x (.bool true))(hy:EV n f y u):bR P n ⟨d,.pick x y z,T,ps,af,none⟩ f H u:=
 fun ρ _ a _ hf=>⟨a.eval y,by simp[execOp,(hc.use hf).bool_inv,asBool],hy.use hf⟩
theorem Jf{H:ag}{u:Value}(hc:EV n f x (.bool false))(hy:EV n f z u):bR P n ⟨d,.pick x y z,T,ps,af,none⟩ f H u:=
 fun ρ _ a _ hf=>⟨a.eval z,by simp[execOp,(hc.use hf).bool_inv,asBool],hy.use hf⟩
theorem Q7(hc:EV n f x (.bool true))(hy:EV n f y v)(h:aD P n H0 F0 A r (put f d v) cs K):aD P n H0 F0 A (⟨d,.pick x y z,T,ps,af,none⟩::r) f cs K:=ax (Je hc hy) h
theorem Q8(hc:EV n f x (.bool false))(hy:EV n f z v)(h:aD P n H0 F0 A r (put f d v) cs K):aD P n H0 F0 A (⟨d,.pick x y z,T,ps,af,none⟩::r) f cs K:=ax (Jf hc hy) h
theorem TC{k i j fi off:Nat} [hF:j6 P T fi off](hx:EV n f x (.pointer (some ⟨k,i,some j⟩)))(h:aD P n H0 F0 A r (put f d (.pointer (some ⟨k,i,some (j+off)⟩))) cs K):
   aD P n H0 F0 A (⟨d,.fieldAddr T x fi,T',ps,af,none⟩::r) f cs K:=ax (jH hF.h hx) h
theorem Q9{k j:Nat}{TB:TypeId}{e:Value} [hA:gP P T false](hx:EV n f x (.pointer (some ⟨k,0,some j⟩)))(hm:Mem (ky k ⟨[e],TB,true,false⟩) cs)(hv:e.cells.toList[j]?=some v)
   (h:aD P n H0 F0 A r (put f d v) cs K):aD P n H0 F0 A (⟨d,.load T x,T',ps,af,none⟩::r) f cs K:=eB hm (fun hp=>fD hA.h hx hp.2 rfl hv) h
theorem Q_{k j:Nat}{TB:TypeId}{e:Value} [hA:gP P T false](hx:EV n f x (.pointer (some ⟨k,0,some j⟩)))(hm:Mem (fK k ⟨[e],TB,true,true⟩) cs)(hv:e.cells.toList[j]?=some v)
   (h:aD P n H0 F0 A r (put f d v) cs K):aD P n H0 F0 A (⟨d,.load T x,T',ps,af,none⟩::r) f cs K:=eB hm (fun hp=>fD hA.h hx hp.2 rfl hv) h
theorem Ra{k s b:Nat}{zv:Value}{TB:TypeId}{l:List Value} [hA:gP P T true] [ht:gQ P T s b zv](hx:EV n f x (.pointer (some ⟨k,0,some 0⟩)))(hm:Mem (ky k ⟨[.agg l.toArray],TB,true,false⟩) cs)(h0:Nat.blt 0 s=true)(hl:l.length=s)
   (h:aD P n H0 F0 A r (put f d (.agg l.toArray)) cs K):aD P n H0 F0 A (⟨d,.load T x,T',ps,af,none⟩::r) f cs K:=eB hm (fun hp=>ku hA.h ht.h.sz h0 hx hp.2 hl) h
theorem Rb{k s b:Nat}{zv:Value}{TB:TypeId}{l:List Value} [hA:gP P T true] [ht:gQ P T s b zv](hx:EV n f x (.pointer (some ⟨k,0,some 0⟩)))(hm:Mem (fK k ⟨[.agg l.toArray],TB,true,true⟩) cs)(h0:Nat.blt 0 s=true)(hl:l.length=s)
   (h:aD P n H0 F0 A r (put f d (.agg l.toArray)) cs K):aD P n H0 F0 A (⟨d,.load T x,T',ps,af,none⟩::r) f cs K:=eB hm (fun hp=>ku hA.h ht.h.sz h0 hx hp.2 hl) h
theorem Rc{α:Type}{R:ag->Value->α->Prop}{_:bP R}{xs:List α}{ts:List TypeId} [hT:mr P T E](hx:EV n f x v)(hm:Mem (bS (bf E R) v xs) cs)
   (h:aD P n H0 F0 A r (put f d (.int .i64 xs.length)) cs K):aD P n H0 F0 A (⟨d,.call ⟨.builtin .len,[x].toArray,(T::ts).toArray⟩,T',ps,af,none⟩::r) f cs K:=eB hm (fun hp=>n_ hT.h hx (rD hp)) h
theorem QB{α:Type}{Ro:dX α}{_:eu Ro}{F:List Nat}{xs:List α}{ts:List TypeId} [hT:mr P T E](hx:EV n f x v)(hm:Mem (aS (aH E Ro) F v xs) cs)
   (h:aD P n H0 F0 A r (put f d (.int .i64 xs.length)) cs K):aD P n H0 F0 A (⟨d,.call ⟨.builtin .len,[x].toArray,(T::ts).toArray⟩,T',ps,af,none⟩::r) f cs K:=eB hm (fun hp=>n_ hT.h hx (Iy hp)) h
theorem TD{j:Nat}{t:Tmp}{b:Bool}(hd:(A[j]?).bind (·.dst)=some t)(hv:f t= .bool b)(ht:Nat.blt t n=true)(h:aD P n H0 F0 A (⟨d,op,T,ps,af,none⟩::r) f cs K):
   aD P n H0 F0 A (⟨d,op,T,ps,af,some (j,b)⟩::r) f cs K:=qa hd hv ht h
theorem TE{j:Nat}{t:Tmp}{b:Bool}(hd:(A[j]?).bind (·.dst)=some t)(hv:f t= .bool (!b))(ht:Nat.blt t n=true)(h:aD P n H0 F0 A r (put f d undef) cs K):
   aD P n H0 F0 A (⟨d,op,T,ps,af,some (j,b)⟩::r) f cs K:=Ap hd hv ht h
theorem TF{j:Nat}{t:Tmp}{b:Bool}(hd:(A[j]?).bind (·.dst)=some t)(hv:f t=undef)(ht:Nat.blt t n=true)(h:aD P n H0 F0 A r (put f d undef) cs K):
   aD P n H0 F0 A (⟨d,op,T,ps,af,some (j,b)⟩::r) f cs K:=Qt hd hv ht h
theorem Re{kk:IntKind}{q q2:Int}(hx:EV n f x (.int kk q))(hy:EV n f y (.int kk q2))(h:aD P n H0 F0 A r (put f d (.int kk (kk.wrap (q+q2)))) cs K):aD P n H0 F0 A (⟨d,.binOp .add T x y T',T'',ps,af,none⟩::r) f cs K:=ax (m_ hx hy) h
theorem Rh{kk:IntKind}{q q2:Int}(hx:EV n f x (.int kk q))(hy:EV n f y (.int kk q2))(h:aD P n H0 F0 A r (put f d (.int kk (kk.wrap (q-q2)))) cs K):aD P n H0 F0 A (⟨d,.binOp .sub T x y T',T'',ps,af,none⟩::r) f cs K:=ax (Da hx hy) h
theorem Ri{kk:IntKind}{q q2:Int}(hx:EV n f x (.int kk q))(hy:EV n f y (.int kk q2))(h:aD P n H0 F0 A r (put f d (.int kk (kk.wrap (q*q2)))) cs K):aD P n H0 F0 A (⟨d,.binOp .mul T x y T',T'',ps,af,none⟩::r) f cs K:=ax (JN hx hy) h
theorem Rj{kk:IntKind}{q q2:Int}(hx:EV n f x (.int kk q))(hy:EV n f y (.int kk q2))(h:aD P n H0 F0 A r (put f d (.bool (decide (q<q2)))) cs K):aD P n H0 F0 A (⟨d,.binOp .lss T x y T',T'',ps,af,none⟩::r) f cs K:=ax (uT hx hy) h
theorem Rk{kk:IntKind}{q q2:Int}(hx:EV n f x (.int kk q))(hy:EV n f y (.int kk q2))(h:aD P n H0 F0 A r (put f d (.bool (decide (q<=q2)))) cs K):aD P n H0 F0 A (⟨d,.binOp .leq T x y T',T'',ps,af,none⟩::r) f cs K:=ax (JO hx hy) h
theorem Rl{kk:IntKind}{q q2:Int}(hx:EV n f x (.int kk q))(hy:EV n f y (.int kk q2))(h:aD P n H0 F0 A r (put f d (.bool (decide (q2<q)))) cs K):aD P n H0 F0 A (⟨d,.binOp .gtr T x y T',T'',ps,af,none⟩::r) f cs K:=ax (JP hx hy) h
theorem Rm{kk:IntKind}{q q2:Int}(hx:EV n f x (.int kk q))(hy:EV n f y (.int kk q2))(h:aD P n H0 F0 A r (put f d (.bool (decide (q2<=q)))) cs K):aD P n H0 F0 A (⟨d,.binOp .geq T x y T',T'',ps,af,none⟩::r) f cs K:=ax (JQ hx hy) h
theorem Rn{kk:IntKind}{q q2:Int}(hx:EV n f x (.int kk q))(hy:EV n f y (.int kk q2))(h:aD P n H0 F0 A r (put f d (.bool (q==q2))) cs K):aD P n H0 F0 A (⟨d,.binOp .eql T x y T',T'',ps,af,none⟩::r) f cs K:=ax (jV hx hy) h
theorem Rp{kk:IntKind}{q q2:Int}(hx:EV n f x (.int kk q))(hy:EV n f y (.int kk q2))(h:aD P n H0 F0 A r (put f d (.bool (q !=q2))) cs K):aD P n H0 F0 A (⟨d,.binOp .neq T x y T',T'',ps,af,none⟩::r) f cs K:=ax (JR hx hy) h
theorem Rq{b:Bool}(hx:EV n f x (.bool b))(h:aD P n H0 F0 A r (put f d (.bool (!b))) cs K):aD P n H0 F0 A (⟨d,.unOp .not T x,T',ps,af,none⟩::r) f cs K:=ax (Ao hx) h
variable{l:List Oper}{tb az todo:List Nat}{fl:List (Nat×List Nat)}{i:Nat}{gd:Option (Nat×Bool)}
theorem gz(h:Wt n l f gd:=by first|exact Wt.no|exact Wt.on _ rfl rfl rfl):Wt n l f gd:=h
theorem Rs{kk:IntKind}{q q2:Int}(ho:l[i]?=some ⟨d,.binOp .add T x y T',T'',ps,af,gd⟩)(hw:Wt n l f gd)(hx:EV n f x (.int kk q))(hn:dA x (cB l ⟨d,.binOp .add T x y T',T'',ps,af,gd⟩)=true)(hy:EV n f y (.int kk q2))(hm:dA y (cB l ⟨d,.binOp .add T x y T',T'',ps,af,gd⟩)=true)
   (h:DC P n l tb az H0 F0 K todo fl (put f d (.int kk (kk.wrap (q+q2)))) cs):DC P n l tb az H0 F0 K (i::todo) fl f cs:=bY ho hw (fun ha=>m_ (EN ha hx hn) (EN ha hy hm)) h
theorem Rt{kk:IntKind}{q q2:Int}(ho:l[i]?=some ⟨d,.binOp .sub T x y T',T'',ps,af,gd⟩)(hw:Wt n l f gd)(hx:EV n f x (.int kk q))(hn:dA x (cB l ⟨d,.binOp .sub T x y T',T'',ps,af,gd⟩)=true)(hy:EV n f y (.int kk q2))(hm:dA y (cB l ⟨d,.binOp .sub T x y T',T'',ps,af,gd⟩)=true)
   (h:DC P n l tb az H0 F0 K todo fl (put f d (.int kk (kk.wrap (q-q2)))) cs):DC P n l tb az H0 F0 K (i::todo) fl f cs:=bY ho hw (fun ha=>Da (EN ha hx hn) (EN ha hy hm)) h
theorem Ru{kk:IntKind}{q q2:Int}(ho:l[i]?=some ⟨d,.binOp .mul T x y T',T'',ps,af,gd⟩)(hw:Wt n l f gd)(hx:EV n f x (.int kk q))(hn:dA x (cB l ⟨d,.binOp .mul T x y T',T'',ps,af,gd⟩)=true)(hy:EV n f y (.int kk q2))(hm:dA y (cB l ⟨d,.binOp .mul T x y T',T'',ps,af,gd⟩)=true)
   (h:DC P n l tb az H0 F0 K todo fl (put f d (.int kk (kk.wrap (q*q2)))) cs):DC P n l tb az H0 F0 K (i::todo) fl f cs:=bY ho hw (fun ha=>JN (EN ha hx hn) (EN ha hy hm)) h
theorem Rv{kk:IntKind}{q q2:Int}(ho:l[i]?=some ⟨d,.binOp .lss T x y T',T'',ps,af,gd⟩)(hw:Wt n l f gd)(hx:EV n f x (.int kk q))(hn:dA x (cB l ⟨d,.binOp .lss T x y T',T'',ps,af,gd⟩)=true)(hy:EV n f y (.int kk q2))(hm:dA y (cB l ⟨d,.binOp .lss T x y T',T'',ps,af,gd⟩)=true)
   (h:DC P n l tb az H0 F0 K todo fl (put f d (.bool (decide (q<q2)))) cs):DC P n l tb az H0 F0 K (i::todo) fl f cs:=bY ho hw (fun ha=>uT (EN ha hx hn) (EN ha hy hm)) h
theorem Rw{kk:IntKind}{q q2:Int}(ho:l[i]?=some ⟨d,.binOp .leq T x y T',T'',ps,af,gd⟩)(hw:Wt n l f gd)(hx:EV n f x (.int kk q))(hn:dA x (cB l ⟨d,.binOp .leq T x y T',T'',ps,af,gd⟩)=true)(hy:EV n f y (.int kk q2))(hm:dA y (cB l ⟨d,.binOp .leq T x y T',T'',ps,af,gd⟩)=true)
   (h:DC P n l tb az H0 F0 K todo fl (put f d (.bool (decide (q<=q2)))) cs):DC P n l tb az H0 F0 K (i::todo) fl f cs:=bY ho hw (fun ha=>JO (EN ha hx hn) (EN ha hy hm)) h
theorem Rx{kk:IntKind}{q q2:Int}(ho:l[i]?=some ⟨d,.binOp .gtr T x y T',T'',ps,af,gd⟩)(hw:Wt n l f gd)(hx:EV n f x (.int kk q))(hn:dA x (cB l ⟨d,.binOp .gtr T x y T',T'',ps,af,gd⟩)=true)(hy:EV n f y (.int kk q2))(hm:dA y (cB l ⟨d,.binOp .gtr T x y T',T'',ps,af,gd⟩)=true)
   (h:DC P n l tb az H0 F0 K todo fl (put f d (.bool (decide (q2<q)))) cs):DC P n l tb az H0 F0 K (i::todo) fl f cs:=bY ho hw (fun ha=>JP (EN ha hx hn) (EN ha hy hm)) h
theorem Ry{kk:IntKind}{q q2:Int}(ho:l[i]?=some ⟨d,.binOp .geq T x y T',T'',ps,af,gd⟩)(hw:Wt n l f gd)(hx:EV n f x (.int kk q))(hn:dA x (cB l ⟨d,.binOp .geq T x y T',T'',ps,af,gd⟩)=true)(hy:EV n f y (.int kk q2))(hm:dA y (cB l ⟨d,.binOp .geq T x y T',T'',ps,af,gd⟩)=true)
   (h:DC P n l tb az H0 F0 K todo fl (put f d (.bool (decide (q2<=q)))) cs):DC P n l tb az H0 F0 K (i::todo) fl f cs:=bY ho hw (fun ha=>JQ (EN ha hx hn) (EN ha hy hm)) h
theorem Rz{kk:IntKind}{q q2:Int}(ho:l[i]?=some ⟨d,.binOp .eql T x y T',T'',ps,af,gd⟩)(hw:Wt n l f gd)(hx:EV n f x (.int kk q))(hn:dA x (cB l ⟨d,.binOp .eql T x y T',T'',ps,af,gd⟩)=true)(hy:EV n f y (.int kk q2))(hm:dA y (cB l ⟨d,.binOp .eql T x y T',T'',ps,af,gd⟩)=true)
   (h:DC P n l tb az H0 F0 K todo fl (put f d (.bool (q==q2))) cs):DC P n l tb az H0 F0 K (i::todo) fl f cs:=bY ho hw (fun ha=>jV (EN ha hx hn) (EN ha hy hm)) h
theorem RA{kk:IntKind}{q q2:Int}(ho:l[i]?=some ⟨d,.binOp .neq T x y T',T'',ps,af,gd⟩)(hw:Wt n l f gd)(hx:EV n f x (.int kk q))(hn:dA x (cB l ⟨d,.binOp .neq T x y T',T'',ps,af,gd⟩)=true)(hy:EV n f y (.int kk q2))(hm:dA y (cB l ⟨d,.binOp .neq T x y T',T'',ps,af,gd⟩)=true)
   (h:DC P n l tb az H0 F0 K todo fl (put f d (.bool (q !=q2))) cs):DC P n l tb az H0 F0 K (i::todo) fl f cs:=bY ho hw (fun ha=>JR (EN ha hx hn) (EN ha hy hm)) h
theorem RB{b:Bool}(ho:l[i]?=some ⟨d,.unOp .not T x,T',ps,af,gd⟩)(hw:Wt n l f gd)(hx:EV n f x (.bool b))(hn:dA x (cB l ⟨d,.unOp .not T x,T',ps,af,gd⟩)=true)
   (h:DC P n l tb az H0 F0 K todo fl (put f d (.bool (!b))) cs):DC P n l tb az H0 F0 K (i::todo) fl f cs:=bY ho hw (fun ha=>Ao (EN ha hx hn)) h
theorem TG(ho:l[i]?=some ⟨d,.move x,T,ps,af,gd⟩)(hw:Wt n l f gd)
   (hx:EV n f x v) (hn:dA x (cB l ⟨d,.move x,T,ps,af,gd⟩)=true) (h:DC P n l tb az H0 F0 K todo fl (put f d v) cs):
   DC P n l tb az H0 F0 K (i::todo) fl f cs:=bY ho hw (fun ha=>gq (EN ha hx hn)) h
theorem TH(ho:l[i]?=some ⟨d,.assign x,T,ps,af,gd⟩)(hw:Wt n l f gd)
   (hx:EV n f x v) (hn:dA x (cB l ⟨d,.assign x,T,ps,af,gd⟩)=true) (h:DC P n l tb az H0 F0 K todo fl (put f d v) cs):
   DC P n l tb az H0 F0 K (i::todo) fl f cs:=bY ho hw (fun ha=>gG (EN ha hx hn)) h
theorem RD(ho:l[i]?=some ⟨d,.pick x y z,T,ps,af,gd⟩)(hw:Wt n l f gd)(hc:EV n f x (.bool true))(hn:dA x (cB l ⟨d,.pick x y z,T,ps,af,gd⟩)=true)
   (hy:EV n f y v) (hm:dA y (cB l ⟨d,.pick x y z,T,ps,af,gd⟩)=true) (h:DC P n l tb az H0 F0 K todo fl (put f d v) cs):
   DC P n l tb az H0 F0 K (i::todo) fl f cs:=bY ho hw (fun ha=>Je (EN ha hc hn) (EN ha hy hm)) h
theorem RF(ho:l[i]?=some ⟨d,.pick x y z,T,ps,af,gd⟩)(hw:Wt n l f gd)(hc:EV n f x (.bool false))(hn:dA x (cB l ⟨d,.pick x y z,T,ps,af,gd⟩)=true)
   (hy:EV n f z v) (hm:dA z (cB l ⟨d,.pick x y z,T,ps,af,gd⟩)=true) (h:DC P n l tb az H0 F0 K todo fl (put f d v) cs):
   DC P n l tb az H0 F0 K (i::todo) fl f cs:=bY ho hw (fun ha=>Jf (EN ha hc hn) (EN ha hy hm)) h
theorem TI{k i0 j fi off:Nat}(ho:l[i]?=some ⟨d,.fieldAddr T x fi,T',ps,af,gd⟩){hF:j6 P T fi off}(hw:Wt n l f gd)
   (hx:EV n f x (.pointer (some ⟨k,i0,some j⟩))) (hn:dA x (cB l ⟨d,.fieldAddr T x fi,T',ps,af,gd⟩)=true) (h:DC P n l tb az H0 F0 K todo fl (put f d (.pointer (some ⟨k,i0,some (j+off)⟩))) cs):
   DC P n l tb az H0 F0 K (i::todo) fl f cs:=bY ho hw (fun ha=>jH hF.h (EN ha hx hn)) h
theorem RG{k j:Nat}{TB:TypeId}{e:Value}(ho:l[i]?=some ⟨d,.load T x,T',ps,af,gd⟩){hA:gP P T false}(hw:Wt n l f gd)
   (hx:EV n f x (.pointer (some ⟨k,0,some j⟩))) (hn:dA x (cB l ⟨d,.load T x,T',ps,af,gd⟩)=true) (hm:Mem (ky k ⟨[e],TB,true,false⟩) cs) (hv:e.cells.toList[j]?=some v)
   (h:DC P n l tb az H0 F0 K todo fl (put f d v) cs):DC P n l tb az H0 F0 K (i::todo) fl f cs:=xV ho hw hm rfl (fun ha hp=>fD hA.h (EN ha hx hn) hp.2 rfl hv) h
theorem RH{k s b:Nat}{zv:Value}{TB:TypeId}{e:List Value}(ho:l[i]?=some ⟨d,.load T x,T',ps,af,gd⟩){hA:gP P T true}{ht:gQ P T s b zv}(hw:Wt n l f gd)
   (hx:EV n f x (.pointer (some ⟨k,0,some 0⟩))) (hn:dA x (cB l ⟨d,.load T x,T',ps,af,gd⟩)=true) (hm:Mem (ky k ⟨[.agg e.toArray],TB,true,false⟩) cs) (h0:Nat.blt 0 s=true) (hl:e.length=s)
   (h:DC P n l tb az H0 F0 K todo fl (put f d (.agg e.toArray)) cs):DC P n l tb az H0 F0 K (i::todo) fl f cs:=xV ho hw hm rfl (fun ha hp=>ku hA.h ht.h.sz h0 (EN ha hx hn) hp.2 hl) h
theorem RI{α:Type}{R:ag->Value->α->Prop}{_:bP R}{xs:List α}{ts:List TypeId}(ho:l[i]?=some ⟨d,.call ⟨.builtin .len,[x].toArray,(T::ts).toArray⟩,T',ps,af,gd⟩){hT:mr P T E}(hw:Wt n l f gd)
   (hx:EV n f x v) (hn:dA x (cB l ⟨d,.call ⟨.builtin .len,[x].toArray,(T::ts).toArray⟩,T',ps,af,gd⟩)=true) (hm:Mem (bS (bf E R) v xs) cs)
   (h:DC P n l tb az H0 F0 K todo fl (put f d (.int .i64 xs.length)) cs):DC P n l tb az H0 F0 K (i::todo) fl f cs:=xV ho hw hm rfl (fun ha hp=>n_ hT.h (EN ha hx hn) (rD hp)) h
theorem TJ{t:Tmp}{j:Nat}{b:Bool}(ho:l[i]?=some ⟨d,op,T,ps,af,some (j,b)⟩)(h1:(l[j]?).bind (·.dst)=some t)(h2:f t= .bool (!b))(h3:Nat.blt t n=true)(h:DC P n l tb az H0 F0 K todo fl (put f d undef) cs):
   DC P n l tb az H0 F0 K (i::todo) fl f cs:=QX t ho h1 h2 h3 h
theorem TK{t:Tmp}{j:Nat}{b:Bool}(ho:l[i]?=some ⟨d,op,T,ps,af,some (j,b)⟩)(h1:(l[j]?).bind (·.dst)=some t)(h2:f t=undef)(h3:Nat.blt t n=true)(h:DC P n l tb az H0 F0 K todo fl (put f d undef) cs):
   DC P n l tb az H0 F0 K (i::todo) fl f cs:=Qu t ho h1 h2 h3 h
theorem OY{K:Fr->List aj->Prop}{Q:Exit->Fr->List aj->Prop}(h:K f cs):rH K Q .normal f cs:=h
theorem P7{id:Nat}{Q:Exit->Fr->List aj->Prop}(h:Q .normal f cs):oN id Q .normal f cs:=h
theorem au{G N:Prop}(k:N)(h:N->G:=by
   intro k
   repeat (first|with_reducible refine OY ?_|with_reducible refine P7 ?_)
   first
   |((with_reducible refine' Tz ?hx k); (case hx=>exact jE))
   |((with_reducible refine' TC ?hx k); (case hx=>exact bT))
   |with_reducible exact bO k
   |((with_reducible refine' TD ?r1 ?r2 ?r3 k); (case r1=>exact rfl); (case r2=>exact rfl); (case r3=>exact rfl))
   |((with_reducible refine' TE ?r1 ?r2 ?r3 k); (case r1=>exact rfl); (case r2=>exact rfl); (case r3=>exact rfl))
   |((with_reducible refine' TA ?hx k); (case hx=>exact jE))
   |((with_reducible refine' Q9 ?hx ?hm ?hv k); (case hx=>exact bT); (case hm=>exact gD); (case hv=>exact EF))
   |((with_reducible refine' Q_ ?hx ?hm ?hv k); (case hx=>exact bT); (case hm=>exact gD); (case hv=>exact EF))
   |((with_reducible refine' Ra ?hx ?hm ?r1 ?r2 k); (case hx=>exact bT); (case hm=>exact gD); (case r1=>exact rfl); (case r2=>exact rfl))
   |((with_reducible refine' Rb ?hx ?hm ?r1 ?r2 k); (case hx=>exact bT); (case hm=>exact gD); (case r1=>exact rfl); (case r2=>exact rfl))
   |((with_reducible refine' Rc ?hx ?hm k); (case hx=>exact jE); (case hm=>exact gD); all_goals infer_instance)
   |((with_reducible refine' QB ?hx ?hm k); (case hx=>exact jE); (case hm=>exact gD); all_goals infer_instance)
   |((with_reducible refine' Rj ?a ?b k); (case a=>exact bT); (case b=>exact bT))
   |((with_reducible refine' Rq ?a k); (case a=>exact bT))
   |((with_reducible refine' Q7 ?hc ?hy k); (case hc=>exact bT); (case hy=>exact jE))
   |((with_reducible refine' Q8 ?hc ?hy k); (case hc=>exact bT); (case hy=>exact jE))
   |((with_reducible refine' TF ?r1 ?r2 ?r3 k); (case r1=>exact rfl); (case r2=>exact rfl); (case r3=>exact rfl))
   |((with_reducible refine' Re ?a ?b k); (case a=>exact bT); (case b=>exact bT))
   |((with_reducible refine' Rh ?a ?b k); (case a=>exact bT); (case b=>exact bT))
   |((with_reducible refine' Rn ?a ?b k); (case a=>exact bT); (case b=>exact bT))
   |((with_reducible refine' Rp ?a ?b k); (case a=>exact bT); (case b=>exact bT))
   |((with_reducible refine' Rk ?a ?b k); (case a=>exact bT); (case b=>exact bT))
   |((with_reducible refine' Rl ?a ?b k); (case a=>exact bT); (case b=>exact bT))
   |((with_reducible refine' Rm ?a ?b k); (case a=>exact bT); (case b=>exact bT))
   |((with_reducible refine' Ri ?a ?b k); (case a=>exact bT); (case b=>exact bT))
   |with_reducible exact bL k
   |with_reducible exact kS k
   |with_reducible exact Ac k
   |with_reducible exact kU k
   |with_reducible exact gZ k
   |with_reducible exact uw k
   |with_reducible exact OD k
   |with_reducible exact wU k
   |((with_reducible refine' Qn ?a k); (case a=>exact rfl))
   |with_reducible exact PU k
   |with_reducible exact w9 k
   |with_reducible exact jI k):G:=h k
theorem du{G N:Prop}(k:N)(h:N->G:=by
   intro k
   first
   |((with_reducible refine' TG ?r1 ?hw ?hx ?r2 k); (case r1=>exact rfl); (case hw=>exact gz); (case hx=>exact jE); (case r2=>exact rfl))
   |((with_reducible refine' TI ?r1 ?hw ?hx ?r2 k); (case r1=>exact rfl); (case hw=>exact gz); (case hx=>exact bT); (case r2=>exact rfl); all_goals infer_instance)
   |((with_reducible refine' RG ?r1 ?hw ?hx ?r2 ?hm ?hv k); (case r1=>exact rfl); (case hw=>exact gz); (case hx=>exact bT); (case r2=>exact rfl); (case hm=>exact gD); (case hv=>exact EF); all_goals infer_instance)
   |((with_reducible refine' TJ ?r1 ?r2 ?r3 ?r4 k); (case r1=>exact rfl); (case r2=>exact rfl); (case r3=>exact rfl); (case r4=>exact rfl))
   |((with_reducible refine' TK ?r1 ?r2 ?r3 ?r4 k); (case r1=>exact rfl); (case r2=>exact rfl); (case r3=>exact rfl); (case r4=>exact rfl))
   |((with_reducible refine' RI ?r1 ?hw ?hx ?r2 ?hm k); (case r1=>exact rfl); (case hw=>exact gz); (case hx=>exact jE); (case r2=>exact rfl); (case hm=>exact gD); all_goals infer_instance)
   |((with_reducible refine' RD ?r1 ?hw ?hc ?r2 ?hy ?r3 k); (case r1=>exact rfl); (case hw=>exact gz); (case hc=>exact bT); (case r2=>exact rfl); (case hy=>exact jE); (case r3=>exact rfl))
   |((with_reducible refine' RF ?r1 ?hw ?hc ?r2 ?hy ?r3 k); (case r1=>exact rfl); (case hw=>exact gz); (case hc=>exact bT); (case r2=>exact rfl); (case hy=>exact jE); (case r3=>exact rfl))
   |((with_reducible refine' RB ?r1 ?hw ?hx ?r2 k); (case r1=>exact rfl); (case hw=>exact gz); (case hx=>exact bT); (case r2=>exact rfl))
   |((with_reducible refine' Rv ?r1 ?hw ?hx ?r2 ?hy ?r3 k); (case r1=>exact rfl); (case hw=>exact gz); (case hx=>exact bT); (case r2=>exact rfl); (case hy=>exact bT); (case r3=>exact rfl))
   |((with_reducible refine' Rz ?r1 ?hw ?hx ?r2 ?hy ?r3 k); (case r1=>exact rfl); (case hw=>exact gz); (case hx=>exact bT); (case r2=>exact rfl); (case hy=>exact bT); (case r3=>exact rfl))
   |((with_reducible refine' RA ?r1 ?hw ?hx ?r2 ?hy ?r3 k); (case r1=>exact rfl); (case hw=>exact gz); (case hx=>exact bT); (case r2=>exact rfl); (case hy=>exact bT); (case r3=>exact rfl))
   |((with_reducible refine' Rs ?r1 ?hw ?hx ?r2 ?hy ?r3 k); (case r1=>exact rfl); (case hw=>exact gz); (case hx=>exact bT); (case r2=>exact rfl); (case hy=>exact bT); (case r3=>exact rfl))
   |((with_reducible refine' Rt ?r1 ?hw ?hx ?r2 ?hy ?r3 k); (case r1=>exact rfl); (case hw=>exact gz); (case hx=>exact bT); (case r2=>exact rfl); (case hy=>exact bT); (case r3=>exact rfl))
   |((with_reducible refine' Rw ?r1 ?hw ?hx ?r2 ?hy ?r3 k); (case r1=>exact rfl); (case hw=>exact gz); (case hx=>exact bT); (case r2=>exact rfl); (case hy=>exact bT); (case r3=>exact rfl))
   |((with_reducible refine' Rx ?r1 ?hw ?hx ?r2 ?hy ?r3 k); (case r1=>exact rfl); (case hw=>exact gz); (case hx=>exact bT); (case r2=>exact rfl); (case hy=>exact bT); (case r3=>exact rfl))
   |((with_reducible refine' Ry ?r1 ?hw ?hx ?r2 ?hy ?r3 k); (case r1=>exact rfl); (case hw=>exact gz); (case hx=>exact bT); (case r2=>exact rfl); (case hy=>exact bT); (case r3=>exact rfl))
   |((with_reducible refine' Ru ?r1 ?hw ?hx ?r2 ?hy ?r3 k); (case r1=>exact rfl); (case hw=>exact gz); (case hx=>exact bT); (case r2=>exact rfl); (case hy=>exact bT); (case r3=>exact rfl))
   |((with_reducible refine' TH ?r1 ?hw ?hx ?r2 k); (case r1=>exact rfl); (case hw=>exact gz); (case hx=>exact jE); (case r2=>exact rfl))
   |((with_reducible refine' RH ?r1 ?hw ?hx ?r2 ?hm ?r3 ?r4 k); (case r1=>exact rfl); (case hw=>exact gz); (case hx=>exact bT); (case r2=>exact rfl); (case hm=>exact gD); (all_goals (try infer_instance)); (case r3=>exact rfl); (case r4=>exact rfl))
   |with_reducible exact J3 k):G:=h k
theorem KZ{fl:List (Nat×List Nat)}(h:ig tb i rest fl:=by
   repeat (first
     |exact ig.nil
     |refine' ig.dep rfl ?_
     |refine' ig.imm (by exact gD) ?_)):ig tb i rest fl:=h
theorem EG{f':Fr}{o:Oper}:∀{xs:List Operand}{vs:List Value},ed l o f f'->fe n f xs vs->xs.all (fun x=>dA x (cB l o))=true->fe n f' xs vs
 |[],[],_,_,_=>.nil
 |x::xs,v::vs,ha,⟨h,t⟩,hn=>by
   simp only[List.all_cons,Bool.and_eq_true]at hn
   exact .cons (EN ha h hn.1) (EG ha t hn.2)
 |[],_::_,_,h,_=>h.elim
 |_::_,[],_,h,_=>h.elim
variable{ι α:Type}{val:ι->Value}{R:ag->Value->α->Prop}{xs:List α}{a:α}{g k j s b off:Nat}{zv e:Value}{kk:IntKind}{q:Int}{TB:TypeId}{Q:Exit->Fr->List aj->Prop}{c1 c2:Code}
theorem Cc{b:Bool}(h1:b=true->CW P n H0 F0 c1 Q f cs)(h2:b=false->CW P n H0 F0 c2 Q f cs)(hc:EV n f x (.bool b):=by exact bT):CW P n H0 F0 (.cond x c1 c2) Q f cs:=iZ hc h1 h2
theorem V6{b:Bool}(hb:b=true)(h1:CW P n H0 F0 c1 Q f cs)(hc:EV n f x (.bool b):=by exact bT):CW P n H0 F0 (.cond x c1 c2) Q f cs:=iZ hc (fun _=>h1) (fun h=>absurd (hb.symm.trans h) (by decide))
theorem V7{b:Bool}(hb:b=false)(h2:CW P n H0 F0 c2 Q f cs)(hc:EV n f x (.bool b):=by exact bT):CW P n H0 F0 (.cond x c1 c2) Q f cs:=iZ hc (fun h=>absurd (hb.symm.trans h) (by decide)) (fun _=>h2)
theorem fV{p:Prop}{_:Decidable p}(h1:CW P n H0 F0 c1 Q f cs)(hc:EV n f x (.bool (decide p)):=by exact bT)(hp:p:=by omega):CW P n H0 F0 (.cond x c1 c2) Q f cs:=V6 (decide_eq_true hp) h1 hc
theorem fZ{p:Prop}{_:Decidable p}(h2:CW P n H0 F0 c2 Q f cs)(hc:EV n f x (.bool (decide p)):=by exact bT)(hp:¬ p:=by omega):CW P n H0 F0 (.cond x c1 c2) Q f cs:=V7 (decide_eq_false hp) h2 hc
theorem Ai [bP R] [hT:mr P T E] [hs:gQ P E s b zv](hi:xs[q.toNat]?=some a)(h:∀k j,aD P n H0 F0 A r (put f d (.pointer (some ⟨k,j,some 0⟩))) (gY E R k j a::cs) K)
   (hx:EV n f x v:=by exact jE) (hy:EV n f y (.int kk q):=by exact bT) (hm:Mem (bS (bf E R) v xs) cs:=by exact gD) (h0:0<=q:=by first|exact Int.natCast_nonneg _|assumption):
   aD P n H0 F0 A (⟨d,.indexAddr T x y,T',ps,af,none⟩::r) f cs K:=Ar hT.h hs.h.sz hx hy hm h0 hi h
theorem Di [bP R] [hT:mr P T E] [hs:gQ P E s b zv](hi:xs[q.toNat]?=some a)(h:∀k j,DC P n l tb az H0 F0 K todo fl (put f d (.pointer (some ⟨k,j,some 0⟩))) (gY E R k j a::cs))
   (ho:l[i]?=some ⟨d,.indexAddr T x y,T',ps,af,gd⟩:=by rfl) (hw:Wt n l f gd:=by exact gz)
   (hx:EV n f x v:=by exact jE) (hy:EV n f y (.int kk q):=by exact bT) (gN:dA x (cB l ⟨d,.indexAddr T x y,T',ps,af,gd⟩)=true:=by rfl) (hyn:dA y (cB l ⟨d,.indexAddr T x y,T',ps,af,gd⟩)=true:=by rfl)
   (hm:Mem (bS (bf E R) v xs) cs:=by exact gD) (h0:0<=q:=by first|exact Int.natCast_nonneg _|assumption):
   DC P n l tb az H0 F0 K (i::todo) fl f cs:=QY hT.h hs.h.sz ho hw hx hy gN hyn hm h0 hi h
theorem Al [bP R] [hA:gP P T false](hop:∀H e,R H e a->e.cells.toList[off]?=some v)(h:aD P n H0 F0 A r (put f d v) cs K)(hx:EV n f x (.pointer (some ⟨k,j,some off⟩)):=by exact bT)(hm:Mem (gY E R k j a) cs:=by exact gD):
   aD P n H0 F0 A (⟨d,.load T x,T',ps,af,none⟩::r) f cs K:=Dc hA.h hx hm hop h
theorem Dl [bP R] [hA:gP P T false](hop:∀H e,R H e a->e.cells.toList[off]?=some v)(h:DC P n l tb az H0 F0 K todo fl (put f d v) cs)(ho:l[i]?=some ⟨d,.load T x,T',ps,af,gd⟩:=by rfl)(hw:Wt n l f gd:=by exact gz)
   (hx:EV n f x (.pointer (some ⟨k,j,some off⟩)):=by exact bT) (gN:dA x (cB l ⟨d,.load T x,T',ps,af,gd⟩)=true:=by rfl) (hm:Mem (gY E R k j a) cs:=by exact gD):
   DC P n l tb az H0 F0 K (i::todo) fl f cs:=QZ hA.h ho hw hx gN hm hop h
theorem j_ [ht:gQ P T s b zv](h:∀k,aD P n H0 F0 A r (put f d (.pointer (some ⟨k,0,some 0⟩))) (ky k ⟨[v],T,true,false⟩::cs) K)(hx:EV n f x v:=by exact jE)(hv:v.cells.size=s:=by rfl):
   aD P n H0 F0 A (⟨d,.box T x,T',ps,af,none⟩::r) f cs K:=Qo rfl (JU ht.h.sz hx hv) h
theorem V8 [ht:gQ P T s b zv](h:∀k,aD P n H0 F0 A r (put f d (.pointer (some ⟨k,0,some 0⟩))) (fK k ⟨[v],T,true,true⟩::cs) K)(hx:EV n f x v:=by exact jE)(hv:v.cells.size=s:=by rfl):
   aD P n H0 F0 A (⟨d,.box T x,T',ps,af,none⟩::r) f cs K:=bD rfl (JU ht.h.sz hx hv) h
theorem iC [ht:gQ P T s b zv](h:∀k,aD P n H0 F0 A r (put f d (.pointer (some ⟨k,0,some 0⟩))) (fK k ⟨[zv],T,true,true⟩::cs) K)(hv:zv.cells.size=s:=by rfl)(hc:pR zv=true:=by rfl):
   aD P n H0 F0 A (⟨d,.alloc T,T',ps,af,none⟩::r) f cs K:=bD rfl (mU ht.h hv hc) h
theorem As [ht:gQ P T s b zv](K3:Value)(h:aD P n H0 F0 A r (put f d undef) (bK k TB K3::rest) K)(hx:EV n f x (.pointer (some ⟨k,0,some j⟩)):=by exact bT)(hy:EV n f y v:=by exact jE)(hm:Sel cs (bK k TB e) rest:=by exact J8)
   (hv:v.cells.size=s:=by rfl) (hsc:v.cells.toList.all scal=true:=by rfl) (h0:Nat.blt 0 s=true:=by rfl) (hj:Nat.ble (j+s) e.cells.size=true:=by rfl) (he:mV e j v.cells.toList=K3:=by rfl):
   aD P n H0 F0 A (⟨d,.store T x y,T',ps,af,none⟩::r) f cs K:=aZ (.cons hm .nil) (fH ht.h.sz hx hy hv hsc h0 hj he) (fun _=>h)
theorem TL{rs:List ResultVar}{vs:List Value}(h:iL P n f cs rs vs:=by
   first
   |exact iL.nil|exact .tmp rfl rfl .nil|exact .tmp rfl rfl (.tmp rfl rfl .nil)|exact .tmp rfl rfl (.tmp rfl rfl (.tmp rfl rfl .nil))|exact .tmp rfl rfl (.tmp rfl rfl (.tmp rfl rfl (.tmp rfl rfl .nil)))
   |exact iL.cellA rfl rfl (by exact gD) (by exact rfl) gP.h (TY.sz gQ.h) (by exact rfl) (by exact rfl) .nil
   |exact iL.cellS rfl rfl (by exact gD) (by exact rfl) gP.h (by exact rfl) .nil):iL P n f cs rs vs:=h
theorem Er{rs:List ResultVar}{post:ι->List aj}{vs:List Value}(x:ι)(h1:iL P n f cs rs vs:=by exact TL)(h2:jJ vs=val x:=by rfl)(h3:dI cs (post x) rest:=by exact kD):xU P n rs val post .ret f cs:=fq x h1 h2 (.sel h3)
theorem aJ(h:dI cs pre rest:=by exact kD):aT cs pre:=.sel h
theorem wk(k:Nat)(h:k<9223372036854775807:=by omega):IntKind.i64.wrap ((k:Int)+1)=((k+1:Nat):Int):=by rw[dD (by omega) (by omega)]; rfl
end
end Go.Fw
/-
 The same for calls: with the facts that come of them in a list.  No conditions.
-/
set_option linter.unusedVariables false
namespace Go.Fw
open Go
section
variable{P:Program} [aO P]{n:Nat}{f:Fr}{H0:ag}{F0:List Nat}{cs pre rest:List aj}{x y:Operand}{v:Value}{A:Array Oper}{r:List Oper}{K:Fr->List aj->Prop}{d:Option Tmp}{T E:TypeId}{ps:String}{af:Array Edge}
variable{l:List Oper}{tb az todo:List Nat}{fl:List (Nat×List Nat)}{i g:Nat}{gd:Option (Nat×Bool)}{ι α:Type}{val:ι->Value}{R:ag->Value->α->Prop}{a:α}{k j s b off:Nat}{zv:Value}{xs:List Operand}{ts:Array TypeId}{vs:List Value}
theorem nt{b:Bool}(h:b=false):¬ b=true:=by rw[h]; exact Bool.false_ne_true
theorem Se{fn:Func}{c:Code}{args:List Value}{post:ι->List aj}(n:Nat)(hf:P.funcs[g]?=some fn)(rs:List ResultVar)(h:∀H0 F0,CW P n H0 F0 c (xU P n rs val post) (CR args) pre)
   (hb:fn.body=some c:=by rfl) (hn:fn.ntmps=n:=by rfl) (hr:fn.results=rs.toArray:=by rfl) (hl:Nat.ble rs.length 6=true:=by rfl) (ha:Nat.ble args.length n=true:=by rfl):Spec P g args pre val post:=pE hf hb hn hr hl ha h
theorem dF [hg:aQ P g](hs:Spec P g vs pre val (fun x=>[]))(h:∀x,aD P n H0 F0 A r (put f d (val x)) (rest) K)(he:fe n f xs vs:=by exact bi)(hl:dI cs pre rest:=by exact kD):
   aD P n H0 F0 A (⟨d,.call ⟨.value (.func g),xs.toArray,ts⟩,T,ps,af,none⟩::r) f cs K:=qc hl (bG hg.h he hs) h
theorem qo [hg:aQ P g](hs:Spec P g vs pre val (fun x=>[]))(h:∀x,DC P n l tb az H0 F0 K todo fl (put f d (val x)) (rest))
   (ho:l[i]?=some ⟨d,.call ⟨.value (.func g),xs.toArray,ts⟩,T,ps,af,gd⟩:=by rfl) (hA:az.any (Nat.beq i)=true:=by rfl) (hw:Wt n l f gd:=by exact gz) (he:fe n f xs vs:=by exact bi)
   (hn:xs.all (fun x=>dA x (cB l ⟨d,.call ⟨.value (.func g),xs.toArray,ts⟩,T,ps,af,gd⟩))=true:=by rfl) (hl:dI cs pre rest:=by exact kD) (hfl:ig tb i rest fl:=by exact KZ):
   DC P n l tb az H0 F0 K (i::todo) fl f cs:=JA hA ho hw hl hfl (fun ha=>bG hg.h (EG ha he hn) hs) h
theorem cu{c1:ι->aj} [hg:aQ P g](hs:Spec P g vs pre val (fun x=>[c1 x]))(h:∀x,aD P n H0 F0 A r (put f d (val x)) (c1 x::rest) K)(he:fe n f xs vs:=by exact bi)(hl:dI cs pre rest:=by exact kD):
   aD P n H0 F0 A (⟨d,.call ⟨.value (.func g),xs.toArray,ts⟩,T,ps,af,none⟩::r) f cs K:=aZ hl (bG hg.h he hs) h
theorem vI{c1:ι->aj} [hg:aQ P g](hs:Spec P g vs pre val (fun x=>[c1 x]))(h:∀x,DC P n l tb az H0 F0 K todo fl (put f d (val x)) (c1 x::rest))
   (ho:l[i]?=some ⟨d,.call ⟨.value (.func g),xs.toArray,ts⟩,T,ps,af,gd⟩:=by rfl) (hA:az.any (Nat.beq i)=true:=by rfl) (hw:Wt n l f gd:=by exact gz) (he:fe n f xs vs:=by exact bi)
   (hn:xs.all (fun x=>dA x (cB l ⟨d,.call ⟨.value (.func g),xs.toArray,ts⟩,T,ps,af,gd⟩))=true:=by rfl) (hl:dI cs pre rest:=by exact kD) (hfl:ig tb i rest fl:=by exact KZ):
   DC P n l tb az H0 F0 K (i::todo) fl f cs:=gI hA ho hw hl hfl (fun ha=>bG hg.h (EG ha he hn) hs) h
theorem kg{c1 c2:ι->aj} [hg:aQ P g](hs:Spec P g vs pre val (fun x=>[c1 x,c2 x]))(h:∀x,aD P n H0 F0 A r (put f d (val x)) (c1 x::c2 x::rest) K)(he:fe n f xs vs:=by exact bi)(hl:dI cs pre rest:=by exact kD):
   aD P n H0 F0 A (⟨d,.call ⟨.value (.func g),xs.toArray,ts⟩,T,ps,af,none⟩::r) f cs K:=iN hl (bG hg.h he hs) h
theorem V9{c1 c2 c3:ι->aj} [hg:aQ P g](hs:Spec P g vs pre val (fun x=>[c1 x,c2 x,c3 x]))(h:∀x,aD P n H0 F0 A r (put f d (val x)) (c1 x::c2 x::c3 x::rest) K)(he:fe n f xs vs:=by exact bi)(hl:dI cs pre rest:=by exact kD):
   aD P n H0 F0 A (⟨d,.call ⟨.value (.func g),xs.toArray,ts⟩,T,ps,af,none⟩::r) f cs K:=lZ hl (bG hg.h he hs) h
theorem V_{c1 c2 c3 c4:ι->aj} [hg:aQ P g](hs:Spec P g vs pre val (fun x=>[c1 x,c2 x,c3 x,c4 x]))(h:∀x,aD P n H0 F0 A r (put f d (val x)) (c1 x::c2 x::c3 x::c4 x::rest) K)(he:fe n f xs vs:=by exact bi)(hl:dI cs pre rest:=by exact kD):
   aD P n H0 F0 A (⟨d,.call ⟨.value (.func g),xs.toArray,ts⟩,T,ps,af,none⟩::r) f cs K:=Tu hl (bG hg.h he hs) h
theorem rQ{T2:TypeId} [bP R]{c1:ι->aj} [hA:gP P T true] [ht:gQ P T s b zv](ul:ι->List Value)(hop:∀H e,R H e a-> ∃i,off+s<=e.cells.size/\(e.cells.toList.drop off).take s=ul i/\ ∀c∈([c1 i]:List aj),c.P H/\c.F=[])
   (h:∀i,aD P n H0 F0 A r (put f d (.agg (ul i).toArray)) (c1 i::cs) K) (hx:EV n f x (.pointer (some ⟨k,j,some off⟩)):=by exact bT) (hm:Mem (gY E R k j a) cs:=by exact gD) (h0:Nat.blt 0 s=true:=by rfl):
   aD P n H0 F0 A (⟨d,.load T x,T2,ps,af,none⟩::r) f cs K:=Qq ul hA.h ht.h.sz h0 hx hm hop h
theorem AR{T2:TypeId} [bP R]{c1:ι->aj} [hA:gP P T true] [ht:gQ P T s b zv](ul:ι->List Value)(hop:∀H e,R H e a-> ∃i,off+s<=e.cells.size/\(e.cells.toList.drop off).take s=ul i/\ ∀c∈([c1 i]:List aj),c.P H/\c.F=[])
   (h:∀i,DC P n l tb az H0 F0 K todo fl (put f d (.agg (ul i).toArray)) (c1 i::cs)) (ho:l[i]?=some ⟨d,.load T x,T2,ps,af,gd⟩:=by rfl) (hw:Wt n l f gd:=by exact gz)
   (hx:EV n f x (.pointer (some ⟨k,j,some off⟩)):=by exact bT) (gN:dA x (cB l ⟨d,.load T x,T2,ps,af,gd⟩)=true:=by rfl) (hm:Mem (gY E R k j a) cs:=by exact gD) (h0:Nat.blt 0 s=true:=by rfl):
   DC P n l tb az H0 F0 K (i::todo) fl f cs:=Qr ul hA.h ht.h.sz h0 ho hw hx gN hm hop h
theorem bX{c1:aj}{l:List Oper}(hs:dI cs pre rest)(hv:Conv pre [c1])(h:aD P n H0 F0 A l f (c1::rest) K):aD P n H0 F0 A l f cs K:=uP hs hv aR h
theorem mD{c1:aj}{r:List Nat}(hs:dI cs pre rest)(hv:Conv pre [c1])(h:DC P n l tb az H0 F0 K r fl f (c1::rest)):DC P n l tb az H0 F0 K r fl f cs:=CX hs hv aR h
theorem bnd{α β:Type}{G:Prop}{x:Option α}{g:α->Option β}{b:β}(h:x.bind g=some b)(k:∀a,x=some a->g a=some b->G):G:=by
 obtain⟨a,h1,h2⟩:=bind_some h
 exact k a h1 h2
theorem Ci{β:Type}{b:Bool}{p q:Option β}{R0:β}{c1 c2:Code}{Q:Exit->Fr->List aj->Prop}(hF:(if b=true then p else q)=some R0)(h1:b=true->p=some R0->CW P n H0 F0 c1 Q f cs)(h2:b=false->q=some R0->CW P n H0 F0 c2 Q f cs)
   (hc:EV n f x (.bool b):=by exact bT):CW P n H0 F0 (.cond x c1 c2) Q f cs:=
 iZ hc (fun e=>h1 e (by rwa [if_pos e]at hF)) (fun e=>h2 e (by rwa [if_neg (nt e)]at hF))
theorem Kb{β:Type}{R':ag->Value->β->Prop} [bP R']{T3:TypeId}{u:Value}{cs':List aj}{c:Code}{Q:Exit->Fr->List aj->Prop}(he:aT cs cs')(ys:List β)(h:ys.length<4611686018427387904->CW P n H0 F0 c Q f cs')(hm:Mem (bS (bf T3 R') u ys) cs':=by exact gD):CW P n H0 F0 c Q f cs:=
 bV he (Jy hm OE h)
abbrev pz(k:Nat):Value:=.pointer (some ⟨k,0,some 0⟩)
theorem dn{α:Type}{k:Nat}{l:List α}(h:List.drop k l=[]):l.length<=k:=List.drop_eq_nil_iff.1 h
end
end Go.Fw
/-
 More plain laws about loops. No conditions.
-/
set_option linter.unusedVariables false
namespace Go.Fw
open Go
end Go.Fw
