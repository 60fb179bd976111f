/-
  A framework: readings, small rules, plain laws. No conditions.
-/
import Derived.Test.YtdmapdjncfkhhaaGreatDoorFb
import Derived.Deep.Slices
import Derived.ChangeArms
import Derived.SizedLaws
import Derived.Laws.Small
import Derived.WalkSpells
import Derived.Laws.Slices
import Derived.Below
import Derived.Sort.Grow
import Derived.Lib.LaidTab
import Derived.Lib.ItoaNum
import Derived.Lib.Join
import Derived.Deep.Draws
import Derived.Lib.SlicesCompact
import Derived.Lib.AppendZerosOnto
import Derived.Lib.Overlaps
import Derived.Laws.Externs
/-
 The bridge: what the arguments of a row's function read a_, a_ data.
-/
namespace Go.Fw
open Go Go.RowKit Go.WideShapes Go.ChangeShapes Go.ChangeAt
def oM(ρ:cO):Prop:=∀k L,ρ k=some (some L)->L.own=false
def eF{α:Type}(P:Program) [bT P](t:TypeId)(R:aB->Value->α->Prop)(W:α->Prop):Prop:=
 ∀{T:Type}(enc:TypeId×Value->T)(w:World)(fuel:Nat)(cs:List Value)(x:DataW T×List MemPlace),
   DataW.trod enc P w 0 (fun _=>true) true fuel t cs=some x->(∀n∈x.1.weights P t,n<=reachBytes)->
   ∀(ρ:cO)(H:aB),Rel P ρ H w->oM ρ-> ∃(ρ':cO)(H':aB)(av:Value)(a:α),Rel P ρ' H' w/\oM ρ'/\Up ρ ρ'/\gG H H'/\bv ρ' av.cells.toList cs/\R H' av a/\W a
theorem Rel.nil(P:Program) [bT P](w:World)(hV:bT.V P w):Rel P (fun _=>none) [] w:=⟨by simp,by simp,by simp,by simp,⟨w,hV,Nat.le_refl _,fun _ _=>rfl,by simp⟩⟩
theorem oM.nil:oM (fun _=>none):=fun _ _ h=>by simp at h
section
variable{P:Program} [bT P]{ρ:cO}{H:aB}{w:World}
theorem TC{ρ:cO}{H:aB}(h:Rel P ρ H w)(o:Option Loc):Up ρ (kX ρ H.length o):=by
 intro k
 by_cases e:k=H.length
 · subst e; exact .inl (h.dom _ (Nat.le_refl _))
 · exact .inr (.inl (ek _ _ e))
theorem Rel.foreign{L:Loc}{b:eT}(h:Rel P ρ H w)(hF:oM ρ)(hL:L.own=false)(hb:tO P ρ L b w):Rel P (kX ρ H.length (some L)) (H++[some b]) w:=by
 have hu:=TC h (some L)
 constructor
 · intro k L' hk
   by_cases e:k=H.length
   · subst e
     rw[gP]at hk
     obtain rfl:L=L':=by simpa using hk
     exact⟨b,by simp,hb.of_same hu rfl⟩
   · rw[ek _ _ e]at hk
     obtain⟨b',hb',hr⟩:=h.blk k L' hk
     exact⟨b',by rw[List.getElem?_append_left (nD hb')]; exact hb',hr.of_same hu rfl⟩
 · intro k b' hb' hk
   by_cases e:k=H.length
   · subst e; rw[gP]at hk; simp at hk
   · rw[ek _ _ e]at hk
     have hkl:k<H.length:=by
       have:=nD hb'
       simp at this; omega
     rw[List.getElem?_append_left hkl]at hb'
     exact h.alive k b' hb' hk
 · intro k hk
   simp at hk
   rw[ek _ _ (by omega)]
   exact h.dom k (by omega)
 · intro k k' L1 L2 h1 h2 ho _
   exfalso
   by_cases e:k=H.length
   · subst e; rw[gP]at h1
     obtain rfl:L=L1:=by simpa using h1
     rw[hL]at ho; simp at ho
   · rw[ek _ _ e]at h1
     rw[hF k L1 h1]at ho; simp at ho
 · refine h.vok.keep (Nat.le_refl _) (fun _ _ _=>rfl) fun k L' hk ho=>?_
   by_cases e:k=H.length
   · subst e; rw[gP]at hk
     obtain rfl:L=L':=by simpa using hk
     rw[hL]at ho; simp at ho
   · rw[ek _ _ e]at hk; exact .inl hk
theorem oM.foreign{L:Loc}(hF:oM ρ)(hL:L.own=false)(n:Nat):oM (kX ρ n (some L)):=by
 intro k L' hk
 by_cases e:k=n
 · subst e; rw[gP]at hk
   obtain rfl:L=L':=by simpa using hk
   exact hL
 · rw[ek _ _ e]at hk; exact hF k L' hk
theorem Rel.dead(h:Rel P ρ H w):Rel P (kX ρ H.length none) (H++[none]) w:=by
 have hu:=TC h none
 constructor
 · intro k L' hk
   by_cases e:k=H.length
   · subst e; rw[gP]at hk; simp at hk
   · rw[ek _ _ e]at hk
     obtain⟨b',hb',hr⟩:=h.blk k L' hk
     exact⟨b',by rw[List.getElem?_append_left (nD hb')]; exact hb',hr.of_same hu rfl⟩
 · intro k b' hb' hk
   by_cases e:k=H.length
   · subst e; simp at hb'
   · rw[ek _ _ e]at hk
     have hkl:k<H.length:=by
       have:=nD hb'
       simp at this; omega
     rw[List.getElem?_append_left hkl]at hb'
     exact h.alive k b' hb' hk
 · intro k hk
   simp at hk
   rw[ek _ _ (by omega)]
   exact h.dom k (by omega)
 · intro k k' L1 L2 h1 h2 ho he
   by_cases e:k=H.length
   · subst e; rw[gP]at h1; simp at h1
   · by_cases e':k'=H.length
     · subst e'; rw[gP]at h2; simp at h2
     · rw[ek _ _ e]at h1; rw[ek _ _ e']at h2
       exact h.inj k k' L1 L2 h1 h2 ho he
 · refine h.vok.keep (Nat.le_refl _) (fun _ _ _=>rfl) fun k L' hk ho=>?_
   by_cases e:k=H.length
   · subst e; rw[gP]at hk; simp at hk
   · rw[ek _ _ e]at hk; exact .inl hk
theorem oM.dead(hF:oM ρ)(n:Nat):oM (kX ρ n none):=by
 intro k L' hk
 by_cases e:k=n
 · subst e; rw[gP]at hk; simp at hk
 · rw[ek _ _ e]at hk; exact hF k L' hk
theorem NA(H:aB)(x:Option eT):gG H (H++[x]):=fun k b hk _=>by rw[List.getElem?_append_left (nD hk)]; exact hk
def kr(a:Int):Prop:=-9223372036854775808<=a/\a<=9223372036854775807
def atj(_:UInt8):Prop:=True
def apz{α:Type}(_:α):Prop:=True
def apA(a:List UInt8):Prop:=a.length<=140737488351232
def iZ{α:Type}(W:α->Prop)(a:List α):Prop:=a.length<=140737488351232/\ ∀x∈a,W x
theorem eF.int{t:TypeId}(ht:P.underlying t=some (.int .i64)):eF P t aK kr:=by
 intro T enc w fuel cs x h _ ρ H hr hF
 obtain⟨n,rfl,rfl,hw⟩:=DataW.trod_int ht h
 refine⟨ρ,H,.int .i64 n,n,hr,hF,Up.refl ρ,gG.refl H,.cons _ _ _ _ (.int _ _) .nil,rfl,?_⟩
 simp only[Lit.wf,IntKind.min,IntKind.max,Bool.and_eq_true]at hw
 unfold kr
 simpa[IntKind.signed,IntKind.bits]using hw
theorem eF.u8{t:TypeId}(ht:P.underlying t=some (.int .u8)):eF P t Ct atj:=by
 intro T enc w fuel cs x h _ ρ H hr hF
 obtain⟨n,rfl,rfl,hw⟩:=DataW.trod_int ht h
 simp only[Lit.wf,IntKind.min,IntKind.max,Bool.and_eq_true]at hw
 have hw':0<=n/\n<=255:=by simpa[IntKind.signed,IntKind.bits]using hw
 refine⟨ρ,H,.int .u8 n,UInt8.ofNat n.toNat,hr,hF,Up.refl ρ,gG.refl H,.cons _ _ _ _ (.int _ _) .nil,?_,trivial⟩
 unfold Ct
 have:((UInt8.ofNat n.toNat).toNat:Int)=n:=by
   simp[UInt8.toNat_ofNat']
   omega
 rw[this]
theorem eF.bool{t:TypeId}(ht:P.underlying t=some .bool):eF P t rdBool apz:=by
 intro T enc w fuel cs x h _ ρ H hr hF
 obtain⟨b,rfl,rfl⟩:=DataW.trod_bool ht h
 exact⟨ρ,H,.bool b,b,hr,hF,Up.refl ρ,gG.refl H,.cons _ _ _ _ (.bool _) .nil,rfl,trivial⟩
theorem eF.str{t:TypeId}(ht:P.underlying t=some .string):eF P t rdStr apA:=by
 intro T enc w fuel cs x h hw ρ H hr hF
 obtain⟨s,rfl,rfl,hs⟩:=DataW.trod_string ht h
 refine⟨ρ,H,.string s,s.data.toList,hr,hF,Up.refl ρ,gG.refl H,.cons _ _ _ _ (.string _) .nil,rfl,?_⟩
 have:=hw s.data.toList.length (by simp[DataW.weights])
 exact this
theorem aiN{Pg:Program}{T:Type}{e:TypeId}{l:List (DataW T)}{d:DataW T}(hd:d∈l){n:Nat}(hn:n∈d.weights Pg e):n∈DataW.weightsAll Pg e l:=by
 induction l with
 |nil=>simp at hd
 |cons x l ih=>
   simp only[DataW.weightsAll,List.mem_append]
   rcases List.mem_cons.1 hd with rfl|h
   · exact .inl hn
   · exact .inr (ih h)
theorem acT{α T:Type}{enc:TypeId×Value->T}{E:TypeId}{R:aB->Value->α->Prop}{W:α->Prop} [bE R](hE:eF P E R W){fuel:Nat}{C:Nat->List Value}{D:Nat->DataW T×List MemPlace}:
   ∀(len:Nat),(∀i,i<len->DataW.trod enc P w 0 (fun _=>true) true fuel E (C i)=some (D i)/\ ∀n∈(D i).1.weights P E,n<=reachBytes)-> ∀(ρ:cO)(H:aB),Rel P ρ H w->oM ρ->
     ∃(ρ':cO)(H':aB)(es:List Value)(a_:List α),Rel P ρ' H' w/\oM ρ'/\Up ρ ρ'/\gG H H'/\es.length=len/\a_.length=len/\(∀(i:Nat) e,es[i]?=some e->bv ρ' e.cells.toList (C i))/\
       (∀(i:Nat) a,a_[i]?=some a-> ∃e,es[i]?=some e/\R H' e a)/\ ∀a∈a_,W a
 |0,_,ρ,H,hr,hF=>⟨ρ,H,[],[],hr,hF,Up.refl ρ,gG.refl H,rfl,rfl,by simp,by simp,by simp⟩
 |len+1,h,ρ,H,hr,hF=>by
   obtain⟨ρ1,H1,es,a_,r1,f1,u1,i1,l1,l2,g1,g2,g3⟩:=acT hE len (fun i hi=>h i (by omega)) ρ H hr hF
   obtain⟨t,tw⟩:=h len (by omega)
   obtain⟨ρ2,H2,e,a,r2,f2,u2,i2,v2,q2,w2⟩:=hE enc w fuel _ _ t tw ρ1 H1 r1 f1
   refine⟨ρ2,H2,es++[e],a_++[a],r2,f2,u1.trans u2,i1.trans i2,by simp[l1],by simp[l2],?_,?_,?_⟩
   · intro i e' he'
     by_cases hi:i<es.length
     · rw[List.getElem?_append_left hi]at he'
       exact (g1 i e' he').up u2
     · rw[List.getElem?_append_right (by omega)]at he'
       have hi':i-es.length=0:=by
         rcases Nat.eq_zero_or_pos (i-es.length)with h|h
         · exact h
         · rw[List.getElem?_eq_none (by simp; omega)]at he'; simp at he'
       rw[hi']at he'
       obtain rfl:e=e':=by simpa using he'
       obtain rfl:i=len:=by omega
       exact v2
   · intro i a' ha'
     by_cases hi:i<a_.length
     · rw[List.getElem?_append_left hi]at ha'
       obtain⟨e',he',hq⟩:=g2 i a' ha'
       exact⟨e',by rw[List.getElem?_append_left (by omega)]; exact he',bE.up hq i2⟩
     · rw[List.getElem?_append_right (by omega)]at ha'
       have hi':i-a_.length=0:=by
         rcases Nat.eq_zero_or_pos (i-a_.length)with h|h
         · exact h
         · rw[List.getElem?_eq_none (by simp; omega)]at ha'; simp at ha'
       rw[hi']at ha'
       obtain rfl:a=a':=by simpa using ha'
       exact⟨e,by rw[List.getElem?_append_right (by omega),show i-es.length=0 by omega]; rfl,q2⟩
   · intro a' ha'
     rcases List.mem_append.1 ha' with h|h
     · exact g3 a' h
     · obtain rfl:a'=a:=by simpa using h
       exact w2
theorem eF.slice{α:Type}{t E:TypeId}{R:aB->Value->α->Prop}{W:α->Prop}{s:Nat} [bE R] [Cells R s](ht:P.underlying t=some (.slice E))(hs:P.cellsOf E=s)(h0:0<s)(hb:0<P.bytesOf E)
   (hE:eF P E R W):eF P t (aJ E R) (iZ W):=by
 intro T enc w fuel cs x h hw ρ H hr hF
 rcases Deep.open_slice ht h with⟨rfl,rfl⟩|⟨a,len,cap,m,n,D,Pl,rfl,-,hlc,hcm,hm,rfl,hx⟩
 · exact⟨ρ,H,.slice none 0 0,[],hr,hF,Up.refl ρ,gG.refl H,.cons _ _ _ _ .nilSlice .nil,.inl ⟨rfl,rfl⟩,by simp[iZ]⟩
 have hm':m=cap:=by simpa using hm
 subst hm'
 rcases Nat.eq_zero_or_pos len with rfl|hpos
 · refine⟨_,_,.slice (some ⟨H.length,0,none⟩) 0 0,[],hr.dead,hF.dead _,TC hr none,NA H none,?_,.inr (.inr ⟨_,_,_,rfl,rfl⟩),by simp[iZ]⟩
   exact .cons _ _ _ _ (.sliceDead _ _ _ _ _ _ (gP _ _ _)) .nil
 have hwl:len*P.bytesOf E<=reachBytes:=by
   have:=hw _ (by simp only[DataW.weights,ht]; exact List.mem_cons_self)
   simp only[List.length_map,List.length_range]at this
   exact Nat.le_trans (Nat.mul_le_mul_right _ (by omega)) this
 have hlen:len<=140737488351232:=by
   have h1:len*1<=len*P.bytesOf E:=Nat.mul_le_mul_left _ hb
   have h2:reachBytes=140737488351232:=rfl
   omega
 have hch:∀i,∃cs',i<len->w.cells? 0 (a.add (i*P.cellsOf E)) (P.cellsOf E)=some cs'/\DataW.trod enc P w 0 (fun _=>true) true n E cs'=some (D i,Pl i):=by
   intro i
   by_cases hi:i<len
   · obtain⟨cs',h1,h2⟩:=hx i (by omega)
     exact⟨cs',fun _=>⟨h1,h2⟩⟩
   · exact⟨[],fun h=>absurd h hi⟩
 obtain⟨C,hC⟩:=Classical.axiomOfChoice hch
 rw[hs]at hC
 obtain⟨ρ1,H1,es,a_,r1,f1,u1,i1,l1,l2,g1,g2,g3⟩:=acT (enc:=enc) (D:=fun i=>(D i,Pl i)) hE len (fun i hi=>⟨(hC i hi).2,fun k hk=>hw k (by
   simp only[DataW.weights,ht]
   refine List.mem_cons_of_mem _ (List.mem_append_left _ (aiN (d:=D i) (List.mem_map.2 ⟨i,by simpa using hi,rfl⟩) hk)))⟩) ρ H hr hF
 obtain⟨-,hl0,hc0⟩:=World.cells?_some (hC 0 hpos).1
 have hcell:=hc0 0 h0
 rw[List.getElem?_eq_getElem (by omega)]at hcell
 obtain⟨ab,ao,asp⟩:=a
 have hsp:asp=none:=by simpa[Addr.add]using World.cell?_spot hcell
 subst hsp
 have Ub:∃c ct fr,w.heap[ab]?=some (.cells c ct fr):=by
   simp only[World.cell?,Addr.add,Nat.zero_mul,if_true]at hcell
   split at hcell
   · exact⟨_,_,_,by assumption⟩
   · simp at hcell
 obtain⟨c,ct,fr,Ub⟩:=Ub
 have hadd:∀(o:Nat),Addr.add ⟨ab,ao,none⟩ o=⟨ab,ao+o,none⟩:=by
   intro o
   exact addr_add _ _ _
 have hCi:∀i,i<len->(c.toList.drop (ao+i*s)).take s=C i:=by
   intro i hi
   obtain⟨-,hl,hc⟩:=World.cells?_some (hC i hi).1
   apply List.ext_getElem?
   intro j
   by_cases hj:j<s
   · have:=hc j hj
     rw[hadd,show Addr.add ⟨ab,ao+i*s,none⟩ j=⟨ab,ao+i*s+j,none⟩from addr_add _ _ _,EX Ub]at this
     rw[List.getElem?_take_of_lt hj,List.getElem?_drop,←this]
     simp
   · rw[List.getElem?_eq_none (by rw[List.length_take]; omega),List.getElem?_eq_none (by omega)]
 have hbr:tO P ρ1 ⟨ab,ao,s,0,false⟩ ⟨es,E,false,false⟩ w:=by
   refine⟨rfl,hs,c,ct,fr,Ub,fun i e he=>?_,by simp⟩
   have hi:i<len:=by
     have:i<es.length:=by
       rcases Nat.lt_or_ge i es.length with h|h
       · exact h
       · simp[List.getElem?_eq_none h]at he
     omega
   obtain⟨e',he',hq⟩:=g2 i _ (List.getElem?_eq_getElem (show i<a_.length by omega))
   rw[he]at he'
   obtain rfl:e=e':=by simpa using he'
   exact⟨(Cells.cells hq).1,by rw[hCi i hi]; exact g1 i e he⟩
 refine⟨_,_,.slice (some ⟨H1.length,0,none⟩) len 0,a_,r1.foreign f1 rfl hbr,f1.foreign rfl _,u1.trans (TC r1 _),i1.trans (NA _ _),?_,?_,by omega,g3⟩
 · refine .cons _ _ _ _ (.slice _ _ _ _ _ _ _ (gP _ _ _) hlc (by simp) (by simp) fun _=>⟨?_,by simp⟩) .nil
   simp
 · refine .inr (.inl ⟨H1.length,0,0,⟨es,E,false,false⟩,by rw[l2],by simp,rfl,rfl,by simp[l1,l2],by omega,fun j a ha=>?_⟩)
   obtain⟨e,he,hq⟩:=g2 j a ha
   exact⟨e,by simpa using he,bE.up hq (NA _ _)⟩
def fieldAt(P:Program) [bT P](t:TypeId)(i:Nat):Option (TypeId×Nat×Nat):=
 match P.underlying t with
 |some (.struct fs)=>(fs[i]?).map fun f=>(f.type,f.offset,P.cellsOf f.type)
 |_=>none
theorem abJ{t ft:TypeId}{i o s:Nat}(h:fieldAt P t i=some (ft,o,s)):∃fs f,P.underlying t=some (.struct fs)/\fs[i]?=some f/\f.type=ft/\f.offset=o/\P.cellsOf ft=s:=by
 unfold fieldAt at h
 split at h
 · rename_i fs hfs
   obtain⟨f,hf,he⟩:=Option.map_eq_some_iff.1 h
   injection he with e1 e2
   injection e2 with e2 e3
   exact⟨fs,f,hfs,hf,e1,e2,by rw[←e1]; exact e3⟩
 · simp at h
theorem jk{α T:Type}{enc:TypeId×Value->T}{t ft:TypeId}{i o s fuel:Nat}{R:aB->Value->α->Prop}{W:α->Prop}{cs:List Value}{x:DataW T×List MemPlace}
   (hi:fieldAt P t i=some (ft,o,s)) (h:DataW.trod enc P w 0 (fun _=>true) true fuel t cs=some x) (hw:∀n∈x.1.weights P t,n<=reachBytes) (hE:eF P ft R W) (hr:Rel P ρ H w) (hF:oM ρ):
   ∃(ρ':cO)(H':aB)(av:Value)(a:α),Rel P ρ' H' w/\oM ρ'/\Up ρ ρ'/\gG H H'/\bv ρ' av.cells.toList ((cs.drop o).take s)/\R H' av a/\W a:=by
 obtain⟨fs,f,hfs,hf,rfl,rfl,rfl⟩:=abJ hi
 obtain⟨xs,n,rfl,rfl,hl,hxl,hx⟩:=DataW.trod_struct hfs h
 have hlt:i<fs.size:=(Array.getElem?_eq_some_iff.1 hf).1
 have hxi:xs[i]?=some xs[i]:=List.getElem?_eq_getElem (by omega)
 have ht:=hx i f hf
 rw[hxi]at ht
 refine hE enc w n _ _ ht (fun k hk=>hw k ?_) ρ H hr hF
 simp only[DataW.weights,hfs]
 exact DataW.weights_mem_each (j:=i) (t:=f.type) (d:=(xs[i]).1) (by simp[hf]) (by simp[hxi]) k hk
theorem wY{T:Type}{enc:TypeId×Value->T}{t ft:TypeId}{o s fuel n:Nat}{cs:List Value}{x:DataW T×List MemPlace}
   (hi:fieldAt P t 0=some (ft,o,s)) (h:DataW.trod enc P w 0 (fun _=>true) true fuel t cs=some x) (hn:P.cellsOf t=n):cs.length=n:=by
 obtain⟨fs,f,hfs,-⟩:=abJ hi
 obtain⟨xs,n,rfl,rfl,hl,-⟩:=DataW.trod_struct hfs h
 rw[hl,hn]
theorem bv.field{l l' cs:List Value}{o s:Nat}(h:bv ρ l ((cs.drop o).take s))(h':bv ρ l' (cs.drop (o+s))):bv ρ (l++l') (cs.drop o):=by
 have:=h.append h'
 rwa [←List.drop_drop,List.take_append_drop]at this
theorem bv.one{v:Value}{l:List Value}(h:bv ρ v.cells.toList l)(hv:Value.cells v= #[v]):bv ρ [v] l:=by rw[hv]at h; exact h
theorem bv.end{cs:List Value}{o:Nat}(h:cs.length=o):bv ρ [] (cs.drop o):=by
 rw[List.drop_of_length_le (by omega)]; exact .nil
def nN:Value->Bool
 | .agg _=>true
 |_=>false
def sw(P:Program) [bT P](t:TypeId):Bool:=
 match P.underlying t with
 |some (.struct _)|some (.array _ _)=>true
 |_=>false
theorem alv{r:Reach}{base:Nat}{t:TypeId}{v:Value}(h:Value.okWide P w r base t v):nN v=sw P t:=by
 unfold Value.okWide at h
 unfold sw
 split at h
 · obtain⟨cs,rfl,-⟩:=h; simp_all [nN]
 · obtain⟨cs,rfl,-⟩:=h; simp_all [nN]
 · rename_i h1 h2
   have:nN v=false:=by
     cases v with
     |agg l=>unfold Cell.okWide at h; split at h<;>simp_all [Cell.ok]
     |_=>rfl
   rw[this]
   split<;>simp_all
theorem bW.of_cells{av v:Value}(h:bv ρ av.cells.toList v.cells.toList)(hs:nN v=nN av):bW ρ av v:=by
 cases av with
 |agg l'=>
   cases v with
   |agg l=>have:=bW.agg _ _ h; simpa[Value.cells]using this
   |_=>simp[nN]at hs
 |_=>
   cases v with
   |agg l=>simp[nN]at hs
   |_=>cases h with|cons _ _ _ _ h _=>exact h
theorem adj{α T:Type}{enc:TypeId×Value->T}{t:TypeId}{ts:List TypeId}{R:aB->Value->α->Prop}{W:α->Prop}{vs:List Value}{ds:List (DataW T)}{ps:List MemPlace}
   (h:DataW.TrodAll enc P w 0 (fun _=>true) true (t::ts) vs ds ps) (hw:∀n∈DataW.weightsEach P (t::ts) ds,n<=reachBytes) (hE:eF P t R W) (hsh:∀H v a,R H v a->nN v=sw P t) {r:Reach} {base:Nat} (hok:∀v,vs[0]?=some v->Value.okWide P w r base t v) (hr:Rel P ρ H w) (hF:oM ρ):
   ∃(v:Value)(vs':List Value)(d:DataW T)(ds':List (DataW T))(q:List MemPlace)(ρ':cO)(H':aB)(av:Value)(a:α),vs=v::vs'/\ds=d::ds'/\DataW.TrodAll enc P w 0 (fun _=>true) true ts vs' ds' q/\
     (∀n∈DataW.weightsEach P ts ds',n<=reachBytes)/\Rel P ρ' H' w/\oM ρ'/\Up ρ ρ'/\gG H H'/\bW ρ' av v/\R H' av a/\W a:=by
 cases vs with
 |nil=>cases ds<;>exact h.elim
 |cons v vs=>
   cases ds with
   |nil=>exact h.elim
   |cons d ds=>
     obtain⟨p,q,⟨fuel,h1⟩,h2,rfl⟩:=h
     obtain⟨ρ',H',av,a,g1,g2,g3,g4,g5,g6,g7⟩:=hE enc w fuel _ _ h1 (fun n hn=>hw n (by simp only[DataW.weightsEach,List.mem_append]; exact .inl hn)) ρ H hr hF
     exact⟨v,vs,d,ds,q,ρ',H',av,a,rfl,rfl,h2,fun n hn=>hw n (by simp only[DataW.weightsEach,List.mem_append]; exact .inr hn),g1,g2,g3,g4,.of_cells g5 (by rw[hsh _ _ _ g6,alv (hok v rfl)]),g6,g7⟩
theorem adV{args:Array Value}{i:Nat}{v:Value}(h:args.toList[i]?=some v):args[i]?=some v:=by simpa using h
theorem amB{Pg:Program}{T:Type}{enc:TypeId×Value->T}{vs:List Value}{ds:List (DataW T)}{ps:List MemPlace}(h:DataW.TrodAll enc Pg w 0 (fun _=>true) true [] vs ds ps):vs=[]/\ds=[]:=by
 cases vs<;>cases ds<;>first|exact⟨rfl,rfl⟩|exact h.elim
end
end Go.Fw
/-
 Small rules for the generator.
-/
set_option linter.unusedVariables false
namespace Go.Fw
open Go
section
variable{P:Program} [bT P]{n:Nat}{f:Fr}{H:aB}{d:Option Tmp}{x y z:Operand}{T T' T'' E:TypeId}{ps:String}{af:Array Edge}{gd:Option (Nat×Bool)}
theorem Jb{g:Bool}{s b:Nat}{zv:Value}(ht:TY P T s b zv)(hv:zv.cells.size=s)(hc:wW zv=true):qO P n ⟨d,.alloc T,T',ps,af,gd⟩ f (fun k=>.pointer (some ⟨k,0,some 0⟩)) ⟨[zv],T,true,g⟩:=by
 obtain⟨i,hi,-,-,hz⟩:=ht.inv
 exact anb hi hz ht.sz hv hc
theorem cz{g:Bool}{s b':Nat}{zv:Value}{len:Nat}{parts:List (Nat×Operand)}{vs:List Value}(hT:SL P T E)(ht:TY P E s b' zv)(hxs:jv n f (parts.map (·.2)) vs)
   (hidx:parts.map (·.1)=List.range' 0 parts.length) (hlen:len=parts.length) (hbig:Nat.ble (len*s) (2 ^ 24)=true) (hv:∀v∈vs,v.cells.size=s):
   qO P n ⟨d,.buildSlice T len parts.toArray,T',ps,af,gd⟩ f (fun k=>.slice (some ⟨k,0,none⟩) len 1) ⟨vs,E,true,g⟩:=by
 obtain⟨iE,uz,h1,h2,h3⟩:=ht.inv
 exact aj3 hT ht.sz uz h3 hxs hidx hlen hbig hv
theorem gU{s t u:List UInt8}(hx:EV n f x (sv s))(hy:EV n f y (sv t))(h:fG s t=some u):eY P n ⟨d,.binOp .add T x y T',T'',ps,af,none⟩ f H (sv u):=by
 obtain⟨rfl,hl⟩:=gQ h
 exact amv hx hy hl
theorem zk{o:Oper}{base pre rest:List aD}{ι:Type}{val:ι->Value}{post:ι->List aD}(hs:fO base pre rest)(hx:XC P n o f pre val post):XC P n o f base val post:=by
 intro H hc ρ w a K' Q' hr hf hk
 have hc':=hc.take hs
 have hsub:∀k∈foot pre,k∈foot base:=by
   intro k hk
   have:=(hc'.own k (by simp only[foot,List.flatMap_append,List.mem_append]; exact .inl hk))
   rcases this.1 with h|h
   · exact h
   · omega
 refine hx H hc'.view ρ w a K' Q' hr hf fun f' ρ' H' a' w' h1 h2 h3 h4=>?_
 obtain⟨x,e,h5⟩:=h4
 refine hk f' ρ' H' a' w' h1 h2 h3 ⟨x,e,h5.len,h5.imm,fun k hk hn=>h5.agr k hk (fun h=>hn (hsub k h)),h5.hold,h5.nd,fun k hk=>⟨?_,(h5.own k hk).2⟩⟩
 exact (h5.own k hk).1.imp (hsub k) id
theorem adk{o:Oper}{base pre:List aD}{ι:Type}{val:ι->Value}{post:ι->List aD}(hp:base.Perm pre)(hx:XC P n o f pre val post):XC P n o f base val post:=by
 intro H hc ρ w a K' Q' hr hf hk
 have hm:∀k,k∈foot pre↔k∈foot base:=fun k=>(hp.flatMap_right aD.F).symm.mem_iff
 have hc2:Ctx H (foot pre) H pre:=by
   have h:=hc.perm hp
   exact⟨h.len,h.imm,fun _ _ _=>rfl,h.hold,h.nd,fun k hk=>⟨.inl hk,(h.own k hk).2⟩⟩
 refine hx H hc2 ρ w a K' Q' hr hf fun f' ρ' H' a' w' h1 h2 h3 h4=>?_
 obtain⟨x,e,h5⟩:=h4
 refine hk f' ρ' H' a' w' h1 h2 h3 ⟨x,e,h5.len,h5.imm,fun k hk hn=>h5.agr k hk (fun h=>hn ((hm k).1 h)),h5.hold,h5.nd,fun k hk=>⟨?_,(h5.own k hk).2⟩⟩
 exact (h5.own k hk).1.imp (hm k).1 id
theorem anj{o:Oper}{c c':aD}{pre:List aD}{ι:Type}{val:ι->Value}{post:ι->List aD}(hf:xD c c')(hl:∀x,uT (post x))(hx:XC P n o f (pre++[c']) val post):XC P n o f (c::pre) val (fun x=>c::post x):=
 lF hf hl (adk (List.perm_append_singleton c' pre).symm hx)
inductive JD:List aD->List aD->List aD->Prop
 |nil {pre:List aD}:JD [] pre pre
 |cons {c c':aD} {cs pre base:List aD} [Ow c] (h:xD c c') (t:JD cs (c'::pre) base):JD (c::cs) pre base
theorem JD.loc{cl pre base post:List aD}(h:JD cl pre base)(hl:uT post):uT (cl++post):=by
 induction h with
 |nil=>exact hl
 |cons _ _ ih=>exact .cons ih
theorem mV{o:Oper}{cl pre base:List aD}{ι:Type}{val:ι->Value}{post:ι->List aD}(hf:JD cl pre base)(hl:∀x,uT (post x))(hx:XC P n o f base val post):XC P n o f (cl++pre) val (fun x=>cl++post x):=by
 induction hf with
 |nil=>exact hx
 |cons h t ih=>exact lF h (fun x=>t.loc (hl x)) (adk List.perm_middle.symm (ih hx))
end
end Go.Fw
namespace Go.Fw
open Go
theorem Ctx.start(H:aB):Ctx H [] H []:=⟨Nat.le_refl _,gG.refl _,fun _ _ _=>rfl,fun c hc=>by simp at hc,by simp,fun k hk=>by simp at hk⟩
end Go.Fw
/-
 Parts of elements of our own slices: loaded, stored, handed to a callee that turns them.
-/
set_option linter.unusedVariables false
namespace Go.Fw
open Go
theorem alX{ρ:cO}{c:Value}(h:bW ρ undef c):c=undef:=by
 generalize hx:undef=x at h
 cases h with
 |tuple a a' h=>
   have:a=[]:=by
     have e:(undef:Value)= .tuple #[]:=rfl
     rw[e]at hx
     injection hx with hx
     have:=congrArg Array.toList hx
     simpa using this.symm
   subst this
   cases h
   rfl
 |_=>simp[undef]at hx
theorem abq{n:Nat}{A:Array Oper}{f:Fr}{o:Oper}{j:Nat}{want:Bool}{t:Tmp}(h:o.guard=some (j,want))(hd:(A[j]?).bind (·.dst)=some t)(hv:f t=undef)(ht:Nat.blt t n=true):Wanted n A f o false:=by
 intro ρ a hf
 have hlt:t<n:=by simpa[Nat.blt_eq]using ht
 have hr:=hf.get t hlt
 rw[hv]at hr
 have hlt':t<a.tmps.size:=by rw[hf.size]; exact hlt
 have hg:a.tmps[t]?=some (a.tmps.getD t undef):=by
   simp[Array.getD_eq_getD_getElem?,hlt']
 rw[alX hr]at hg
 simp[Region.wanted,h,yielded,hd,hg,undef]
section
variable{P:Program} [bT P]{n:Nat}{H0:aB}{F0:List Nat}{f:Fr}{cs:List aD}{A:Array Oper}{r:List Oper}{K:Fr->List aD->Prop}{d:Option Tmp}{op:Op}{T T' E:TypeId}{ps:String}{af:Array Edge}{gd:Option (Nat×Bool)}{x y:Operand}
variable{l:List Oper}{tb a_ todo:List Nat}{fl:List (Nat×List Nat)}{i:Nat}
theorem aob{j:Nat}{t:Tmp}{b:Bool}(hd:(A[j]?).bind (·.dst)=some t)(hv:f t=undef)(ht:Nat.blt t n=true)(h:bA P n H0 F0 A r (put f d undef) cs K):
   bA P n H0 F0 A (⟨d,op,T,ps,af,some (j,b)⟩::r) f cs K:=fun H hc=>acf (abq rfl hd hv ht) (h H hc)
theorem aoc(t:Tmp){j:Nat}{b:Bool}(ho:l[i]?=some ⟨d,op,T,ps,af,some (j,b)⟩)(h1:(l[j]?).bind (·.dst)=some t)(h2:f t=undef)(h3:Nat.blt t n=true)(h:DC P n l tb a_ H0 F0 K todo fl (put f d undef) cs):
   DC P n l tb a_ H0 F0 K (i::todo) fl f cs:=
 fun H hc=>.flt (Ks:=[]) ho (.inr ⟨rfl,fun f' ha=>by
   have hv:f' t=undef:=(ha t (Wy h1)).trans h2
   exact abq (o:=⟨d,op,T,ps,af,some (j,b)⟩) rfl (by simpa using h1) hv h3⟩) ((h H hc).cov fun p hp=>by
   rcases List.mem_cons.1 hp with h|h
   · exact .inr (by rw[h])
   · exact .inl h)
variable{α β:Type}{Ro:gB α}{Rf:gB β}
structure Part(Ro:gB α)(off:Nat)(Rf:gB β)(get:α->β)(set:α->β->α):Prop where
 split:∀{F:List Nat}{H:aB}{e:Value}{a:α},Ro F H e a-> ∃(w:Sv)(Fa Fw Fb:List Nat),e.cells.toList[off]?=some w.v/\F=Fa++Fw++Fb/\Rf Fw H w.v (get a)/\
   ∀{H':aB}{Fw':List Nat}{d':β},gG H H'->(∀k,k∈Fa\/k∈Fb->H'[k]?=H[k]?)->Rf Fw' H' w.v d'->Ro (Fa++Fw'++Fb) H' e (set a d')
def atl(E:TypeId)(Ro:gB α)(i off:Nat)(w:Value):gB (List α):=fun F H v xs=>aP E Ro F H v xs/\ ∃k b e,F.head?=some k/\jL v=some k/\H[k]?=some (some b)/\b.elems[i]?=some e/\e.cells.toList[off]?=some w
instance{i off:Nat}{w:Value} [eu Ro]:eu (atl E Ro i off w):=⟨fun{F H H' v a} h hi hk=>by
 obtain⟨h1,k,b,e,h0,h2,h3,h4,h5⟩:=h
 refine⟨eu.keep h1 hi hk,k,b,e,h0,h2,(hk k ?_).trans h3,h4,h5⟩
 cases F with
 |nil=>simp at h0
 |cons q F=>simp at h0; subst h0; simp⟩
theorem aP.head{F:List Nat}{H:aB}{v:Value}{xs:List α}{k:Nat}(h:aP E Ro F H v xs)(hk:jL v=some k):F.head?=some k/\ ∃m b G,v= .slice (some ⟨k,0,none⟩) xs.length m/\(m=1\/m=2)/\H[k]?=some (some b)/\b.wr=true/\b.own=true/\b.ty=E/\xs.length<4611686018427387904/\F=k::G/\dO Ro H b.elems xs G:=by
 rcases h with⟨rfl,-,-⟩|⟨k',m,b,G,rfl,h2,h3,h4,h5,h6,h7,rfl,h9⟩
 · simp[jL]at hk
 · have e:k'=k:=by simpa[jL]using hk
   subst e
   exact⟨rfl,m,b,G,rfl,h2,h3,h4,h5,h6,h7,rfl,h9⟩
theorem amC [eu Ro]{s k off:Nat}{F:List Nat}{i:Int}{a a':α}{u v:Value}{xs:List α}(hs:SZ P T s)(h0:Nat.blt 0 s=true)(hx:EV n f x (.pointer (some ⟨k,i.toNat,some off⟩)))(hy:EV n f y u)(hk:jL v=some k)(hj:xs[i.toNat]?=some a)
   (hu:u.cells.size=s) (hsc:u.cells.toList.all scal=true) (hfit:∀F H e,Ro F H e a->off+s<=e.cells.size) (hset:∀F H e,Ro F H e a->Ro F H (rz e off u.cells.toList) a'):
   XC P n ⟨d,.store T x y,T',ps,af,gd⟩ f [aQ (aP E Ro) F v xs] (fun _:Unit=>undef) (fun _=>[aQ (aP E Ro) F v (xs.set i.toNat a')]):=by
 intro H cu
 have ho:aP E Ro F H v xs:=cu.hold _ (List.mem_singleton.2 rfl)
 obtain⟨hh,m,b,G,rfl,h2,h3,h4,h5,h6,h7,rfl,h9⟩:=ho.head hk
 obtain⟨e,F1,Fj,F2,g1,rfl,g3,g4⟩:=h9.at hj
 refine Xv hs hx hy h3 h5 g1 hu hsc (by simpa[Nat.blt_eq]using h0) (hfit _ _ _ g3) ⟨(),rfl,?_⟩
 have zh:∀q,q≠k->(H.set k (some ⟨b.elems.set i.toNat (rz e off u.cells.toList),b.ty,true,b.wr⟩))[q]?=H[q]?:=fun q hq=>by rw[List.getElem?_set_ne (fun e=>hq e.symm)]
 have kP:gG H (H.set k (some ⟨b.elems.set i.toNat (rz e off u.cells.toList),b.ty,true,b.wr⟩)):=by
   intro q b2 hq hw2
   rw[zh q (fun e=>by
     subst e; rw[hq]at h3
     injection h3 with h3; injection h3 with h3
     rw[h3]at hw2; rw[hw2]at h4; simp at h4)]
   exact hq
 have hnd:=cu.nd
 have uA:∀q,q∈F1\/q∈Fj\/q∈F2->q≠k:=by
   intro q hq e
   subst e
   simp only[foot,aQ,List.flatMap_cons,List.flatMap_nil,List.append_nil,List.nodup_cons,List.mem_append]at hnd
   exact hnd.1 (by rcases hq with h|h|h<;>simp[h])
 refine⟨by simp,kP,fun q hq Au=>zh q (fun e=>Au (by subst e; simp[foot,aQ])),?_,by simpa[foot,aQ]using hnd,fun q hq=>⟨.inl (by simpa[foot,aQ]using hq),?_⟩⟩
 · intro c hc
   simp at hc; subst hc
   refine .inr ⟨k,m,_,F1++Fj++F2,by rw[List.length_set],h2,List.getElem?_set_self (nD h3),h4,rfl,h6,by simpa using h7,by simp,?_⟩
   refine g4 (fun Fi x y hr hm=>eu.keep hr kP fun q hq=>zh q (uA q ?_)) (eu.keep (hset _ _ _ g3) kP fun q hq=>zh q (uA q (by simp[hq])))
   rcases hm q hq with h|h
   · exact .inl h
   · exact .inr (.inr h)
 · simpa using (cu.own q (by simpa[foot,aQ]using hq)).2
theorem lC{H:aB}{k s:Nat}{ow w:Bool}{TB:TypeId}{l:List Value}{f:Fr}(hA:AG P T true)(hs:SZ P T s)(h0:Nat.blt 0 s=true)(hx:EV n f x (.pointer (some ⟨k,0,some 0⟩)))(hk:H[k]?=some (some ⟨[.agg l.toArray],TB,ow,w⟩))(hl:l.length=s):
   eY P n ⟨d,.load T x,T',ps,af,none⟩ f H (.agg l.toArray):=
 ko (e:=.agg l.toArray) hA hs hx hk rfl (by simpa[Nat.blt_eq]using h0) (by simp[Value.cells,hl]) (by subst hl; simp[Value.cells])
theorem akM{E:TypeId}{R:aB->Value->α->Prop}{v:Value}{xs:List α}{H:aB}(h:aJ E R H v xs):∃a m,v= .slice a xs.length m/\(a=none->xs=[]):=by
 rcases h with⟨rfl,rfl⟩|⟨k,i,m,b,rfl,-⟩|⟨k,i,m,rfl,rfl⟩
 · exact⟨none,0,rfl,fun _=>rfl⟩
 · exact⟨_,m,rfl,fun h=>by simp at h⟩
 · exact⟨_,m,rfl,fun h=>by simp at h⟩
theorem Xi{E:TypeId}{R:aB->Value->α->Prop} [bE R]{v:Value}{xs:List α}(H:aB)(h:(bK (aJ E R) v xs).P H):∃a m,v= .slice a xs.length m/\(a=none->xs=[]):=akM (R:=R) h
theorem acm{E:TypeId} [eu Ro]{F:List Nat}{v:Value}{xs:List α}(H:aB)(h:(aQ (aP E Ro) F v xs).P H):∃a m,v= .slice a xs.length m/\(a=none->xs=[]):=by
 have h:aP E Ro F H v xs:=h
 rcases h with⟨rfl,rfl,-⟩|⟨k,m,b,G,rfl,-⟩
 · exact⟨none,0,rfl,fun _=>rfl⟩
 · exact⟨_,m,rfl,fun h=>by simp at h⟩
variable{T'':TypeId}
theorem ank{H:aB}{a:Option Addr}{n' m:Nat}{f:Fr}(hT:SL P T E)(hx:EV n f x (.slice a n' m)):eY P n ⟨d,.binOp .eql T x (.const (.slice none 0 0)) T',T'',ps,af,none⟩ f H (.bool a.isNone):=by
 intro ρ w q hr hf
 have hu:P.underlying T=some (.slice E):=hT
 have hv:=hx.use hf
 have key:∃a' c,q.eval x= .slice a' n' c/\a'.isNone=a.isNone:=by
   generalize q.eval x=cv at hv
   cases hv with
   |nilSlice=>exact⟨none,0,rfl,rfl⟩
   |slice k i n m L p cap=>exact⟨some p,cap,rfl,rfl⟩
   |sliceDead k i n m p cap=>exact⟨some p,cap,rfl,rfl⟩
 obtain⟨a',c,he,hi⟩:=key
 refine⟨.bool a'.isNone,?_,by rw[hi]; exact .bool _⟩
 have hc:Act.eval q (.const (.slice none 0 0))= .slice none 0 0:=rfl
 simp[execOp,he,hc,eqGuard,Lib.run_eql_slice_nil w T E a' n' c 0 0 hu]
theorem Xx{v:Value}{xs:List α}{c:aD}(hT:SL P T E)(hx:EV n f x v)(hm:Mem c cs)(hc:∀H,c.P H-> ∃a m,v= .slice a xs.length m/\(a=none->xs=[]))(h:∀b:Bool,(b=true->xs=[])->bA P n H0 F0 A r (put f d (.bool b)) cs K):
   bA P n H0 F0 A (⟨d,.binOp .eql T x (.const (.slice none 0 0)) T',T'',ps,af,none⟩::r) f cs K:=by
 intro H cu
 obtain⟨a,m,rfl,ha⟩:=hc H (cu.mem hm)
 exact tC (ank hT hx) (h a.isNone (fun e=>ha (by simpa using e)) H cu)
def IK(P:Program) [bT P](t:TypeId)(k:IntKind):Prop:=P.underlying t=some (.int k)
theorem alY{H:aB}{S D:TypeId}{k1 k2:IntKind}{i:Int}(hS:IK P S k1)(hD:IK P D k2)(hx:EV n f x (.int k1 i)):eY P n ⟨d,.convert S D x,T',ps,af,none⟩ f H (.int k2 (k2.wrap i)):=by
 intro ρ w q hr hf
 have hS':P.underlying S=some (.int k1):=hS
 have hD':P.underlying D=some (.int k2):=hD
 exact⟨_,by simp[execOp,(hx.use hf).int_inv,convert,underlying,hS',hD',Conv.intToInt],.int _ _⟩
def rG(i:Int):UInt8:=UInt8.ofNat (IntKind.u8.wrap i).toNat
theorem anl(i:Int):((rG i).toNat:Int)=IntKind.u8.wrap i:=by
 have h:IntKind.u8.wrap i=i % 256:=by simp[IntKind.wrap,IntKind.bits,IntKind.signed]
 unfold rG
 rw[h]
 have h1:0<=i % 256:=Int.emod_nonneg _ (by decide)
 have h2:i % 256<256:=Int.emod_lt_of_pos _ (by decide)
 simp[UInt8.toNat_ofNat']
 omega
theorem acU{H:aB}{S D:TypeId}{k1:IntKind}{i:Int}(hS:IK P S k1)(hD:IK P D .u8)(hx:EV n f x (.int k1 i)):eY P n ⟨d,.convert S D x,T',ps,af,none⟩ f H (.int .u8 ((rG i).toNat:Int)):=by
 rw[anl]; exact alY hS hD hx
end
end Go.Fw
/-
 Plain laws on the helpers that laws use: copies, sizes, comparisons.
-/
namespace Go.Fw
open Go
theorem je{α:Type}(l:List α)(k:Nat):ix l (k:Int)=l[k]?:=by simp[ix]
theorem adl{α:Type}(n:Nat)(z:α)(h:n<4294967296):qc (n:Int) z=some (List.replicate n z):=by
 unfold qc
 rw[if_pos (by omega)]
 simp
theorem SV{n:Nat}(h:n<9223372036854775808):IntKind.i64.wrap (n:Int)=n:=fU (by omega) (by omega)
theorem M9{α:Type}{l:List α}{k:Nat}{x:α}{r:List α}(h:l.drop k=x::r):l[k]?=some x/\l.drop (k+1)=r:=by
 have hlt:k<l.length:=by
   rcases Nat.lt_or_ge k l.length with h'|h'
   · exact h'
   · rw[List.drop_of_length_le h']at h; simp at h
 rw[List.drop_eq_getElem_cons hlt]at h
 injection h with h1 h2
 exact⟨by rw[List.getElem?_eq_getElem hlt,h1],h2⟩
theorem adm{α:Type}{L:List α->Nat->List α->Option (List α)}(h0:∀k c,L [] k c=some c){W:α->Prop}(h1:∀x r k c,W x->k<c.length->L (x::r) k c=L r (k+1) (c.set k x)):
   ∀(rest:List α)(k:Nat)(c:List α),(∀x∈rest,W x)->k+rest.length<=c.length->L rest k c=some (c.take k++rest++c.drop (k+rest.length))
 |[],k,c,_,_=>by rw[h0]; simp
 |x::r,k,c,hw,hl=>by
   simp only[List.length_cons]at hl
   rw[h1 x r k c (hw x (by simp)) (by omega),adm h0 h1 r (k+1) _ (fun y hy=>hw y (by simp[hy])) (by simp; omega)]
   have hk:k<c.length:=by omega
   congr 1
   rw[List.take_succ_eq_append_getElem (by simpa using hk)]
   simp only[List.getElem_set_self,List.take_set_of_le (Nat.le_refl k)]
   rw[List.drop_set_of_lt (by omega)]
   simp[Nat.add_assoc,Nat.add_comm 1]
theorem aod{α:Type}{L:List α->Nat->List α->Option (List α)}(h0:∀k c,L [] k c=some c){W:α->Prop}(h1:∀x r k c,W x->k<c.length->L (x::r) k c=L r (k+1) (c.set k x)){a:List α}{z:α}(hw:∀x∈a,W x):
   L a 0 (List.replicate a.length z)=some a:=by
 rw[adm h0 h1 a 0 _ hw (by simp)]
 simp
def Sz{α:Type}(f:α->Int->Option Int)(tot:α->Nat)(W:α->Prop):Prop:=
 ∀a,W a-> ∀left:Int,0<=left->left<=1048576-> ∃n,f a left=some n/\(n=left-tot a/\0<=n\/n<0)
theorem adn{α:Type}{L:List α->Nat->Int->Option Int}{f:α->Int->Option Int}{tot:α->Nat}{W:α->Prop}(hf:Sz f tot W)(h0:∀k c,L [] k c=some c)
   (h1:∀x r k c,L (x::r) k c=(f x c).bind fun n=>if decide ((n:Int)<0)then some (-1)else L r (k+1) n):
   ∀(rest:List α)(k:Nat)(left:Int),(∀x∈rest,W x)->0<=left->left<=1048576-> ∃n,L rest k left=some n/\(n=left-((rest.map tot).sum:Nat)/\0<=n\/n<0)
 |[],k,left,_,hl,_=>⟨left,h0 k left,.inl ⟨by simp,hl⟩⟩
 |x::r,k,left,hw,hl,hm=>by
   obtain⟨n,e,h⟩:=hf x (hw x (by simp)) left hl hm
   rw[h1,e,Option.bind_some]
   rcases h with⟨rfl,hn⟩|hn
   · rw[if_neg (by simp; omega)]
     obtain⟨m,e2,h2⟩:=adn hf h0 h1 r (k+1) _ (fun y hy=>hw y (by simp[hy])) hn (by omega)
     refine⟨m,e2,h2.imp (fun ⟨a,b⟩=>⟨?_,b⟩) id⟩
     rw[a]; simp only[List.map_cons,List.sum_cons]; omega
   · rw[if_pos (by simpa using hn)]
     exact⟨-1,rfl,.inr (by omega)⟩
theorem BR{α:Type}{S:List α->Int->Option Int}{L:List α->Nat->Int->Option Int}{f:α->Int->Option Int}{tot:α->Nat}{W:α->Prop}(hf:Sz f tot W)(h0:∀k c,L [] k c=some c)
   (h1:∀x r k c,L (x::r) k c=(f x c).bind fun n=>if decide ((n:Int)<0)then some (-1)else L r (k+1) n)
   (hS:∀a left,S a left=if decide ((IntKind.i64.wrap (left-(a.length:Int)):Int)<0)then some (-1)else L a 0 (IntKind.i64.wrap (left-(a.length:Int)))):
   Sz S (fun a=>a.length+(a.map tot).sum) (iZ W):=by
 intro a ⟨hlen,hw⟩ left hl hm
 rw[hS,fU (by omega) (by omega)]
 by_cases h:left-(a.length:Int)<0
 · rw[if_pos (by simpa using h)]; exact⟨-1,rfl,.inr (by omega)⟩
 · rw[if_neg (by simpa using h)]
   obtain⟨n,e,h2⟩:=adn hf h0 h1 a 0 (left-(a.length:Int)) hw (by omega) (by omega)
   refine⟨n,e,h2.imp (fun ⟨p,q⟩=>⟨?_,q⟩) id⟩
   rw[p]; simp only[Int.natCast_add]; omega
theorem anm{α:Type}{S:List α->Int->Option Int}{W:α->Prop}(hS:∀a left,S a left=if decide ((IntKind.i64.wrap (left-(a.length:Int)):Int)<0)then some (-1)else some (IntKind.i64.wrap (left-(a.length:Int)))):
   Sz S (fun a=>a.length) (iZ W):=by
 intro a ⟨hlen,_⟩ left hl hm
 rw[hS,fU (by omega) (by omega)]
 by_cases h:left-(a.length:Int)<0
 · rw[if_pos (by simpa using h)]; exact⟨-1,rfl,.inr (by omega)⟩
 · rw[if_neg (by simpa using h)]; exact⟨_,rfl,.inl ⟨rfl,by omega⟩⟩
theorem ado{α:Type}{L:List α->Nat->Option Bool}(b:List α)(h0:∀k,L [] k=some true)(h1:∀x r k,b[k]?=some x->L (x::r) k=L r (k+1)):
   ∀(rest:List α)(k:Nat),b.drop k=rest->L rest k=some true
 |[],k,_=>h0 k
 |x::r,k,h=>by
   obtain⟨e1,e2⟩:=M9 h
   rw[h1 x r k e1]
   exact ado b h0 h1 r (k+1) e2
abbrev jh{α:Type}(f:α->Nat)(a:List α):Nat:=a.length+(a.map f).sum
def df{α:Type}(p:α->Prop)(a:List α):Prop:=a.length<4294967296/\ ∀x∈a,p x
def lK{α:Type}(_:α):Prop:=True
theorem adp{α:Type}{f:α->Nat}{x:α}:∀{a:List α},x∈a->f x<=(a.map f).sum
 |y::a,h=>by
   rcases List.mem_cons.1 h with rfl|h
   · simp
   · have:=adp (f:=f) h; simp only[List.map_cons,List.sum_cons]; omega
theorem Cj{α:Type}{f:α->Nat}{p:α->Prop}(h:∀x,f x<4294967296->p x)(a:List α)(ha:jh f a<4294967296):df p a:=
 ⟨by simp only[jh]at ha; omega,fun x hx=>h x (by have:=adp (f:=f) hx; simp only[jh]at ha; omega)⟩
theorem uN{α:Type}(a:List α)(ha:a.length<4294967296):df lK a:=⟨ha,fun _ _=>trivial⟩
theorem ann{α:Type}{p:α->Prop}:df p []:=⟨by simp,by simp⟩
theorem yI{α:Type}{p:α->Prop}{z:α}{S:List α->Option (List α)}{L:List α->Nat->List α->Option (List α)}(hS:∀a,S a=(qc (a.length:Int) z).bind fun z=>L a 0 z)(h0:∀k c,L [] k c=some c)
   (h1:∀x r k c,p x->k<c.length->L (x::r) k c=L r (k+1) (c.set k x)) (a:List α) (h:df p a):S a=some a:=by
 rw[hS,adl _ _ h.1,Option.bind_some]
 exact aod h0 h1 h.2
theorem yJ{α:Type}{S:List α->List α->Option Bool}{L:List α->List α->Nat->Option Bool}(hS:∀a b,S a b=if (((a.length:Int):Int)!=(b.length:Int))then some false else L b a 0)(h0:∀b k,L b [] k=some true)
   (h1:∀b x r k,b[k]?=some x->L b (x::r) k=L b r (k+1)) (a:List α):S a a=some true:=by
 rw[hS]
 simp only[bne_self_eq_false,Bool.false_eq_true,if_false]
 exact ado a (h0 a) (h1 a) a 0 rfl
theorem mW{α:Type}{xs:List α}(h:xs.length<4294967296):app [] xs=some xs:=by unfold app; rw[if_pos (by simpa using h)]; rfl
theorem o5{α:Type}{xs ys:List α}(h:xs.length+ys.length<4294967296):app xs ys=some (xs++ys):=by unfold app; rw[if_pos h]
def jN{α:Type}(p:α->Bool):List α->Nat->Int
 |[],_=>-1
 |x::r,k=>if p x then (k:Int)else jN p r (k+1)
theorem oZ{α:Type}{p:α->Bool}:∀(l:List α)(k:Nat),decide ((0:Int)<=jN p l k)=l.any p
 |[],k=>by simp[jN]
 |x::r,k=>by
   rw[jN,List.any_cons]
   by_cases h:p x=true
   · rw[if_pos h,h]; simp
   · rw[if_neg h,oZ r (k+1)]; simp[h]
theorem nC{α:Type}{L:List α->Nat->Option Int}{f:α->Option Bool}{p:α->Bool}(h0:∀k,L [] k=some (-1))(h1:∀x r k,L (x::r) k=(f x).bind fun b=>if b then some (k:Int)else L r (k+1)):
   ∀(l:List α)(k:Nat),(∀x∈l,f x=some (p x))->L l k=some (jN p l k)
 |[],k,_=>h0 k
 |x::r,k,hf=>by
   rw[h1,hf x (by simp),Option.bind_some,jN]
   split
   · rfl
   · exact nC h0 h1 r (k+1) fun y hy=>hf y (by simp[hy])
theorem yK{α:Type}{L:List α->Nat->Option Bool}{f:α->Option Bool}{p:α->Bool}{e:Bool}(h0:∀k,L [] k=some e)(h1:∀x r k,L (x::r) k=(f x).bind fun b=>if (!b)then some false else L r (k+1)):
   ∀(l:List α)(k:Nat),(∀x∈l,f x=some (p x))->L l k=some (l.all p&&e)
 |[],k,_=>by simp[h0]
 |x::r,k,hf=>by
   rw[h1,hf x (by simp),Option.bind_some,List.all_cons]
   cases h:p x
   · simp
   · simp[yK h0 h1 r (k+1) fun y hy=>hf y (by simp[hy])]
def vW{α:Type}(p:α->α->Bool):List α->List α->Bool
 |[],[]=>true
 |x::a,y::b=>p x y&&vW p a b
 |_,_=>false
theorem adq{α:Type}{p:α->α->Bool}:∀{a b:List α},a.length≠b.length->vW p a b=false
 |[],[],h=>by simp at h
 |x::a,y::b,h=>by rw[vW,adq (a:=a) (b:=b) (by simpa using h),Bool.and_false]
 |[],_::_,_=>rfl
 |_::_,[],_=>rfl
theorem acV{α:Type}{L:List α->Nat->Option Bool}{f:α->α->Option Bool}{p:α->α->Bool}{b:List α}{e:Bool}(h0:∀k,L [] k=some e)(h1:∀x r k y,b[k]?=some y->L (x::r) k=(f x y).bind fun c=>if (!c)then some false else L r (k+1)):
   ∀(l:List α)(k:Nat),l.length=(b.drop k).length->(∀x∈l,∀y∈b,f x y=some (p x y))->L l k=some (vW p l (b.drop k)&&e)
 |[],k,hl,_=>by
   have:b.drop k=[]:=List.length_eq_zero_iff.1 hl.symm
   rw[h0,this]; rfl
 |x::r,k,hl,hf=>by
   cases hd:b.drop k with
   |nil=>rw[hd]at hl; simp at hl
   |cons y t=>
     obtain⟨e1,e2⟩:=M9 hd
     have hy:y∈b:=List.mem_of_getElem? e1
     rw[h1 x r k y e1,hf x (by simp) y hy,Option.bind_some,vW]
     cases hp:p x y
     · rfl
     · rw[hd]at hl
       simp only[Bool.not_true,Bool.false_eq_true,if_false,Bool.true_and]
       rw[acV h0 h1 r (k+1) (by rw[e2]; simpa using hl) fun x' hx'=>hf x' (by simp[hx']),e2]
theorem adr{α:Type}{S:List α->List α->Option Bool}{L:List α->List α->Nat->Option Bool}{f:α->α->Option Bool}{p:α->α->Bool}(hS:∀a b,S a b=if (((a.length:Int):Int)!=(b.length:Int))then some false else L b a 0)(h0:∀b k,L b [] k=some true)
   (h1:∀b x r k y,b[k]?=some y->L b (x::r) k=(f x y).bind fun c=>if (!c)then some false else L b r (k+1)) (a b:List α) (hf:∀x∈a,∀y∈b,f x y=some (p x y)):S a b=some (vW p a b):=by
 rw[hS]
 by_cases h:a.length=b.length
 · rw[if_neg (by simp[h]),acV (L:=L b) (h0 b) (h1 b) a 0 (by simpa using h) hf]
   simp
 · rw[if_pos (by simpa[Int.natCast_inj]using h),adq h]
def jR(x y:Int):Int:=if x<y then -1 else if y<x then 1 else 0
def cmpL:List Int->List Int->Int
 |[],[]=>0
 |[],_::_=>-1
 |_::_,[]=>1
 |x::a,y::b=>if jR x y !=0 then jR x y else cmpL a b
theorem Xj{α β:Type}{P:α->Prop}{g:α->β}{L:List α->Nat->List β->Option (List β)}(h0:∀k c,L [] k c=some c)(h1:∀x r k c,P x->c.length+1<4294967296->L (x::r) k c=L r (k+1) (c++[g x])):
   ∀(l:List α)(k:Nat)(c:List β),(∀x∈l,P x)->c.length+l.length<4294967296->L l k c=some (c++l.map g)
 |[],k,c,_,_=>by simp[h0]
 |x::r,k,c,hp,hl=>by
   simp only[List.length_cons]at hl
   rw[h1 x r k c (hp x (by simp)) (by omega),Xj h0 h1 r (k+1) _ (fun y hy=>hp y (by simp[hy])) (by simp; omega)]
   simp
theorem amD{α:Type}{P:α->Prop}{L:List α->Nat->List α->Option (List α)}(h0:∀k c,L [] k c=some c)(h1:∀x r k c,P x->c.length+1<4294967296->L (x::r) k c=L r (k+1) (c++[x]))(l:List α)(h:df P l):L l 0 []=some l:=by
 have:=Xj (g:=fun x=>x) h0 h1 l 0 [] h.2 (by simpa using h.1)
 simpa using this
theorem app1{α:Type}{c:List α}{x:α}(h:c.length+1<4294967296):app c [x]=some (c++[x]):=o5 (by simpa using h)
def iL{α:Type}(p:α->Bool)(q:α->α->Bool):Option α->List α->Bool
 |_,[]=>true
 |none,x::r=>p x&&iL p q (some x) r
 |some y,x::r=>p x&&!q y x&&iL p q (some x) r
theorem M_{α:Type}(p:α->Bool)(q:α->α->Bool):∀(o:Option α)(l:List α),iL p q o l=(iL (fun _=>true) q o l&&l.all p)
 |_,[]=>by simp[iL]
 |none,x::r=>by
   rw[iL,iL,M_ p q (some x) r,List.all_cons]
   cases p x<;>cases iL (fun _=>true) q (some x) r<;>simp
 |some y,x::r=>by
   rw[iL,iL,M_ p q (some x) r,List.all_cons]
   cases p x<;>cases q y x<;>cases iL (fun _=>true) q (some x) r<;>simp
theorem adW{α:Type}{L:List α->Nat->Option Bool}{P:α->Prop}{p:α->Bool}{q:α->α->Bool}{e:Bool}(l:List α)(hP:∀x∈l,P x)(hl:l.length<4294967296)(h0:∀k,L [] k=some e)
   (h2:∀x r k y,P x->P y->l[k]?=some y->k<4294967296->L (x::r) (k+1)=if p x&&!q y x then L r (k+2)else some false):
   ∀(rest:List α)(k:Nat)(y:α),l.drop (k+1)=rest->l[k]?=some y->L rest (k+1)=some (iL p q (some y) rest&&e)
 |[],k,y,_,_=>by rw[h0]; simp[iL]
 |x::r,k,y,hd,hy=>by
   obtain⟨e1,e2⟩:=M9 hd
   have hlt:k<l.length:=by
     rcases Nat.lt_or_ge k l.length with h|h
     · exact h
     · simp[List.getElem?_eq_none h]at hy
   rw[h2 x r k y (hP x (List.mem_of_getElem? e1)) (hP y (List.mem_of_getElem? hy)) hy (by omega),iL]
   cases hpq:(p x&&!q y x)
   · simp
   · rw[if_pos rfl,adW l hP hl h0 h2 r (k+1) x e2 e1]; simp
theorem ES{α:Type}{L:List α->Nat->Option Bool}{P:α->Prop}{p:α->Bool}{q:α->α->Bool}{e:Bool}(l:List α)(hP:∀x∈l,P x)(hl:l.length<4294967296)(h0:∀k,L [] k=some e)
   (h1:∀x r,P x->L (x::r) 0=if p x then L r 1 else some false)
   (h2:∀x r k y,P x->P y->l[k]?=some y->k<4294967296->L (x::r) (k+1)=if p x&&!q y x then L r (k+2)else some false):
   L l 0=some (iL p q none l&&e):=by
 cases l with
 |nil=>rw[h0]; simp[iL]
 |cons x r=>
   rw[h1 x r (hP x (by simp)),iL]
   cases hp:p x
   · simp
   · rw[if_pos rfl,adW (x::r) hP hl h0 h2 r 0 x rfl rfl]; simp
theorem EZ{α:Type}(l:List α)(k:Nat)(h:k<4294967296):ix l (IntKind.i64.wrap ((((k+1:Nat):Int))-1))=l[k]?:=by
 rw[show (((k+1:Nat):Int))-1=(k:Int) by omega,SV (by omega),je]
theorem BS(k:Nat):decide ((0:Int)<((k+1:Nat):Int))=true:=decide_eq_true (by omega)
theorem Jc:decide ((0:Int)<((0:Nat):Int))=false:=rfl
def aT(lo hi n:Int):Bool:=decide (lo<=n)&&decide (n<=hi)
theorem TD{α:Type}{l:List α}{m:Int}(h:aT 0 ((l.length:Int)-1) m=true):∃x,ix l m=some x/\l[m.toNat]?=some x:=by
 simp[aT]at h
 have hlt:m.toNat<l.length:=by omega
 exact⟨l[m.toNat],by unfold ix; rw[if_pos h.1,List.getElem?_eq_getElem hlt],List.getElem?_eq_getElem hlt⟩
end Go.Fw
/-
 Slice expressions on our own slices; clear; elements that keep their identity; a function that only moves elements, over deep data.
-/
set_option linter.unusedVariables false
namespace Go.Fw
open Go
theorem alZ{z:Value}(hz:wW z=true)(h0:z.cells.toList.all scal=true)(n:Nat)(hs:0<z.cells.size):∀u∈(Builtin.zeroCells z.cells n).toList,scal u=true:=by
 intro u hu
 simp only[Builtin.zeroCells,Array.toList_map,List.mem_map,Array.toList_range,List.mem_range]at hu
 obtain⟨i,-,rfl⟩:=hu
 have hlt:i % z.cells.size<z.cells.size:=Nat.mod_lt _ hs
 rw[getElem!_pos z.cells (i % z.cells.size) hlt]
 exact List.all_eq_true.1 h0 _ (by simp)
theorem acW(z:Array Value)(n:Nat):(Builtin.zeroCells z n).toList.length=n*z.size:=by simp[Builtin.zeroCells]
section
variable{P:Program} [bT P]{n:Nat}{f:Fr}{H0:aB}{F0:List Nat}{cs:List aD}{A:Array Oper}{r:List Oper}{K:Fr->List aD->Prop}{d:Option Tmp}{x y z:Operand}{T T' E:TypeId}{ps:String}{af:Array Edge}{gd:Option (Nat×Bool)}
variable{α:Type}{R:aB->Value->α->Prop}{xs:List α}{v:Value}
theorem acn{H:aB}{k m l s:Nat}{b:eT}{kk:IntKind}{i:Int}(hT:SL P T E)(hs:SZ P E s)(hx:EV n f x (.slice (some ⟨k,0,none⟩) l m))(hy:EV n f y (.int kk i))(hk:H[k]?=some (some b))(hbt:b.ty=E)(h0:0<=i)(hi:i<=(l:Int)):
   eY P n ⟨d,.slice T x (some y) none none,T',ps,af,none⟩ f H (.slice (some ⟨k,i.toNat,none⟩) (l-i.toNat) 0):=by
 intro ρ w a hr hf
 obtain⟨L,p,cap,hl,hb,hc,hcap,h1,h2,hp⟩:=(hx.use hf).slice_inv hr hk
 have hyv:a.eval y= .int kk i:=(hy.use hf).int_inv
 have hu:P.underlying T=some (.slice E):=hT
 have he:P.elem T=E:=by simp[Program.elem,hu]
 have hu2:P.underlying T=some (.slice (P.elem T)):=by rw[he]; exact hu
 have atm:L.sz=s:=by rw[←hb.sz,hbt,hs.cells]
 refine⟨sliced (some p) i.toNat l cap s,?_,?_⟩
 · have hrun:=run_slice_l (P:=P) w T (some p) l cap hu2 kk i h0 hi
   rw[he,hs.run,Result.andThen]at hrun
   have h2':=run_sliceAt_slice (P:=P) w T (.slice (some p) l cap) (some (.int kk i)) none none hu2
   simp[execOp,hc,hyv,h2',hrun]
 · have hform:∃q:Addr,sliced (some p) i.toNat l cap s= .slice (some q) (l-i.toNat) (cap-i.toNat)/\(l-i.toNat≠0->q=p.add (i.toNat*s)):=by
     unfold sliced
     by_cases e:cap=i.toNat
     · exact⟨p,by rw[if_pos e],fun h=>by omega⟩
     · exact⟨p.add (i.toNat*s),by rw[if_neg e]; rfl,fun _=>rfl⟩
   obtain⟨q,hq,hqe⟩:=hform
   rw[hq]
   refine bW.slice k i.toNat _ 0 L q _ hl (by omega) (by simp) (by simp) (fun hn=>⟨?_,fun ho=>?_⟩)
   · rw[hqe hn,hp (by omega),addr_add,atm]
     simp
   · obtain⟨L',hl',hx'⟩:=(hx.use hf).slice_ext hr hk (by omega)
     rw[hl]at hl'
     obtain rfl:L=L':=by simpa using hl'
     have:=hx' ho
     omega
theorem aco{H:aB}{k m l s:Nat}{b:eT}{kk:IntKind}{i:Int}(hT:SL P T E)(hs:SZ P E s)(hx:EV n f x (.slice (some ⟨k,0,none⟩) l m))(hm:m=1\/m=2)(hy:EV n f y (.int kk i))(hk:H[k]?=some (some b))(ho:b.own=true)(h0:0<=i)(hi:i<=(l:Int))(hl0:l≠0):
   eY P n ⟨d,.slice T x none (some y) none,T',ps,af,none⟩ f H (.slice (some ⟨k,0,none⟩) i.toNat 2):=by
 intro ρ w a hr hf
 obtain⟨L,p,cap,hl,hb,hc,hcap,h1,h2,hp⟩:=(hx.use hf).slice_inv hr hk
 have hyv:a.eval y= .int kk i:=(hy.use hf).int_inv
 have hu:P.underlying T=some (.slice E):=hT
 have he:P.elem T=E:=by simp[Program.elem,hu]
 have hu2:P.underlying T=some (.slice (P.elem T)):=by rw[he]; exact hu
 have hown:L.own=true:=by rw[←hb.own]; exact ho
 obtain⟨cs0,ct,fr,-,-,hr2⟩:=hb.cells
 obtain⟨hoff,-⟩:=hr2 hown
 refine⟨sliced (some p) 0 i.toNat cap s,?_,?_⟩
 · have hrun:=run_slice_h (P:=P) w T (some p) l cap hu2 kk i h0 (by omega)
   rw[he,hs.run,Result.andThen]at hrun
   have h2':=run_sliceAt_slice (P:=P) w T (.slice (some p) l cap) none (some (.int kk i)) none hu2
   simp[execOp,hc,hyv,h2',hrun]
 · have hq:sliced (some p) 0 i.toNat cap s= .slice (some p) i.toNat cap:=by
     unfold sliced
     rw[if_neg (by omega)]
     simp[Addr.add]
   rw[hq]
   have lq:=hp hl0
   rw[Nat.zero_mul,Nat.add_zero]at lq
   have J9:cap<=L.cap:=by
     rcases hm with rfl|rfl
     · have:=h1 rfl; omega
     · exact (h2 (Nat.le_refl _)).2.2.1
   exact bW.slice k 0 _ 2 L p _ hl (by omega) (by simp) (fun _=>⟨rfl,hown,J9,lq,by omega⟩) (fun _=>⟨by rw[lq]; simp,fun _=>by omega⟩)
theorem amE{R:aB->Value->α->Prop} [bE R]{H H':aB}(hi:gG H H'){es:List Value}{ys:List α}{G:List Nat}(h:dO (aG R) H es ys G):∀i,dO (aG R) H' (es.take i) (ys.take i) []:=by
 induction h with
 |nil=>intro i; simpa using dO.nil
 |cons h _ ih=>
   intro i
   cases i with
   |zero=>simpa using dO.nil
   |succ i=>
     have:=dO.cons (Ro:=aG R) (F:=[]) (G:=[]) ⟨rfl,bE.up h.2 hi⟩ (ih i)
     simpa using this
theorem ano [bE R]{F:List Nat}{k l m j i s by':Nat}{zv:Value}{ts:List TypeId}(hT:SL P T E)(ht:TY P E s by' zv)(h0s:Nat.blt 0 s=true)(hzs:zv.cells.size=s)(hzc:wW zv=true)(hzl:zv.cells.toList.all scal=true)
   (hl:l=xs.length) (hj:i+j=l) (hx:EV n f x (.slice (some ⟨k,i,none⟩) j 0)):
   XC P n ⟨d,.call ⟨.builtin .clear,[x].toArray,(T::ts).toArray⟩,T',ps,af,gd⟩ f [aQ (aP E (aG R)) F (.slice (some ⟨k,0,none⟩) l m) xs] (fun _:Unit=>undef)
     (fun _=>[aQ (aP E (aG R)) F (.slice (some ⟨k,0,none⟩) i 2) (xs.take i)]):=by
 intro H cu
 have h0:0<s:=by simpa[Nat.blt_eq]using h0s
 have ho:aP E (aG R) F H (.slice (some ⟨k,0,none⟩) l m) xs:=cu.hold _ (List.mem_singleton.2 rfl)
 obtain⟨hh,m',b,G,hv,h2,h3,h4,h5,h6,h7,rfl,h9⟩:=ho.head (k:=k) rfl
 subst hl
 have hlen:=h9.length
 have atn:P.cellsOf E=s:=ht.sz.cells
 intro ρ w a K' Q' hr hf hkk
 obtain⟨L,p,cap,hl,hbr,hc,hcap,g1,g2,gp⟩:=(hx.use hf).slice_inv hr h3
 have hown:L.own=true:=by rw[←hbr.own]; exact h5
 obtain⟨cs,ct,fr,oN,hel,hr2⟩:=hbr.cells
 obtain⟨hoff,o6,hlenL,hfr,rfl⟩:=hr2 hown
 have jU:L.sz=s:=by rw[←hbr.sz,h6,atn]
 have hu:P.underlying T=some (.slice E):=hT
 obtain⟨it,hit,e1,e2,e3⟩:=ht.inv
 have NP:∀w:World,(zeroValue E).run P w= .ok zv w:=fun w=>by simp[zeroValue,typeInfo,hit,e3]
 have afg:i*s+j*s<=cs.size:=by
   have h1:(i+j)*s<=L.cap*L.sz:=by rw[jU]; exact Nat.mul_le_mul_right _ (by omega)
   rw[Nat.add_mul]at h1; omega
 have hend:∀w':World,(w'.heap=w.heap\/ ∃vs:List Value,vs.length=j*s/\w'.heap=w.heap.setIfInBounds L.blk (.cells (splice cs.toList (i*s) vs).toArray b.ty fr))->w'.os=w.os->w'.output=w.output->w'.tape=w.tape->
     Rel P ρ (H.set k (some ⟨b.elems.take i,b.ty,true,b.wr⟩)) w'/\Step ρ H w ρ (H.set k (some ⟨b.elems.take i,b.ty,true,b.wr⟩)) w':=by
   intro w' hw' w1 w2 w3
   have hw'':∃cs':Array Value,w'.heap=w.heap.setIfInBounds L.blk (.cells cs' b.ty fr)/\cs'.size=cs.size/\ ∀q,q+s<=i*s->(cs'.toList.drop q).take s=(cs.toList.drop q).take s:=by
     rcases hw' with hw'|⟨vs,hvl,hw'⟩
     · refine⟨cs,?_,rfl,fun _ _=>rfl⟩
       rw[hw']
       have hlt:=hr.lt hl
       apply Array.ext_getElem?
       intro q
       by_cases hq:L.blk=q
       · subst hq; rw[Array.getElem?_setIfInBounds_self_of_lt hlt]; exact oN
       · rw[Array.getElem?_setIfInBounds_ne hq]
     · refine⟨_,hw',?_,fun q hq=>?_⟩
       · simp only[List.size_toArray]; rw[Ee _ _ _ (by rw[hvl]; simpa using afg)]; simp
       · exact Sd _ _ _ _ _ (.inl hq) (by rw[hvl]; simpa using afg)
   obtain⟨cs',hh',hsz',hsame⟩:=hw''
   refine⟨hr.write (b':=⟨b.elems.take i,b.ty,true,b.wr⟩) hl hown hh' rfl rfl hbr.sz ?_ ⟨hoff,by rw[hsz']; exact o6,by simp only[List.length_take]; omega,by rw[hsz']; exact hfr⟩,Step.write hl hown hh' w1 w2 w3⟩
   intro q e he
   have hqi:q<i:=by
     rcases Nat.lt_or_ge q i with h|h
     · exact h
     · rw[List.getElem?_eq_none (by simp; omega)]at he; simp at he
   rw[List.getElem?_take_of_lt hqi]at he
   have:=hel q e he
   refine⟨this.1,?_⟩
   rw[hoff,Nat.zero_add,jU]at this ⊢
   rw[hsame (q*s) (by rw[←Nat.succ_mul]; exact Nat.mul_le_mul_right _ hqi)]
   exact this.2
 have hpost:Ctx H (foot [aQ (aP E (aG R)) (k::G) (.slice (some ⟨k,0,none⟩) xs.length m) xs]) (H.set k (some ⟨b.elems.take i,b.ty,true,b.wr⟩)) [aQ (aP E (aG R)) (k::G) (.slice (some ⟨k,0,none⟩) i 2) (xs.take i)]:=by
   have hnd:=cu.nd
   have hG:G=[]:=by
     have:∀{es:List Value}{ys:List α}{G:List Nat},dO (aG R) H es ys G->G=[]:=by
       intro es ys G h
       induction h with
       |nil=>rfl
       |cons h _ ih=>rw[ih,h.1]; rfl
     exact this h9
   subst hG
   have hne:∀q,q≠k->(H.set k (some ⟨b.elems.take i,b.ty,true,b.wr⟩))[q]?=H[q]?:=fun q hq=>by rw[List.getElem?_set_ne (fun e=>hq e.symm)]
   have kP:gG H (H.set k (some ⟨b.elems.take i,b.ty,true,b.wr⟩)):=by
     intro q b2 hq hw2
     rw[hne q (fun e=>by
       subst e; rw[hq]at h3
       injection h3 with h3; injection h3 with h3
       rw[h3]at hw2; rw[hw2]at h4; simp at h4)]
     exact hq
   refine⟨by simp,kP,fun q hq Au=>hne q (fun e=>Au (by subst e; simp[foot,aQ])),?_,by simp[foot,aQ],fun q hq=>⟨.inl (by simpa[foot,aQ]using hq),by simpa[foot,aQ]using (cu.own q (by simpa[foot,aQ]using hq)).2⟩⟩
   intro c hcm
   simp at hcm; subst hcm
   refine .inr ⟨k,2,_,[],by rw[List.length_take,Nat.min_eq_left (by omega)],.inr rfl,List.getElem?_set_self (nD h3),h4,rfl,h6,by simp only[List.length_take]; omega,rfl,?_⟩
   exact amE kP h9 i
 by_cases hj0:j=0
 · subst hj0
   have hex:(execOp a.eval ⟨d,.call ⟨.builtin .clear,[x].toArray,(T::ts).toArray⟩,T',ps,af,gd⟩).run P w= .ok (.value undef) w:=by
     simp[execOp,resolve,invoke,builtin,Builtin.clear_,hc,underlying,hu,undef]
   show Oper.upon P _ a K' Q' _
   rw[hex]
   obtain⟨r1,r2⟩:=hend w (.inl rfl) rfl rfl rfl
   exact hkk _ _ _ _ _ (hf.put d (bW.undef ρ)) r1 r2 ⟨(),rfl,hpost⟩
 · have hp:=gp hj0
   have hvl:=acW zv.cells j
   obtain⟨w',hrun,hw',w1,w2,w3⟩:=RA P (b:=L.blk) (o:=i*s) (Builtin.zeroCells zv.cells j).toList 0 cs w oN (fun o h=>hfr o (Nat.le_of_lt h)) (alZ hzc hzl j (by rw[hzs]; exact h0)) (by rw[hvl,hzs]; omega)
   have hex:(execOp a.eval ⟨d,.call ⟨.builtin .clear,[x].toArray,(T::ts).toArray⟩,T',ps,af,gd⟩).run P w= .ok (.value undef) w':=by
     obtain⟨j',rfl⟩:∃q,j=q+1:=⟨j-1,by omega⟩
     have hp':p=⟨L.blk,i*s,none⟩:=by rw[hp,hoff,Nat.zero_add,jU]
     simp[execOp,resolve,invoke,builtin,Builtin.clear_,hc,underlying,hu,undef,NP,hp',hrun]
   show Oper.upon P _ a K' Q' _
   rw[hex]
   obtain⟨r1,r2⟩:=hend w' (.inr ⟨_,by rw[hvl,hzs],by rw[hw',Nat.add_zero]⟩) w1 w2 w3
   exact hkk _ _ _ _ _ (hf.put d (bW.undef ρ)) r1 r2 ⟨(),rfl,hpost⟩
end
def rq{α:Type}(R:aB->Value->α->Prop)(H:aB)(e:Value)(q:Value×α):Prop:=e=q.1/\R H e q.2
instance{α:Type}{R:aB->Value->α->Prop} [bE R]:bE (rq R):=⟨fun h hi=>⟨h.1,bE.up h.2 hi⟩⟩
instance{α:Type}{R:aB->Value->α->Prop}{s:Nat} [Cells R s]:Cells (rq R) s:=⟨fun h=>Cells.cells h.2⟩
def Qq{α:Type}(_:aB)(e:Value)(q:Value×α):Prop:=e=q.1
instance{α:Type}:Pure (Qq (α:=α)):=⟨fun h=>h⟩
section
variable{α:Type}{R:aB->Value->α->Prop}{Ro:gB α}{E:TypeId}
theorem dO.map{β:Type}{R1 R2:gB β}{H:aB}(hm:∀F e a,R1 F H e a->R2 F H e a){es:List Value}{xs:List β}{G:List Nat}(h:dO R1 H es xs G):dO R2 H es xs G:=by
 induction h with
 |nil=>exact .nil
 |cons h _ ih=>exact .cons (hm _ _ _ h) ih
theorem aP.map{β:Type}{R1 R2:gB β}{F:List Nat}{H:aB}{v:Value}{xs:List β}(hm:∀F e a,R1 F H e a->R2 F H e a)(h:aP E R1 F H v xs):aP E R2 F H v xs:=by
 rcases h with h|⟨k,m,b,G,h1,h2,h3,h4,h5,h6,h7,h8,h9⟩
 · exact .inl h
 · exact .inr ⟨k,m,b,G,h1,h2,h3,h4,h5,h6,h7,h8,h9.map hm⟩
theorem amF{β:Type}{Q:aB->Value->β->Prop}{H:aB}{es:List Value}{ys:List β}{G:List Nat}(h:dO (aG Q) H es ys G):G=[]:=by
 induction h with
 |nil=>rfl
 |cons h _ ih=>rw[ih,h.1]; rfl
theorem aoe{H:aB}{es:List Value}{ys:List (Value×α)}{G:List Nat}(h:dO (aG Qq) H es ys G):es=ys.map Prod.fst:=by
 induction h with
 |nil=>rfl
 |cons h _ ih=>rw[ih,h.2]; rfl
theorem dO.sub{H:aB}{es:List Value}{xs:List α}{G:List Nat}(h:dO Ro H es xs G):∀{sel:List (Value×α)},sel.Sublist (es.zip xs)-> ∃G',G'.Sublist G/\dO Ro H (sel.map Prod.fst) (sel.map Prod.snd) G':=by
 induction h with
 |nil=>intro sel hs; simp at hs; subst hs; exact⟨[],.slnil,.nil⟩
 | @cons e es a xs F G h t ih=>
   intro sel hs
   rw[List.zip_cons_cons]at hs
   cases hs with
   |cons _ hs=>
     obtain⟨G',h1,h2⟩:=ih hs
     exact⟨G',h1.trans (List.sublist_append_right _ _),h2⟩
   |cons_cons _ hs=>
     obtain⟨G',h1,h2⟩:=ih hs
     exact⟨F++G',(List.Sublist.refl _).append h1,.cons h h2⟩
theorem al0 [bE R] [jK Ro] [jM Ro R]{F:List Nat}{H:aB}{v:Value}{xs:List α}(h:aP E Ro F H v xs)(hnd:F.Nodup):
   ∃es F1 G,F=F1++G/\es.length=xs.length/\dO Ro H es xs G/\aP E (aG (rq R)) F1 (frz H G) v (es.zip xs):=by
 rcases h with⟨rfl,rfl,rfl⟩|⟨k,m,b,G,rfl,h2,h3,h4,h5,h6,h7,rfl,h9⟩
 · exact⟨[],[],[],rfl,rfl,.nil,.inl ⟨rfl,rfl,rfl⟩⟩
 · have hk:k∉G:=(List.nodup_cons.1 hnd).1
   have hl:=h9.length
   have hz:(b.elems.zip xs).length=xs.length:=by simp[hl]
   refine⟨b.elems,[k],G,rfl,hl,h9,.inr ⟨k,m,b,[],by rw[hz],h2,by rw[Ce _ _ hk]; exact h3,h4,h5,h6,by rw[hz]; exact h7,rfl,?_⟩⟩
   refine XN (R:=rq R) (by simp[hl]) fun j q hj=>?_
   rw[List.getElem?_zip_eq_some]at hj
   obtain⟨e,he,hr⟩:=h9.frz (fun _ h=>h) j q.2 hj.2
   rw[hj.1]at he
   obtain rfl:q.1=e:=by simpa using he
   exact⟨q.1,hj.1,rfl,hr⟩
theorem amG{F:List Nat}{H:aB}{v:Value}{es:List Value}{xs:List α}{G:List Nat}{sel:List (Value×α)}(h:aP E (aG Qq) F H v sel)(hs:sel.Sublist (es.zip xs))(he:dO Ro H es xs G):
   ∃G',G'.Sublist G/\aP E Ro (F++G') H v (sel.map Prod.snd):=by
 obtain⟨G',h1,h2⟩:=he.sub hs
 rcases h with⟨rfl,rfl,rfl⟩|⟨k,m,b,G0,rfl,g2,g3,g4,g5,g6,g7,rfl,g9⟩
 · cases h2
   exact⟨[],List.nil_sublist _,.inl ⟨rfl,rfl,rfl⟩⟩
 · obtain rfl:=amF g9
   refine⟨G',h1,.inr ⟨k,m,b,G',by simp,g2,g3,g4,g5,g6,by simpa using g7,rfl,?_⟩⟩
   rw[aoe g9]; exact h2
end
theorem al1{P:Program} [bT P]{α:Type}{R:aB->Value->α->Prop}{Ro:gB α} [eu Ro] [bE R] [Local Ro] [jK Ro] [jM Ro R]{E:TypeId}{g:FuncId}{args:List Value}{F:List Nat}{v:Value}{xs ys:List α}{cc:List aD}(hcc:foot cc=[])
   (h:∀(es:List Value)(F1:List Nat),es.length=xs.length-> ∃sel:List (Value×α),sel.Sublist (es.zip xs)/\sel.map Prod.snd=ys/\Spec P g args (aQ (aP E (aG (rq R))) F1 v (es.zip xs)::cc) (fun q:Sv×List Nat=>q.1.v) (fun q=>[aQ (aP E (aG (rq R))) q.2 q.1.v sel])):
   Spec P g args (aQ (aP E Ro) F v xs::cc) (fun q:Sv×List Nat=>q.1.v) (fun q=>[aQ (aP E Ro) q.2 q.1.v ys]):=by
 intro H F0 cu ρ w jH hr hargs
 have ho:aP E Ro F H v xs:=cu.hold (aQ (aP E Ro) F v xs) (by simp)
 have hfp:foot (aQ (aP E Ro) F v xs::cc)=F:=by
   have:foot (aQ (aP E Ro) F v xs::cc)=F++foot cc:=rfl
   rw[this,hcc,List.append_nil]
 have hnd:F.Nodup:=by have:=cu.nd; rwa [hfp]at this
 have hown:∀q∈F,q∈F0/\q<H.length:=fun q hq=>by
   obtain⟨h1,h2⟩:=cu.own q (by rw[hfp]; exact hq)
   exact⟨h1.resolve_right (by omega),h2⟩
 obtain⟨es,F1,G,rfl,hel,afh,hsh⟩:=al0 (R:=R) ho hnd
 obtain⟨n1,n2,n3⟩:=List.nodup_append.1 hnd
 have hw:=afh.owns
 obtain⟨sel,hsel,hys,hspec⟩:=h es F1 hel
 have Qr:foot (aQ (aP E (aG (rq R))) F1 v (es.zip xs)::cc)=F1:=by
   have:foot (aQ (aP E (aG (rq R))) F1 v (es.zip xs)::cc)=F1++foot cc:=rfl
   rw[this,hcc,List.append_nil]
 have hc2:Ctx (frz H G) F1 (frz H G) (aQ (aP E (aG (rq R))) F1 v (es.zip xs)::cc):=by
   refine⟨Nat.le_refl _,gG.refl _,fun _ _ _=>rfl,fun c hc=>?_,by rw[Qr]; exact n1,fun q hq=>?_⟩
   · rcases List.mem_cons.1 hc with rfl|hc
     · exact hsh
     · refine c.keep (cu.hold c (by simp[hc])) (wX _ _) fun q hq=>?_
       have:q∈foot cc:=List.mem_flatMap.2 ⟨c,hc,hq⟩
       rw[hcc]at this; simp at this
   · rw[Qr]at hq
     exact⟨.inl hq,by rw[kC]; exact (hown q (by simp[hq])).2⟩
 refine (hspec (frz H G) F1 hc2 ρ w jH (hr.recore (kC _ _) (yH _ H)) hargs).mono fun e w' hp=>?_
 obtain⟨v0,r,ρ',H',h1,h2,h3,h4,q,rfl,h5⟩:=hp
 have hG:∀k∈G,H'[k]?=(frz H G)[k]?:=fun k hk=>h5.agr k (by rw[kC]; exact (hown k (by simp[hk])).2) (fun hk1=>n3 k hk1 k hk rfl)
 have ato:∀k∈G,(oL H' G)[k]?=H[k]?:=fun k hk=>Xw hw hG hk
 have hpost:aP E (aG (rq R)) q.2 H' q.1.v sel:=h5.hold (aQ (aP E (aG (rq R))) q.2 q.1.v sel) (by simp)
 have Df:∀k∈q.2,k∉G/\(k∈F1\/H.length<=k)/\k<H'.length:=fun k hk=>by
   obtain⟨g1,g2⟩:=h5.own k (by simpa[foot,aQ]using hk)
   rw[kC]at g1
   refine⟨fun Vl=>?_,g1,g2⟩
   rcases g1 with g1|g1
   · exact n3 k g1 k Vl rfl
   · have:=(hown k (by simp[Vl])).2; omega
 have hid:aP E (aG Qq) q.2 (oL H' G) q.1.v sel:=
   Local.keep (R:=aP E (aG Qq)) (hpost.map fun F e a h=>⟨h.1,h.2.1⟩) fun k hk=>yN _ _ (Df k hk).1
 obtain⟨G',hG',hfin⟩:=amG hid hsel (afh.local ato)
 rw[hys]at hfin
 have hlen:H.length<=(oL H' G).length:=by rw[tL]; have:=h5.len; rwa [kC]at this
 refine⟨v0,_,ρ',oL H' G,h1,h2,h3.recore (tL _ _) (Ja _ H'),(Step.recore (H:=H) (kC _ _) (yH _ H)).trans (h4.trans (Step.recore (tL _ _) (Ja _ H'))),(q.1,q.2++G'),rfl,hlen,?_,?_,?_,?_,?_⟩
 · intro k b hb hbw
   have Vl:k∉G:=fun hk=>by
     obtain⟨b',hb',hw'⟩:=hw k hk
     rw[hb]at hb'
     injection hb' with hb'; injection hb' with hb'
     rw[hb',hw']at hbw; simp at hbw
   rw[yN _ _ Vl]
   exact h5.imm k b ((wX H G) k b hb hbw) hbw
 · intro k hk uA
   have Uc:k∉F1++G:=fun h=>uA (hown k h).1
   simp only[List.mem_append,not_or]at Uc
   rw[yN _ _ Uc.2,h5.agr k (by rw[kC]; exact hk) Uc.1,Ce _ _ Uc.2]
 · intro c hc
   simp at hc; subst hc
   exact hfin
 · have hq2:q.2.Nodup:=by have:=h5.nd; simpa[foot,aQ]using this
   simp only[foot,aQ,List.flatMap_cons,List.flatMap_nil,List.append_nil]
   exact List.nodup_append.2 ⟨hq2,n2.sublist hG',fun a ha b hb e=>(Df a ha).1 (e ▸ hG'.subset hb)⟩
 · intro k hk
   simp only[foot,aQ,List.flatMap_cons,List.flatMap_nil,List.append_nil,List.mem_append]at hk
   rcases hk with hk|hk
   · obtain⟨-,g1,g2⟩:=Df k hk
     exact⟨g1.imp (fun h=>(hown k (by simp[h])).1) id,by rw[tL]; exact g2⟩
   · have:=hown k (by simp[hG'.subset hk])
     exact⟨.inl this.1,Nat.lt_of_lt_of_le this.2 hlen⟩
def JE{β:Type}(f:β->Option Bool):List β->Option (List β)
 |[]=>some []
 |x::r=>(f x).bind fun b=>(JE f r).bind fun ys=>some (if b then ys else x::ys)
theorem acp{β:Type}{f:β->Option Bool}:∀{xs ys:List β},JE f xs=some ys->(∀x∈xs,f x=some ((f x).getD false))/\ys=xs.filter (fun a=>!(f a).getD false)
 |[],ys,h=>by simp[JE]at h; subst h; simp
 |x::r,ys,h=>by
   obtain⟨b,hb,h⟩:=bind_some h
   obtain⟨zs,hz,h⟩:=bind_some h
   obtain⟨h1,h2⟩:=acp hz
   obtain rfl:=Option.some.inj h
   refine⟨fun y hy=>?_,?_⟩
   · rcases List.mem_cons.1 hy with rfl|hy
     · rw[hb]; rfl
     · exact h1 y hy
   · rw[List.filter_cons,hb,h2]
     cases b<;>simp
theorem ads{β:Type}{f:β->Option Bool}{p:β->Bool}:∀{xs:List β},(∀x∈xs,f x=some (p x))->JE f xs=some (xs.filter fun a=>!p a)
 |[],_=>rfl
 |x::r,h=>by
   rw[JE,h x (by simp),Option.bind_some,ads (p:=p) fun y hy=>h y (by simp[hy]),Option.bind_some,List.filter_cons]
   cases p x<;>simp
theorem adt{β γ:Type}(g:β->γ)(p:γ->Bool):∀(l:List β)(k:Nat),jN p (l.map g) k=jN (fun a=>p (g a)) l k
 |[],_=>rfl
 |x::r,k=>by simp only[List.map_cons,jN,adt g p r (k+1)]
structure rH{β:Type}(p:β->Bool)(qs cur:List β)(i j:Nat):Prop where
 len:cur.length=qs.length
 lt:i<j
 le:j<=qs.length
 tk:cur.take i=(qs.take j).filter fun a=>!p a
 dr:cur.drop j=qs.drop j
theorem adX{β:Type}{p:β->Bool}:∀{l:List β}{k i:Nat},jN p l k=(i:Int)-> ∃q,i=k+q/\q<l.length/\(l.take q).filter (fun a=>!p a)=l.take q/\ ∃x,l[q]?=some x/\p x=true
 |[],k,i,h=>by simp[jN]at h
 |x::r,k,i,h=>by
   rw[jN]at h
   by_cases hp:p x=true
   · rw[if_pos hp]at h
     exact⟨0,by omega,by simp,by simp,x,by simp,hp⟩
   · rw[if_neg hp]at h
     obtain⟨q,h1,h2,h3,y,h4,h5⟩:=adX h
     refine⟨q+1,by omega,by simpa using h2,?_,y,by simpa using h4,h5⟩
     rw[List.take_succ_cons,List.filter_cons,h3]
     simp[hp]
theorem acX{β:Type}{p:β->Bool}:∀{l:List β}{k:Nat},jN p l k= -1->l.filter (fun a=>!p a)=l
 |[],_,_=>rfl
 |x::r,k,h=>by
   rw[jN]at h
   by_cases hp:p x=true
   · rw[if_pos hp]at h; omega
   · rw[if_neg hp]at h
     rw[List.filter_cons,acX h]; simp[hp]
theorem acr{β:Type}(p:β->Bool):∀(l:List β)(k:Nat),jN p l k= -1\/ ∃i:Nat,jN p l k=(i:Int)/\i<k+l.length
 |[],k=>.inl rfl
 |x::r,k=>by
   rw[jN]
   by_cases hp:p x=true
   · rw[if_pos hp]; exact .inr ⟨k,rfl,by simp⟩
   · rw[if_neg hp]
     rcases acr p r (k+1)with h|⟨i,h,hi⟩
     · exact .inl h
     · exact .inr ⟨i,h,by simp; omega⟩
section
variable{β:Type}{p:β->Bool}{qs cur:List β}{i j:Nat}{x:β}
theorem VY(hx:qs[j]?=some x):(qs.take (j+1)).filter (fun a=>!p a)=(qs.take j).filter (fun a=>!p a)++(if p x then []else [x]):=by
 have hlt:j<qs.length:=by
   rcases Nat.lt_or_ge j qs.length with h|h
   · exact h
   · simp[List.getElem?_eq_none h]at hx
 rw[List.take_succ_eq_append_getElem hlt,List.filter_append]
 rw[List.getElem?_eq_getElem hlt]at hx
 obtain rfl:=Option.some.inj hx
 cases hp:p qs[j]<;>simp[hp]
theorem rH.init(h:jN p qs 0=(i:Int)):rH p qs qs i (i+1):=by
 obtain⟨q,h1,h2,h3,y,h4,h5⟩:=adX h
 obtain rfl:i=q:=by omega
 exact⟨rfl,Nat.lt_succ_self _,h2,by rw[VY h4,h3,h5]; simp,rfl⟩
theorem rH.at(h:rH p qs cur i j)(hj:j<qs.length):∃x,cur[j]?=some x/\qs[j]?=some x:=by
 refine⟨qs[j],?_,List.getElem?_eq_getElem hj⟩
 have:=congrArg (fun l:List β=>l[0]?) h.dr
 simpa[List.getElem?_eq_getElem hj]using this
theorem rH.yes(h:rH p qs cur i j)(hx:qs[j]?=some x)(hp:p x=true):rH p qs cur i (j+1):=by
 have hlt:j<qs.length:=L6 hx
 refine⟨h.len,by have:=h.lt; omega,hlt,by rw[VY hx,←h.tk,hp]; simp,?_⟩
 rw[←List.drop_drop,h.dr,List.drop_drop]
theorem rH.no(h:rH p qs cur i j)(hx:qs[j]?=some x)(hp:p x=false):rH p qs (cur.set i x) (i+1) (j+1):=by
 have hlt:j<qs.length:=L6 hx
 have hi:i<cur.length:=by have:=h.lt; have:=h.len; omega
 refine⟨by simpa using h.len,by have:=h.lt; omega,hlt,?_,?_⟩
 · rw[VY hx,←h.tk,hp,List.take_succ_eq_append_getElem (by simpa using hi)]
   simp[List.take_set_of_le]
 · rw[List.drop_set_of_lt (by have:=h.lt; omega),←List.drop_drop,h.dr,List.drop_drop]
theorem rH.fin(h:rH p qs cur i j)(hj:qs.length<=j):cur.take i=qs.filter fun a=>!p a:=by
 rw[h.tk,List.take_of_length_le hj]
end
section
variable{P:Program} [bT P]{n:Nat}{f:Fr}{H0:aB}{F0:List Nat}{cs:List aD}{A:Array Oper}{r:List Oper}{K:Fr->List aD->Prop}{d:Option Tmp}{x y z:Operand}{T T' E:TypeId}{ps:String}{af:Array Edge}{gd:Option (Nat×Bool)}
variable{α:Type}{R:aB->Value->α->Prop}{Ro':gB α}{xs:List α}{v:Value}
theorem aof [bE R]{ι:Type}{F:List Nat}{k j s:Nat}{a:α}{ul:ι->List Value}{cc:ι->List aD}(hA:AG P T true)(hs:SZ P T s)(h0:Nat.blt 0 s=true)(hx:EV n f x (.pointer (some ⟨k,j,some 0⟩)))(hm:Mem (aQ (aP E (aG R)) F v xs) cs)(hk:jL v=some k)(hj:xs[j]?=some a)
   (hop:∀H e,R H e a-> ∃i,e= .agg (ul i).toArray/\(ul i).length=s/\ ∀c∈cc i,c.P H/\c.F=[]) (h:∀i,bA P n H0 F0 A r (put f d (.agg (ul i).toArray)) (bK R (.agg (ul i).toArray) a::(cc i++cs)) K):bA P n H0 F0 A (⟨d,.load T x,T',ps,af,none⟩::r) f cs K:=by
 intro H hc
 have ho:aP E (aG R) F H v xs:=hc.mem hm
 obtain⟨-,m,b,G,rfl,-,h3,-,-,-,-,rfl,h9⟩:=ho.head hk
 obtain⟨e,F1,Fj,F2,g1,g2,g3,-⟩:=h9.at hj
 obtain⟨i,he,hl,hcc⟩:=hop H e g3.2
 subst he
 refine tC (ko hA hs hx h3 g1 (by simpa[Nat.blt_eq]using h0) (by simp[Value.cells,hl]) (show ((Value.agg (ul i).toArray).cells.toList.drop 0).take s=ul i by subst hl; simp[Value.cells])) (h i H ?_)
 have hb:∀(l:List aD),(∀c∈l,c.P H/\c.F=[])->Ctx H0 F0 H (l++cs):=by
   intro l
   induction l with
   |nil=>intro _; exact hc
   |cons c l ih=>intro hl; exact (ih fun d hd=>hl d (by simp[hd])).dup (hl c (by simp)).1 (hl c (by simp)).2
 exact (hb _ hcc).dup (c:=bK R (.agg (ul i).toArray) a) g3.2 rfl
theorem aog [bE R]{F:List Nat}{v:Value}{qs:List (Value×α)}:xD (aQ (aP E (aG (rq R))) F v qs) (bK (aJ E R) v (qs.map Prod.snd)):=
 ⟨fun H h=>by
   have h2:=(bU (Ro:=aP E (aG (rq R))) (R':=aJ E (rq R)) (F:=F) (v:=v) (a:=qs)).P H h
   have h3:aJ E (rq R) (frz H F) v qs:=h2
   rcases h3 with⟨rfl,rfl⟩|⟨k,i,m,b,rfl,g1,g2,g3,g4,g5,g6⟩|⟨k,i,m,rfl,rfl⟩
   · exact .inl ⟨rfl,rfl⟩
   · refine .inr (.inl ⟨k,i,m,b,by simp,g1,g2,g3,by simpa using g4,by simpa using g5,fun j a hj=>?_⟩)
     rw[List.getElem?_map]at hj
     cases hq:qs[j]? with
     |none=>rw[hq]at hj; simp at hj
     |some q=>
       rw[hq]at hj
       obtain rfl:q.2=a:=by simpa using hj
       obtain⟨e,he,hr⟩:=g6 j q hq
       exact⟨e,he,hr.2⟩
   · exact .inr (.inr ⟨k,i,m,rfl,rfl⟩),fun H h=>(bU (Ro:=aP E (aG (rq R))) (R':=aJ E (rq R)) (F:=F) (v:=v) (a:=qs)).w H h,rfl⟩
theorem Xk [eu Ro']{F:List Nat}{v:Sv}(hne:xs≠[])(H:aB)(h:(aQ (aP E Ro') F v.v xs).P H):∃k m,v=⟨some ⟨k,0,none⟩,xs.length,m⟩/\(m=1\/m=2):=by
 have h:aP E Ro' F H v.v xs:=h
 rcases h with⟨-,h,-⟩|⟨k,m,b,G,h1,h2,-⟩
 · exact absurd h hne
 · obtain⟨va,vn,vm⟩:=v
   injection h1 with e1 e2 e3
   subst e1 e2 e3
   exact⟨k,_,rfl,h2⟩
theorem al2 [bE R]{F:List Nat}{k l m s:Nat}{kk:IntKind}{i:Int}(hT:SL P T E)(hs:SZ P E s)(hx:EV n f x (.slice (some ⟨k,0,none⟩) l m))(hy:EV n f y (.int kk i))(hm:Mem (aQ (aP E (aG R)) F (.slice (some ⟨k,0,none⟩) l m) xs) cs)(h0:0<=i)(hi:i<=(l:Int))
   (h:bA P n H0 F0 A r (put f d (.slice (some ⟨k,i.toNat,none⟩) (l-i.toNat) 0)) cs K):bA P n H0 F0 A (⟨d,.slice T x (some y) none none,T',ps,af,none⟩::r) f cs K:=
 fq hm (fun{H} ho=>by
   have ho:aP E (aG R) F H (.slice (some ⟨k,0,none⟩) l m) xs:=ho
   obtain⟨-,m',b,G,-,-,h3,-,-,h6,-⟩:=ho.head (k:=k) rfl
   exact acn hT hs hx hy h3 h6 h0 hi) h
theorem al3 [bE R]{F:List Nat}{k l m s:Nat}{kk:IntKind}{i:Int}{u:Value}(hT:SL P T E)(hs:SZ P E s)(hx:EV n f x (.slice (some ⟨k,0,none⟩) l m))(hmm:m=1\/m=2)(hy:EV n f y (.int kk i))(hm:Mem (aQ (aP E (aG R)) F u xs) cs)(hk:jL u=some k)(h0:0<=i)(hi:i<=(l:Int))(hl:l≠0)
   (h:bA P n H0 F0 A r (put f d (.slice (some ⟨k,0,none⟩) i.toNat 2)) cs K):bA P n H0 F0 A (⟨d,.slice T x none (some y) none,T',ps,af,none⟩::r) f cs K:=
 fq hm (fun{H} ho=>by
   have ho:aP E (aG R) F H u xs:=ho
   obtain⟨-,m',b,G,rfl,-,h3,-,h5,-⟩:=ho.head hk
   exact aco hT hs hx hmm hy h3 h5 h0 hi hl) h
end
theorem al4{P:Program} [bT P]{g:FuncId}{args:List Value}{ι:Type}{val:ι->Value}{post:ι->List aD}{c:aD}{cc:List aD}{p:Prop}(hp:∀H,c.P H->p)(h:p->Spec P g args (c::cc) val post):Spec P g args (c::cc) val post:=
 fun H F0 hc=>h (hp H (hc.hold c (by simp))) H F0 hc
theorem alx{α:Type}(p:α->Bool)(es:List Value)(xs:List α)(h:es.length=xs.length):((es.zip xs).filter fun a=>!p a.2).map Prod.snd=xs.filter fun a=>!p a:=by
 have:=List.filter_map (f:=Prod.snd) (p:=fun a:α=>!p a) (l:=es.zip xs)
 rw[List.map_snd_zip (Nat.le_of_eq h.symm)]at this
 rw[this]; rfl
section
variable{P:Program} [bT P]{n:Nat}{f:Fr}{H0:aB}{F0:List Nat}{cs:List aD}{A:Array Oper}{r:List Oper}{K:Fr->List aD->Prop}{d:Option Tmp}{T:TypeId}{ps:String}{af:Array Edge}{gd:Option (Nat×Bool)}{t:Tmp}
variable{l:List Oper}{tb a_ todo:List Nat}{fl:List (Nat×List Nat)}{i:Nat}
theorem Cm(v:Value)(hv:f t=v)(ht:Nat.blt t n=true)(h:bA P n H0 F0 A r (put f d v) cs K):bA P n H0 F0 A (⟨d,.move (.tmp t),T,ps,af,none⟩::r) f cs K:=aI (eG (.tmp hv ht)) h
theorem Ca(v:Value)(hv:f t=v)(ht:Nat.blt t n=true)(h:bA P n H0 F0 A r (put f d v) cs K):bA P n H0 F0 A (⟨d,.assign (.tmp t),T,ps,af,none⟩::r) f cs K:=aI (lD (.tmp hv ht)) h
end
end Go.Fw
/-
 A slice of our own keeps its array, and its elements turn no more. No conditions.
-/
set_option linter.unusedVariables false
namespace Go.Fw
open Go
section
variable{α:Type}{Ro:gB α}{R':aB->Value->α->Prop}{E:TypeId}{H0:aB}{F0:List Nat}{cs rest cs2:List aD}{F:List Nat}{v:Value}{xs:List α}
variable{P:Program} [bT P]{n:Nat}{f:Fr}{c1:Code}{Q:Exit->Fr->List aD->Prop}
theorem NG{o:Oper}{ι:Type}{val:ι->Value}{pre:List aD}{post post':ι->List aD}(he:∀x,aL (post x) (post' x))(hx:XC P n o f pre val post):XC P n o f pre val post':=by
 intro H hc ρ w a K' Q' hr hf hk
 refine hx H hc ρ w a K' Q' hr hf fun f' ρ' H' a' w' h1 h2 h3 h4=>?_
 obtain⟨x,e,h5⟩:=h4
 obtain⟨H2,l1,l2,l3⟩:=he x H (foot pre) H' h5
 exact hk f' ρ' H2 a' w' h1 (h2.recore l1 l2) (h3.trans (Step.recore l1 l2)) ⟨x,e,l3⟩
end
end Go.Fw
/-
 l[:j] of a slice of our own: the elements behind are given up, the room stays.  No conditions.
-/
set_option linter.unusedVariables false
namespace Go.Fw
open Go
section
variable{P:Program} [bT P]{n:Nat}{f:Fr}{d:Option Tmp}{x y:Operand}{T T' E:TypeId}{ps:String}{af:Array Edge}{gd:Option (Nat×Bool)}{α:Type}{R:aB->Value->α->Prop}{s:Nat}{v:Value}{xs:List α}
theorem Rel.cut{ρ:cO}{H:aB}{w:World}{k m:Nat}{b:eT}(h:Rel P ρ H w)(hb:H[k]?=some (some b)):Rel P ρ (H.set k (some {b with elems:=b.elems.take m})) w:=by
 have hlt:k<H.length:=nD hb
 refine⟨fun j L hj=>?_,fun j c hc hj=>?_,fun j hj=>h.dom j (by simpa using hj),h.inj,h.vok⟩
 · obtain⟨c,hc,hr⟩:=h.blk j L hj
   by_cases e:k=j
   · subst e
     rw[hb]at hc
     obtain rfl:b=c:=by simpa using hc
     refine⟨_,List.getElem?_set_self hlt,hr.own,hr.sz,?_⟩
     obtain⟨cs,ct,fr,h1,h2,h3⟩:=hr.cells
     refine⟨cs,ct,fr,h1,fun i e he=>h2 i e ?_,fun ho=>?_⟩
     · have he:(b.elems.take m)[i]?=some e:=he
       rw[List.getElem?_take]at he
       split at he
       · exact he
       · simp at he
     · obtain⟨q1,q2,q3,q4,q5⟩:=h3 ho
       refine⟨q1,q2,Nat.le_trans ?_ q3,q4,q5⟩
       show (b.elems.take m).length<=b.elems.length
       simp; omega
   · exact⟨c,by rw[List.getElem?_set_ne e]; exact hc,hr⟩
 · by_cases e:k=j
   · subst e; exact h.alive k b hb hj
   · rw[List.getElem?_set_ne e]at hc; exact h.alive j c hc hj
theorem Step.cut{ρ:cO}{H:aB}{w:World}{k:Nat}{b:Option eT}(hk:ρ k≠none):Step ρ H w ρ (H.set k b) w:=
 ⟨Up.refl ρ,rfl,rfl,rfl,Nat.le_refl _,fun _ _ _=>rfl,fun _ _ h=>.inl h,by simp,fun j _ hn=>⟨hn,by
   rw[List.getElem?_set_ne (fun e=>hk (by rw[e]; exact hn))]⟩⟩
theorem dO.take{H:aB}:∀{es:List Value}{xs:List α}{G:List Nat}(j:Nat),dO (aG R) H es xs G->dO (aG R) H (es.take j) (xs.take j) []
 |_,_,_,0,_=>by simpa using dO.nil
 |_,_,_,j+1,.nil=>by simpa using dO.nil
 |_,_,_,j+1,.cons h t=>by
   have:=dO.cons (F:=[]) (G:=[]) ⟨rfl,h.2⟩ (dO.take j t)
   simpa using this
theorem amH [bE R] [Cells R s]{F:List Nat}{kk:IntKind}{j:Int}(hT:SL P T E)(hs:SZ P E s)(hx:EV n f x v)(hy:EV n f y (.int kk j))(h0:0<=j)(hj:j.toNat<=xs.length)(hne:xs≠[]):
   XC P n ⟨d,.slice T x none (some y) none,T',ps,af,gd⟩ f [aQ (aP E (aG R)) F v xs] (fun p:Sv×List Nat=>p.1.v) (fun p=>[aQ (aP E (aG R)) p.2 p.1.v (xs.take j.toNat)]):=by
 intro H cu
 have ho:aP E (aG R) F H v xs:=cu.hold (aQ (aP E (aG R)) F v xs) (by simp)
 rcases ho with⟨-,e,-⟩|⟨k,m,b,G,rfl,hm,h3,h4,h5,h6,h7,rfl,h9⟩
 · exact absurd e hne
 intro ρ w a K' Q' hr hf hkk
 have hn0:xs.length≠0:=fun e=>hne (List.length_eq_zero_iff.1 e)
 obtain⟨L,p,cap,hl,hbr,hc,hcap,g1,g2,g3⟩:=(hx.use hf).slice_inv hr h3
 have hyv:a.eval y= .int kk j:=(hy.use hf).int_inv
 have hu:P.underlying T=some (.slice E):=hT
 have he:P.elem T=E:=by simp[Program.elem,hu]
 have hu2:P.underlying T=some (.slice (P.elem T)):=by rw[he]; exact hu
 have hjl:j<=(cap:Int):=by omega
 have hLo:L.own=true:=by rw[←hbr.own,h5]
 obtain⟨cs,ct,fr,q1,q2,q3⟩:=hbr.cells
 obtain⟨hoff,-,-,-,-⟩:=q3 hLo
 have hp:p=⟨L.blk,L.off,none⟩:=by
   have:=g3 hn0
   simpa using this
 have o6:cap<=L.cap:=by
   rcases hm with rfl|rfl
   · obtain⟨a1,a2⟩:=g1 rfl; omega
   · exact (g2 (Nat.le_refl _)).2.2.1
 have hex:(execOp a.eval ⟨d,.slice T x none (some y) none,T',ps,af,gd⟩).run P w= .ok (.value (.slice (some p) j.toNat cap)) w:=by
   have hrun:=run_slice_h (P:=P) w T (some p) xs.length cap hu2 kk j h0 hjl
   rw[he,hs.run,Result.andThen]at hrun
   have h2':=run_sliceAt_slice (P:=P) w T (.slice (some p) xs.length cap) none (some (.int kk j)) none hu2
   have h3':sliced (some p) 0 j.toNat cap s= .slice (some p) j.toNat cap:=by
     unfold sliced
     by_cases e:cap=0
     · omega
     · simp[e,Addr.add]
   rw[h3']at hrun
   simp[execOp,hc,hyv,h2',hrun]
 show Oper.upon P _ a K' Q' _
 rw[hex]
 have hkn:ρ k≠none:=by rw[hl]; simp
 refine hkk _ _ _ _ _ (hf.put d (bW.slice k 0 j.toNat 2 L p cap hl (by omega) (by simp) (fun _=>⟨rfl,hLo,o6,hp,by omega⟩) (fun _=>⟨by rw[hp]; simp,fun _=>by omega⟩))) (hr.cut (m:=j.toNat) h3) (Step.cut hkn) ⟨(⟨some ⟨k,0,none⟩,j.toNat,2⟩,[k]),rfl,?_⟩
 have hlt:k<H.length:=nD h3
 refine⟨by simp,?_,fun i hi hiF=>?_,?_,by simp[foot,aQ],?_⟩
 · intro i c hi hcw
   have hne':k≠i:=fun e=>by
     subst e
     rw[h3]at hi
     injection hi with hi; injection hi with hi
     rw[hi]at h4; rw[h4]at hcw; simp at hcw
   rw[List.getElem?_set_ne hne']; exact hi
 · have hne':k≠i:=fun e=>hiF (by simp[foot,aQ,e])
   rw[List.getElem?_set_ne hne']
 · intro q hq
   simp at hq; subst hq
   have hE:=dO.take j.toNat h9
   refine .inr ⟨k,2,{b with elems:=b.elems.take j.toNat},[],?_,.inr rfl,List.getElem?_set_self hlt,h4,h5,h6,?_,rfl,?_⟩
   · show Sv.v ⟨some ⟨k,0,none⟩,j.toNat,2⟩=_
     rw[List.length_take,Nat.min_eq_left hj]
   · simp; omega
   · refine hE.keep (fun i c hi hcw=>?_) (by simp)
     have hne':k≠i:=fun e=>by
       subst e
       rw[h3]at hi
       injection hi with hi; injection hi with hi
       rw[hi]at h4; rw[h4]at hcw; simp at hcw
     rw[List.getElem?_set_ne hne']; exact hi
 · intro i hi
   simp[foot,aQ]at hi
   subst hi
   exact⟨.inl (by simp[foot,aQ]),by simpa using hlt⟩
theorem amI [bE R] [Cells R s]{F:List Nat}{kk:IntKind}{j:Int}(hT:SL P T E)(hs:SZ P E s)(hx:EV n f x v)(hy:EV n f y (.int kk j))(h0:0<=j)(hj:j<(xs.length:Int)):
   XC P n ⟨d,.slice T x none (some y) none,T',ps,af,gd⟩ f [aQ (aP E (aG R)) F v xs] (fun p:Sv×List Nat=>p.1.v) (fun p=>[aQ (aP E (aG R)) p.2 p.1.v (xs.take j.toNat)]):=
 amH hT hs hx hy h0 (by omega) (fun e=>by rw[e]at hj; simp at hj; omega)
end
end Go.Fw
/-
 An own row of which it is known that, if it is empty, it is nil: so a comparison with nil tells whether it is empty.  No conditions.
-/
set_option linter.unusedVariables false
namespace Go.Fw
open Go
def mF{α:Type}(E:TypeId)(Ro:gB α):gB (List α):=fun F H v xs=>aP E Ro F H v xs/\(xs=[]->v= .slice none 0 0)
section
variable{α:Type}{E:TypeId}{Ro:gB α}
instance [eu Ro]:eu (mF E Ro):=⟨fun h hi hk=>⟨eu.keep h.1 hi hk,h.2⟩⟩
instance [Local Ro]:Local (mF E Ro):=⟨fun h hk=>⟨Local.keep h.1 hk,h.2⟩⟩
instance [jK Ro]:jK (mF E Ro):=⟨fun h k hk=>jK.owns h.1 k hk⟩
instance:mX (mF E Ro) 1:=⟨fun h=>mX.cells h.1⟩
instance{R':aB->Value->α->Prop} [jM Ro R']:jM (mF E Ro) (aJ E R'):=⟨fun h hm=>jM.frz h.1 hm⟩
theorem amJ [eu Ro]:Conv [] [aQ (mF E Ro) [] (.slice none 0 0) []]:=⟨fun H _ c hc=>by
 simp at hc; subst hc; exact⟨.inl ⟨rfl,rfl,rfl⟩,fun _=>rfl⟩,by simp[aQ]⟩
theorem anp [eu Ro]{F:List Nat}{v:Value}{xs:List α}(h:xs≠[]):Conv [aQ (aP E Ro) F v xs] [aQ (mF E Ro) F v xs]:=⟨fun H hp c hc=>by
 have h0:=hp _ (List.mem_singleton.2 rfl)
 obtain rfl:=List.mem_singleton.1 hc
 exact⟨h0,fun e=>absurd e h⟩,by simp[foot,aQ]⟩
theorem anq [eu Ro]{F:List Nat}{v:Value}{xs:List α}:Conv [aQ (mF E Ro) F v xs] [aQ (aP E Ro) F v xs]:=⟨fun H hp c hc=>by
 have h0:=hp _ (List.mem_singleton.2 rfl)
 obtain rfl:=List.mem_singleton.1 hc
 exact h0.1,by simp[foot,aQ]⟩
theorem aoh{u:Unit}{xs:List α}(h:jT (!xs.isEmpty)=some u):xs≠[]:=by
 have:=ru h
 intro e
 subst e
 simp at this
variable{P:Program} [bT P]{n:Nat}{f:Fr}{H:aB}{d:Option Tmp}{T T' T'':TypeId}{ps:String}{af:Array Edge}{x:Operand}{gd:Option (Nat×Bool)}
theorem amK [eu Ro]{F:List Nat}{u:Value}{xs:List α}(hT:SL P T E)(hx:EV n f x u)(hp:(aQ (mF E Ro) F u xs).P H):eY P n ⟨d,.binOp .eql T x (.const (.slice none 0 0)) T',T'',ps,af,gd⟩ f H (.bool xs.isEmpty):=by
 intro ρ w q hr hf
 have hu:P.underlying T=some (.slice E):=hT
 have hv:=hx.use hf
 obtain⟨a,m,rfl,ha⟩:=acm H hp.1
 have key:∃a' c,q.eval x= .slice a' xs.length c/\a'.isNone=a.isNone:=by
   generalize q.eval x=cv at hv
   generalize xs.length=ln at hv
   cases hv with
   |nilSlice=>exact⟨none,0,rfl,rfl⟩
   |slice k i n m L p cap=>exact⟨some p,cap,rfl,rfl⟩
   |sliceDead k i n m p cap=>exact⟨some p,cap,rfl,rfl⟩
 have hb:a.isNone=xs.isEmpty:=by
   rcases a with _|a
   · rw[ha rfl]; rfl
   · cases xs with
     |nil=>have:=hp.2 rfl; simp at this
     |cons z l=>rfl
 obtain⟨a',c,he,hi⟩:=key
 refine⟨.bool a'.isNone,?_,by rw[hi,hb]; exact .bool _⟩
 have hc:Act.eval q (.const (.slice none 0 0))= .slice none 0 0:=rfl
 simp[execOp,he,hc,eqGuard,Lib.run_eql_slice_nil w T E a' xs.length c 0 0 hu]
theorem amL [eu Ro]{F:List Nat}{u:Value}{xs:List α}(hT:SL P T E)(hx:EV n f x u)(hp:(aQ (mF E Ro) F u xs).P H):eY P n ⟨d,.binOp .neq T x (.const (.slice none 0 0)) T',T'',ps,af,gd⟩ f H (.bool (!xs.isEmpty)):=by
 intro ρ w q hr hf
 have hu:P.underlying T=some (.slice E):=hT
 have hv:=hx.use hf
 obtain⟨a,m,rfl,ha⟩:=acm H hp.1
 have key:∃a' c,q.eval x= .slice a' xs.length c/\a'.isNone=a.isNone:=by
   generalize q.eval x=cv at hv
   generalize xs.length=ln at hv
   cases hv with
   |nilSlice=>exact⟨none,0,rfl,rfl⟩
   |slice k i n m L p cap=>exact⟨some p,cap,rfl,rfl⟩
   |sliceDead k i n m p cap=>exact⟨some p,cap,rfl,rfl⟩
 have hb:a.isNone=xs.isEmpty:=by
   rcases a with _|a
   · rw[ha rfl]; rfl
   · cases xs with
     |nil=>have:=hp.2 rfl; simp at this
     |cons z l=>rfl
 obtain⟨a',c,he,hi⟩:=key
 refine⟨.bool (!a'.isNone),?_,by rw[hi,hb]; exact .bool _⟩
 have hc:Act.eval q (.const (.slice none 0 0))= .slice none 0 0:=rfl
 simp[execOp,he,hc,eqGuard,run_neq_slice_nil_any w T E a' xs.length c 0 0 hu]
end
end Go.Fw
/-
 Whole structs are read out of shallow slices of our own.
-/
set_option linter.unusedVariables false
namespace Go.Fw
open Go
section
variable{P:Program} [bT P]{n:Nat}{f:Fr}{H0:aB}{F0:List Nat}{cs:List aD}{A:Array Oper}{r:List Oper}{K:Fr->List aD->Prop}{d:Option Tmp}{x:Operand}{T T' E:TypeId}{ps:String}{af:Array Edge}
variable{α ι:Type}{R:aB->Value->α->Prop}{xs:List α}{v:Value}
theorem aoi [bE R]{F:List Nat}{k j s:Nat}{a:α}(ul:ι->List Value){cc cs':ι->List aD}(hA:AG P T true)(hs:SZ P T s)(h0:Nat.blt 0 s=true)(hx:EV n f x (.pointer (some ⟨k,j,some 0⟩)))(hm:Mem (aQ (aP E (aG R)) F v xs) cs)(hk:jL v=some k)(hj:xs[j]?=some a)
   (hop:∀H e,R H e a-> ∃i,0+s<=e.cells.size/\(e.cells.toList.drop 0).take s=ul i/\ ∀c∈cc i,c.P H/\c.F=[]) (ha:∀i,qQ (cc i) cs (cs' i))
   (h:∀i,bA P n H0 F0 A r (put f d (.agg (ul i).toArray)) (cs' i) K):bA P n H0 F0 A (⟨d,.load T x,T',ps,af,none⟩::r) f cs K:=by
 intro H hc
 have ho:aP E (aG R) F H v xs:=hc.mem hm
 obtain⟨-,m,b,G,rfl,-,h3,-,-,-,-,rfl,h9⟩:=ho.head hk
 obtain⟨e,F1,Fj,F2,g1,g2,g3,-⟩:=h9.at hj
 obtain⟨i,q1,q2,q3⟩:=hop H e g3.2
 refine tC (ko hA hs hx h3 g1 (by simpa[Nat.blt_eq]using h0) q1 q2) (h i H ?_)
 rw[(ha i).eq]
 have hb:∀(l:List aD),(∀c∈l,c.P H/\c.F=[])->Ctx H0 F0 H (l++cs):=by
   intro l
   induction l with
   |nil=>intro _; exact hc
   |cons c l ih=>intro hl; exact (ih fun d hd=>hl d (by simp[hd])).dup (hl c (by simp)).1 (hl c (by simp)).2
 exact hb _ q3
theorem anr [bE R]{F:List Nat}{k j s:Nat}{a:α}(ul:ι->List Value){c1:ι->aD}(hA:AG P T true)(hs:SZ P T s)(h0:Nat.blt 0 s=true)(hx:EV n f x (.pointer (some ⟨k,j,some 0⟩)))(hm:Mem (aQ (aP E (aG R)) F v xs) cs)(hk:jL v=some k)(hj:xs[j]?=some a)
   (hop:∀H e,R H e a-> ∃i,0+s<=e.cells.size/\(e.cells.toList.drop 0).take s=ul i/\ ∀c∈([c1 i]:List aD),c.P H/\c.F=[]) (h:∀i,bA P n H0 F0 A r (put f d (.agg (ul i).toArray)) (c1 i::cs) K):
   bA P n H0 F0 A (⟨d,.load T x,T',ps,af,none⟩::r) f cs K:=aoi ul (cc:=fun i=>[c1 i]) hA hs h0 hx hm hk hj hop (fun _=>dz) h
end
end Go.Fw
/-
 Lending several own comps at once.
-/
set_option linter.unusedVariables false
namespace Go.Fw
open Go
section
variable{P:Program} [bT P]{n:Nat}{f:Fr}{ι:Type}{val:ι->Value}{pre:List aD}
inductive xG:List aD->List aD->Prop
 |nil:xG [] []
 |cons {c c':aD} {cl cl':List aD} (h:xD c c') (t:xG cl cl'):xG (c::cl) (c'::cl')
theorem xG.foot{cl cl':List aD}(h:xG cl cl'):foot cl'=[]:=by
 induction h with
 |nil=>rfl
 |cons h _ ih=>show _++Go.Fw.foot _=_; rw[h.F,ih]; rfl
theorem xG.wr{cl cl':List aD}(h:xG cl cl'){H:aB}(hp:∀c∈cl,c.P H):∀k∈Go.Fw.foot cl,∃b,H[k]?=some (some b)/\b.wr=true:=by
 induction h with
 |nil=>intro k hk; simp[Go.Fw.foot]at hk
 |cons h _ ih=>
   intro k hk
   simp only[Go.Fw.foot,List.flatMap_cons,List.mem_append]at hk
   rcases hk with hk|hk
   · exact h.w H (hp _ (by simp)) k hk
   · exact ih (fun c hc=>hp c (by simp[hc])) k hk
theorem ant(H:aB)(F G:List Nat):frz H (F++G)=frz (frz H F) G:=by unfold frz; rw[List.foldl_append]
theorem xG.hold{cl cl':List aD}(h:xG cl cl'):∀{H:aB},(∀c∈cl,c.P H)->(Go.Fw.foot cl).Nodup-> ∀c∈cl',c.P (frz H (Go.Fw.foot cl)):=by
 induction h with
 |nil=>intro H _ _ c hc; simp at hc
 | @cons c c' cl cl' h t ih=>
   intro H hp hnd d hd
   have e:Go.Fw.foot (c::cl)=c.F++Go.Fw.foot cl:=rfl
   rw[e]at hnd ⊢
   obtain⟨n1,n2,n3⟩:=List.nodup_append.1 hnd
   rw[ant]
   rcases List.mem_cons.1 hd with rfl|hd
   · exact d.keep (h.P H (hp c (by simp))) (wX _ _) fun k hk=>by rw[h.F]at hk; simp at hk
   · refine ih (H:=frz H c.F) (fun x hx=>x.keep (hp x (by simp[hx])) (wX _ _) fun k hk=>Ce _ _ fun hkc=>n3 k hkc k (List.mem_flatMap.2 ⟨x,hx,hk⟩) rfl) n2 d hd
theorem anu{cl cl':List aD}{o:Oper}{post:ι->List aD}(hf:xG cl cl')(hl:∀x,uT (post x))(hx:XC P n o f (cl'++pre) val post):XC P n o f (cl++pre) val (fun x=>cl++post x):=by
 intro H hc
 have hcP:∀c∈cl,c.P H:=fun c h=>hc.hold c (by simp[h])
 have hw:=hf.wr hcP
 have hfo:∀l,foot (cl++l)=foot cl++foot l:=fun l=>by simp[foot]
 have JF:∀l,foot (cl'++l)=foot l:=fun l=>by
   have:foot (cl'++l)=foot cl'++foot l:=by simp[foot]
   rw[this,hf.foot,List.nil_append]
 have hnd:=hc.nd
 rw[hfo]at hnd
 obtain⟨n1,n2,n3⟩:=List.nodup_append.1 hnd
 have hcl:∀k∈foot cl,k<H.length:=fun k hk=>(hc.own k (by rw[hfo]; exact List.mem_append.2 (.inl hk))).2
 have hpo:∀k∈foot pre,k∉foot cl:=fun k hk hkc=>n3 k hkc k hk rfl
 have cu:Ctx (frz H (foot cl)) (foot (cl'++pre)) (frz H (foot cl)) (cl'++pre):=by
   refine⟨Nat.le_refl _,gG.refl _,fun _ _ _=>rfl,fun d hd=>?_,?_,fun k hk=>⟨.inl hk,?_⟩⟩
   · rcases List.mem_append.1 hd with hd|hd
     · exact hf.hold hcP n1 d hd
     · refine d.keep (hc.hold d (by simp[hd])) (wX _ _) fun k hk=>Ce _ _ (hpo k (List.mem_flatMap.2 ⟨d,hd,hk⟩))
   · rw[JF]; exact n2
   · rw[JF]at hk
     rw[kC]
     exact (hc.own k (by rw[hfo]; exact List.mem_append.2 (.inr hk))).2
 intro ρ w a K' Q' hr hF hk
 refine hx (frz H (foot cl)) cu ρ w a K' Q' (hr.recore (kC _ _) (yH _ H)) hF fun f2 ρ' H' a' w' h1 h2 h3 h4=>?_
 obtain⟨x,rfl,h5⟩:=h4
 have hFc:∀k∈foot cl,H'[k]?=(frz H (foot cl))[k]?:=fun k hk=>h5.agr k (by rw[kC]; exact hcl k hk) (by
   rw[JF]; exact fun h=>hpo k h hk)
 have NF:∀k∈foot (post x),k∉foot cl:=by
   intro k hk hkc
   rcases (h5.own k hk).1 with h|h
   · rw[JF]at h; exact hpo k h hkc
   · rw[kC]at h; have:=hcl k hkc; omega
 have hget:∀k,k<H.length->k∉foot pre->(oL H' (foot cl))[k]?=H[k]?:=by
   intro k hkl hkp
   by_cases hkc:k∈foot cl
   · exact Xw hw hFc hkc
   · rw[yN _ _ hkc,h5.agr k (by rw[kC]; exact hkl) (by rw[JF]; exact hkp),Ce _ _ hkc]
 refine hk _ ρ' (oL H' (foot cl)) a' w' h1 (h2.recore (tL _ _) (Ja _ H')) ((Step.recore (H:=H) (kC _ _) (yH _ H)).trans (h3.trans (Step.recore (tL _ _) (Ja _ H')))) ⟨x,rfl,?_⟩
 have hlen:H.length<=(oL H' (foot cl)).length:=by rw[tL]; have:=h5.len; rwa [kC]at this
 have kP:gG H (oL H' (foot cl)):=by
   intro k b hb hbw
   have hkc:k∉foot cl:=fun h=>by
     obtain⟨b',hb',hw'⟩:=hw k h
     rw[hb]at hb'
     injection hb' with hb'; injection hb' with hb'
     rw[hb',hw']at hbw; simp at hbw
   rw[yN _ _ hkc]
   exact h5.imm k b ((wX H (foot cl)) k b hb hbw) hbw
 refine⟨hlen,kP,fun k hkl hkn=>?_,fun d hd=>?_,?_,fun k hkk=>?_⟩
 · rw[hfo]at hkn
   simp only[List.mem_append,not_or]at hkn
   exact hget k hkl hkn.2
 · rcases List.mem_append.1 hd with hd|hd
   · exact d.keep (hcP d hd) kP fun k hk=>hget k (hcl k (List.mem_flatMap.2 ⟨d,hd,hk⟩)) (fun h=>hpo k h (List.mem_flatMap.2 ⟨d,hd,hk⟩))
   · exact (hl x).keep h5.hold (fun k hk=>yN _ _ (NF k hk)) d hd
 · rw[hfo]
   exact List.nodup_append.2 ⟨n1,h5.nd,fun a ha b hb e=>NF b hb (e ▸ ha)⟩
 · rw[hfo]at hkk
   rw[hfo]
   rcases List.mem_append.1 hkk with h|h
   · exact⟨.inl (List.mem_append.2 (.inl h)),Nat.lt_of_lt_of_le (hcl k h) hlen⟩
   · refine⟨?_,by rw[tL]; exact (h5.own k h).2⟩
     rcases (h5.own k h).1 with g|g
     · rw[JF]at g; exact .inl (List.mem_append.2 (.inr g))
     · rw[kC]at g; exact .inr g
end
end Go.Fw
/-
 Fields of values, and slices of readable slices.
-/
set_option linter.unusedVariables false
namespace Go.Fw
open Go Go.RowKit
section
variable{P:Program} [bT P]{n:Nat}{f:Fr}{H:aB}{d:Option Tmp}{x y:Operand}{T T' E Tf:TypeId}{ps:String}{af:Array Edge}
theorem WP{l m s:Nat}{p:Option Addr}{kk:IntKind}{i:Int}(hT:SL P T E)(hs:SZ P E s)(hx:EV n f x (.slice p l m))(hy:EV n f y (.int kk i))(h0:0<=i)(hi:i<=(l:Int))(hd:l=0\/ ∃(k i0:Nat)(b:eT),p=some ⟨k,i0,none⟩/\H[k]?=some (some b)):
   eY P n ⟨d,.slice T x none (some y) none,T',ps,af,none⟩ f H (.slice p i.toNat 0):=by
 intro ρ w a hr hf
 have hyv:a.eval y= .int kk i:=(hy.use hf).int_inv
 have hu:P.underlying T=some (.slice E):=hT
 have he:P.elem T=E:=by simp[Program.elem,hu]
 have hu2:P.underlying T=some (.slice (P.elem T)):=by rw[he]; exact hu
 have key:∀(q:Option Addr)(cap:Nat),i<=(cap:Int)->a.eval x= .slice q l cap->(execOp a.eval ⟨d,.slice T x none (some y) none,T',ps,af,none⟩).run P w= .ok (.value (sliced q 0 i.toNat cap s)) w:=fun q cap hcap hc=>by
   have hrun:=run_slice_h (P:=P) w T q l cap hu2 kk i h0 (by omega)
   rw[he,hs.run,Result.andThen]at hrun
   have h2':=run_sliceAt_slice (P:=P) w T (.slice q l cap) none (some (.int kk i)) none hu2
   simp[execOp,hc,hyv,h2',hrun]
 have hq:∀(p:Addr)(cap:Nat),sliced (some p) 0 i.toNat cap s= .slice (some p) i.toNat cap:=fun p cap=>by
   unfold sliced
   simp[Addr.add]
 have hrx:=hx.use hf
 generalize hc:a.eval x=c at hrx
 cases hrx with
 |nilSlice=>
   refine⟨_,key none 0 hi hc,?_⟩
   have:i.toNat=0:=by omega
   rw[this]
   simp[sliced]
   exact .nilSlice
 |slice k i0 n m L p cap h hcp h1 h2 hp=>
   refine⟨_,key (some p) cap (by omega) hc,?_⟩
   rw[hq]
   exact bW.slice k i0 _ 0 L p _ h (by omega) (by simp) (by simp) (fun h'=>by
     obtain⟨a1,a2⟩:=hp (by omega)
     exact⟨a1,fun ho=>by have:=a2 ho; omega⟩)
 |sliceDead k i0 n m p cap h=>
   rcases hd with rfl|⟨k',i1,b,e,hk⟩
   · refine⟨_,key (some p) cap (by omega) hc,?_⟩
     rw[hq]
     have:i.toNat=0:=by omega
     rw[this]
     exact bW.sliceDead k i0 _ 0 p _ h
   · obtain⟨rfl,rfl⟩:k=k'/\i0=i1:=by simpa using e
     obtain⟨L,p',cap',hl',-⟩:=(hx.use hf).slice_inv hr hk
     rw[h]at hl'; simp at hl'
end
section
variable{P:Program} [bT P]{n:Nat}{f:Fr}{H0:aB}{F0:List Nat}{cs:List aD}{A:Array Oper}{r:List Oper}{K:Fr->List aD->Prop}{d:Option Tmp}{x y:Operand}{T T' E:TypeId}{ps:String}{af:Array Edge}{α:Type}{R:aB->Value->α->Prop}{xs:List α}{v:Value}
theorem aly [bE R]{s:Nat}{kk:IntKind}{i:Int}(hT:SL P T E)(hs:SZ P E s)(hx:EV n f x v)(hy:EV n f y (.int kk i))(hm:Mem (bK (aJ E R) v xs) cs)(h0:0<=i)(hi:i<=(xs.length:Int))
   (h:∀w:Sv,bA P n H0 F0 A r (put f d w.v) (bK (aJ E R) w.v (xs.take i.toNat)::cs) K):bA P n H0 F0 A (⟨d,.slice T x none (some y) none,T',ps,af,none⟩::r) f cs K:=by
 intro H hc
 have hr:aJ E R H v xs:=hc.mem hm
 have hr':=hr
 rcases hr' with⟨rfl,rfl⟩|⟨k,i0,m,b,rfl,h1,h2,h3,h4,hL,h6⟩|⟨k,i0,m,rfl,rfl⟩
 · have:i.toNat=0:=by simp at hi; omega
   refine tC (WP hT hs hx hy h0 hi (.inl rfl)) (h ⟨none,i.toNat,0⟩ H (hc.dup (c:=bK (aJ E R) (.slice none i.toNat 0) _) ?_ rfl))
   exact .inl ⟨by rw[this],by simp⟩
 · refine tC (WP hT hs hx hy h0 hi (.inr ⟨k,i0,b,rfl,h1⟩)) (h ⟨some ⟨k,i0,none⟩,i.toNat,0⟩ H (hc.dup (c:=bK (aJ E R) (.slice (some ⟨k,i0,none⟩) i.toNat 0) _) ?_ rfl))
   have e:(xs.take i.toNat).length=i.toNat:=by rw[List.length_take]; omega
   exact .inr (.inl ⟨k,i0,0,b,by rw[e],h1,h2,h3,by omega,by omega,fun j a hj=>h6 j a (by
     rw[List.getElem?_take]at hj
     split at hj
     · exact hj
     · simp at hj)⟩)
 · have:i.toNat=0:=by simp at hi; omega
   refine tC (WP hT hs hx hy h0 hi (.inl rfl)) (h ⟨some ⟨k,i0,none⟩,i.toNat,0⟩ H (hc.dup (c:=bK (aJ E R) (.slice (some ⟨k,i0,none⟩) i.toNat 0) _) ?_ rfl))
   exact .inr (.inr ⟨k,i0,0,by rw[this],by simp⟩)
end
end Go.Fw
/-
 Shifts and bits of whole numbers. No conditions.
-/
set_option linter.unusedVariables false
namespace Go.Fw
open Go
def Oy(k:IntKind)(i j:Int):Option Int:=if j<0 then none else some (k.wrap (i*2 ^ min j.toNat k.bits))
def JG(k:IntKind)(i j:Int):Option Int:=if j<0 then none else some (i.fdiv (2 ^ min j.toNat k.bits))
def Oz(k:IntKind)(i j:Int):Int:=k.wrap ((BitVec.ofInt k.bits i &&& BitVec.ofInt k.bits j).toNat:Int)
section
variable{P:Program} [bT P]{n:Nat}{f:Fr}{H:aB}{d:Option Tmp}{T T' T'':TypeId}{ps:String}{af:Array Edge}{x y:Operand}
theorem aev{k l:IntKind}{i j q:Int}(hx:EV n f x (.int k i))(hy:EV n f y (.int l j))(h:Oy k i j=some q):
   eY P n ⟨d,.binOp .shl T x y T',T'',ps,af,none⟩ f H (.int k q):=by
 unfold Oy at h
 split at h
 · simp at h
 rename_i hj
 cases h
 exact fun ρ _ a _ hf=>⟨_,by simp[execOp,(hx.use hf).int_inv,(hy.use hf).int_inv,eqGuard,binOp,Op.shift,hj],.int _ _⟩
theorem aew{k l:IntKind}{i j q:Int}(hx:EV n f x (.int k i))(hy:EV n f y (.int l j))(h:JG k i j=some q):
   eY P n ⟨d,.binOp .shr T x y T',T'',ps,af,none⟩ f H (.int k q):=by
 unfold JG at h
 split at h
 · simp at h
 rename_i hj
 cases h
 exact fun ρ _ a _ hf=>⟨_,by simp[execOp,(hx.use hf).int_inv,(hy.use hf).int_inv,eqGuard,binOp,Op.shift,hj],.int _ _⟩
theorem aex{k:IntKind}{i j:Int}(hx:EV n f x (.int k i))(hy:EV n f y (.int k j)):
   eY P n ⟨d,.binOp .and T x y T',T'',ps,af,none⟩ f H (.int k (Oz k i j)):=
 fun ρ _ a _ hf=>⟨_,by simp[execOp,(hx.use hf).int_inv,(hy.use hf).int_inv,eqGuard,binOp,Op.intBits,Oz],.int _ _⟩
end
end Go.Fw
/-
 Drawn regions: elements of an own slice are read and stored.
-/
set_option linter.unusedVariables false
namespace Go.Fw
open Go Go.RowKit
section
variable{P:Program} [bT P]{n:Nat}{l:List Oper}{tb a_:List Nat}{H0:aB}{F0:List Nat}{K:Fr->List aD->Prop}{cs:List aD}{f:Fr}{i:Nat}{r:List Nat}{fl:List (Nat×List Nat)}{d:Option Tmp}{T E T':TypeId}{ps:String}{af:Array Edge}{gd:Option (Nat×Bool)}{v:Value}{x y:Operand}{α:Type}{Ro:List Nat->aB->Value->α->Prop}{xs:List α}{s:Nat}
end
section
variable{P:Program} [bT P]{n:Nat}{f:Fr}{H:aB}{d:Option Tmp}{x:Operand}{T:TypeId}{ps:String}{af:Array Edge}
theorem ol{v:Value}{q:Addr}(hv:v= .pointer (some q))(hx:EV n f x v):eY P n ⟨d,.nilCheck x,T,ps,af,none⟩ f H v:=fun ρ _ a _ hf=>by
 subst hv
 have h:=hx.use hf
 have:∃p,a.eval x= .pointer (some p):=by
   generalize a.eval x=u at h
   cases h<;>exact⟨_,rfl⟩
 obtain⟨p,hp⟩:=this
 exact⟨a.eval x,by simp[execOp,hp],h⟩
end
end Go.Fw
/-
 A new row, frozen in the same step.
-/
set_option maxRecDepth 100000
namespace Go.Fw
open Go
variable{P:Program} [bT P]{n:Nat}{f:Fr}{H:aB}{o:Oper}{K:Fr->aB->Prop}
theorem qO.aop{vk:Nat->Value}{b:eT}(hn:qO P n o f vk b)(h:K (put f o.dst (vk H.length)) (H++[some b])):xQ P n o f H K:=by
 intro ρ w a K' Q' hr hf hk
 obtain⟨ho,hn⟩:=hn
 obtain⟨c,cs,cap,w',hrun,hh,h1,h2,h3,hval,he,hc,hl⟩:=hn ρ H w a hr hf
 show o.upon P a K' Q' _
 rw[hrun]
 obtain⟨es,ty,ow,g⟩:=b
 obtain rfl:ow=true:=ho
 have hrel:=hr.push (g:=g) hh rfl he hc hl
 have hst:=Step.push (b:=⟨es,ty,true,g⟩) (sz:=P.cellsOf ty) (cap:=cap) hr hh h1 h2 h3
 exact hk _ _ _ _ _ ((hf.up hst.up).put o.dst (hval _ _ (gP _ _ _))) hrel hst h
theorem anv{vk:Nat->Value}{b:eT}{pre:List aD}(hw:b.wr=true)(hn:qO P n o f vk b):XC P n o f pre vk (fun k=>jg k b::pre):=by
 intro H hc
 refine hn.aop ⟨H.length,rfl,?_⟩
 refine Ctx.step (pre:=[]) (post:=[jg H.length b]) (rest:=pre) hc (by simp) (nu.app _ _).imm (fun k hk _=>by rw[List.getElem?_append_left hk]) ?_ (by simp[jg]) (by simp[jg])
 intro c hcm
 simp at hcm
 subst hcm
 exact⟨hw,by simp⟩
theorem XR{α:Type}{R:aB->Value->α->Prop} [bE R]{E:TypeId}{k i m:Nat}:Conv [] [bK (aJ E R) (.slice (some ⟨k,i,none⟩) 0 m) []]:=⟨fun H _ c hc=>by
 simp at hc; subst hc; exact .inr (.inr ⟨k,i,m,rfl,rfl⟩),by simp[bK]⟩
end Go.Fw
/-
 Library functions that hand back strings: what the shelf's contracts say, at the abstract heap.
-/
set_option linter.unusedVariables false
namespace Go.Fw
open Go Go.RowKit
section
variable{P:Program} [bT P]{ρ:cO}{H:aB}{w:World}
theorem Rel.ofBelow{w':World}(h:Rel P ρ H w)(hb:Below w.heap.size w w'):Rel P ρ H w':=by
 constructor
 · intro k L hk
   obtain⟨b,hbk,hr⟩:=h.blk k L hk
   exact⟨b,hbk,hr.of_same (Up.refl ρ) (hb.block _ (h.lt hk))⟩
 · exact h.alive
 · exact h.dom
 · exact h.inj
 · exact h.vok.keep hb.size (fun b hb' _=>hb.block b hb') fun _ _ hk _=>.inl hk
theorem Step.ofBelow{w':World}(hb:Below w.heap.size w w'):Step ρ H w ρ H w' where
 up:=Up.refl ρ
 os:=hb.os
 output:=hb.output
 tape:=hb.tape
 size:=hb.size
 frame b hb' _:=hb.block b hb'
 fresh _ _ h:=.inl h
 len:=Nat.le_refl _
 hold k hk hn:=⟨hn,rfl⟩
theorem below_grow(w:World)(k:Nat)(os:Array Obj):Below w.heap.size w (Sort.grow (w.drewN k) os):=
 ⟨rfl,rfl,rfl,by simp[Sort.grow,World.drewN],fun j hj=>by
   show (w.heap++os)[j]?=_
   rw[Array.getElem?_append_left hj]⟩
theorem uu.var{name:String}{cs:Array Value}(hV:∀w0,bT.V P w0->w0.var? P name=some cs)(h:uu P ρ w):w.var? P name=some cs:=by
 obtain⟨w0,h1,h2,h3,-⟩:=h
 have:=hV w0 h1
 unfold World.var? at this ⊢
 cases hg:P.globalNamed name with
 |none=>rw[hg]at this; simp at this
 |some g=>
   rw[hg,Option.bind_some]at this
   rw[Option.bind_some]
   have hlt:g<w0.heap.size:=by
     rcases Nat.lt_or_ge g w0.heap.size with h|h
     · exact h
     · rw[Array.getElem?_eq_none h]at this; simp at this
   rw[h3 g hlt]
   exact this
theorem al5{g:FuncId}{n:Int}(h:∀w,(∃ρ,uu P ρ w)->Calls P g #[.int .i64 n] w fun e w'=>e= .returned (.string ⟨(Lib.itoa n).toArray⟩)/\ ∃k os,w'=Sort.grow (w.drewN k) os):
   Fw.Spec P g [.int .i64 n] [] (fun _:Unit=>sv (Lib.itoa n)) (fun _=>[]):=by
 intro H F0 cu ρ w jH hr hargs
 obtain⟨l⟩:=jH
 cases hargs with
 |cons _ c _ _ hc t=>
   cases t
   obtain rfl:=hc.int_inv
   refine (h w ⟨ρ,hr.vok⟩).mono ?_
   rintro e w' ⟨rfl,k,os,rfl⟩
   have hb:=below_grow w k os
   exact⟨_,_,ρ,H,rfl,.string _,hr.ofBelow hb,Step.ofBelow hb,(),rfl,cu⟩
theorem al6{g:FuncId}{E:TypeId}{v:Value}{xs:List (List UInt8)}{sep:List UInt8}(hs:SZ P E 1)
   (h1:∀(a:Option Addr)(c:Nat)(s:ByteArray) w,Calls P g #[.slice a 0 c,.string s] w fun e w'=>e= .returned (.string ⟨#[]⟩)/\w'=w)
   (h2:∀bk o c (ys:List ByteArray)(s:ByteArray) w,(∀(j:Nat) x,ys[j]?=some x->w.cell? ⟨bk,o+j,none⟩=some (.string x))->bk<w.heap.size->ys.length<=140737488355328->ys.length<=c->
     (Lib.join (ys.map (·.data.toList)) s.data.toList).length<=140737488355328->Calls P g #[.slice (some ⟨bk,o,none⟩) ys.length c,.string s] w fun e w'=>e= .returned (.string ⟨(Lib.join (ys.map (·.data.toList)) s.data.toList).toArray⟩)/\Below w.heap.size w w')
   (hN:xs.length<4294967296) (hlen:(Lib.join xs sep).length<4294967296):
   Fw.Spec P g [v,sv sep] [bK (aJ E rdStr) v xs] (fun _:Unit=>sv (Lib.join xs sep)) (fun _=>[]):=by
 intro H F0 cu ρ w jH hr hargs
 obtain⟨l⟩:=jH
 have hnil:xs=[]->Lib.join xs sep=[]:=fun h=>by subst h; rfl
 have hdone:∀w',Below w.heap.size w w'-> ∃x0 r ρ' H',Ending.returned (sv (Lib.join xs sep))= .returned x0/\bW ρ' r x0/\Rel P ρ' H' w'/\Step ρ H w ρ' H' w'/\ ∃x:Unit,r=sv (Lib.join xs sep)/\Ctx H F0 H' []:=fun w' hb=>
   ⟨_,_,ρ,H,rfl,.string _,hr.ofBelow hb,Step.ofBelow hb,(),rfl,cu.sublist (List.nil_sublist _)⟩
 cases hargs with
 |cons _ c _ _ hc t=>
   cases t with
   |cons _ c2 _ _ hc2 t=>
     cases t
     obtain rfl:=hc2.sv_inv
     have hemp:∀a cap,c= .slice a 0 cap->xs=[]->Calls P g #[c,sv sep] w fun e w'=>∃x0 r ρ' H',e= .returned x0/\bW ρ' r x0/\Rel P ρ' H' w'/\Step ρ H w ρ' H' w'/\ ∃x:Unit,r=sv (Lib.join xs sep)/\Ctx H F0 H' []:=by
       intro a cap e hx
       subst e
       refine (h1 a cap _ w).mono ?_
       rintro e w' ⟨rfl,rfl⟩
       have:=hdone w' (Below.refl _ _)
       rw[hnil hx]at this ⊢
       exact this
     have hrd:aJ E rdStr H v xs:=cu.hold (bK (aJ E rdStr) v xs) (by simp)
     rcases hrd with⟨rfl,hx⟩|⟨k,i,m,b,rfl,g2,g3,g4,g5,g6,g7⟩|⟨k,i,m,rfl,hx⟩
     · cases hc
       exact hemp none 0 rfl hx
     · obtain⟨L,p,cap,hl,hbr,rfl,hcap,-,-,hp⟩:=hc.slice_inv hr g2
       by_cases hx:xs.length=0
       · have hx':=List.length_eq_zero_iff.1 hx
         exact hemp (some p) cap (by rw[hx]) hx'
       have lq:=hp hx
       have jU:L.sz=1:=by rw[←hbr.sz,g4,hs.cells]
       obtain⟨cs,ct,fr,oN,hel,-⟩:=hbr.cells
       have hmap:(xs.map fun l=>(⟨l.toArray⟩:ByteArray)).map (·.data.toList)=xs:=by
         rw[List.map_map]
         exact List.map_id' xs
       have hl2:(xs.map fun l=>(⟨l.toArray⟩:ByteArray)).length=xs.length:=by simp
       have:=h2 L.blk (L.off+i) cap (xs.map fun l=>(⟨l.toArray⟩:ByteArray)) ⟨sep.toArray⟩ w (fun j x hj=>by
         rw[List.getElem?_map]at hj
         cases hxj:xs[j]? with
         |none=>rw[hxj]at hj; simp at hj
         |some a=>
           rw[hxj]at hj
           obtain rfl:(⟨a.toArray⟩:ByteArray)=x:=by simpa using hj
           obtain⟨e,he,hr'⟩:=g7 j a hxj
           have hr2:e=sv a:=hr'
           subst hr2
           have:=(hel (i+j) _ he).2
           rw[jU,Nat.mul_one,←Nat.add_assoc]at this
           obtain⟨c0,q1,q2⟩:=this.get 0 _ rfl
           have q3:=q2.sv_inv
           subst q3
           rw[EX oN]
           rw[List.getElem?_take_of_lt (by omega),List.getElem?_drop,Nat.add_zero,Array.getElem?_toList]at q1
           exact q1) (hr.lt hl) (by rw[hl2]; omega) (by rw[hl2]; exact hcap) (by rw[hmap]; show (Lib.join xs sep).length<=_; omega)
       rw[hl2,hmap]at this
       rw[lq,jU,Nat.mul_one]
       refine this.mono ?_
       rintro e w' ⟨rfl,hb⟩
       exact hdone w' hb
     · obtain⟨p,cap,rfl⟩:∃p cap,c= .slice (some p) 0 cap:=by
         cases hc with
         |slice _ _ _ _ L p cap=>exact⟨p,cap,rfl⟩
         |sliceDead _ _ _ _ p cap=>exact⟨p,cap,rfl⟩
       exact hemp (some p) cap rfl hx
end
section
variable{P:Program} [bT P]{n:Nat}{f:Fr}{d:Option Tmp}{x:Operand}{S T D E:TypeId}{ps:String}{af:Array Edge}{H:aB}{F:List Nat}{v:Value}{u:UInt8}
theorem acY(hS:SL P S E)(hE:IK P E .u8)(hD:P.underlying D=some .string)(hs:SZ P E 1)(hx:EV n f x v)(hp:(aQ (aP E (aG Ct)) F v [u]).P H):eY P n ⟨d,.convert S D x,T,ps,af,none⟩ f H (sv [u]):=by
 have ho:aP E (aG Ct) F H v [u]:=hp
 rcases ho with⟨-,h,-⟩|⟨k,m,b,G,rfl,hm,h3,h4,h5,h6,h7,rfl,h9⟩
 · simp at h
 intro ρ w a hr hf
 obtain⟨L,p,cap,hl,hbr,hc,hcap,-,-,hp2⟩:=(hx.use hf).slice_inv hr h3
 have lq:=hp2 (by simp)
 rw[Nat.zero_mul,Nat.add_zero]at lq
 have hcz:P.cellsOf b.ty=1:=by rw[h6]; exact hs.cells
 obtain⟨e,F1,Fj,F2,g1,-,g3,-⟩:=h9.at (j:=0) rfl
 have g4:e= .int .u8 (u.toNat:Int):=g3.2
 subst g4
 have jU:L.sz=1:=by rw[←hbr.sz,hcz]
 obtain⟨cs,ct,fr,oN,hel,-⟩:=hbr.cells
 have:=(hel 0 _ g1).2
 rw[Nat.zero_mul,Nat.add_zero,jU]at this
 obtain⟨c0,q1,q2⟩:=this.get 0 _ rfl
 have q3:=q2.int_inv
 subst q3
 rw[List.getElem?_take_of_lt (by omega),List.getElem?_drop,Nat.add_zero,Array.getElem?_toList]at q1
 obtain⟨hlt,hv⟩:=Array.getElem?_eq_some_iff.1 q1
 have hrun:=run_loadCells P oN 1 (o:=L.off) (Nat.succ_le_of_lt hlt)
 have hd:(cs.toList.drop L.off).take 1=[Value.int .u8 (u.toNat:Int)]:=by
   rw[List.drop_eq_getElem_cons (by simpa using hlt)]
   simp[hv]
 rw[hd]at hrun
 have hu:P.underlying S=some (.slice E):=hS
 have hue:P.underlying E=some (.int .u8):=hE
 have hcv:(Conv.bytesToString (.slice (some p) 1 cap)).run P w= .ok (sv [u]) w:=by
   subst lq
   simp[Conv.bytesToString,hrun,sv]
   rfl
 refine⟨sv [u],?_,.string _⟩
 have hc1:a.eval x= .slice (some p) 1 cap:=hc
 simp[execOp,hc1,Go.convert,underlying,hu,hD,hue,hcv]
end
end Go.Fw
namespace Go.Fw
open Go
section
variable{P:Program} [bT P]{n:Nat}{f:Fr}{H:aB}{d:Option Tmp}{x:Operand}{T T':TypeId}{ps:String}{af:Array Edge}
theorem apB{k:IntKind}{i:Int}(hx:EV n f x (.int k i)):eY P n ⟨d,.unOp .neg T x,T',ps,af,none⟩ f H (.int k (k.wrap (-i))):=
 fun ρ _ a _ hf=>⟨_,by simp[execOp,(hx.use hf).int_inv,Op.unary,Op.intArith],.int _ _⟩
end
end Go.Fw
/-
 Library functions on our own rows of integers: what the shelf's contracts say, at the abstract heap.
-/
set_option linter.unusedVariables false
namespace Go.Fw
open Go Go.Sort
section
variable{P:Program} [bT P]{ρ:cO}{H:aB}{w:World}
theorem Rel.grown{w':World}{os:Array Obj}(h:Rel P ρ H w)(hw:w'.heap=w.heap++os):Rel P ρ H w':=by
 have hs:∀b,b<w.heap.size->w'.heap[b]?=w.heap[b]?:=fun b hb=>by rw[hw,Array.getElem?_append_left hb]
 constructor
 · intro k L hk
   obtain⟨b,hb,hr⟩:=h.blk k L hk
   exact⟨b,hb,hr.of_same (Up.refl ρ) (hs _ (h.lt hk))⟩
 · exact h.alive
 · exact h.dom
 · exact h.inj
 · exact h.vok.keep (by rw[hw]; simp) (fun b hb _=>hs b hb) fun _ _ hk _=>.inl hk
theorem Step.grown{w':World}{os:Array Obj}(hw:w'.heap=w.heap++os)(h1:w'.os=w.os)(h2:w'.output=w.output)(h3:w'.tape=w.tape):Step ρ H w ρ H w' where
 up:=Up.refl ρ
 os:=h1
 output:=h2
 tape:=h3
 size:=by rw[hw]; simp
 frame b hb _:=by rw[hw,Array.getElem?_append_left hb]
 fresh _ _ h:=.inl h
 len:=Nat.le_refl _
 hold k hk hn:=⟨hn,rfl⟩
theorem Rel.row{k n:Nat}{L:Loc}{b:eT}{zs ys:List Int}{os:Array Obj}(h:Rel P ρ H w)(hk:ρ k=some (some L))(hb:H[k]?=some (some b))(hown:b.own=true)(hsz:P.cellsOf b.ty=1)
   (hl:b.elems.length=zs.length) (hys:∀(i:Nat) y,ys[i]?=some y->zs[i]?=some y):
   Rel P ρ (H.set k (some ⟨ys.map (Value.int .i64),b.ty,true,b.wr⟩)) (grow (putRow (Value.int .i64) (Sort.ahead w n) L.blk L.off zs.toArray) os)/\
   Step ρ H w ρ (H.set k (some ⟨ys.map (Value.int .i64),b.ty,true,b.wr⟩)) (grow (putRow (Value.int .i64) (Sort.ahead w n) L.blk L.off zs.toArray) os):=by
 obtain⟨b',hb',hbr⟩:=h.blk k L hk
 rw[hb]at hb'
 obtain rfl:b=b':=by simpa using hb'
 have ho:L.own=true:=by rw[←hbr.own]; exact hown
 have jU:L.sz=1:=by rw[←hbr.sz,hsz]
 obtain⟨cs,ct,fr,oN,hel,hr2⟩:=hbr.cells
 obtain⟨hoff,o6,hlenL,hfr,rfl⟩:=hr2 ho
 have hlt:=h.lt hk
 have hyl:ys.length<=zs.length:=by
   rcases Nat.lt_or_ge zs.length ys.length with h'|h'
   · have:=hys zs.length ys[zs.length] (List.getElem?_eq_getElem h')
     rw[List.getElem?_eq_none (Nat.le_refl _)]at this; simp at this
   · exact h'
 have hzc:zs.length<=cs.size:=by rw[jU,Nat.mul_one]at o6; omega
 have hh1:(putRow (Value.int .i64) (Sort.ahead w n) L.blk L.off zs.toArray).heap=w.heap.setIfInBounds L.blk (.cells (putCells (Value.int .i64) L.off zs.toArray cs) b.ty fr):=by
   show w.heap.modify L.blk (onCells (putCells (Value.int .i64) L.off zs.toArray))=_
   apply Array.ext_getElem?
   intro q
   rw[Array.getElem?_modify,Array.getElem?_setIfInBounds]
   by_cases e:L.blk=q
   · subst e
     rw[if_pos rfl,if_pos rfl,if_pos hlt,oN]; rfl
   · rw[if_neg e,if_neg e]
 have hsz':(putCells (Value.int .i64) L.off zs.toArray cs).size=cs.size:=by simp[putCells]
 have R1:Rel P ρ (H.set k (some ⟨ys.map (Value.int .i64),b.ty,true,b.wr⟩)) (putRow (Value.int .i64) (Sort.ahead w n) L.blk L.off zs.toArray):=by
   refine h.write (b:=b) (b':=⟨ys.map (Value.int .i64),b.ty,true,b.wr⟩) hk ho hh1 rfl rfl hbr.sz ?_ ⟨hoff,by rw[hsz']; exact o6,by simp only[List.length_map]; omega,by rw[hsz']; exact hfr⟩
   intro i e he
   rw[List.getElem?_map]at he
   cases hy:ys[i]? with
   |none=>rw[hy]at he; simp at he
   |some y=>
     rw[hy]at he
     obtain rfl:Value.int .i64 y=e:=by simpa using he
     have hz:=hys i y hy
     obtain⟨hi,hz'⟩:=List.getElem?_eq_some_iff.1 hz
     refine⟨jU ▸ rfl,?_⟩
     rw[hoff,jU,Nat.zero_add,Nat.mul_one]
     have hc:(putCells (Value.int .i64) 0 zs.toArray cs).toList.drop i=Value.int .i64 y::(putCells (Value.int .i64) 0 zs.toArray cs).toList.drop (i+1):=by
       rw[List.drop_eq_getElem_cons (by simp[putCells]; omega)]
       congr 1
       simp[putCells,hi,hz']
     rw[hc]
     exact .cons _ _ _ _ (.int _ _) .nil
 have S1:Step ρ H w ρ (H.set k (some ⟨ys.map (Value.int .i64),b.ty,true,b.wr⟩)) (putRow (Value.int .i64) (Sort.ahead w n) L.blk L.off zs.toArray):=
   Step.write hk ho hh1 rfl rfl rfl
 exact⟨R1.grown rfl,S1.trans (Step.grown rfl rfl rfl rfl)⟩
theorem Rel.holds{k:Nat}{L:Loc}{b:eT}{zs:List Int}(h:Rel P ρ H w)(hk:ρ k=some (some L))(hb:H[k]?=some (some b))(hown:b.own=true)(hsz:P.cellsOf b.ty=1)
   (he:b.elems=zs.map (Value.int .i64)):Holds (Value.int .i64) w L.blk L.off zs.toArray:=by
 obtain⟨b',hb',hbr⟩:=h.blk k L hk
 rw[hb]at hb'
 obtain rfl:b=b':=by simpa using hb'
 have ho:L.own=true:=by rw[←hbr.own]; exact hown
 have jU:L.sz=1:=by rw[←hbr.sz,hsz]
 obtain⟨cs,ct,fr,oN,hel,hr2⟩:=hbr.cells
 obtain⟨hoff,o6,hlenL,hfr,rfl⟩:=hr2 ho
 rw[jU,Nat.mul_one]at o6
 rw[he,List.length_map]at hlenL
 intro j hj
 simp only[List.size_toArray]at hj
 have hjc:j<cs.size:=by omega
 rw[hoff,Nat.zero_add]
 have:=(hel j (Value.int .i64 zs[j]) (by rw[he,List.getElem?_map,List.getElem?_eq_getElem hj]; rfl)).2
 rw[hoff,jU,Nat.zero_add,Nat.mul_one,List.drop_eq_getElem_cons (by simpa using hjc)]at this
 have hv:cs[j]=Value.int .i64 zs[j]:=by
   obtain⟨c,h1,h2⟩:=this.get 0 _ rfl
   have h3:=h2.int_inv
   subst h3
   simpa using h1
 constructor
 · rw[EX oN,Array.getElem?_eq_getElem hjc,hv]
   simp[hj]
 · have:=hfr j (Nat.le_of_lt hjc)
   simp only[World.frozen?,oN]
   simpa using this
end
section
variable{P:Program} [bT P]{H:aB}{F0:List Nat}{E:TypeId}
theorem SX{es:List Value}{xs:List Int}{G:List Nat}(h:dO (aG aK) H es xs G):es=xs.map (Value.int .i64)/\G=[]:=by
 induction h with
 |nil=>exact⟨rfl,rfl⟩
 |cons h _ ih=>exact⟨by rw[ih.1,h.2]; rfl,by rw[ih.2,h.1]; rfl⟩
theorem acZ:∀(xs:List Int),dO (aG aK) H (xs.map (Value.int .i64)) xs []
 |[]=>.nil
 |x::xs=>by simpa using dO.cons (Ro:=aG aK) (F:=[]) ⟨rfl,rfl⟩ (acZ xs)
theorem Ctx.setrow{k m m':Nat}{b:eT}{xs ys:List Int}(cu:Ctx H F0 H [aQ (aP E (aG aK)) [k] (.slice (some ⟨k,0,none⟩) xs.length m) xs])(h3:H[k]?=some (some b))(h4:b.wr=true)(h6:b.ty=E)
   (hm:m'=1\/m'=2) (hb:ys.length<4611686018427387904):
   Ctx H F0 (H.set k (some ⟨ys.map (Value.int .i64),b.ty,true,b.wr⟩)) [aQ (aP E (aG aK)) [k] (.slice (some ⟨k,0,none⟩) ys.length m') ys]:=by
 have hne:∀q,q≠k->(H.set k (some ⟨ys.map (Value.int .i64),b.ty,true,b.wr⟩))[q]?=H[q]?:=fun q hq=>by rw[List.getElem?_set_ne (fun e=>hq e.symm)]
 have hkl:=nD h3
 refine⟨by simp,?_,fun q hq Au=>hne q (fun e=>Au ?_),?_,by simp[foot,aQ],fun q hq=>?_⟩
 · intro q b2 hq hw2
   rw[hne q (fun e=>by subst e; rw[hq]at h3; injection h3 with h3; injection h3 with h3; rw[h3]at hw2; rw[hw2]at h4; simp at h4)]
   exact hq
 · subst e
   rcases (cu.own q (by simp[foot,aQ])).1 with h|h
   · exact h
   · omega
 · intro c hcm
   simp at hcm; subst hcm
   exact .inr ⟨k,m',_,[],rfl,hm,List.getElem?_set_self hkl,h4,rfl,h6,hb,rfl,acZ ys⟩
 · have hqk:q=k:=by simpa[foot,aQ]using hq
   subst hqk
   exact⟨(cu.own q (by simp[foot,aQ])).1,by simpa using hkl⟩
theorem acu{ρ:cO}{v:Value}{jH:Array Value}(h:bv ρ [v] jH.toList):∃c,jH= #[c]/\bW ρ v c:=by
 obtain⟨l⟩:=jH
 cases h with
 |cons _ c _ _ h t=>cases t; exact⟨c,rfl,h⟩
theorem al7{g:FuncId}{F:List Nat}{v:Value}{xs:List Int}(hty:TY P E 1 8 (.int .i64 0))
   (h1:∀(p:Option Addr) cap w,Calls P g #[.slice p 0 cap] w fun e w'=>e= .returned (.tuple #[])/\w'=w)
   (h2:∀blk off cap (zs:List Int) w,Holds (Value.int .i64) w blk off zs.toArray->blk<w.heap.size->zs.length<4611686018427387904->Calls P g #[.slice (some ⟨blk,off,none⟩) zs.length cap] w fun e w'=>
     e= .returned (.tuple #[])/\ ∃n os,w'=grow (putRow (Value.int .i64) (Sort.ahead w n) blk off (zs.mergeSort fun x y=>decide (x<=y)).toArray) os):
   Fw.Spec P g [v] [aQ (aP E (aG aK)) F v xs] (fun _:List Nat=>.tuple [].toArray) (fun p=>[aQ (aP E (aG aK)) p v (xs.mergeSort fun x y=>decide (x<=y))]):=by
 intro H F0 cu ρ w jH hr hargs
 obtain⟨c,rfl,hc⟩:=acu hargs
 have ho:aP E (aG aK) F H v xs:=cu.hold _ (List.mem_singleton.2 rfl)
 rcases ho with⟨rfl,rfl,rfl⟩|⟨k,m,b,G,rfl,hm,h3,h4,h5,h6,h7,rfl,h9⟩
 · cases hc with
   |nilSlice=>
     refine (h1 none 0 w).mono ?_
     rintro e w' ⟨rfl,rfl⟩
     exact⟨_,_,ρ,H,rfl,.tuple [] [] .nil,hr,Step.refl _ _ _,_,rfl,by simpa using cu⟩
 · obtain⟨-,rfl⟩:b.elems=xs.map (Value.int .i64)/\G=[]:=SX h9
   have hel:=(SX h9).1
   obtain⟨L,p,cap,hl,hbr,rfl,hcap,g1,g2,gp⟩:=hc.slice_inv hr h3
   rcases xs with _|⟨x,xs⟩
   · refine (h1 (some p) cap w).mono ?_
     rintro e w' ⟨rfl,rfl⟩
     exact⟨_,_,ρ,H,rfl,.tuple [] [] .nil,hr,Step.refl _ _ _,_,rfl,by simpa using cu⟩
   · have hp:=gp (by simp)
     rw[Nat.zero_mul,Nat.add_zero]at hp
     subst hp
     have hcz:P.cellsOf b.ty=1:=by rw[h6]; exact hty.sz.cells
     refine (h2 L.blk L.off cap (x::xs) w (hr.holds hl h3 h5 hcz hel) (hr.lt hl) h7).mono ?_
     rintro e w' ⟨rfl,n,os,rfl⟩
     have hlen:((x::xs).mergeSort fun x y=>decide (x<=y)).length=(x::xs).length:=List.length_mergeSort _
     obtain⟨r1,r2⟩:=hr.row (n:=n) (os:=os) (zs:=(x::xs).mergeSort fun x y=>decide (x<=y)) (ys:=(x::xs).mergeSort fun x y=>decide (x<=y)) hl h3 h5 hcz (by rw[hel,List.length_map,hlen]) (fun _ _ h=>h)
     have:=Ctx.setrow (ys:=(x::xs).mergeSort fun x y=>decide (x<=y)) cu h3 h4 h6 hm (by rw[hlen]; exact h7)
     rw[hlen]at this
     exact⟨_,_,ρ,_,rfl,.tuple [] [] .nil,r1,r2,_,rfl,this⟩
theorem aj6{g:FuncId}{F:List Nat}{v:Sv}{xs:List Int}{cm:List Int->List Int}(hty:TY P E 1 8 (.int .i64 0))(hle:∀zs,(cm zs).length<=zs.length)(hnil:cm []=[])
   (h1:∀(p:Option Addr) cap w,Calls P g #[.slice p 0 cap] w fun e w'=>e= .returned (.slice p 0 cap)/\w'=w)
   (h2:∀blk off cap (zs:List Int) w,Holds (Value.int .i64) w blk off zs.toArray->zs.length<=9223372036854775807->zs.length<=cap->Calls P g #[.slice (some ⟨blk,off,none⟩) zs.length cap] w fun e w'=>
     e= .returned (.slice (some ⟨blk,off,none⟩) (cm zs).length cap)/\ ∃q,w'=putRow (Value.int .i64) (Sort.ahead w q) blk off (cm zs++List.replicate (zs.length-(cm zs).length) 0).toArray):
   Fw.Spec P g [v.v] [aQ (aP E (aG aK)) F v.v xs] (fun p:Sv×List Nat=>p.1.v) (fun p=>[aQ (aP E (aG aK)) p.2 p.1.v (cm xs)]):=by
 intro H F0 cu ρ w jH hr hargs
 obtain⟨c,rfl,hc⟩:=acu hargs
 have ho:aP E (aG aK) F H v.v xs:=cu.hold _ (List.mem_singleton.2 rfl)
 have ho':=ho
 rcases ho with⟨hv,rfl,rfl⟩|⟨k,m,b,G,hv,hm,h3,h4,h5,h6,h7,rfl,h9⟩
 · have hc':=hc
   rw[hv]at hc
   cases hc with
   |nilSlice=>
     refine (h1 none 0 w).mono ?_
     rintro e w' ⟨rfl,rfl⟩
     exact⟨_,_,ρ,H,rfl,hc',hr,Step.refl _ _ _,(v,[]),rfl,by simpa[hnil]using cu⟩
 · obtain⟨-,rfl⟩:b.elems=xs.map (Value.int .i64)/\G=[]:=SX h9
   have hel:=(SX h9).1
   have hc':=hc
   rw[hv]at hc
   obtain⟨L,p,cap,hl,hbr,rfl,hcap,g1,g2,gp⟩:=hc.slice_inv hr h3
   rcases xs with _|⟨x,xs⟩
   · refine (h1 (some p) cap w).mono ?_
     rintro e w' ⟨rfl,rfl⟩
     exact⟨_,_,ρ,H,rfl,hc',hr,Step.refl _ _ _,(v,[k]),rfl,by simpa[hnil]using cu⟩
   · have hp:=gp (by simp)
     rw[Nat.zero_mul,Nat.add_zero]at hp
     subst hp
     have hcz:P.cellsOf b.ty=1:=by rw[h6]; exact hty.sz.cells
     have hown:L.own=true:=by rw[←hbr.own]; exact h5
     refine (h2 L.blk L.off cap (x::xs) w (hr.holds hl h3 h5 hcz hel) (by omega) hcap).mono ?_
     rintro e w' ⟨rfl,n,rfl⟩
     have hlen:=hle (x::xs)
     obtain⟨r1,r2⟩:=hr.row (n:=n) (os:=#[]) (zs:=cm (x::xs)++List.replicate ((x::xs).length-(cm (x::xs)).length) 0) (ys:=cm (x::xs)) hl h3 h5 hcz (by rw[hel,List.length_map,List.length_append,List.length_replicate]; omega)
       (fun i y h=>by rw[List.getElem?_append_left (List.getElem?_eq_some_iff.1 h).1]; exact h)
     rw[grow_empty]at r1 r2
     have hcc:cap<=L.cap:=by
       rcases hm with rfl|rfl
       · have:=g1 rfl; omega
       · exact (g2 (Nat.le_refl _)).2.2.1
     rw[hv]at cu
     have:=Ctx.setrow (ys:=cm (x::xs)) (m':=2) cu h3 h4 h6 (.inr rfl) (by omega)
     refine⟨_,.slice (some ⟨k,0,none⟩) (cm (x::xs)).length 2,ρ,_,rfl,.slice _ _ _ _ L _ cap hl (by omega) (by simp) (fun _=>⟨rfl,hown,hcc,rfl,by omega⟩) (fun _=>⟨by simp,fun _=>by omega⟩),r1,r2,(⟨some ⟨k,0,none⟩,(cm (x::xs)).length,2⟩,[k]),rfl,this⟩
end
theorem alz(zs:List Int):(Lib.compact zs).length<=zs.length:=by
 unfold Lib.compact Lib.compactUpTo
 rw[List.length_map]
 exact Nat.le_trans (List.length_filter_le _ _) (Nat.le_of_eq List.length_range)
end Go.Fw
/-
 slices.Insert at slices of our own: capacities, copy, overlaps, append of a make.
-/
set_option linter.unusedVariables false
namespace Go.Fw
open Go
def fZ(s:Nat)(_:aB)(e q:Value):Prop:=e=q/\e.cells.size=s/\e.cells.toList.all scal=true
instance{s:Nat}:Pure (fZ s):=⟨fun h=>h⟩
instance{s:Nat}:Cells (fZ s) s:=⟨fun h=>h.2⟩
section
variable{H:aB}{s:Nat}
theorem NH{es xs:List Value}{G:List Nat}(h:dO (aG (fZ s)) H es xs G):es=xs/\G=[]/\ ∀e∈es,e.cells.size=s/\e.cells.toList.all scal=true:=by
 induction h with
 |nil=>exact⟨rfl,rfl,by simp⟩
 |cons h _ ih=>
   refine⟨by rw[ih.1,h.2.1],by rw[ih.2.1,h.1]; rfl,fun e he=>?_⟩
   rcases List.mem_cons.1 he with rfl|he
   · exact h.2.2
   · exact ih.2.2 e he
theorem TE:∀{es:List Value},(∀e∈es,e.cells.size=s/\e.cells.toList.all scal=true)->dO (aG (fZ s)) H es es []
 |[],_=>.nil
 |e::es,h=>by simpa using dO.cons (Ro:=aG (fZ s)) (F:=[]) ⟨rfl,rfl,h e (by simp)⟩ (TE fun x hx=>h x (by simp[hx]))
end
theorem jJ.relabel{ρ:cO}{n t:Nat}{f:Fr}{a:Act}{v:Value}(h:jJ ρ n f a)(hv:bW ρ v (a.tmps.getD t undef)):jJ ρ n (upd f t v) a:=
 ⟨h.defers,h.size,fun u hu=>by
   by_cases e:u=t
   · subst e; rw[EQ]; exact hv
   · rw[upd_ne _ _ e]; exact h.get u hu⟩
theorem alA{α:Type}(l:List α)(p t m:Nat)(vs:List α)(hp:p<=l.length)(h:t+m<=vs.length):((splice l p vs).drop (p+t)).take m=(vs.drop t).take m:=by
 have hl:(l.take p).length=p:=by simp; omega
 unfold splice
 rw[List.append_assoc,←List.drop_drop,List.drop_append_of_le_length (by omega),List.drop_of_length_le (l:=l.take p) (by omega),List.nil_append,List.drop_append_of_le_length (by omega),List.take_append_of_le_length (by simp; omega)]
section
variable{P:Program} [bT P]{ρ:cO}{H:aB}{w:World}
theorem Rel.copyIn{k a s:Nat}{L:Loc}{b:eT}{S:List Value}{vs:List Value}(h:Rel P ρ H w)(hk:ρ k=some (some L))(hb:H[k]?=some (some b))(hown:b.own=true)(hsz:P.cellsOf b.ty=s)
   (hS:∀e∈S,e.cells.size=s/\e.cells.toList.all scal=true) (hv:bv ρ (flat S) vs) (ha:a<=b.elems.length) (hcap:a+S.length<=L.cap):
   ∃w',(storeCells ⟨L.blk,L.off+a*s,none⟩ vs).run P w= .ok () w'/\
     Rel P ρ (H.set k (some ⟨b.elems.take a++S++b.elems.drop (a+S.length),b.ty,true,b.wr⟩)) w'/\Step ρ H w ρ (H.set k (some ⟨b.elems.take a++S++b.elems.drop (a+S.length),b.ty,true,b.wr⟩)) w':=by
 obtain⟨b',hb',hbr⟩:=h.blk k L hk
 rw[hb]at hb'
 obtain rfl:b=b':=by simpa using hb'
 have ho:L.own=true:=by rw[←hbr.own]; exact hown
 have jU:L.sz=s:=by rw[←hbr.sz,hsz]
 obtain⟨cs,ct,fr,oN,hel,hr2⟩:=hbr.cells
 obtain⟨hoff,o6,hlenL,hfr,rfl⟩:=hr2 ho
 have hvl:vs.length=S.length*s:=by rw[←hv.length,BH S fun e he=>(hS e he).1]
 have hcs:(a+S.length)*s<=cs.size:=Nat.le_trans (by rw[jU]; exact Nat.mul_le_mul_right _ hcap) o6
 have hbd:a*s+vs.length<=cs.size:=by rw[hvl,←Nat.add_mul]; exact hcs
 have NN:∀c∈vs,scal c=true:=by
   intro c hc
   obtain⟨q,hq⟩:=List.mem_iff_getElem?.1 hc
   have Gm:q<(flat S).length:=by rw[hv.length]; exact (List.getElem?_eq_some_iff.1 hq).1
   obtain⟨c',hc',hrc⟩:=hv.get q _ (List.getElem?_eq_getElem Gm)
   rw[hc']at hq
   obtain rfl:c'=c:=by simpa using hq
   rw[hrc.scal]
   have hm:=List.getElem_mem Gm
   simp only[flat,List.mem_flatMap]at hm
   obtain⟨e,he,hx⟩:=hm
   exact List.all_eq_true.1 (hS e he).2 _ hx
 obtain⟨w',hrun,hw',w1,w2,w3⟩:=RA P (b:=L.blk) (o:=L.off+a*s) vs 0 cs w oN (fun o h=>hfr o (Nat.le_of_lt h)) NN (by rw[hoff]; omega)
 rw[hoff,Nat.zero_add,Nat.add_zero]at hw'
 have hsl:(splice cs.toList (a*s) vs).length=cs.size:=by rw[Ee _ _ _ (by simpa using hbd)]; simp
 refine⟨w',hrun,h.write (b':=⟨b.elems.take a++S++b.elems.drop (a+S.length),b.ty,true,b.wr⟩) hk ho hw' rfl rfl hbr.sz ?_ ⟨hoff,by simp only[List.size_toArray]; rw[hsl]; exact o6,?_,by simp only[List.size_toArray]; rw[hsl]; exact hfr⟩,Step.write hk ho hw' w1 w2 w3⟩
 · intro q e he
   rw[hoff,jU,Nat.zero_add]
   show e.cells.size=s/\bv ρ e.cells.toList (((splice cs.toList (a*s) vs).drop (q*s)).take s)
   have hta:(b.elems.take a).length=a:=by simp; omega
   have hold:b.elems[q]?=some e->(q<a\/a+S.length<=q)->e.cells.size=s/\bv ρ e.cells.toList (((splice cs.toList (a*s) vs).drop (q*s)).take s):=by
     intro h1 h2
     have:=hel q e h1
     rw[hoff,jU,Nat.zero_add]at this
     refine⟨this.1,?_⟩
     rw[Sd _ _ _ _ _ (h2.imp (fun h=>by rw[←Nat.succ_mul]; exact Nat.mul_le_mul_right _ h) (fun h=>by rw[hvl,←Nat.add_mul]; exact Nat.mul_le_mul_right _ h)) (by simpa using hbd)]
     exact this.2
   rcases Nat.lt_or_ge q a with h1|h1
   · refine hold ?_ (.inl h1)
     rw[List.append_assoc,List.getElem?_append_left (by omega),List.getElem?_take_of_lt h1]at he
     exact he
   rcases Nat.lt_or_ge q (a+S.length)with h2|h2
   · rw[List.getElem?_append_left (by simp; omega),List.getElem?_append_right (by omega),hta]at he
     have:=bv.elems (ρ:=ρ) S vs [] hv (fun e he=>(hS e he).1) (q-a) e he
     rw[List.append_nil]at this
     refine⟨(hS e (List.mem_of_getElem? he)).1,?_⟩
     have hw:q*s=a*s+(q-a)*s:=by rw[←Nat.add_mul]; congr 1; omega
     rw[hw,alA _ _ _ _ _ (by simp; omega) (by rw[hvl,←Nat.succ_mul]; exact Nat.mul_le_mul_right _ (by omega))]
     exact this
   · refine hold ?_ (.inr h2)
     rw[List.getElem?_append_right (by simp; omega),List.getElem?_drop]at he
     simp only[List.length_append,hta]at he
     rwa [show a+S.length+(q-(a+S.length))=q by omega]at he
 · simp only[List.length_append,List.length_take,List.length_drop]; omega
theorem Rel.cellsOf{k i m s:Nat}{L:Loc}{b:eT}(h:Rel P ρ H w)(hk:ρ k=some (some L))(hb:H[k]?=some (some b))(hsz:P.cellsOf b.ty=s)(hs0:0<s)(him:i+m<=b.elems.length):
   ∃cells:Array Value,(loadCells ⟨L.blk,L.off+i*L.sz,none⟩ (m*s)).run P w= .ok cells w/\bv ρ (flat ((b.elems.drop i).take m)) cells.toList:=by
 obtain⟨b',hb',hbr⟩:=h.blk k L hk
 rw[hb]at hb'
 obtain rfl:b=b':=by simpa using hb'
 have jU:L.sz=s:=by rw[←hbr.sz,hsz]
 obtain⟨cs,ct,fr,oN,hel,hr2⟩:=hbr.cells
 have hlen:((b.elems.drop i).take m).length=m:=by rw[List.length_take,List.length_drop]; omega
 have hget:∀(q:Nat) e,((b.elems.drop i).take m)[q]?=some e->e.cells.size=s/\bv ρ e.cells.toList ((cs.toList.drop (L.off+i*L.sz+q*L.sz)).take L.sz):=by
   intro q e he
   have hq:q<m:=by
     rcases Nat.lt_or_ge q m with h|h
     · exact h
     · rw[List.getElem?_eq_none (by omega)]at he; simp at he
   rw[List.getElem?_take_of_lt hq,List.getElem?_drop]at he
   have:=hel (i+q) e he
   rw[Nat.add_mul,←Nat.add_assoc]at this
   exact⟨this.1.trans jU,this.2⟩
 have hrel:bv ρ (flat ((b.elems.drop i).take m)) ((cs.toList.drop (L.off+i*L.sz)).take (m*L.sz)):=by
   have:=bv.window (ρ:=ρ) (cs:=cs.toList) (sz:=L.sz) ((b.elems.drop i).take m) (L.off+i*L.sz) (fun q e he=>⟨(hget q e he).2,(hget q e he).1.trans jU.symm⟩)
   rwa [hlen]at this
 by_cases hm:m=0
 · subst hm
   exact⟨#[],by simp[loadCells,loadCellsFrom],by simpa using hrel⟩
 · have hbd:L.off+i*L.sz+m*s<=cs.size:=by
     obtain⟨e,he⟩:∃e,((b.elems.drop i).take m)[m-1]?=some e:=⟨_,List.getElem?_eq_getElem (by omega)⟩
     obtain⟨h1,h2⟩:=hget (m-1) e he
     have:=h2.length
     simp only[Array.length_toList,List.length_take,List.length_drop]at this
     have h3:(m-1)*L.sz+L.sz=m*s:=by rw[jU]; rw[←Nat.succ_mul]; congr 1; omega
     omega
   refine⟨_,run_loadCells P oN (m*s) hbd,?_⟩
   rw[jU]at hrel ⊢
   simpa using hrel
end
section
variable{P:Program} [bT P]{n:Nat}{f:Fr}{H0:aB}{F0:List Nat}{cs:List aD}{A:Array Oper}{r:List Oper}{K:Fr->List aD->Prop}{d:Option Tmp}{x y z:Operand}{T T2 T' E:TypeId}{ts:List TypeId}{ps:String}{af:Array Edge}{gd:Option (Nat×Bool)}{s:Nat}{t:Tmp}{c1:Code}{Q:Exit->Fr->List aD->Prop}
theorem apC{α:Type}{Ro:gB α} [eu Ro]{F:List Nat}{xs:List α}{v:Value}{k l m:Nat}(hv:f t= .slice (some ⟨k,0,none⟩) l m)(ht:Nat.blt t n=true)(hm:m=1\/m=2)(hl:l≠0)(hc:Mem (aQ (aP E Ro) F v xs) cs)(hk:jL v=some k)
   (h:∀c,l<=c->CW P n H0 F0 c1 Q (upd f t (.slice (some ⟨k,0,none⟩) l (c+3))) cs):CW P n H0 F0 c1 Q f cs:=by
 intro H cu ρ w a hr hf
 have ho:aP E Ro F H v xs:=cu.mem hc
 obtain⟨-,m',b,G,hv',-,h3,-,h5,-⟩:=ho.head hk
 have hg:=hf.get t (by simpa[Nat.blt_eq]using ht)
 rw[hv]at hg
 obtain⟨L,p,cap,hl',hbr,hc',hcap,g1,g2,gp⟩:=hg.slice_inv hr h3
 obtain⟨L2,hl2,hx⟩:=hg.slice_ext hr h3 hl
 rw[hl']at hl2
 obtain rfl:L=L2:=by simpa using hl2
 have hown:L.own=true:=by rw[←hbr.own]; exact h5
 obtain⟨cs0,ct,fr,-,-,hr2⟩:=hbr.cells
 obtain⟨hoff,-⟩:=hr2 hown
 have lq:=gp hl
 rw[Nat.zero_mul,Nat.add_zero]at lq
 have J9:cap<=L.cap:=by
   rcases hm with rfl|rfl
   · have:=g1 rfl; omega
   · exact (g2 (Nat.le_refl _)).2.2.1
 refine h cap hcap H cu ρ w a hr (hf.relabel ?_)
 rw[hc']
 exact .slice k 0 l (cap+3) L p cap hl' hcap (by omega) (fun _=>⟨rfl,hown,J9,lq,fun _=>rfl⟩) (fun _=>⟨by rw[lq]; simp,hx⟩)
theorem anw{k l c:Nat}(hv:f t= .slice (some ⟨k,0,none⟩) l (c+3))(ht:Nat.blt t n=true)(h:CW P n H0 F0 c1 Q (upd f t (.slice (some ⟨k,0,none⟩) l 2)) cs):CW P n H0 F0 c1 Q f cs:=by
 intro H cu ρ w a hr hf
 refine h H cu ρ w a hr (hf.relabel ?_)
 have hg:=hf.get t (by simpa[Nat.blt_eq]using ht)
 rw[hv]at hg
 generalize a.tmps.getD t undef=u at hg
 cases hg with
 |slice _ _ _ _ L p cap hl hc h1 h2 hp=>
   obtain⟨e1,e2,e3,e4,-⟩:=h2 (by omega)
   exact .slice _ _ _ _ L p cap hl hc (by simp) (fun _=>⟨e1,e2,e3,e4,by omega⟩) hp
 |sliceDead _ _ _ _ p cap hl=>exact .sliceDead _ _ _ _ p cap hl
theorem apD{H:aB}{k l c:Nat}{b:eT}(hT:SL P T E)(hx:EV n f x (.slice (some ⟨k,0,none⟩) l (c+3)))(hk:H[k]?=some (some b)):
   eY P n ⟨d,.call ⟨.builtin .cap,[x].toArray,(T::ts).toArray⟩,T',ps,af,none⟩ f H (.int .i64 (c:Int)):=by
 intro ρ w a hr hf
 obtain⟨L,p,cap,hl',hbr,hc',hcap,g1,g2,gp⟩:=(hx.use hf).slice_inv hr hk
 have:=(g2 (by omega)).2.2.2.2 (by omega)
 obtain rfl:cap=c:=by omega
 have hu:P.underlying T=some (.slice E):=hT
 exact⟨.int .i64 cap,by simp[execOp,resolve,invoke,builtin,Builtin.cap_,hc',goInt,underlying,hu],.int _ _⟩
theorem alB{H:aB}{k l c:Nat}{b:eT}{kk:IntKind}{j:Nat}(hT:SL P T E)(hs:SZ P E s)(hx:EV n f x (.slice (some ⟨k,0,none⟩) l (c+3)))(hy:EV n f y (.int kk (j:Int)))(hk:H[k]?=some (some b))(hj:j<=c):
   eY P n ⟨d,.slice T x none (some y) none,T',ps,af,none⟩ f H (.slice (some ⟨k,0,none⟩) j (c+3)):=by
 intro ρ w a hr hf
 obtain⟨L,p,cap,hl,hb,hc,hcap,h1,h2,hp⟩:=(hx.use hf).slice_inv hr hk
 obtain⟨-,hown,J9,lq,h5⟩:=h2 (by omega)
 have:=h5 (by omega)
 obtain rfl:cap=c:=by omega
 have hyv:a.eval y= .int kk (j:Int):=(hy.use hf).int_inv
 have hu:P.underlying T=some (.slice E):=hT
 have he:P.elem T=E:=by simp[Program.elem,hu]
 have hu2:P.underlying T=some (.slice (P.elem T)):=by rw[he]; exact hu
 obtain⟨cs0,ct,fr,-,-,hr2⟩:=hb.cells
 obtain⟨hoff,-⟩:=hr2 hown
 refine⟨sliced (some p) 0 j cap s,?_,?_⟩
 · have hrun:=run_slice_h (P:=P) w T (some p) l cap hu2 kk (j:Int) (by omega) (by omega)
   rw[he,hs.run,Result.andThen]at hrun
   have h2':=run_sliceAt_slice (P:=P) w T (.slice (some p) l cap) none (some (.int kk (j:Int))) none hu2
   rw[Int.toNat_natCast]at hrun
   simp[execOp,hc,hyv,h2',hrun]
 · have hq:sliced (some p) 0 j cap s= .slice (some p) j cap:=by
     unfold sliced
     by_cases e:cap=0
     · rw[if_pos (by omega)]; simp
     · rw[if_neg (by omega)]
       simp[Addr.add]
   rw[hq]
   exact bW.slice k 0 _ (cap+3) L p _ hl hj (by omega) (fun _=>⟨rfl,hown,J9,lq,fun _=>rfl⟩) (fun _=>⟨by rw[lq]; simp,fun _=>by omega⟩)
end
section
variable{H:aB}{F0:List Nat}{E:TypeId}{s:Nat}
theorem Ctx.setw{rest:List aD}{k m':Nat}{b:eT}{u:Value}{es es':List Value}(cu:Ctx H F0 H (aQ (aP E (aG (fZ s))) [k] u es::rest))(h3:H[k]?=some (some b))(h4:b.wr=true)(h6:b.ty=E)
   (hm:m'=1\/m'=2) (hb:es'.length<4611686018427387904) (hes:∀e∈es',e.cells.size=s/\e.cells.toList.all scal=true):
   Ctx H F0 (H.set k (some ⟨es',b.ty,true,b.wr⟩)) (aQ (aP E (aG (fZ s))) [k] (.slice (some ⟨k,0,none⟩) es'.length m') es'::rest):=by
 have hne:∀q,q≠k->(H.set k (some ⟨es',b.ty,true,b.wr⟩))[q]?=H[q]?:=fun q hq=>by rw[List.getElem?_set_ne (fun e=>hq e.symm)]
 have hkl:=nD h3
 have hf1:foot (aQ (aP E (aG (fZ s))) [k] u es::rest)=k::foot rest:=rfl
 have hf2:foot (aQ (aP E (aG (fZ s))) [k] (.slice (some ⟨k,0,none⟩) es'.length m') es'::rest)=k::foot rest:=rfl
 have kP:gG H (H.set k (some ⟨es',b.ty,true,b.wr⟩)):=by
   intro q b2 hq hw2
   rw[hne q (fun e=>by subst e; rw[hq]at h3; injection h3 with h3; injection h3 with h3; rw[h3]at hw2; rw[hw2]at h4; simp at h4)]
   exact hq
 have hnd:=cu.nd
 rw[hf1]at hnd
 refine⟨by simp,kP,fun q hq Au=>hne q (fun e=>Au ?_),?_,by rw[hf2]; exact hnd,fun q hq=>?_⟩
 · subst e
   rcases (cu.own q (by rw[hf1]; simp)).1 with h|h
   · exact h
   · omega
 · intro c hcm
   rcases List.mem_cons.1 hcm with rfl|hcm2
   · exact .inr ⟨k,m',_,[],rfl,hm,List.getElem?_set_self hkl,h4,rfl,h6,hb,rfl,TE hes⟩
   · refine c.keep (cu.hold c (by simp[hcm2])) kP fun q hq=>hne q (fun e=>?_)
     subst e
     exact (List.nodup_cons.1 hnd).1 (List.mem_flatMap.2 ⟨c,hcm2,hq⟩)
 · rw[hf2,←hf1]at hq
   have:=cu.own q hq
   exact⟨this.1,by simpa using this.2⟩
theorem adu{es S:List Value}{a:Nat}{p:Value->Prop}(h1:∀e∈es,p e)(h2:∀e∈S,p e):∀e∈es.take a++S++es.drop (a+S.length),p e:=by
 intro e he
 rw[List.mem_append,List.mem_append]at he
 rcases he with (h|h)|h
 · exact h1 e (List.mem_of_mem_take h)
 · exact h2 e h
 · exact h1 e (List.mem_of_mem_drop h)
end
section
variable{P:Program} [bT P]{n:Nat}{f:Fr}{d:Option Tmp}{x y:Operand}{T T2 T' E:TypeId}{ts:List TypeId}{ps:String}{af:Array Edge}{gd:Option (Nat×Bool)}{s:Nat}
theorem abr{w:World}{a:Act}{k k2 ia ja ld ls m1 m2:Nat}{ρ:cO}{H:aB}{b b2:eT}(hT:SL P T E)(hs:SZ P E s)(hs0:0<s)(hr:Rel P ρ H w)(hf:jJ ρ n f a)(hx:EV n f x (.slice (some ⟨k,ia,none⟩) ld m1))(hy:EV n f y (.slice (some ⟨k2,ja,none⟩) ls m2))
   (h3:H[k]?=some (some b)) (h5:b.own=true) (h6:b.ty=E) (g3:H[k2]?=some (some b2)) (g6:b2.ty=E) (hld:ld≠0) (hls:ls≠0) (hj:ja+min ls ld<=b2.elems.length) (ha:ia<=b.elems.length)
   (hS:∀e∈b2.elems,e.cells.size=s/\e.cells.toList.all scal=true):
   ∃w',(execOp a.eval ⟨d,.call ⟨.builtin .copy,[x,y].toArray,(T::T2::ts).toArray⟩,T',ps,af,gd⟩).run P w= .ok (.value (.int .i64 ((min ls ld:Nat):Int))) w'/\
     Rel P ρ (H.set k (some ⟨b.elems.take ia++(b2.elems.drop ja).take (min ls ld)++b.elems.drop (ia+((b2.elems.drop ja).take (min ls ld)).length),b.ty,true,b.wr⟩)) w'/\
     Step ρ H w ρ (H.set k (some ⟨b.elems.take ia++(b2.elems.drop ja).take (min ls ld)++b.elems.drop (ia+((b2.elems.drop ja).take (min ls ld)).length),b.ty,true,b.wr⟩)) w':=by
 obtain⟨L,p,cap,hl,hbr,hc,-,-,-,hp⟩:=(hx.use hf).slice_inv hr h3
 obtain⟨L',hl',t_⟩:=(hx.use hf).slice_ext hr h3 hld
 rw[hl]at hl'
 obtain rfl:L=L':=by simpa using hl'
 obtain⟨L2,p2,cap2,hl2,OA,hc2,-,-,-,hp2⟩:=(hy.use hf).slice_inv hr g3
 have hown:L.own=true:=by rw[←hbr.own]; exact h5
 have jU:L.sz=s:=by rw[←hbr.sz,h6,hs.cells]
 have afi:L2.sz=s:=by rw[←OA.sz,g6,hs.cells]
 obtain⟨cells,apE,Fu⟩:=hr.cellsOf (i:=ja) (m:=min ls ld) hl2 g3 (by rw[g6,hs.cells]) hs0 hj
 have hlen:((b2.elems.drop ja).take (min ls ld)).length=min ls ld:=by rw[List.length_take,List.length_drop]; omega
 obtain⟨w',apF,r1,r2⟩:=hr.copyIn (a:=ia) (S:=(b2.elems.drop ja).take (min ls ld)) (vs:=cells.toList) hl h3 h5 (by rw[h6,hs.cells]) (fun e he=>hS e (List.mem_of_mem_drop (List.mem_of_mem_take he))) Fu ha
   (by rw[hlen]; have:=t_ hown; have:=Nat.min_le_right ls ld; omega)
 refine⟨w',?_,r1,r2⟩
 have hu:P.underlying T=some (.slice E):=hT
 have lq:=hp hld
 have Ud:=hp2 hls
 rw[jU]at lq
 have aoj:(Builtin.firstCells s (min ls ld) (.slice (some p2) ls cap2)).run P w= .ok cells w:=by rw[Ud]; exact apE
 have hmin:Nat.min ls ld=min ls ld:=rfl
 subst lq
 simp[execOp,resolve,invoke,builtin,Builtin.copy_,hc,hc2,underlying,hu,hs.run,Builtin.lenOf,hmin,aoj,apF,goInt]
theorem Xy{F F2:List Nat}{u u2:Value}{es es2:List Value}{k k2 ia ja ld ls m1 m2:Nat}(hT:SL P T E)(hs:SZ P E s)(hs0:Nat.blt 0 s=true)(hk:jL u=some k)(hk2:jL u2=some k2)(hx:EV n f x (.slice (some ⟨k,ia,none⟩) ld m1))(hy:EV n f y (.slice (some ⟨k2,ja,none⟩) ls m2))
   (hld:ld≠0) (hls:ls≠0) (hj:ja+min ls ld<=es2.length) (ha:ia<=es.length) {es':List Value} (he:es'=es.take ia++(es2.drop ja).take (min ls ld)++es.drop (ia+min ls ld)) (hb:es'.length<4611686018427387904):
   XC P n ⟨d,.call ⟨.builtin .copy,[x,y].toArray,(T::T2::ts).toArray⟩,T',ps,af,gd⟩ f [aQ (aP E (aG (fZ s))) F u es,aQ (aP E (aG (fZ s))) F2 u2 es2] (fun _:Unit=>.int .i64 ((min ls ld:Nat):Int))
     (fun _=>[aQ (aP E (aG (fZ s))) F (.slice (some ⟨k,0,none⟩) es'.length 2) es',aQ (aP E (aG (fZ s))) F2 u2 es2]):=by
 intro H cu
 have ho:aP E (aG (fZ s)) F H u es:=cu.hold (aQ (aP E (aG (fZ s))) F u es) (by simp)
 have ho2:aP E (aG (fZ s)) F2 H u2 es2:=cu.hold (aQ (aP E (aG (fZ s))) F2 u2 es2) (by simp)
 obtain⟨-,m',b,G,-,-,h3,h4,h5,h6,-,rfl,h9⟩:=ho.head hk
 obtain⟨-,m2',b2,G2,-,-,g3,-,-,g6,-,rfl,g9⟩:=ho2.head hk2
 obtain⟨rfl,rfl,hes⟩:=NH h9
 obtain⟨rfl,rfl,afj⟩:=NH g9
 intro ρ w a K' Q' hr hf hkk
 have hlen:((b2.elems.drop ja).take (min ls ld)).length=min ls ld:=by rw[List.length_take,List.length_drop]; omega
 obtain⟨w',hex,r1,r2⟩:=abr (d:=d) (ts:=ts) (T':=T') (ps:=ps) (af:=af) (gd:=gd) (T2:=T2) hT hs (by simpa[Nat.blt_eq]using hs0) hr hf hx hy h3 h5 h6 g3 g6 hld hls hj ha afj
 rw[hlen,←he]at r1 r2
 show Oper.upon P _ a K' Q' _
 rw[hex]
 refine hkk _ _ _ _ _ (hf.put d (.int _ _)) r1 r2 ⟨(),rfl,?_⟩
 refine cu.setw h3 h4 h6 (.inr rfl) hb ?_
 have:=adu (a:=ia) (p:=fun e=>e.cells.size=s/\e.cells.toList.all scal=true) hes (S:=(b2.elems.drop ja).take (min ls ld)) (fun e he=>afj e (List.mem_of_mem_drop (List.mem_of_mem_take he)))
 rw[hlen,←he]at this
 exact this
theorem anx{F:List Nat}{u:Value}{es:List Value}{k ia ja ld ls m1 m2:Nat}(hT:SL P T E)(hs:SZ P E s)(hs0:Nat.blt 0 s=true)(hk:jL u=some k)(hx:EV n f x (.slice (some ⟨k,ia,none⟩) ld m1))(hy:EV n f y (.slice (some ⟨k,ja,none⟩) ls m2))
   (hld:ld≠0) (hls:ls≠0) (hj:ja+min ls ld<=es.length) (ha:ia<=es.length) {es':List Value} (he:es'=es.take ia++(es.drop ja).take (min ls ld)++es.drop (ia+min ls ld)) (hb:es'.length<4611686018427387904):
   XC P n ⟨d,.call ⟨.builtin .copy,[x,y].toArray,(T::T2::ts).toArray⟩,T',ps,af,gd⟩ f [aQ (aP E (aG (fZ s))) F u es] (fun _:Unit=>.int .i64 ((min ls ld:Nat):Int))
     (fun _=>[aQ (aP E (aG (fZ s))) F (.slice (some ⟨k,0,none⟩) es'.length 2) es']):=by
 intro H cu
 have ho:aP E (aG (fZ s)) F H u es:=cu.hold (aQ (aP E (aG (fZ s))) F u es) (by simp)
 obtain⟨-,m',b,G,-,-,h3,h4,h5,h6,-,rfl,h9⟩:=ho.head hk
 obtain⟨rfl,rfl,hes⟩:=NH h9
 intro ρ w a K' Q' hr hf hkk
 have hlen:((b.elems.drop ja).take (min ls ld)).length=min ls ld:=by rw[List.length_take,List.length_drop]; omega
 obtain⟨w',hex,r1,r2⟩:=abr (d:=d) (ts:=ts) (T':=T') (ps:=ps) (af:=af) (gd:=gd) (T2:=T2) hT hs (by simpa[Nat.blt_eq]using hs0) hr hf hx hy h3 h5 h6 h3 h6 hld hls hj ha hes
 rw[hlen,←he]at r1 r2
 show Oper.upon P _ a K' Q' _
 rw[hex]
 refine hkk _ _ _ _ _ (hf.put d (.int _ _)) r1 r2 ⟨(),rfl,?_⟩
 refine cu.setw h3 h4 h6 (.inr rfl) hb ?_
 have:=adu (a:=ia) (p:=fun e=>e.cells.size=s/\e.cells.toList.all scal=true) hes (S:=(b.elems.drop ja).take (min ls ld)) (fun e he=>hes e (List.mem_of_mem_drop (List.mem_of_mem_take he)))
 rw[hlen,←he]at this
 exact this
end
section
variable{P:Program} [bT P]{n:Nat}{f:Fr}{d:Option Tmp}{x y:Operand}{T T2 T' E B:TypeId}{ts:List TypeId}{ps:String}{af:Array Edge}{gd:Option (Nat×Bool)}{s:Nat}
theorem alC{g:FuncId}{F F2:List Nat}{u u2:Value}{es es2:List Value}{k k2 ia ib la lb m1 m2:Nat}(hT:SL P T E)(hs:SZ P E s)(hs0:Nat.blt 0 s=true)
   (hov:∀args w,(callFunc g args).run P w=((Extern.SlicesOverlaps.overlaps #[T,T] #[B] args).run P w).andThen fun v w'=>.ok (.value v) w')
   (hk:jL u=some k) (hk2:jL u2=some k2) (hx:EV n f x (.slice (some ⟨k,ia,none⟩) la m1)) (hy:EV n f y (.slice (some ⟨k2,ib,none⟩) lb m2)) (hla:la≠0) (hlb:lb≠0):
   XC P n ⟨d,.call ⟨.value (.func g),[x,y].toArray,ts.toArray⟩,T',ps,af,gd⟩ f [aQ (aP E (aG (fZ s))) F u es,aQ (aP E (aG (fZ s))) F2 u2 es2] (fun _:Unit=>.bool false)
     (fun _=>[aQ (aP E (aG (fZ s))) F u es,aQ (aP E (aG (fZ s))) F2 u2 es2]):=by
 intro H cu
 have ho:aP E (aG (fZ s)) F H u es:=cu.hold (aQ (aP E (aG (fZ s))) F u es) (by simp)
 have ho2:aP E (aG (fZ s)) F2 H u2 es2:=cu.hold (aQ (aP E (aG (fZ s))) F2 u2 es2) (by simp)
 obtain⟨-,m',b,G,-,-,h3,h4,h5,h6,-,rfl,h9⟩:=ho.head hk
 obtain⟨-,m2',b2,G2,-,-,g3,-,g5,g6,-,rfl,g9⟩:=ho2.head hk2
 have atp:k≠k2:=by
   intro e; subst e
   have:=cu.nd
   simp[foot,aQ]at this
 intro ρ w a K' Q' hr hf hkk
 have Ue:0<s:=by simpa[Nat.blt_eq]using hs0
 obtain⟨L,p,cap,hl,hbr,hc,-,-,-,hp⟩:=(hx.use hf).slice_inv hr h3
 obtain⟨La,afk,t_⟩:=(hx.use hf).slice_ext hr h3 hla
 rw[hl]at afk
 obtain rfl:L=La:=by simpa using afk
 obtain⟨L2,p2,cap2,hl2,OA,hc2,-,-,-,hp2⟩:=(hy.use hf).slice_inv hr g3
 obtain⟨Lb,afl,apG⟩:=(hy.use hf).slice_ext hr g3 hlb
 rw[hl2]at afl
 obtain rfl:L2=Lb:=by simpa using afl
 have hown:L.own=true:=by rw[←hbr.own]; exact h5
 have hown2:L2.own=true:=by rw[←OA.own]; exact g5
 have jU:L.sz=s:=by rw[←hbr.sz,h6,hs.cells]
 have afi:L2.sz=s:=by rw[←OA.sz,g6,hs.cells]
 obtain⟨cs,ct,fr,oN,-,hr2⟩:=hbr.cells
 obtain⟨hoff,o6,-,hfr,-⟩:=hr2 hown
 obtain⟨cs2,ct2,fr2,atq,-,atr⟩:=OA.cells
 obtain⟨ax3,aok,-,-,-⟩:=atr hown2
 have lq:=hp hla
 have Ud:=hp2 hlb
 have hne:L.blk≠L2.blk:=fun e=>atp (hr.inj k k2 L L2 hl hl2 hown e)
 have e1:=t_ hown
 have e2:=apG hown2
 have q1:(ia+la)*s<=cs.size:=Nat.le_trans (by rw[jU]; exact Nat.mul_le_mul_right _ e1) o6
 have q2:(ib+lb)*s<=cs2.size:=Nat.le_trans (by rw[afi]; exact Nat.mul_le_mul_right _ e2) aok
 have q3:0<(ib+lb)*s:=Nat.mul_pos (by omega) Ue
 have q4:ia*s<=(ia+la)*s:=Nat.mul_le_mul_right _ (by omega)
 have hfz:∀o,o<=cs.size->w.frozen? ⟨L.blk,o,none⟩=false:=fun o ho=>by
   have:=hfr o ho
   simp only[World.frozen?,oN]
   simpa using this
 have hrun:=Lib.run_overlaps_apart (P:=P) w T B E hT s (fun w=>hs.run w) p p2 la cap lb cap2 (by rw[lq,Ud]; exact hne) ct ct2 cs.size cs2.size (by rw[lq]; simp[World.shape?,oN]) (by rw[Ud]; simp[World.shape?,atq]) (by omega)
   (by rw[lq]; exact hfz _ (by rw[hoff,jU]; omega)) (by rw[lq]; exact hfz _ (Nat.le_refl _))
 have hex:(execOp a.eval ⟨d,.call ⟨.value (.func g),[x,y].toArray,ts.toArray⟩,T',ps,af,gd⟩).run P w= .ok (.value (.bool false)) w:=by
   have h1:=hov #[.slice (some p) la cap,.slice (some p2) lb cap2] w
   rw[hrun]at h1
   simp only[Result.andThen_ok]at h1
   have e0:a.eval (.func g)= .func (.func g) #[] #[]:=rfl
   simp[execOp,resolve,invoke,Deferred.ofValue,e0,hc,hc2,h1]
 show Oper.upon P _ a K' Q' _
 rw[hex]
 exact hkk _ _ _ _ _ (hf.put d (.bool _)) hr (Step.refl _ _ _) ⟨(),rfl,cu⟩
theorem aiO(z:Array Value)(q:Nat):Builtin.zeroCells z q=madeCells z (q*z.size):=rfl
theorem aj7{F:List Nat}{u zv:Value}{es:List Value}{k i q c by':Nat}{kq kn:IntKind}(hT:SL P T E)(hTI:P.underlying T2=some (.int kn))(ht:TY P E s by' zv)(hs0:Nat.blt 0 s=true)(hzs:zv.cells.size=s)(hzl:zv.cells.toList.all scal=true)(hzc:wW zv=true)(hby:Nat.ble by' 16384=true)
   (hk:jL u=some k) (hx:EV n f x (.slice (some ⟨k,0,none⟩) i (c+3))) (hy:EV n f y (.int kq (q:Int))) (hc:c<i+q) (hi:i<=es.length) (hq:0<q) (hb:i+q<4294967296):
   XC P n ⟨d,.call ⟨.builtin .append,[x,y].toArray,[T,T2].toArray⟩,T',ps,af,gd⟩ f [aQ (aP E (aG (fZ s))) F u es] (fun k':Nat=>.slice (some ⟨k',0,none⟩) (i+q) 2)
     (fun k'=>[aQ (aP E (aG (fZ s))) [k'] (.slice (some ⟨k',0,none⟩) (i+q) 2) (es.take i++List.replicate q zv),aQ (aP E (aG (fZ s))) F u es]):=by
 intro H cu
 have Ue:0<s:=by simpa[Nat.blt_eq]using hs0
 have FM:by'<=16384:=by simpa[Nat.ble_eq]using hby
 obtain⟨iE,uz,h1,h2,h3z⟩:=ht.inv
 have ho:aP E (aG (fZ s)) F H u es:=cu.hold (aQ (aP E (aG (fZ s))) F u es) (by simp)
 obtain⟨-,m',b,G,hu',-,h3,h4,h5,h6,h7,rfl,h9⟩:=ho.head hk
 obtain⟨rfl,rfl,hes⟩:=NH h9
 intro ρ w a K' Q' hr hf hkk
 obtain⟨L,p,cap,hl,hbr,hcx,hcap,g1,g2,gp⟩:=(hx.use hf).slice_inv hr h3
 obtain⟨-,hown,J9,lq,g5⟩:=g2 (by omega)
 have:=g5 (by omega)
 obtain rfl:cap=c:=by omega
 have hcy:a.eval y= .int kq (q:Int):=(hy.use hf).int_inv
 have hr1:Rel P ρ H w.drew:=hr.of_heap rfl
 have hcz:P.cellsOf b.ty=s:=by rw[h6]; exact ht.sz.cells
 have jU:L.sz=s:=by rw[←hbr.sz,hcz]
 obtain⟨cells,hrun,hrel⟩:=hr1.cellsOf (i:=0) (m:=i) hl h3 hcz Ue (by omega)
 rw[List.drop_zero,Nat.zero_mul,Nat.add_zero]at*
 obtain⟨newCap,hnew,hnc⟩:∃nc,i+q<=nc/\grownCap w (i+q) cap E=nc:=⟨_,grownCap_ge w (i+q) cap E,rfl⟩
 have happ:=Lib.run_append_grow_zeros (P:=P) w T T2 T' E iE zv kq kn hT hTI uz h3z (some p) i cap cells.toList (by rw[lq,h1]; exact hrun) q hq (by omega) hc (by omega)
   (by rw[h2]; exact Nat.le_trans (Nat.mul_le_mul (show q<=4294967296 by omega) FM) (by decide))
   (by rw[h2]; exact growslice_fits hc (Nat.le_trans (Nat.mul_le_mul (show i+q<=4294967296 by omega) FM) (by decide)))
 rw[hnc]at happ
 have hex:(execOp a.eval ⟨d,.call ⟨.builtin .append,[x,y].toArray,[T,T2].toArray⟩,T',ps,af,gd⟩).run P w=
     .ok (.value (.slice (some ⟨w.heap.size,0,none⟩) (i+q) newCap)) (w.drew.alloc (.cells (cells++Builtin.zeroCells zv.cells q++Builtin.zeroCells zv.cells (newCap-(i+q))) E)):=by
   simp[execOp,resolve,invoke,builtin,hcx,hcy,happ]
 show Oper.upon P _ a K' Q' _
 rw[hex]
 have hcl:cells.toList.length=i*s:=by
   rw[←hrel.length,BH (s:=s) _ (fun e he=>(hes e (List.mem_of_mem_take he)).1),List.length_take,Nat.min_eq_left hi]
 have hcsz:cells.size=i*s:=by simpa using hcl
 have hpush:=hr1.push (g:=true) (w':=w.drew.alloc (.cells (cells++Builtin.zeroCells zv.cells q++Builtin.zeroCells zv.cells (newCap-(i+q))) E)) (cs:=cells++Builtin.zeroCells zv.cells q++Builtin.zeroCells zv.cells (newCap-(i+q))) (ty:=E)
   (es:=b.elems.take i++List.replicate q zv) (sz:=s) (cap:=newCap) rfl ht.sz.cells
   (by
     intro j e he
     have htl:(b.elems.take i).length=i:=by simp; omega
     rcases Nat.lt_or_ge j i with hj|hj
     · rw[List.getElem?_append_left (by omega)]at he
       have:=bv.elems (ρ:=ρ) (b.elems.take i) cells.toList ((Builtin.zeroCells zv.cells q).toList++(Builtin.zeroCells zv.cells (newCap-(i+q))).toList) hrel (fun e he=>(hes e (List.mem_of_mem_take he)).1) j e he
       exact⟨(hes e (List.mem_of_mem_take (List.mem_of_getElem? he))).1,by simpa[List.append_assoc]using this⟩
     · rw[List.getElem?_append_right (by omega),htl]at he
       have hjq:j-i<q:=by
         rcases Nat.lt_or_ge (j-i) q with h|h
         · exact h
         · rw[List.getElem?_eq_none (by simpa using h)]at he; simp at he
       obtain rfl:zv=e:=by rw[List.getElem?_replicate,if_pos hjq]at he; simpa using he
       refine⟨hzs,?_⟩
       have hz:=aaX zv.cells q s (j-i) hzs hjq
       have hjs:j*s=i*s+(j-i)*s:=by rw[←Nat.add_mul]; congr 1; omega
       have ax4:(Builtin.zeroCells zv.cells q).toList.length=q*s:=by rw[acW,hzs]
       have hjl:(j-i)*s+s<=q*s:=by rw[←Nat.succ_mul]; exact Nat.mul_le_mul_right _ hjq
       rw[Array.toList_append,Array.toList_append,List.append_assoc,hjs,←hcl,←List.drop_drop,List.drop_append_of_le_length (Nat.le_refl _),List.drop_length,List.nil_append,List.drop_append_of_le_length (by omega),List.take_append_of_le_length (by rw[List.length_drop]; omega),aiO,hzs,hz]
       exact (bW.closed hzc).cells)
   (by
     rw[Array.size_append,Array.size_append,KR,KR,hcsz,hzs,←Nat.add_mul,←Nat.add_mul]
     exact Nat.mul_le_mul_right _ (by omega)) (by simp; omega)
 have tZ:Step ρ H w ρ H w.drew:=⟨Up.refl ρ,rfl,rfl,rfl,Nat.le_refl _,fun _ _ _=>rfl,fun _ _ h=>.inl h,Nat.le_refl _,fun _ _ h=>⟨h,rfl⟩⟩
 have hsp:=Step.push (b:=⟨b.elems.take i++List.replicate q zv,E,true,true⟩) (sz:=s) (cap:=newCap) hr1 (w':=w.drew.alloc (.cells (cells++Builtin.zeroCells zv.cells q++Builtin.zeroCells zv.cells (newCap-(i+q))) E)) rfl rfl rfl rfl
 refine hkk _ _ _ _ _ ((hf.up hsp.up).put d (bW.slice H.length 0 _ 2 ⟨w.heap.size,0,s,newCap,true⟩ _ newCap (gP _ _ _) hnew (by simp) (fun _=>⟨rfl,rfl,Nat.le_refl _,rfl,by omega⟩) (fun _=>⟨by simp,fun _=>Nat.le_trans (Nat.le_of_eq (Nat.zero_add _)) hnew⟩))) hpush (tZ.trans hsp) ⟨H.length,rfl,?_⟩
 have hkl:=nD h3
 have kP:gG H (H++[some ⟨b.elems.take i++List.replicate q zv,E,true,true⟩]):=NA _ _
 have hlen:(b.elems.take i++List.replicate q zv).length=i+q:=by simp; omega
 refine⟨by simp,kP,fun j hj _=>List.getElem?_append_left hj,?_,?_,?_⟩
 · intro c0 hcm
   rcases List.mem_cons.1 hcm with rfl|hcm2
   · refine .inr ⟨H.length,2,⟨b.elems.take i++List.replicate q zv,E,true,true⟩,[],by rw[hlen],.inr rfl,by simp,rfl,rfl,rfl,by omega,rfl,TE fun e he=>?_⟩
     rcases List.mem_append.1 he with h|h
     · exact hes e (List.mem_of_mem_take h)
     · rw[(List.mem_replicate.1 h).2]; exact⟨hzs,hzl⟩
   · obtain rfl:=List.mem_singleton.1 hcm2
     exact aD.keep _ (cu.hold _ (by simp)) kP fun j hj=>List.getElem?_append_left (cu.own j (by simpa[foot,aQ]using hj)).2
 · simp[foot,aQ]; omega
 · intro j hj
   simp only[foot,aQ,List.flatMap_cons,List.flatMap_nil,List.append_nil,List.cons_append,List.nil_append,List.mem_cons,List.not_mem_nil,or_false]at hj
   rcases hj with rfl|rfl
   · exact⟨.inr (Nat.le_refl _),by simp⟩
   · exact⟨.inl (by simp[foot,aQ]),by simp; omega⟩
end
section
variable{P:Program} [bT P]{n:Nat}{f:Fr}{d:Option Tmp}{x y:Operand}{T T2 T' E B:TypeId}{ts:List TypeId}{ps:String}{af:Array Edge}{gd:Option (Nat×Bool)}{s:Nat}{α:Type}{Ro:gB α}{F:List Nat}{u:Value}{xs:List α}{H:aB}
theorem BM [eu Ro]{k m l j:Nat}{kk:IntKind}(hT:SL P T E)(hs:SZ P E s)(hp:(aQ (aP E Ro) F u xs).P H)(hk:jL u=some k)(hx:EV n f x (.slice (some ⟨k,0,none⟩) l m))(hy:EV n f y (.int kk (j:Int)))(hj:j<=l):
   eY P n ⟨d,.slice T x (some y) none none,T',ps,af,none⟩ f H (.slice (some ⟨k,j,none⟩) (l-j) 0):=by
 have ho:aP E Ro F H u xs:=hp
 obtain⟨-,m',b,G,-,-,h3,-,-,h6,-⟩:=ho.head hk
 exact acn hT hs hx hy h3 h6 (by omega) (by omega)
theorem aol [eu Ro]{k l c:Nat}(hT:SL P T E)(hp:(aQ (aP E Ro) F u xs).P H)(hk:jL u=some k)(hx:EV n f x (.slice (some ⟨k,0,none⟩) l (c+3))):
   eY P n ⟨d,.call ⟨.builtin .cap,[x].toArray,(T::ts).toArray⟩,T',ps,af,none⟩ f H (.int .i64 (c:Int)):=by
 have ho:aP E Ro F H u xs:=hp
 obtain⟨-,m',b,G,-,-,h3,-⟩:=ho.head hk
 exact apD hT hx h3
theorem abK [eu Ro]{k l c j:Nat}{kk:IntKind}(hT:SL P T E)(hs:SZ P E s)(hp:(aQ (aP E Ro) F u xs).P H)(hk:jL u=some k)(hx:EV n f x (.slice (some ⟨k,0,none⟩) l (c+3)))(hy:EV n f y (.int kk (j:Int)))(hj:j<=c):
   eY P n ⟨d,.slice T x none (some y) none,T',ps,af,none⟩ f H (.slice (some ⟨k,0,none⟩) j (c+3)):=by
 have ho:aP E Ro F H u xs:=hp
 obtain⟨-,m',b,G,-,-,h3,-⟩:=ho.head hk
 exact alB hT hs hx hy h3 hj
theorem alD{es:List Value}{j:Nat}{kk:IntKind}(hT:SL P T E)(hs:SZ P E s)(hx:EV n f x u)(hy:EV n f y (.int kk (j:Int)))(hj:j<=es.length):
   XC P n ⟨d,.slice T x (some y) none none,T',ps,af,none⟩ f [aQ (aP E (aG (fZ s))) F u es] (fun w:Value=>w) (fun _=>[aQ (aP E (aG (fZ s))) F u es]):=by
 intro H cu
 have ho:aP E (aG (fZ s)) F H u es:=cu.hold (aQ (aP E (aG (fZ s))) F u es) (by simp)
 have ho':=ho
 rcases ho with⟨rfl,rfl,rfl⟩|⟨k,m,b,G,rfl,-⟩
 · refine Sw (v:=.slice none 0 0) (fun ρ w a hr hf=>?_) ⟨.slice none 0 0,rfl,cu⟩
   have hc:a.eval x= .slice none 0 0:=by have:=hx.use hf; generalize a.eval x=c at this; cases this; rfl
   have hyv:a.eval y= .int kk (j:Int):=(hy.use hf).int_inv
   have hj0:j=0:=by simpa using hj
   subst hj0
   have hu:P.underlying T=some (.slice E):=hT
   have he:P.elem T=E:=by simp[Program.elem,hu]
   have hu2:P.underlying T=some (.slice (P.elem T)):=by rw[he]; exact hu
   refine⟨.slice none 0 0,?_,.nilSlice⟩
   have hrun:=run_slice_l (P:=P) w T none 0 0 hu2 kk 0 (by omega) (by omega)
   rw[he,hs.run,Result.andThen]at hrun
   have h2':=run_sliceAt_slice (P:=P) w T (.slice none 0 0) (some (.int kk 0)) none none hu2
   have att:a.eval y= .int kk 0:=hyv
   simp[execOp,hc,att,h2',hrun,sliced]
 · refine Sw (v:=.slice (some ⟨k,j,none⟩) (es.length-j) 0) (BM hT hs ho' rfl hx hy hj) ⟨_,rfl,cu⟩
end
end Go.Fw
namespace Go.Fw
section
variable{es:List Value}{e z:Value}{i:Nat}
theorem anz(hi:i<=es.length):(es.take i++e::es.drop i).length=es.length+1:=by simp; omega
theorem aom(hi:i<es.length):es.take i++e::List.replicate (es.length-i) z=(es.take i++List.replicate (es.length+1-i) z).take i++([e].drop 0).take (min 1 (es.length+1-i))++(es.take i++List.replicate (es.length+1-i) z).drop (i+min 1 (es.length+1-i)):=by
 have hl:(es.take i).length=i:=by simp; omega
 have hm:min 1 (es.length+1-i)=1:=by omega
 rw[hm,List.take_append_of_le_length (by omega),List.take_of_length_le (l:=es.take i) (by omega),←List.drop_drop,List.drop_append_of_le_length (by omega),List.drop_of_length_le (l:=es.take i) (by omega),List.nil_append,List.drop_replicate,show es.length+1-i-1=es.length-i by omega]
 simp
theorem aon(hi:i<es.length):es.take i++e::es.drop i=(es.take i++e::List.replicate (es.length-i) z).take (i+1)++(es.drop i).take (min (es.length-i) (es.length+1-(i+1)))++(es.take i++e::List.replicate (es.length-i) z).drop (i+1+min (es.length-i) (es.length+1-(i+1))):=by
 have hl:(es.take i).length=i:=by simp; omega
 have hm:min (es.length-i) (es.length+1-(i+1))=es.length-i:=by omega
 rw[hm,List.take_of_length_le (l:=es.drop i) (by simp),List.drop_of_length_le (l:=es.take i++e::List.replicate (es.length-i) z) (by simp; omega),List.append_nil,List.take_append,hl,List.take_of_length_le (l:=es.take i) (by omega),show i+1-i=1 by omega]
 simp
theorem aoo(hi:i<es.length):es.take (i+1)++es.drop i=es.take (i+1)++(es.drop i).take (min (es.length+1-i) (es.length+1-(i+1)))++es.drop (i+1+min (es.length+1-i) (es.length+1-(i+1))):=by
 have hm:min (es.length+1-i) (es.length+1-(i+1))=es.length-i:=by omega
 rw[hm,List.take_of_length_le (l:=es.drop i) (by simp),List.drop_of_length_le (l:=es) (i:=i+1+(es.length-i)) (by omega),List.append_nil]
theorem aoq(hi:i<es.length):es.take i++e::es.drop i=(es.take (i+1)++es.drop i).take i++([e].drop 0).take (min 1 (es.length+1-i))++(es.take (i+1)++es.drop i).drop (i+min 1 (es.length+1-i)):=by
 have hl:(es.take (i+1)).length=i+1:=by simp; omega
 have hm:min 1 (es.length+1-i)=1:=by omega
 rw[hm,List.take_append_of_le_length (by omega),List.take_take,Nat.min_eq_left (by omega),List.drop_append_of_le_length (by omega),List.drop_of_length_le (l:=es.take (i+1)) (by omega),List.nil_append]
 simp
end
end Go.Fw
namespace Go.Fw
section
variable{P:Program} [bT P]{α:Type}{Ro:gB α}{E:TypeId}{s:Nat}{H H':aB}{F:List Nat}{u:Value}{xs:List α}
theorem aP.rawD [mX Ro s](h:aP E Ro F H u xs):∃(es:List Value)(Fh G:List Nat),F=Fh++G/\aP E (aG (fZ s)) Fh H u es/\dO Ro H es xs G:=by
 rcases h with⟨rfl,rfl,rfl⟩|⟨k,m,b,G,rfl,h2,h3,h4,h5,h6,h7,rfl,h9⟩
 · exact⟨[],[],[],rfl,.inl ⟨rfl,rfl,rfl⟩,.nil⟩
 · exact⟨b.elems,[k],G,rfl,.inr ⟨k,m,b,[],by rw[h9.length],h2,h3,h4,h5,h6,by rw[h9.length]; exact h7,rfl,TE (h9.cells (s:=s))⟩,h9⟩
theorem aP.unrawD{es:List Value}{G:List Nat}(h:aP E (aG (fZ s)) F H u es)(hne:es≠[])(hE:dO Ro H es xs G):aP E Ro (F++G) H u xs:=by
 have hl:=hE.length
 rcases h with⟨rfl,rfl,rfl⟩|⟨k,m,b,G0,rfl,h2,h3,h4,h5,h6,h7,rfl,h9⟩
 · exact absurd rfl hne
 · obtain⟨rfl,rfl,-⟩:=NH h9
   exact .inr ⟨k,m,b,G,by rw[hl],h2,h3,h4,h5,h6,by rw[←hl]; exact h7,rfl,hE⟩
theorem dO.cut{es:List Value}{G:List Nat}(h:dO Ro H es xs G):∀i,∃Ga Gb,G=Ga++Gb/\dO Ro H (es.take i) (xs.take i) Ga/\dO Ro H (es.drop i) (xs.drop i) Gb:=by
 induction h with
 |nil=>intro i; exact⟨[],[],rfl,by simpa using dO.nil,by simpa using dO.nil⟩
 | @cons e es a xs F G h t ih=>
   intro i
   cases i with
   |zero=>exact⟨[],F++G,rfl,.nil,.cons h t⟩
   |succ i=>
     obtain⟨Ga,Gb,rfl,h1,h2⟩:=ih i
     exact⟨F++Ga,Gb,by rw[List.append_assoc],.cons h h1,h2⟩
theorem al8 [eu Ro] [Local Ro] [mX Ro s]{g:FuncId}{v iv:Value}{F2:List Nat}{a:α}{i:Nat}
   (hraw:∀(es:List Value)(e:Value)(Fa Fb:List Nat),es.length=xs.length->Fw.Spec P g [v,iv,u] [aQ (aP E (aG (fZ s))) Fa v es,aQ (aP E (aG (fZ s))) Fb u [e]] (fun q:Sv×List Nat=>q.1.v) (fun q=>[aQ (aP E (aG (fZ s))) q.2 q.1.v (es.take i++e::es.drop i)])):
   Fw.Spec P g [v,iv,u] [aQ (aP E Ro) F v xs,aQ (aP E Ro) F2 u [a]] (fun q:Sv×List Nat=>q.1.v) (fun q=>[aQ (aP E Ro) q.2 q.1.v (xs.take i++a::xs.drop i)]):=by
 intro H F0 cu ρ w jH hr hargs
 have ho:aP E Ro F H v xs:=cu.hold (aQ (aP E Ro) F v xs) (by simp)
 have ho2:aP E Ro F2 H u [a]:=cu.hold (aQ (aP E Ro) F2 u [a]) (by simp)
 obtain⟨es,Fh,G,rfl,h1,h2⟩:=ho.rawD
 obtain⟨es2,rO,G2,rfl,g1,g2⟩:=ho2.rawD
 have hl2:=g2.length
 obtain⟨e,rfl⟩:∃e,es2=[e]:=by
   rcases es2 with _|⟨e,_|⟨_,_⟩⟩
   · simp at hl2
   · exact⟨e,rfl⟩
   · simp at hl2
 have hfp:foot [aQ (aP E Ro) (Fh++G) v xs,aQ (aP E Ro) (rO++G2) u [a]]=(Fh++G)++(rO++G2):=by simp[foot,aQ]
 have hnd:=cu.nd
 rw[hfp]at hnd
 have hown:∀q∈(Fh++G)++(rO++G2),q∈F0/\q<H.length:=fun q hq=>by
   obtain⟨h1,h2⟩:=cu.own q (by rw[hfp]; exact hq)
   exact⟨h1.resolve_right (by omega),h2⟩
 obtain⟨n1,n2,n3⟩:=List.nodup_append.1 hnd
 obtain⟨n4,n5,n6⟩:=List.nodup_append.1 n1
 obtain⟨n7,n8,n9⟩:=List.nodup_append.1 n2
 have afm:∀k∈G++G2,k∉Fh++rO:=by
   intro k hk hk2
   rcases List.mem_append.1 hk with hk|hk<;>rcases List.mem_append.1 hk2 with hk2|hk2
   · exact n6 k hk2 k hk rfl
   · exact n3 k (by simp[hk]) k (by simp[hk2]) rfl
   · exact n3 k (by simp[hk2]) k (by simp[hk]) rfl
   · exact n9 k hk2 k hk rfl
 have hin:∀k∈Fh++rO,k∈(Fh++G)++(rO++G2):=fun k hk=>by
   rcases List.mem_append.1 hk with hk|hk<;>simp[hk]
 have hin2:∀k∈G++G2,k∈(Fh++G)++(rO++G2):=fun k hk=>by
   rcases List.mem_append.1 hk with hk|hk<;>simp[hk]
 have Qr:foot [aQ (aP E (aG (fZ s))) Fh v es,aQ (aP E (aG (fZ s))) rO u [e]]=Fh++rO:=by simp[foot,aQ]
 have hc2:Ctx H (Fh++rO) H [aQ (aP E (aG (fZ s))) Fh v es,aQ (aP E (aG (fZ s))) rO u [e]]:=
   ⟨Nat.le_refl _,gG.refl _,fun _ _ _=>rfl,fun c hc=>by
     rcases List.mem_cons.1 hc with rfl|hc
     · exact h1
     · obtain rfl:=List.mem_singleton.1 hc
       exact g1,by rw[Qr]; exact List.nodup_append.2 ⟨n4,n7,fun x hx y hy e=>n3 x (by simp[hx]) y (by simp[hy]) e⟩,fun q hq=>by
     rw[Qr]at hq
     exact⟨.inl hq,(hown q (hin q hq)).2⟩⟩
 refine (hraw es e Fh rO h2.length H (Fh++rO) hc2 ρ w jH hr hargs).mono ?_
 rintro en w' ⟨v0,r,ρ',H',rfl,q1,q2,q3,q,rfl,q4⟩
 have hsame:∀k∈G++G2,H'[k]?=H[k]?:=fun k hk=>q4.agr k (hown k (hin2 k hk)).2 (afm k hk)
 have e1:=h2.local (H':=H') (fun k hk=>hsame k (by simp[hk]))
 have e2:=g2.local (H':=H') (fun k hk=>hsame k (by simp[hk]))
 obtain⟨Ga,Gb,rfl,e3,e4⟩:=e1.cut i
 have apH:aP E (aG (fZ s)) q.2 H' q.1.v (es.take i++e::es.drop i):=q4.hold (aQ (aP E (aG (fZ s))) q.2 q.1.v (es.take i++e::es.drop i)) (by simp)
 have hfin:=apH.unrawD (by simp) (e3.append (e2.append e4))
 have hq:∀k∈q.2,(k∈Fh++rO\/H.length<=k)/\k<H'.length:=fun k hk=>q4.own k (by simpa[foot,aQ]using hk)
 have hmem:∀k∈Ga++(G2++Gb),k∈(Ga++Gb)++G2:=fun k hk=>by
   simp only[List.mem_append]at hk ⊢
   rcases hk with hk|hk|hk<;>simp[hk]
 have atu:((Ga++Gb)++G2).Nodup:=List.nodup_append.2 ⟨n5,n8,fun x hx y hy e=>n3 x (List.mem_append_right _ hx) y (List.mem_append_right _ hy) e⟩
 have hperm:(Ga++(G2++Gb)).Perm ((Ga++Gb)++G2):=by
   rw[List.append_assoc]
   exact (List.perm_append_comm).append_left Ga
 refine⟨v0,_,ρ',H',rfl,q1,q2,q3,(q.1,q.2++(Ga++(G2++Gb))),rfl,q4.len,q4.imm,fun k hk uA=>q4.agr k hk (fun h=>uA (hown k (hin k h)).1),fun c hc=>?_,?_,fun k hk=>?_⟩
 · obtain rfl:=List.mem_singleton.1 hc
   exact hfin
 · simp only[foot,aQ,List.flatMap_cons,List.flatMap_nil,List.append_nil]
   refine List.nodup_append.2 ⟨by have:=q4.nd; simpa[foot,aQ]using this,hperm.nodup_iff.2 atu,fun x hx y hy e=>?_⟩
   subst e
   have hy':=hmem x hy
   rcases (hq x hx).1 with h|h
   · exact afm x hy' h
   · have:=(hown x (hin2 x hy')).2; omega
 · simp only[foot,aQ,List.flatMap_cons,List.flatMap_nil,List.append_nil]at hk
   rcases List.mem_append.1 hk with hk|hk
   · exact⟨(hq k hk).1.imp (fun h=>(hown k (hin k h)).1) id,(hq k hk).2⟩
   · have:=hown k (hin2 k (hmem k hk))
     exact⟨.inl this.1,Nat.lt_of_lt_of_le this.2 q4.len⟩
end
end Go.Fw
namespace Go.Fw
section
variable{P:Program} [bT P]{n:Nat}{f:Fr}{d:Option Tmp}{x y:Operand}{T T2 T' E:TypeId}{ts:List TypeId}{ps:String}{af:Array Edge}{gd:Option (Nat×Bool)}{s:Nat}{H:aB}
theorem ac0(hT:SL P T E)(hx:EV n f x (.slice none 0 0)):eY P n ⟨d,.call ⟨.builtin .cap,[x].toArray,(T::ts).toArray⟩,T',ps,af,none⟩ f H (.int .i64 0):=by
 intro ρ w a hr hf
 have hc:a.eval x= .slice none 0 0:=by have:=hx.use hf; generalize a.eval x=c at this; cases this; rfl
 have hu:P.underlying T=some (.slice E):=hT
 exact⟨.int .i64 0,by simp[execOp,resolve,invoke,builtin,Builtin.cap_,hc,goInt,underlying,hu],.int _ _⟩
theorem aj8{kk:IntKind}(hT:SL P T E)(hs:SZ P E s)(hx:EV n f x (.slice none 0 0))(hy:EV n f y (.int kk 0)):eY P n ⟨d,.slice T x none (some y) none,T',ps,af,none⟩ f H (.slice none 0 0):=by
 intro ρ w a hr hf
 have hc:a.eval x= .slice none 0 0:=by have:=hx.use hf; generalize a.eval x=c at this; cases this; rfl
 have hyv:a.eval y= .int kk 0:=(hy.use hf).int_inv
 have hu:P.underlying T=some (.slice E):=hT
 have he:P.elem T=E:=by simp[Program.elem,hu]
 have hu2:P.underlying T=some (.slice (P.elem T)):=by rw[he]; exact hu
 refine⟨.slice none 0 0,?_,.nilSlice⟩
 have hrun:=run_slice_h (P:=P) w T none 0 0 hu2 kk 0 (by omega) (by omega)
 rw[he,hs.run,Result.andThen]at hrun
 have h2':=run_sliceAt_slice (P:=P) w T (.slice none 0 0) none (some (.int kk 0)) none hu2
 simp[execOp,hc,hyv,h2',hrun,sliced]
theorem al9{α:Type}{Ro:gB α} [eu Ro]{zv:Value}{q by':Nat}{kq kn:IntKind}(hT:SL P T E)(hTI:P.underlying T2=some (.int kn))(ht:TY P E s by' zv)(hs0:Nat.blt 0 s=true)(hzs:zv.cells.size=s)(hby:Nat.ble by' 16384=true)
   (hx:EV n f x (.slice none 0 0)) (hy:EV n f y (.int kq (q:Int))) (hq:0<q) (hb:q<4294967296):
   XC P n ⟨d,.call ⟨.builtin .append,[x,y].toArray,[T,T2].toArray⟩,T',ps,af,gd⟩ f [] (fun k':Nat=>.slice (some ⟨k',0,none⟩) q 2) (fun k'=>[aQ (aP E Ro) [k'] (.slice (some ⟨k',0,none⟩) 0 2) []]):=by
 intro H cu
 have Ue:0<s:=by simpa[Nat.blt_eq]using hs0
 have FM:by'<=16384:=by simpa[Nat.ble_eq]using hby
 obtain⟨iE,uz,h1,h2,h3z⟩:=ht.inv
 intro ρ w a K' Q' hr hf hkk
 have hcx:a.eval x= .slice none 0 0:=by have:=hx.use hf; generalize a.eval x=c at this; cases this; rfl
 have hcy:a.eval y= .int kq (q:Int):=(hy.use hf).int_inv
 have hr1:Rel P ρ H w.drew:=hr.of_heap rfl
 obtain⟨newCap,hnew,hnc⟩:∃nc,0+q<=nc/\grownCap w (0+q) 0 E=nc:=⟨_,grownCap_ge w (0+q) 0 E,rfl⟩
 have happ:=Lib.run_append_grow_zeros (P:=P) w T T2 T' E iE zv kq kn hT hTI uz h3z none 0 0 [] (by simp[Builtin.firstCells]) q hq (by omega) (by omega) (by omega)
   (by rw[h2]; exact Nat.le_trans (Nat.mul_le_mul (show q<=4294967296 by omega) FM) (by decide))
   (by rw[h2]; exact growslice_fits (by omega) (Nat.le_trans (Nat.mul_le_mul (show 0+q<=4294967296 by omega) FM) (by decide)))
 rw[hnc]at happ
 simp only[Nat.zero_add]at happ hnew
 have hex:(execOp a.eval ⟨d,.call ⟨.builtin .append,[x,y].toArray,[T,T2].toArray⟩,T',ps,af,gd⟩).run P w=
     .ok (.value (.slice (some ⟨w.heap.size,0,none⟩) q newCap)) (w.drew.alloc (.cells (#[]++Builtin.zeroCells zv.cells q++Builtin.zeroCells zv.cells (newCap-q)) E)):=by
   simp[execOp,resolve,invoke,builtin,hcx,hcy,happ]
 show Oper.upon P _ a K' Q' _
 rw[hex]
 have hpush:=hr1.push (g:=true) (w':=w.drew.alloc (.cells (#[]++Builtin.zeroCells zv.cells q++Builtin.zeroCells zv.cells (newCap-q)) E)) (cs:=#[]++Builtin.zeroCells zv.cells q++Builtin.zeroCells zv.cells (newCap-q)) (ty:=E)
   (es:=[]) (sz:=s) (cap:=newCap) rfl ht.sz.cells (by simp)
   (by
     rw[Array.size_append,Array.size_append,KR,KR,hzs,Array.size_empty,Nat.zero_add,←Nat.add_mul]
     exact Nat.mul_le_mul_right _ (by omega)) (by simp)
 have tZ:Step ρ H w ρ H w.drew:=⟨Up.refl ρ,rfl,rfl,rfl,Nat.le_refl _,fun _ _ _=>rfl,fun _ _ h=>.inl h,Nat.le_refl _,fun _ _ h=>⟨h,rfl⟩⟩
 have hsp:=Step.push (b:=⟨[],E,true,true⟩) (sz:=s) (cap:=newCap) hr1 (w':=w.drew.alloc (.cells (#[]++Builtin.zeroCells zv.cells q++Builtin.zeroCells zv.cells (newCap-q)) E)) rfl rfl rfl rfl
 refine hkk _ _ _ _ _ ((hf.up hsp.up).put d (bW.slice H.length 0 _ 2 ⟨w.heap.size,0,s,newCap,true⟩ _ newCap (gP _ _ _) hnew (by simp) (fun _=>⟨rfl,rfl,Nat.le_refl _,rfl,by omega⟩) (fun _=>⟨by simp,fun _=>Nat.le_trans (Nat.le_of_eq (Nat.zero_add _)) hnew⟩))) hpush (tZ.trans hsp) ⟨H.length,rfl,?_⟩
 refine⟨by simp,NA _ _,fun j hj _=>List.getElem?_append_left hj,fun c hc=>?_,by simp[foot,aQ],fun j hj=>?_⟩
 · obtain rfl:=List.mem_singleton.1 hc
   exact .inr ⟨H.length,2,⟨[],E,true,true⟩,[],rfl,.inr rfl,by simp,rfl,rfl,rfl,by simp,rfl,.nil⟩
 · have:j=H.length:=by simpa[foot,aQ]using hj
   subst this
   exact⟨.inr (Nat.le_refl _),by simp⟩
end
end Go.Fw
namespace Go.Fw
section
variable{P:Program} [bT P]{n:Nat}{f:Fr}{H0:aB}{F0:List Nat}{cs:List aD}{A:Array Oper}{r:List Oper}{K:Fr->List aD->Prop}{d:Option Tmp}{x y:Operand}{T T' E:TypeId}{ps:String}{af:Array Edge}{α:Type}{Ro:gB α}{xs:List α}
theorem alE [eu Ro]{F:List Nat}{k l m s:Nat}{kk:IntKind}{i:Int}{u:Value}(hT:SL P T E)(hs:SZ P E s)(hx:EV n f x (.slice (some ⟨k,0,none⟩) l m))(hmm:m=1\/m=2)(hy:EV n f y (.int kk i))(hm:Mem (aQ (aP E Ro) F u xs) cs)(hk:jL u=some k)(h0:0<=i)(hi:i<=(l:Int))(hl:l≠0)
   (h:bA P n H0 F0 A r (put f d (.slice (some ⟨k,0,none⟩) i.toNat 2)) cs K):bA P n H0 F0 A (⟨d,.slice T x none (some y) none,T',ps,af,none⟩::r) f cs K:=
 fq hm (fun{H} ho=>by
   have ho:aP E Ro F H u xs:=ho
   obtain⟨-,m',b,G,rfl,-,h3,-,h5,-⟩:=ho.head hk
   exact aco hT hs hx hmm hy h3 h5 h0 hi hl) h
end
end Go.Fw
/-
 Rules that look up by themselves what they need: names of temporaries, facts of the context, facts of the program's tables. No conditions.
-/
set_option linter.unusedVariables false
namespace Go.Fw
open Go
class dA(P:Program) [bT P](t i:Nat)(off:outParam Nat):Prop where h:FD P t i off
class fH(P:Program) [bT P](t:Nat)(b:outParam Bool):Prop where h:AG P t b
class f_(P:Program) [bT P](t:Nat)(s b:outParam Nat)(z:outParam Value):Prop where h:TY P t s b z
class kQ(P:Program) [bT P](t:Nat)(e:outParam Nat):Prop where h:SL P t e
class aS(P:Program) [bT P](g:Nat):Prop where h:CF P g
section
variable{P:Program} [bT P]{n:Nat}{f:Fr}{H0:aB}{F0:List Nat}{cs pre rest:List aD}{c c':aD}{x y z:Operand}{v:Value}
theorem kZ(h:Mem c cs:=by
   first
   |((repeat (first|with_reducible exact Mem.h|with_reducible apply Mem.t)); done)
   |((repeat (first|exact Mem.h|apply Mem.t)); done)):Mem c cs:=h
theorem aey{r:List aD}(h:Sel cs c r:=by
   first
   |((repeat (first|with_reducible exact Sel.h|with_reducible apply Sel.t)); done)
   |((repeat (first|exact Sel.h|apply Sel.t)); done)):Sel cs c r:=h
theorem apI{α:Type}{R:aB->Value->α->Prop}{_:bE R}{a:α}(h:Mem (bK R v a) cs)(t:fO cs pre rest):fO cs (bK R v a::pre) rest:=.rd h rfl t
theorem apJ{k:Nat}{b:eT}(h:Mem (rC k b) cs)(t:fO cs pre rest):fO cs (rC k b::pre) rest:=.rd h rfl t
theorem p_(h:fO cs pre rest:=by
   first
   |exact fO.nil
   |((with_reducible refine' apI ?hm ?ht); (case hm=>exact kZ); (case ht=>exact p_))
   |((with_reducible refine' apJ ?hm ?ht); (case hm=>exact kZ); (case ht=>exact p_))
   |exact fO.cons aey p_
   |exact fO.rd kZ rfl p_):fO cs pre rest:=h
theorem d_(h:EV n f x v:=by
   first|exact EV.tmp rfl rfl|exact EV.int _ _|exact EV.bool _|exact EV.str _|exact EV.nilSlice|exact EV.nilPtr|exact EV.nilFunc|exact EV.nilIface|exact EV.fn _):EV n f x v:=h
theorem qd(h:EV n f x v:=by
   first
   |exact EV.tmp (v:=.int _ _) rfl rfl|exact EV.tmp (v:=.bool _) rfl rfl|exact EV.tmp (v:=Sv.v _) rfl rfl|exact EV.tmp (v:=.slice _ _ _) rfl rfl
   |exact EV.tmp (v:=.pointer _) rfl rfl|exact EV.tmp (v:=.agg _) rfl rfl|exact EV.tmp (v:=sv _) rfl rfl|exact EV.tmp (v:=.string _) rfl rfl
   |exact EV.tmp (v:=.func _ _ _) rfl rfl|exact EV.tmp (v:=.tuple _) rfl rfl|exact EV.tmp (v:=undef) rfl rfl
   |exact EV.int _ _|exact EV.bool _|exact EV.str _|exact EV.nilSlice|exact EV.nilPtr|exact EV.nilFunc|exact EV.nilIface|exact EV.fn _):EV n f x v:=h
theorem atV{o:Option Value}(h:o=some v:=by
   first
   |exact (rfl:_=some (Value.int _ _))|exact (rfl:_=some (Sv.v _))|exact (rfl:_=some (Value.bool _))|exact (rfl:_=some (Value.slice _ _ _))
   |exact (rfl:_=some (sv _))|exact (rfl:_=some (Value.string _))|exact (rfl:_=some (Value.pointer _))|exact (rfl:_=some (Value.func _ _ _))):o=some v:=h
theorem bZ{xs:List Operand}{vs:List Value}(h:jv n f xs vs:=by first|exact jv.nil|exact jv.cons d_ bZ):jv n f xs vs:=h
theorem aA{l:List (Nat×Value)}(h:gW f l:=by
   repeat (first|exact gW.nil|refine' gW.cons rfl ?_)):f=aM f l:=h.eq
variable{A:Array Oper}{r:List Oper}{K:Fr->List aD->Prop}{d:Option Tmp}{op:Op}{T T' T'' E:TypeId}{ps:String}{af:Array Edge}
theorem atv(hx:EV n f x v)(h:bA P n H0 F0 A r (put f d v) cs K):bA P n H0 F0 A (⟨d,.move x,T,ps,af,none⟩::r) f cs K:=aI (eG hx) h
theorem atw(hx:EV n f x v)(h:bA P n H0 F0 A r (put f d v) cs K):bA P n H0 F0 A (⟨d,.assign x,T,ps,af,none⟩::r) f cs K:=aI (lD hx) h
theorem adv{H:aB}{u:Value}(hc:EV n f x (.bool true))(hy:EV n f y u):eY P n ⟨d,.pick x y z,T,ps,af,none⟩ f H u:=
 fun ρ _ a _ hf=>⟨a.eval y,by simp[execOp,(hc.use hf).bool_inv,asBool],hy.use hf⟩
theorem adw{H:aB}{u:Value}(hc:EV n f x (.bool false))(hy:EV n f z u):eY P n ⟨d,.pick x y z,T,ps,af,none⟩ f H u:=
 fun ρ _ a _ hf=>⟨a.eval z,by simp[execOp,(hc.use hf).bool_inv,asBool],hy.use hf⟩
theorem apK(hc:EV n f x (.bool true))(hy:EV n f y v)(h:bA P n H0 F0 A r (put f d v) cs K):bA P n H0 F0 A (⟨d,.pick x y z,T,ps,af,none⟩::r) f cs K:=aI (adv hc hy) h
theorem apL(hc:EV n f x (.bool false))(hy:EV n f z v)(h:bA P n H0 F0 A r (put f d v) cs K):bA P n H0 F0 A (⟨d,.pick x y z,T,ps,af,none⟩::r) f cs K:=aI (adw hc hy) h
theorem atx{k i j fi off:Nat} [hF:dA P T fi off](hx:EV n f x (.pointer (some ⟨k,i,some j⟩)))(h:bA P n H0 F0 A r (put f d (.pointer (some ⟨k,i,some (j+off)⟩))) cs K):
   bA P n H0 F0 A (⟨d,.fieldAddr T x fi,T',ps,af,none⟩::r) f cs K:=aI (kK hF.h hx) h
theorem apM{k j:Nat}{TB:TypeId}{e:Value} [hA:fH P T false](hx:EV n f x (.pointer (some ⟨k,0,some j⟩)))(hm:Mem (rC k ⟨[e],TB,true,false⟩) cs)(hv:e.cells.toList[j]?=some v)
   (h:bA P n H0 F0 A r (put f d v) cs K):bA P n H0 F0 A (⟨d,.load T x,T',ps,af,none⟩::r) f cs K:=fq hm (fun hp=>gu hA.h hx hp.2 rfl hv) h
theorem apN{k j:Nat}{TB:TypeId}{e:Value} [hA:fH P T false](hx:EV n f x (.pointer (some ⟨k,0,some j⟩)))(hm:Mem (jg k ⟨[e],TB,true,true⟩) cs)(hv:e.cells.toList[j]?=some v)
   (h:bA P n H0 F0 A r (put f d v) cs K):bA P n H0 F0 A (⟨d,.load T x,T',ps,af,none⟩::r) f cs K:=fq hm (fun hp=>gu hA.h hx hp.2 rfl hv) h
theorem apO{k s b:Nat}{zv:Value}{TB:TypeId}{l:List Value} [hA:fH P T true] [ht:f_ P T s b zv](hx:EV n f x (.pointer (some ⟨k,0,some 0⟩)))(hm:Mem (rC k ⟨[.agg l.toArray],TB,true,false⟩) cs)(h0:Nat.blt 0 s=true)(hl:l.length=s)
   (h:bA P n H0 F0 A r (put f d (.agg l.toArray)) cs K):bA P n H0 F0 A (⟨d,.load T x,T',ps,af,none⟩::r) f cs K:=fq hm (fun hp=>lC hA.h ht.h.sz h0 hx hp.2 hl) h
theorem apP{k s b:Nat}{zv:Value}{TB:TypeId}{l:List Value} [hA:fH P T true] [ht:f_ P T s b zv](hx:EV n f x (.pointer (some ⟨k,0,some 0⟩)))(hm:Mem (jg k ⟨[.agg l.toArray],TB,true,true⟩) cs)(h0:Nat.blt 0 s=true)(hl:l.length=s)
   (h:bA P n H0 F0 A r (put f d (.agg l.toArray)) cs K):bA P n H0 F0 A (⟨d,.load T x,T',ps,af,none⟩::r) f cs K:=fq hm (fun hp=>lC hA.h ht.h.sz h0 hx hp.2 hl) h
theorem apQ{α:Type}{R:aB->Value->α->Prop}{_:bE R}{xs:List α}{ts:List TypeId} [hT:kQ P T E](hx:EV n f x v)(hm:Mem (bK (aJ E R) v xs) cs)
   (h:bA P n H0 F0 A r (put f d (.int .i64 xs.length)) cs K):bA P n H0 F0 A (⟨d,.call ⟨.builtin .len,[x].toArray,(T::ts).toArray⟩,T',ps,af,none⟩::r) f cs K:=fq hm (fun hp=>qw hT.h hx (Jn hp)) h
theorem aor{α:Type}{Ro:gB α}{_:eu Ro}{F:List Nat}{xs:List α}{ts:List TypeId} [hT:kQ P T E](hx:EV n f x v)(hm:Mem (aQ (aP E Ro) F v xs) cs)
   (h:bA P n H0 F0 A r (put f d (.int .i64 xs.length)) cs K):bA P n H0 F0 A (⟨d,.call ⟨.builtin .len,[x].toArray,(T::ts).toArray⟩,T',ps,af,none⟩::r) f cs K:=fq hm (fun hp=>qw hT.h hx (ER hp)) h
theorem aty{j:Nat}{t:Tmp}{b:Bool}(hd:(A[j]?).bind (·.dst)=some t)(hv:f t= .bool b)(ht:Nat.blt t n=true)(h:bA P n H0 F0 A (⟨d,op,T,ps,af,none⟩::r) f cs K):
   bA P n H0 F0 A (⟨d,op,T,ps,af,some (j,b)⟩::r) f cs K:=gI hd hv ht h
theorem atz{j:Nat}{t:Tmp}{b:Bool}(hd:(A[j]?).bind (·.dst)=some t)(hv:f t= .bool (!b))(ht:Nat.blt t n=true)(h:bA P n H0 F0 A r (put f d undef) cs K):
   bA P n H0 F0 A (⟨d,op,T,ps,af,some (j,b)⟩::r) f cs K:=fM hd hv ht h
theorem atA{j:Nat}{t:Tmp}{b:Bool}(hd:(A[j]?).bind (·.dst)=some t)(hv:f t=undef)(ht:Nat.blt t n=true)(h:bA P n H0 F0 A r (put f d undef) cs K):
   bA P n H0 F0 A (⟨d,op,T,ps,af,some (j,b)⟩::r) f cs K:=aob hd hv ht h
theorem apR{kk:IntKind}{q q2:Int}(hx:EV n f x (.int kk q))(hy:EV n f y (.int kk q2))(h:bA P n H0 F0 A r (put f d (.int kk (kk.wrap (q+q2)))) cs K):bA P n H0 F0 A (⟨d,.binOp .add T x y T',T'',ps,af,none⟩::r) f cs K:=aI (tX hx hy) h
theorem apS{kk:IntKind}{q q2:Int}(hx:EV n f x (.int kk q))(hy:EV n f y (.int kk q2))(h:bA P n H0 F0 A r (put f d (.int kk (kk.wrap (q-q2)))) cs K):bA P n H0 F0 A (⟨d,.binOp .sub T x y T',T'',ps,af,none⟩::r) f cs K:=aI (XX hx hy) h
theorem apT{kk:IntKind}{q q2:Int}(hx:EV n f x (.int kk q))(hy:EV n f y (.int kk q2))(h:bA P n H0 F0 A r (put f d (.int kk (kk.wrap (q*q2)))) cs K):bA P n H0 F0 A (⟨d,.binOp .mul T x y T',T'',ps,af,none⟩::r) f cs K:=aI (aek hx hy) h
theorem apU{kk:IntKind}{q q2:Int}(hx:EV n f x (.int kk q))(hy:EV n f y (.int kk q2))(h:bA P n H0 F0 A r (put f d (.bool (decide (q<q2)))) cs K):bA P n H0 F0 A (⟨d,.binOp .lss T x y T',T'',ps,af,none⟩::r) f cs K:=aI (XY hx hy) h
theorem apV{kk:IntKind}{q q2:Int}(hx:EV n f x (.int kk q))(hy:EV n f y (.int kk q2))(h:bA P n H0 F0 A r (put f d (.bool (decide (q<=q2)))) cs K):bA P n H0 F0 A (⟨d,.binOp .leq T x y T',T'',ps,af,none⟩::r) f cs K:=aI (TJ hx hy) h
theorem apW{kk:IntKind}{q q2:Int}(hx:EV n f x (.int kk q))(hy:EV n f y (.int kk q2))(h:bA P n H0 F0 A r (put f d (.bool (decide (q2<q)))) cs K):bA P n H0 F0 A (⟨d,.binOp .gtr T x y T',T'',ps,af,none⟩::r) f cs K:=aI (XZ hx hy) h
theorem apX{kk:IntKind}{q q2:Int}(hx:EV n f x (.int kk q))(hy:EV n f y (.int kk q2))(h:bA P n H0 F0 A r (put f d (.bool (decide (q2<=q)))) cs K):bA P n H0 F0 A (⟨d,.binOp .geq T x y T',T'',ps,af,none⟩::r) f cs K:=aI (ael hx hy) h
theorem apY{kk:IntKind}{q q2:Int}(hx:EV n f x (.int kk q))(hy:EV n f y (.int kk q2))(h:bA P n H0 F0 A r (put f d (.bool (q==q2))) cs K):bA P n H0 F0 A (⟨d,.binOp .eql T x y T',T'',ps,af,none⟩::r) f cs K:=aI (Ju hx hy) h
theorem apZ{kk:IntKind}{q q2:Int}(hx:EV n f x (.int kk q))(hy:EV n f y (.int kk q2))(h:bA P n H0 F0 A r (put f d (.bool (q !=q2))) cs K):bA P n H0 F0 A (⟨d,.binOp .neq T x y T',T'',ps,af,none⟩::r) f cs K:=aI (aem hx hy) h
theorem ap0{b:Bool}(hx:EV n f x (.bool b))(h:bA P n H0 F0 A r (put f d (.bool (!b))) cs K):bA P n H0 F0 A (⟨d,.unOp .not T x,T',ps,af,none⟩::r) f cs K:=aI (NM hx) h
variable{l:List Oper}{tb a_ todo:List Nat}{fl:List (Nat×List Nat)}{i:Nat}{gd:Option (Nat×Bool)}
theorem kR(h:Wt n l f gd:=by first|exact Wt.no|exact Wt.on _ rfl rfl rfl):Wt n l f gd:=h
theorem ap1{kk:IntKind}{q q2:Int}(ho:l[i]?=some ⟨d,.binOp .add T x y T',T'',ps,af,gd⟩)(hw:Wt n l f gd)(hx:EV n f x (.int kk q))(hn:gJ x (fJ l ⟨d,.binOp .add T x y T',T'',ps,af,gd⟩)=true)(hy:EV n f y (.int kk q2))(hm:gJ y (fJ l ⟨d,.binOp .add T x y T',T'',ps,af,gd⟩)=true)
   (h:DC P n l tb a_ H0 F0 K todo fl (put f d (.int kk (kk.wrap (q+q2)))) cs):DC P n l tb a_ H0 F0 K (i::todo) fl f cs:=dX ho hw (fun ha=>tX (EN ha hx hn) (EN ha hy hm)) h
theorem ap2{kk:IntKind}{q q2:Int}(ho:l[i]?=some ⟨d,.binOp .sub T x y T',T'',ps,af,gd⟩)(hw:Wt n l f gd)(hx:EV n f x (.int kk q))(hn:gJ x (fJ l ⟨d,.binOp .sub T x y T',T'',ps,af,gd⟩)=true)(hy:EV n f y (.int kk q2))(hm:gJ y (fJ l ⟨d,.binOp .sub T x y T',T'',ps,af,gd⟩)=true)
   (h:DC P n l tb a_ H0 F0 K todo fl (put f d (.int kk (kk.wrap (q-q2)))) cs):DC P n l tb a_ H0 F0 K (i::todo) fl f cs:=dX ho hw (fun ha=>XX (EN ha hx hn) (EN ha hy hm)) h
theorem ap3{kk:IntKind}{q q2:Int}(ho:l[i]?=some ⟨d,.binOp .mul T x y T',T'',ps,af,gd⟩)(hw:Wt n l f gd)(hx:EV n f x (.int kk q))(hn:gJ x (fJ l ⟨d,.binOp .mul T x y T',T'',ps,af,gd⟩)=true)(hy:EV n f y (.int kk q2))(hm:gJ y (fJ l ⟨d,.binOp .mul T x y T',T'',ps,af,gd⟩)=true)
   (h:DC P n l tb a_ H0 F0 K todo fl (put f d (.int kk (kk.wrap (q*q2)))) cs):DC P n l tb a_ H0 F0 K (i::todo) fl f cs:=dX ho hw (fun ha=>aek (EN ha hx hn) (EN ha hy hm)) h
theorem ap4{kk:IntKind}{q q2:Int}(ho:l[i]?=some ⟨d,.binOp .lss T x y T',T'',ps,af,gd⟩)(hw:Wt n l f gd)(hx:EV n f x (.int kk q))(hn:gJ x (fJ l ⟨d,.binOp .lss T x y T',T'',ps,af,gd⟩)=true)(hy:EV n f y (.int kk q2))(hm:gJ y (fJ l ⟨d,.binOp .lss T x y T',T'',ps,af,gd⟩)=true)
   (h:DC P n l tb a_ H0 F0 K todo fl (put f d (.bool (decide (q<q2)))) cs):DC P n l tb a_ H0 F0 K (i::todo) fl f cs:=dX ho hw (fun ha=>XY (EN ha hx hn) (EN ha hy hm)) h
theorem ap5{kk:IntKind}{q q2:Int}(ho:l[i]?=some ⟨d,.binOp .leq T x y T',T'',ps,af,gd⟩)(hw:Wt n l f gd)(hx:EV n f x (.int kk q))(hn:gJ x (fJ l ⟨d,.binOp .leq T x y T',T'',ps,af,gd⟩)=true)(hy:EV n f y (.int kk q2))(hm:gJ y (fJ l ⟨d,.binOp .leq T x y T',T'',ps,af,gd⟩)=true)
   (h:DC P n l tb a_ H0 F0 K todo fl (put f d (.bool (decide (q<=q2)))) cs):DC P n l tb a_ H0 F0 K (i::todo) fl f cs:=dX ho hw (fun ha=>TJ (EN ha hx hn) (EN ha hy hm)) h
theorem ap6{kk:IntKind}{q q2:Int}(ho:l[i]?=some ⟨d,.binOp .gtr T x y T',T'',ps,af,gd⟩)(hw:Wt n l f gd)(hx:EV n f x (.int kk q))(hn:gJ x (fJ l ⟨d,.binOp .gtr T x y T',T'',ps,af,gd⟩)=true)(hy:EV n f y (.int kk q2))(hm:gJ y (fJ l ⟨d,.binOp .gtr T x y T',T'',ps,af,gd⟩)=true)
   (h:DC P n l tb a_ H0 F0 K todo fl (put f d (.bool (decide (q2<q)))) cs):DC P n l tb a_ H0 F0 K (i::todo) fl f cs:=dX ho hw (fun ha=>XZ (EN ha hx hn) (EN ha hy hm)) h
theorem ap7{kk:IntKind}{q q2:Int}(ho:l[i]?=some ⟨d,.binOp .geq T x y T',T'',ps,af,gd⟩)(hw:Wt n l f gd)(hx:EV n f x (.int kk q))(hn:gJ x (fJ l ⟨d,.binOp .geq T x y T',T'',ps,af,gd⟩)=true)(hy:EV n f y (.int kk q2))(hm:gJ y (fJ l ⟨d,.binOp .geq T x y T',T'',ps,af,gd⟩)=true)
   (h:DC P n l tb a_ H0 F0 K todo fl (put f d (.bool (decide (q2<=q)))) cs):DC P n l tb a_ H0 F0 K (i::todo) fl f cs:=dX ho hw (fun ha=>ael (EN ha hx hn) (EN ha hy hm)) h
theorem ap8{kk:IntKind}{q q2:Int}(ho:l[i]?=some ⟨d,.binOp .eql T x y T',T'',ps,af,gd⟩)(hw:Wt n l f gd)(hx:EV n f x (.int kk q))(hn:gJ x (fJ l ⟨d,.binOp .eql T x y T',T'',ps,af,gd⟩)=true)(hy:EV n f y (.int kk q2))(hm:gJ y (fJ l ⟨d,.binOp .eql T x y T',T'',ps,af,gd⟩)=true)
   (h:DC P n l tb a_ H0 F0 K todo fl (put f d (.bool (q==q2))) cs):DC P n l tb a_ H0 F0 K (i::todo) fl f cs:=dX ho hw (fun ha=>Ju (EN ha hx hn) (EN ha hy hm)) h
theorem ap9{kk:IntKind}{q q2:Int}(ho:l[i]?=some ⟨d,.binOp .neq T x y T',T'',ps,af,gd⟩)(hw:Wt n l f gd)(hx:EV n f x (.int kk q))(hn:gJ x (fJ l ⟨d,.binOp .neq T x y T',T'',ps,af,gd⟩)=true)(hy:EV n f y (.int kk q2))(hm:gJ y (fJ l ⟨d,.binOp .neq T x y T',T'',ps,af,gd⟩)=true)
   (h:DC P n l tb a_ H0 F0 K todo fl (put f d (.bool (q !=q2))) cs):DC P n l tb a_ H0 F0 K (i::todo) fl f cs:=dX ho hw (fun ha=>aem (EN ha hx hn) (EN ha hy hm)) h
theorem ap_{b:Bool}(ho:l[i]?=some ⟨d,.unOp .not T x,T',ps,af,gd⟩)(hw:Wt n l f gd)(hx:EV n f x (.bool b))(hn:gJ x (fJ l ⟨d,.unOp .not T x,T',ps,af,gd⟩)=true)
   (h:DC P n l tb a_ H0 F0 K todo fl (put f d (.bool (!b))) cs):DC P n l tb a_ H0 F0 K (i::todo) fl f cs:=dX ho hw (fun ha=>NM (EN ha hx hn)) h
theorem atB(ho:l[i]?=some ⟨d,.move x,T,ps,af,gd⟩)(hw:Wt n l f gd)
   (hx:EV n f x v) (hn:gJ x (fJ l ⟨d,.move x,T,ps,af,gd⟩)=true) (h:DC P n l tb a_ H0 F0 K todo fl (put f d v) cs):
   DC P n l tb a_ H0 F0 K (i::todo) fl f cs:=dX ho hw (fun ha=>eG (EN ha hx hn)) h
theorem atC(ho:l[i]?=some ⟨d,.assign x,T,ps,af,gd⟩)(hw:Wt n l f gd)
   (hx:EV n f x v) (hn:gJ x (fJ l ⟨d,.assign x,T,ps,af,gd⟩)=true) (h:DC P n l tb a_ H0 F0 K todo fl (put f d v) cs):
   DC P n l tb a_ H0 F0 K (i::todo) fl f cs:=dX ho hw (fun ha=>lD (EN ha hx hn)) h
theorem ap'(ho:l[i]?=some ⟨d,.pick x y z,T,ps,af,gd⟩)(hw:Wt n l f gd)(hc:EV n f x (.bool true))(hn:gJ x (fJ l ⟨d,.pick x y z,T,ps,af,gd⟩)=true)
   (hy:EV n f y v) (hm:gJ y (fJ l ⟨d,.pick x y z,T,ps,af,gd⟩)=true) (h:DC P n l tb a_ H0 F0 K todo fl (put f d v) cs):
   DC P n l tb a_ H0 F0 K (i::todo) fl f cs:=dX ho hw (fun ha=>adv (EN ha hc hn) (EN ha hy hm)) h
theorem aqa(ho:l[i]?=some ⟨d,.pick x y z,T,ps,af,gd⟩)(hw:Wt n l f gd)(hc:EV n f x (.bool false))(hn:gJ x (fJ l ⟨d,.pick x y z,T,ps,af,gd⟩)=true)
   (hy:EV n f z v) (hm:gJ z (fJ l ⟨d,.pick x y z,T,ps,af,gd⟩)=true) (h:DC P n l tb a_ H0 F0 K todo fl (put f d v) cs):
   DC P n l tb a_ H0 F0 K (i::todo) fl f cs:=dX ho hw (fun ha=>adw (EN ha hc hn) (EN ha hy hm)) h
theorem atD{k i0 j fi off:Nat}(ho:l[i]?=some ⟨d,.fieldAddr T x fi,T',ps,af,gd⟩){hF:dA P T fi off}(hw:Wt n l f gd)
   (hx:EV n f x (.pointer (some ⟨k,i0,some j⟩))) (hn:gJ x (fJ l ⟨d,.fieldAddr T x fi,T',ps,af,gd⟩)=true) (h:DC P n l tb a_ H0 F0 K todo fl (put f d (.pointer (some ⟨k,i0,some (j+off)⟩))) cs):
   DC P n l tb a_ H0 F0 K (i::todo) fl f cs:=dX ho hw (fun ha=>kK hF.h (EN ha hx hn)) h
theorem aqb{k j:Nat}{TB:TypeId}{e:Value}(ho:l[i]?=some ⟨d,.load T x,T',ps,af,gd⟩){hA:fH P T false}(hw:Wt n l f gd)
   (hx:EV n f x (.pointer (some ⟨k,0,some j⟩))) (hn:gJ x (fJ l ⟨d,.load T x,T',ps,af,gd⟩)=true) (hm:Mem (rC k ⟨[e],TB,true,false⟩) cs) (hv:e.cells.toList[j]?=some v)
   (h:DC P n l tb a_ H0 F0 K todo fl (put f d v) cs):DC P n l tb a_ H0 F0 K (i::todo) fl f cs:=Cu ho hw hm rfl (fun ha hp=>gu hA.h (EN ha hx hn) hp.2 rfl hv) h
theorem aqc{k s b:Nat}{zv:Value}{TB:TypeId}{e:List Value}(ho:l[i]?=some ⟨d,.load T x,T',ps,af,gd⟩){hA:fH P T true}{ht:f_ P T s b zv}(hw:Wt n l f gd)
   (hx:EV n f x (.pointer (some ⟨k,0,some 0⟩))) (hn:gJ x (fJ l ⟨d,.load T x,T',ps,af,gd⟩)=true) (hm:Mem (rC k ⟨[.agg e.toArray],TB,true,false⟩) cs) (h0:Nat.blt 0 s=true) (hl:e.length=s)
   (h:DC P n l tb a_ H0 F0 K todo fl (put f d (.agg e.toArray)) cs):DC P n l tb a_ H0 F0 K (i::todo) fl f cs:=Cu ho hw hm rfl (fun ha hp=>lC hA.h ht.h.sz h0 (EN ha hx hn) hp.2 hl) h
theorem aqd{α:Type}{R:aB->Value->α->Prop}{_:bE R}{xs:List α}{ts:List TypeId}(ho:l[i]?=some ⟨d,.call ⟨.builtin .len,[x].toArray,(T::ts).toArray⟩,T',ps,af,gd⟩){hT:kQ P T E}(hw:Wt n l f gd)
   (hx:EV n f x v) (hn:gJ x (fJ l ⟨d,.call ⟨.builtin .len,[x].toArray,(T::ts).toArray⟩,T',ps,af,gd⟩)=true) (hm:Mem (bK (aJ E R) v xs) cs)
   (h:DC P n l tb a_ H0 F0 K todo fl (put f d (.int .i64 xs.length)) cs):DC P n l tb a_ H0 F0 K (i::todo) fl f cs:=Cu ho hw hm rfl (fun ha hp=>qw hT.h (EN ha hx hn) (Jn hp)) h
theorem atE{t:Tmp}{j:Nat}{b:Bool}(ho:l[i]?=some ⟨d,op,T,ps,af,some (j,b)⟩)(h1:(l[j]?).bind (·.dst)=some t)(h2:f t= .bool (!b))(h3:Nat.blt t n=true)(h:DC P n l tb a_ H0 F0 K todo fl (put f d undef) cs):
   DC P n l tb a_ H0 F0 K (i::todo) fl f cs:=apv t ho h1 h2 h3 h
theorem atF{t:Tmp}{j:Nat}{b:Bool}(ho:l[i]?=some ⟨d,op,T,ps,af,some (j,b)⟩)(h1:(l[j]?).bind (·.dst)=some t)(h2:f t=undef)(h3:Nat.blt t n=true)(h:DC P n l tb a_ H0 F0 K todo fl (put f d undef) cs):
   DC P n l tb a_ H0 F0 K (i::todo) fl f cs:=aoc t ho h1 h2 h3 h
theorem al_{K:Fr->List aD->Prop}{Q:Exit->Fr->List aD->Prop}(h:K f cs):Fv K Q .normal f cs:=h
theorem anA{id:Nat}{Q:Exit->Fr->List aD->Prop}(h:Q .normal f cs):Ar id Q .normal f cs:=h
theorem au{G N:Prop}(k:N)(h:N->G:=by
   intro k
   repeat (first|with_reducible refine al_ ?_|with_reducible refine anA ?_)
   first
   |((with_reducible refine' atv ?hx k); (case hx=>exact qd))
   |((with_reducible refine' atx ?hx k); (case hx=>exact d_))
   |with_reducible exact h_ k
   |((with_reducible refine' aty ?r1 ?r2 ?r3 k); (case r1=>exact rfl); (case r2=>exact rfl); (case r3=>exact rfl))
   |((with_reducible refine' atz ?r1 ?r2 ?r3 k); (case r1=>exact rfl); (case r2=>exact rfl); (case r3=>exact rfl))
   |((with_reducible refine' atw ?hx k); (case hx=>exact qd))
   |((with_reducible refine' apM ?hx ?hm ?hv k); (case hx=>exact d_); (case hm=>exact kZ); (case hv=>exact atV))
   |((with_reducible refine' apN ?hx ?hm ?hv k); (case hx=>exact d_); (case hm=>exact kZ); (case hv=>exact atV))
   |((with_reducible refine' apO ?hx ?hm ?r1 ?r2 k); (case hx=>exact d_); (case hm=>exact kZ); (case r1=>exact rfl); (case r2=>exact rfl))
   |((with_reducible refine' apP ?hx ?hm ?r1 ?r2 k); (case hx=>exact d_); (case hm=>exact kZ); (case r1=>exact rfl); (case r2=>exact rfl))
   |((with_reducible refine' apQ ?hx ?hm k); (case hx=>exact qd); (case hm=>exact kZ); all_goals infer_instance)
   |((with_reducible refine' aor ?hx ?hm k); (case hx=>exact qd); (case hm=>exact kZ); all_goals infer_instance)
   |((with_reducible refine' apU ?a ?b k); (case a=>exact d_); (case b=>exact d_))
   |((with_reducible refine' ap0 ?a k); (case a=>exact d_))
   |((with_reducible refine' apK ?hc ?hy k); (case hc=>exact d_); (case hy=>exact qd))
   |((with_reducible refine' apL ?hc ?hy k); (case hc=>exact d_); (case hy=>exact qd))
   |((with_reducible refine' atA ?r1 ?r2 ?r3 k); (case r1=>exact rfl); (case r2=>exact rfl); (case r3=>exact rfl))
   |((with_reducible refine' apR ?a ?b k); (case a=>exact d_); (case b=>exact d_))
   |((with_reducible refine' apS ?a ?b k); (case a=>exact d_); (case b=>exact d_))
   |((with_reducible refine' apY ?a ?b k); (case a=>exact d_); (case b=>exact d_))
   |((with_reducible refine' apZ ?a ?b k); (case a=>exact d_); (case b=>exact d_))
   |((with_reducible refine' apV ?a ?b k); (case a=>exact d_); (case b=>exact d_))
   |((with_reducible refine' apW ?a ?b k); (case a=>exact d_); (case b=>exact d_))
   |((with_reducible refine' apX ?a ?b k); (case a=>exact d_); (case b=>exact d_))
   |((with_reducible refine' apT ?a ?b k); (case a=>exact d_); (case b=>exact d_))
   |with_reducible exact fe k
   |with_reducible exact EJ k
   |with_reducible exact adf k
   |with_reducible exact EY k
   |with_reducible exact qC k
   |with_reducible exact WN k
   |with_reducible exact alU k
   |with_reducible exact acQ k
   |((with_reducible refine' an3 ?a k); (case a=>exact rfl))
   |with_reducible exact anf k
   |with_reducible exact ade k
   |with_reducible exact Ff k):G:=h k
theorem du{G N:Prop}(k:N)(h:N->G:=by
   intro k
   first
   |((with_reducible refine' atB ?r1 ?hw ?hx ?r2 k); (case r1=>exact rfl); (case hw=>exact kR); (case hx=>exact qd); (case r2=>exact rfl))
   |((with_reducible refine' atD ?r1 ?hw ?hx ?r2 k); (case r1=>exact rfl); (case hw=>exact kR); (case hx=>exact d_); (case r2=>exact rfl); all_goals infer_instance)
   |((with_reducible refine' aqb ?r1 ?hw ?hx ?r2 ?hm ?hv k); (case r1=>exact rfl); (case hw=>exact kR); (case hx=>exact d_); (case r2=>exact rfl); (case hm=>exact kZ); (case hv=>exact atV); all_goals infer_instance)
   |((with_reducible refine' atE ?r1 ?r2 ?r3 ?r4 k); (case r1=>exact rfl); (case r2=>exact rfl); (case r3=>exact rfl); (case r4=>exact rfl))
   |((with_reducible refine' atF ?r1 ?r2 ?r3 ?r4 k); (case r1=>exact rfl); (case r2=>exact rfl); (case r3=>exact rfl); (case r4=>exact rfl))
   |((with_reducible refine' aqd ?r1 ?hw ?hx ?r2 ?hm k); (case r1=>exact rfl); (case hw=>exact kR); (case hx=>exact qd); (case r2=>exact rfl); (case hm=>exact kZ); all_goals infer_instance)
   |((with_reducible refine' ap' ?r1 ?hw ?hc ?r2 ?hy ?r3 k); (case r1=>exact rfl); (case hw=>exact kR); (case hc=>exact d_); (case r2=>exact rfl); (case hy=>exact qd); (case r3=>exact rfl))
   |((with_reducible refine' aqa ?r1 ?hw ?hc ?r2 ?hy ?r3 k); (case r1=>exact rfl); (case hw=>exact kR); (case hc=>exact d_); (case r2=>exact rfl); (case hy=>exact qd); (case r3=>exact rfl))
   |((with_reducible refine' ap_ ?r1 ?hw ?hx ?r2 k); (case r1=>exact rfl); (case hw=>exact kR); (case hx=>exact d_); (case r2=>exact rfl))
   |((with_reducible refine' ap4 ?r1 ?hw ?hx ?r2 ?hy ?r3 k); (case r1=>exact rfl); (case hw=>exact kR); (case hx=>exact d_); (case r2=>exact rfl); (case hy=>exact d_); (case r3=>exact rfl))
   |((with_reducible refine' ap8 ?r1 ?hw ?hx ?r2 ?hy ?r3 k); (case r1=>exact rfl); (case hw=>exact kR); (case hx=>exact d_); (case r2=>exact rfl); (case hy=>exact d_); (case r3=>exact rfl))
   |((with_reducible refine' ap9 ?r1 ?hw ?hx ?r2 ?hy ?r3 k); (case r1=>exact rfl); (case hw=>exact kR); (case hx=>exact d_); (case r2=>exact rfl); (case hy=>exact d_); (case r3=>exact rfl))
   |((with_reducible refine' ap1 ?r1 ?hw ?hx ?r2 ?hy ?r3 k); (case r1=>exact rfl); (case hw=>exact kR); (case hx=>exact d_); (case r2=>exact rfl); (case hy=>exact d_); (case r3=>exact rfl))
   |((with_reducible refine' ap2 ?r1 ?hw ?hx ?r2 ?hy ?r3 k); (case r1=>exact rfl); (case hw=>exact kR); (case hx=>exact d_); (case r2=>exact rfl); (case hy=>exact d_); (case r3=>exact rfl))
   |((with_reducible refine' ap5 ?r1 ?hw ?hx ?r2 ?hy ?r3 k); (case r1=>exact rfl); (case hw=>exact kR); (case hx=>exact d_); (case r2=>exact rfl); (case hy=>exact d_); (case r3=>exact rfl))
   |((with_reducible refine' ap6 ?r1 ?hw ?hx ?r2 ?hy ?r3 k); (case r1=>exact rfl); (case hw=>exact kR); (case hx=>exact d_); (case r2=>exact rfl); (case hy=>exact d_); (case r3=>exact rfl))
   |((with_reducible refine' ap7 ?r1 ?hw ?hx ?r2 ?hy ?r3 k); (case r1=>exact rfl); (case hw=>exact kR); (case hx=>exact d_); (case r2=>exact rfl); (case hy=>exact d_); (case r3=>exact rfl))
   |((with_reducible refine' ap3 ?r1 ?hw ?hx ?r2 ?hy ?r3 k); (case r1=>exact rfl); (case hw=>exact kR); (case hx=>exact d_); (case r2=>exact rfl); (case hy=>exact d_); (case r3=>exact rfl))
   |((with_reducible refine' atC ?r1 ?hw ?hx ?r2 k); (case r1=>exact rfl); (case hw=>exact kR); (case hx=>exact qd); (case r2=>exact rfl))
   |((with_reducible refine' aqc ?r1 ?hw ?hx ?r2 ?hm ?r3 ?r4 k); (case r1=>exact rfl); (case hw=>exact kR); (case hx=>exact d_); (case r2=>exact rfl); (case hm=>exact kZ); (all_goals (try infer_instance)); (case r3=>exact rfl); (case r4=>exact rfl))
   |with_reducible exact X5 k):G:=h k
theorem Vm{fl:List (Nat×List Nat)}(h:ky tb i rest fl:=by
   repeat (first
     |exact ky.nil
     |refine' ky.dep rfl ?_
     |refine' ky.imm (by exact kZ) ?_)):ky tb i rest fl:=h
theorem Qs{f':Fr}{o:Oper}:∀{xs:List Operand}{vs:List Value},iq l o f f'->jv n f xs vs->xs.all (fun x=>gJ x (fJ l o))=true->jv n f' xs vs
 |[],[],_,_,_=>.nil
 |x::xs,v::vs,ha,⟨h,t⟩,hn=>by
   simp only[List.all_cons,Bool.and_eq_true]at hn
   exact .cons (EN ha h hn.1) (Qs ha t hn.2)
 |[],_::_,_,h,_=>h.elim
 |_::_,[],_,h,_=>h.elim
variable{ι α:Type}{val:ι->Value}{R:aB->Value->α->Prop}{xs:List α}{a:α}{g k j s b off:Nat}{zv e:Value}{kk:IntKind}{q:Int}{TB:TypeId}{Q:Exit->Fr->List aD->Prop}{c1 c2:Code}
theorem Cc{b:Bool}(h1:b=true->CW P n H0 F0 c1 Q f cs)(h2:b=false->CW P n H0 F0 c2 Q f cs)(hc:EV n f x (.bool b):=by exact d_):CW P n H0 F0 (.cond x c1 c2) Q f cs:=rY hc h1 h2
theorem CcT{b:Bool}(hb:b=true)(h1:CW P n H0 F0 c1 Q f cs)(hc:EV n f x (.bool b):=by exact d_):CW P n H0 F0 (.cond x c1 c2) Q f cs:=rY hc (fun _=>h1) (fun h=>absurd (hb.symm.trans h) (by decide))
theorem CcF{b:Bool}(hb:b=false)(h2:CW P n H0 F0 c2 Q f cs)(hc:EV n f x (.bool b):=by exact d_):CW P n H0 F0 (.cond x c1 c2) Q f cs:=rY hc (fun h=>absurd (hb.symm.trans h) (by decide)) (fun _=>h2)
theorem bQ{p:Prop}{_:Decidable p}(h1:CW P n H0 F0 c1 Q f cs)(hc:EV n f x (.bool (decide p)):=by exact d_)(hp:p:=by omega):CW P n H0 F0 (.cond x c1 c2) Q f cs:=CcT (decide_eq_true hp) h1 hc
theorem bR{p:Prop}{_:Decidable p}(h2:CW P n H0 F0 c2 Q f cs)(hc:EV n f x (.bool (decide p)):=by exact d_)(hp:¬ p:=by omega):CW P n H0 F0 (.cond x c1 c2) Q f cs:=CcF (decide_eq_false hp) h2 hc
theorem Ai [bE R] [hT:kQ P T E] [hs:f_ P E s b zv](hi:xs[q.toNat]?=some a)(h:∀k j,bA P n H0 F0 A r (put f d (.pointer (some ⟨k,j,some 0⟩))) (kN E R k j a::cs) K)
   (hx:EV n f x v:=by exact qd) (hy:EV n f y (.int kk q):=by exact d_) (hm:Mem (bK (aJ E R) v xs) cs:=by exact kZ) (h0:0<=q:=by first|exact Int.natCast_nonneg _|assumption):
   bA P n H0 F0 A (⟨d,.indexAddr T x y,T',ps,af,none⟩::r) f cs K:=zH hT.h hs.h.sz hx hy hm h0 hi h
theorem Di [bE R] [hT:kQ P T E] [hs:f_ P E s b zv](hi:xs[q.toNat]?=some a)(h:∀k j,DC P n l tb a_ H0 F0 K todo fl (put f d (.pointer (some ⟨k,j,some 0⟩))) (kN E R k j a::cs))
   (ho:l[i]?=some ⟨d,.indexAddr T x y,T',ps,af,gd⟩:=by rfl) (hw:Wt n l f gd:=by exact kR)
   (hx:EV n f x v:=by exact qd) (hy:EV n f y (.int kk q):=by exact d_) (nW:gJ x (fJ l ⟨d,.indexAddr T x y,T',ps,af,gd⟩)=true:=by rfl) (hyn:gJ y (fJ l ⟨d,.indexAddr T x y,T',ps,af,gd⟩)=true:=by rfl)
   (hm:Mem (bK (aJ E R) v xs) cs:=by exact kZ) (h0:0<=q:=by first|exact Int.natCast_nonneg _|assumption):
   DC P n l tb a_ H0 F0 K (i::todo) fl f cs:=apw hT.h hs.h.sz ho hw hx hy nW hyn hm h0 hi h
theorem Al [bE R] [hA:fH P T false](hop:∀H e,R H e a->e.cells.toList[off]?=some v)(h:bA P n H0 F0 A r (put f d v) cs K)(hx:EV n f x (.pointer (some ⟨k,j,some off⟩)):=by exact d_)(hm:Mem (kN E R k j a) cs:=by exact kZ):
   bA P n H0 F0 A (⟨d,.load T x,T',ps,af,none⟩::r) f cs K:=apt hA.h hx hm hop h
theorem Dl [bE R] [hA:fH P T false](hop:∀H e,R H e a->e.cells.toList[off]?=some v)(h:DC P n l tb a_ H0 F0 K todo fl (put f d v) cs)(ho:l[i]?=some ⟨d,.load T x,T',ps,af,gd⟩:=by rfl)(hw:Wt n l f gd:=by exact kR)
   (hx:EV n f x (.pointer (some ⟨k,j,some off⟩)):=by exact d_) (nW:gJ x (fJ l ⟨d,.load T x,T',ps,af,gd⟩)=true:=by rfl) (hm:Mem (kN E R k j a) cs:=by exact kZ):
   DC P n l tb a_ H0 F0 K (i::todo) fl f cs:=apx hA.h ho hw hx nW hm hop h
theorem bB [ht:f_ P T s b zv](h:∀k,bA P n H0 F0 A r (put f d (.pointer (some ⟨k,0,some 0⟩))) (rC k ⟨[v],T,true,false⟩::cs) K)(hx:EV n f x v:=by exact qd)(hv:v.cells.size=s:=by rfl):
   bA P n H0 F0 A (⟨d,.box T x,T',ps,af,none⟩::r) f cs K:=adT rfl (X0 ht.h.sz hx hv) h
theorem AbW [ht:f_ P T s b zv](h:∀k,bA P n H0 F0 A r (put f d (.pointer (some ⟨k,0,some 0⟩))) (jg k ⟨[v],T,true,true⟩::cs) K)(hx:EV n f x v:=by exact qd)(hv:v.cells.size=s:=by rfl):
   bA P n H0 F0 A (⟨d,.box T x,T',ps,af,none⟩::r) f cs K:=dQ rfl (X0 ht.h.sz hx hv) h
theorem dH [ht:f_ P T s b zv](h:∀k,bA P n H0 F0 A r (put f d (.pointer (some ⟨k,0,some 0⟩))) (jg k ⟨[zv],T,true,true⟩::cs) K)(hv:zv.cells.size=s:=by rfl)(hc:wW zv=true:=by rfl):
   bA P n H0 F0 A (⟨d,.alloc T,T',ps,af,none⟩::r) f cs K:=dQ rfl (Jb ht.h hv hc) h
theorem As [ht:f_ P T s b zv](e'':Value)(h:bA P n H0 F0 A r (put f d undef) (b_ k TB e''::rest) K)(hx:EV n f x (.pointer (some ⟨k,0,some j⟩)):=by exact d_)(hy:EV n f y v:=by exact qd)(hm:Sel cs (b_ k TB e) rest:=by exact aey)
   (hv:v.cells.size=s:=by rfl) (hsc:v.cells.toList.all scal=true:=by rfl) (h0:Nat.blt 0 s=true:=by rfl) (hj:Nat.ble (j+s) e.cells.size=true:=by rfl) (he:rz e j v.cells.toList=e'':=by rfl):
   bA P n H0 F0 A (⟨d,.store T x y,T',ps,af,none⟩::r) f cs K:=dZ (.cons hm .nil) (kg ht.h.sz hx hy hv hsc h0 hj he) (fun _=>h)
theorem atG{rs:List ResultVar}{vs:List Value}(h:nR P n f cs rs vs:=by
   first
   |exact nR.nil|exact .tmp rfl rfl .nil|exact .tmp rfl rfl (.tmp rfl rfl .nil)|exact .tmp rfl rfl (.tmp rfl rfl (.tmp rfl rfl .nil))|exact .tmp rfl rfl (.tmp rfl rfl (.tmp rfl rfl (.tmp rfl rfl .nil)))
   |exact nR.cellA rfl rfl (by exact kZ) (by exact rfl) fH.h (TY.sz f_.h) (by exact rfl) (by exact rfl) .nil
   |exact nR.cellS rfl rfl (by exact kZ) (by exact rfl) fH.h (by exact rfl) .nil):nR P n f cs rs vs:=h
theorem Er{rs:List ResultVar}{post:ι->List aD}{vs:List Value}(x:ι)(h1:nR P n f cs rs vs:=by exact atG)(h2:pU vs=val x:=by rfl)(h3:fO cs (post x) rest:=by exact p_):JB P n rs val post .ret f cs:=iX x h1 h2 (.sel h3)
theorem az(h:fO cs pre rest:=by exact p_):aL cs pre:=.sel h
theorem wk(k:Nat)(h:k<9223372036854775807:=by omega):IntKind.i64.wrap ((k:Int)+1)=((k+1:Nat):Int):=by rw[fU (by omega) (by omega)]; rfl
end
end Go.Fw
/-
 The same for calls: with the facts that come of them in a list.  No conditions.
-/
set_option linter.unusedVariables false
namespace Go.Fw
open Go
section
variable{P:Program} [bT P]{n:Nat}{f:Fr}{H0:aB}{F0:List Nat}{cs pre rest:List aD}{x y:Operand}{v:Value}{A:Array Oper}{r:List Oper}{K:Fr->List aD->Prop}{d:Option Tmp}{T E:TypeId}{ps:String}{af:Array Edge}
variable{l:List Oper}{tb a_ todo:List Nat}{fl:List (Nat×List Nat)}{i g:Nat}{gd:Option (Nat×Bool)}{ι α:Type}{val:ι->Value}{R:aB->Value->α->Prop}{a:α}{k j s b off:Nat}{zv:Value}{xs:List Operand}{ts:Array TypeId}{vs:List Value}
theorem nt{b:Bool}(h:b=false):¬ b=true:=by rw[h]; exact Bool.false_ne_true
theorem Se{fn:Func}{c:Code}{args:List Value}{post:ι->List aD}(n:Nat)(hf:P.funcs[g]?=some fn)(rs:List ResultVar)(h:∀H0 F0,CW P n H0 F0 c (JB P n rs val post) (XL args) pre)
   (hb:fn.body=some c:=by rfl) (hn:fn.ntmps=n:=by rfl) (hr:fn.results=rs.toArray:=by rfl) (hl:Nat.ble rs.length 6=true:=by rfl) (ha:Nat.ble args.length n=true:=by rfl):Spec P g args pre val post:=LZ hf hb hn hr hl ha h
theorem aX [hg:aS P g](hs:Spec P g vs pre val (fun x=>[]))(h:∀x,bA P n H0 F0 A r (put f d (val x)) (rest) K)(he:jv n f xs vs:=by exact bZ)(hl:fO cs pre rest:=by exact p_):
   bA P n H0 F0 A (⟨d,.call ⟨.value (.func g),xs.toArray,ts⟩,T,ps,af,none⟩::r) f cs K:=kE hl (dB hg.h he hs) h
theorem dR [hg:aS P g](hs:Spec P g vs pre val (fun x=>[]))(h:∀x,DC P n l tb a_ H0 F0 K todo fl (put f d (val x)) (rest))
   (ho:l[i]?=some ⟨d,.call ⟨.value (.func g),xs.toArray,ts⟩,T,ps,af,gd⟩:=by rfl) (hA:a_.any (Nat.beq i)=true:=by rfl) (hw:Wt n l f gd:=by exact kR) (he:jv n f xs vs:=by exact bZ)
   (hn:xs.all (fun x=>gJ x (fJ l ⟨d,.call ⟨.value (.func g),xs.toArray,ts⟩,T,ps,af,gd⟩))=true:=by rfl) (hl:fO cs pre rest:=by exact p_) (hfl:ky tb i rest fl:=by exact Vm):
   DC P n l tb a_ H0 F0 K (i::todo) fl f cs:=XQ hA ho hw hl hfl (fun ha=>dB hg.h (Qs ha he hn) hs) h
theorem eZ{c1:ι->aD} [hg:aS P g](hs:Spec P g vs pre val (fun x=>[c1 x]))(h:∀x,bA P n H0 F0 A r (put f d (val x)) (c1 x::rest) K)(he:jv n f xs vs:=by exact bZ)(hl:fO cs pre rest:=by exact p_):
   bA P n H0 F0 A (⟨d,.call ⟨.value (.func g),xs.toArray,ts⟩,T,ps,af,none⟩::r) f cs K:=dZ hl (dB hg.h he hs) h
theorem Aw{c1:ι->aD} [hg:aS P g](hs:Spec P g vs pre val (fun x=>[c1 x]))(h:∀x,DC P n l tb a_ H0 F0 K todo fl (put f d (val x)) (c1 x::rest))
   (ho:l[i]?=some ⟨d,.call ⟨.value (.func g),xs.toArray,ts⟩,T,ps,af,gd⟩:=by rfl) (hA:a_.any (Nat.beq i)=true:=by rfl) (hw:Wt n l f gd:=by exact kR) (he:jv n f xs vs:=by exact bZ)
   (hn:xs.all (fun x=>gJ x (fJ l ⟨d,.call ⟨.value (.func g),xs.toArray,ts⟩,T,ps,af,gd⟩))=true:=by rfl) (hl:fO cs pre rest:=by exact p_) (hfl:ky tb i rest fl:=by exact Vm):
   DC P n l tb a_ H0 F0 K (i::todo) fl f cs:=eU hA ho hw hl hfl (fun ha=>dB hg.h (Qs ha he hn) hs) h
theorem Dg{c1 c2:ι->aD} [hg:aS P g](hs:Spec P g vs pre val (fun x=>[c1 x,c2 x]))(h:∀x,bA P n H0 F0 A r (put f d (val x)) (c1 x::c2 x::rest) K)(he:jv n f xs vs:=by exact bZ)(hl:fO cs pre rest:=by exact p_):
   bA P n H0 F0 A (⟨d,.call ⟨.value (.func g),xs.toArray,ts⟩,T,ps,af,none⟩::r) f cs K:=su hl (dB hg.h he hs) h
theorem Dx2{c1 c2:ι->aD} [hg:aS P g](hs:Spec P g vs pre val (fun x=>[c1 x,c2 x]))(h:∀x,DC P n l tb a_ H0 F0 K todo fl (put f d (val x)) (c1 x::c2 x::rest))
   (ho:l[i]?=some ⟨d,.call ⟨.value (.func g),xs.toArray,ts⟩,T,ps,af,gd⟩:=by rfl) (hA:a_.any (Nat.beq i)=true:=by rfl) (hw:Wt n l f gd:=by exact kR) (he:jv n f xs vs:=by exact bZ)
   (hn:xs.all (fun x=>gJ x (fJ l ⟨d,.call ⟨.value (.func g),xs.toArray,ts⟩,T,ps,af,gd⟩))=true:=by rfl) (hl:fO cs pre rest:=by exact p_) (hfl:ky tb i rest fl:=by exact Vm):
   DC P n l tb a_ H0 F0 K (i::todo) fl f cs:=uS hA ho hw hl hfl (fun ha=>dB hg.h (Qs ha he hn) hs) h
theorem Cx3{c1 c2 c3:ι->aD} [hg:aS P g](hs:Spec P g vs pre val (fun x=>[c1 x,c2 x,c3 x]))(h:∀x,bA P n H0 F0 A r (put f d (val x)) (c1 x::c2 x::c3 x::rest) K)(he:jv n f xs vs:=by exact bZ)(hl:fO cs pre rest:=by exact p_):
   bA P n H0 F0 A (⟨d,.call ⟨.value (.func g),xs.toArray,ts⟩,T,ps,af,none⟩::r) f cs K:=Yx hl (dB hg.h he hs) h
theorem Cx6{c1 c2 c3 c4 c5 c6:ι->aD} [hg:aS P g](hs:Spec P g vs pre val (fun x=>[c1 x,c2 x,c3 x,c4 x,c5 x,c6 x]))(h:∀x,bA P n H0 F0 A r (put f d (val x)) (c1 x::c2 x::c3 x::c4 x::c5 x::c6 x::rest) K)(he:jv n f xs vs:=by exact bZ)(hl:fO cs pre rest:=by exact p_):
   bA P n H0 F0 A (⟨d,.call ⟨.value (.func g),xs.toArray,ts⟩,T,ps,af,none⟩::r) f cs K:=ath hl (dB hg.h he hs) h
theorem Cx8{c1 c2 c3 c4 c5 c6 c7 c8:ι->aD} [hg:aS P g](hs:Spec P g vs pre val (fun x=>[c1 x,c2 x,c3 x,c4 x,c5 x,c6 x,c7 x,c8 x]))(h:∀x,bA P n H0 F0 A r (put f d (val x)) (c1 x::c2 x::c3 x::c4 x::c5 x::c6 x::c7 x::c8 x::rest) K)(he:jv n f xs vs:=by exact bZ)(hl:fO cs pre rest:=by exact p_):
   bA P n H0 F0 A (⟨d,.call ⟨.value (.func g),xs.toArray,ts⟩,T,ps,af,none⟩::r) f cs K:=ati hl (dB hg.h he hs) h
theorem Dx8{c1 c2 c3 c4 c5 c6 c7 c8:ι->aD} [hg:aS P g](hs:Spec P g vs pre val (fun x=>[c1 x,c2 x,c3 x,c4 x,c5 x,c6 x,c7 x,c8 x]))(h:∀x,DC P n l tb a_ H0 F0 K todo fl (put f d (val x)) (c1 x::c2 x::c3 x::c4 x::c5 x::c6 x::c7 x::c8 x::rest))
   (ho:l[i]?=some ⟨d,.call ⟨.value (.func g),xs.toArray,ts⟩,T,ps,af,gd⟩:=by rfl) (hA:a_.any (Nat.beq i)=true:=by rfl) (hw:Wt n l f gd:=by exact kR) (he:jv n f xs vs:=by exact bZ)
   (hn:xs.all (fun x=>gJ x (fJ l ⟨d,.call ⟨.value (.func g),xs.toArray,ts⟩,T,ps,af,gd⟩))=true:=by rfl) (hl:fO cs pre rest:=by exact p_) (hfl:ky tb i rest fl:=by exact Vm):
   DC P n l tb a_ H0 F0 K (i::todo) fl f cs:=adU hA ho hw hl hfl (fun ha=>dB hg.h (Qs ha he hn) hs) h
theorem atH{T2:TypeId} [bE R] [hA:fH P T true] [ht:f_ P T s b zv](ul:ι->List Value)(hop:∀H e,R H e a-> ∃i,off+s<=e.cells.size/\(e.cells.toList.drop off).take s=ul i/\ ∀c∈([]:List aD),c.P H/\c.F=[])
   (h:∀i,bA P n H0 F0 A r (put f d (.agg (ul i).toArray)) (cs) K) (hx:EV n f x (.pointer (some ⟨k,j,some off⟩)):=by exact d_) (hm:Mem (kN E R k j a) cs:=by exact kZ) (h0:Nat.blt 0 s=true:=by rfl):
   bA P n H0 F0 A (⟨d,.load T x,T2,ps,af,none⟩::r) f cs K:=an8 ul hA.h ht.h.sz h0 hx hm hop h
theorem iM{T2:TypeId} [bE R]{c1:ι->aD} [hA:fH P T true] [ht:f_ P T s b zv](ul:ι->List Value)(hop:∀H e,R H e a-> ∃i,off+s<=e.cells.size/\(e.cells.toList.drop off).take s=ul i/\ ∀c∈([c1 i]:List aD),c.P H/\c.F=[])
   (h:∀i,bA P n H0 F0 A r (put f d (.agg (ul i).toArray)) (c1 i::cs) K) (hx:EV n f x (.pointer (some ⟨k,j,some off⟩)):=by exact d_) (hm:Mem (kN E R k j a) cs:=by exact kZ) (h0:Nat.blt 0 s=true:=by rfl):
   bA P n H0 F0 A (⟨d,.load T x,T2,ps,af,none⟩::r) f cs K:=an9 ul hA.h ht.h.sz h0 hx hm hop h
theorem lc{T2:TypeId} [bE R]{c1:ι->aD} [hA:fH P T true] [ht:f_ P T s b zv](ul:ι->List Value)(hop:∀H e,R H e a-> ∃i,off+s<=e.cells.size/\(e.cells.toList.drop off).take s=ul i/\ ∀c∈([c1 i]:List aD),c.P H/\c.F=[])
   (h:∀i,DC P n l tb a_ H0 F0 K todo fl (put f d (.agg (ul i).toArray)) (c1 i::cs)) (ho:l[i]?=some ⟨d,.load T x,T2,ps,af,gd⟩:=by rfl) (hw:Wt n l f gd:=by exact kR)
   (hx:EV n f x (.pointer (some ⟨k,j,some off⟩)):=by exact d_) (nW:gJ x (fJ l ⟨d,.load T x,T2,ps,af,gd⟩)=true:=by rfl) (hm:Mem (kN E R k j a) cs:=by exact kZ) (h0:Nat.blt 0 s=true:=by rfl):
   DC P n l tb a_ H0 F0 K (i::todo) fl f cs:=an_ ul hA.h ht.h.sz h0 ho hw hx nW hm hop h
theorem zT{T2:TypeId} [bE R]{c1 c2:ι->aD} [hA:fH P T true] [ht:f_ P T s b zv](ul:ι->List Value)(hop:∀H e,R H e a-> ∃i,off+s<=e.cells.size/\(e.cells.toList.drop off).take s=ul i/\ ∀c∈([c1 i,c2 i]:List aD),c.P H/\c.F=[])
   (h:∀i,bA P n H0 F0 A r (put f d (.agg (ul i).toArray)) (c1 i::c2 i::cs) K) (hx:EV n f x (.pointer (some ⟨k,j,some off⟩)):=by exact d_) (hm:Mem (kN E R k j a) cs:=by exact kZ) (h0:Nat.blt 0 s=true:=by rfl):
   bA P n H0 F0 A (⟨d,.load T x,T2,ps,af,none⟩::r) f cs K:=an' ul hA.h ht.h.sz h0 hx hm hop h
theorem OB{T2:TypeId} [bE R]{c1 c2:ι->aD} [hA:fH P T true] [ht:f_ P T s b zv](ul:ι->List Value)(hop:∀H e,R H e a-> ∃i,off+s<=e.cells.size/\(e.cells.toList.drop off).take s=ul i/\ ∀c∈([c1 i,c2 i]:List aD),c.P H/\c.F=[])
   (h:∀i,DC P n l tb a_ H0 F0 K todo fl (put f d (.agg (ul i).toArray)) (c1 i::c2 i::cs)) (ho:l[i]?=some ⟨d,.load T x,T2,ps,af,gd⟩:=by rfl) (hw:Wt n l f gd:=by exact kR)
   (hx:EV n f x (.pointer (some ⟨k,j,some off⟩)):=by exact d_) (nW:gJ x (fJ l ⟨d,.load T x,T2,ps,af,gd⟩)=true:=by rfl) (hm:Mem (kN E R k j a) cs:=by exact kZ) (h0:Nat.blt 0 s=true:=by rfl):
   DC P n l tb a_ H0 F0 K (i::todo) fl f cs:=aoa ul hA.h ht.h.sz h0 ho hw hx nW hm hop h
theorem dP{c1:aD}{l:List Oper}(hs:fO cs pre rest)(hv:Conv pre [c1])(h:bA P n H0 F0 A l f (c1::rest) K):bA P n H0 F0 A l f cs K:=XM hs hv dz h
theorem jO{c1:aD}{r:List Nat}(hs:fO cs pre rest)(hv:Conv pre [c1])(h:DC P n l tb a_ H0 F0 K r fl f (c1::rest)):DC P n l tb a_ H0 F0 K r fl f cs:=an4 hs hv dz h
theorem bnd{α β:Type}{G:Prop}{x:Option α}{g:α->Option β}{b:β}(h:x.bind g=some b)(k:∀a,x=some a->g a=some b->G):G:=by
 obtain⟨a,h1,h2⟩:=bind_some h
 exact k a h1 h2
theorem Ci{β:Type}{b:Bool}{p q:Option β}{R0:β}{c1 c2:Code}{Q:Exit->Fr->List aD->Prop}(hF:(if b=true then p else q)=some R0)(h1:b=true->p=some R0->CW P n H0 F0 c1 Q f cs)(h2:b=false->q=some R0->CW P n H0 F0 c2 Q f cs)
   (hc:EV n f x (.bool b):=by exact d_):CW P n H0 F0 (.cond x c1 c2) Q f cs:=
 rY hc (fun e=>h1 e (by rwa [if_pos e]at hF)) (fun e=>h2 e (by rwa [if_neg (nt e)]at hF))
theorem Kb{β:Type}{R':aB->Value->β->Prop} [bE R']{T3:TypeId}{u:Value}{cs':List aD}{c:Code}{Q:Exit->Fr->List aD->Prop}(he:aL cs cs')(ys:List β)(h:ys.length<4611686018427387904->CW P n H0 F0 c Q f cs')(hm:Mem (bK (aJ T3 R') u ys) cs':=by exact kZ):CW P n H0 F0 c Q f cs:=
 bD he (Tx hm alV h)
abbrev pz(k:Nat):Value:=.pointer (some ⟨k,0,some 0⟩)
theorem dn{α:Type}{k:Nat}{l:List α}(h:List.drop k l=[]):l.length<=k:=List.drop_eq_nil_iff.1 h
end
end Go.Fw
/-
 More plain laws about loops. No conditions.
-/
set_option linter.unusedVariables false
namespace Go.Fw
open Go
theorem Xz{α β:Type}{P:α->Prop}{p:α->Bool}{g:α->β}{L:List α->Nat->List β->Option (List β)}(h0:∀k c,L [] k c=some c)
   (h1:∀x r k c,P x->c.length+1<4294967296->L (x::r) k c=L r (k+1) (if p x then c++[g x]else c)):
   ∀(l:List α)(k:Nat)(c:List β),(∀x∈l,P x)->c.length+l.length<4294967296->L l k c=some (c++(l.filter p).map g)
 |[],k,c,_,_=>by simp[h0]
 |x::r,k,c,hp,hl=>by
   simp only[List.length_cons]at hl
   rw[h1 x r k c (hp x (by simp)) (by omega),Xz h0 h1 r (k+1) _ (fun y hy=>hp y (by simp[hy])) (by split<;>(try simp only[List.length_append,List.length_cons,List.length_nil])<;>omega),List.filter_cons]
   split<;>simp
end Go.Fw
