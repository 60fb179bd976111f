/-
  A framework: readings, small rules, plain laws. No conditions.
-/
import Derived.Test.YtdmapdjncfkhhaaGreatDoorFb
import Derived.Deep.Slices
import Derived.ChangeArms
import Derived.SizedLaws
import Derived.Laws.Small
import Derived.WalkSpells
import Derived.Laws.Slices
import Derived.Below
import Derived.Sort.Grow
import Derived.Lib.LaidTab
import Derived.Lib.ItoaNum
import Derived.Lib.Join
import Derived.Deep.Draws
import Derived.Lib.SlicesCompact
import Derived.Lib.AppendZerosOnto
import Derived.Lib.Overlaps
import Derived.Laws.Externs
/-
 The bridge: what the arguments of a row's function read bf, bf data.
-/
namespace Go.Fw
open Go Go.RowKit Go.WideShapes Go.ChangeShapes Go.ChangeAt
def qm(ρ:dR):Prop:=∀k L,ρ k=some (some L)->L.own=false
def iQ{α:Type}(P:Program) [b_ P](t:TypeId)(R:aB->Value->α->Prop)(W:α->Prop):Prop:=
 ∀{T:Type}(enc:TypeId×Value->T)(w:World)(fuel:Nat)(cs:List Value)(x:DataW T×List MemPlace),
   DataW.trod enc P w 0 (fun _=>true) true fuel t cs=some x->(∀n∈x.1.weights P t,n<=reachBytes)->
   ∀(ρ:dR)(H:aB),Rel P ρ H w->qm ρ-> ∃(ρ':dR)(H':aB)(av:Value)(a:α),Rel P ρ' H' w/\qm ρ'/\Up ρ ρ'/\gP H H'/\bP ρ' av.cells.toList cs/\R H' av a/\W a
theorem Rel.nil(P:Program) [b_ P](w:World)(hV:b_.V P w):Rel P (fun _=>none) [] w:=⟨by simp,by simp,by simp,by simp,⟨w,hV,Nat.le_refl _,fun _ _=>rfl,by simp⟩⟩
theorem qm.nil:qm (fun _=>none):=fun _ _ h=>by simp at h
section
variable{P:Program} [b_ P]{ρ:dR}{H:aB}{w:World}
theorem XO{ρ:dR}{H:aB}(h:Rel P ρ H w)(o:Option Loc):Up ρ (lJ ρ H.length o):=by
 intro k
 by_cases e:k=H.length
 · subst e; exact .inl (h.dom _ (Nat.le_refl _))
 · exact .inr (.inl (eX _ _ e))
theorem Rel.foreign{L:Loc}{b:fE}(h:Rel P ρ H w)(hF:qm ρ)(hL:L.own=false)(hb:wN P ρ L b w):Rel P (lJ ρ H.length (some L)) (H++[some b]) w:=by
 have hu:=XO h (some L)
 constructor
 · intro k L' hk
   by_cases e:k=H.length
   · subst e
     rw[g_]at hk
     obtain rfl:L=L':=by simpa using hk
     exact⟨b,by simp,hb.of_same hu rfl⟩
   · rw[eX _ _ e]at hk
     obtain⟨b',hb',hr⟩:=h.blk k L' hk
     exact⟨b',by rw[List.getElem?_append_left (qz hb')]; exact hb',hr.of_same hu rfl⟩
 · intro k b' hb' hk
   by_cases e:k=H.length
   · subst e; rw[g_]at hk; simp at hk
   · rw[eX _ _ e]at hk
     have hkl:k<H.length:=by
       have:=qz hb'
       simp at this; omega
     rw[List.getElem?_append_left hkl]at hb'
     exact h.alive k b' hb' hk
 · intro k hk
   simp at hk
   rw[eX _ _ (by omega)]
   exact h.dom k (by omega)
 · intro k k' L1 L2 h1 h2 ho _
   exfalso
   by_cases e:k=H.length
   · subst e; rw[g_]at h1
     obtain rfl:L=L1:=by simpa using h1
     rw[hL]at ho; simp at ho
   · rw[eX _ _ e]at h1
     rw[hF k L1 h1]at ho; simp at ho
 · refine h.vok.keep (Nat.le_refl _) (fun _ _ _=>rfl) fun k L' hk ho=>?_
   by_cases e:k=H.length
   · subst e; rw[g_]at hk
     obtain rfl:L=L':=by simpa using hk
     rw[hL]at ho; simp at ho
   · rw[eX _ _ e]at hk; exact .inl hk
theorem qm.foreign{L:Loc}(hF:qm ρ)(hL:L.own=false)(n:Nat):qm (lJ ρ n (some L)):=by
 intro k L' hk
 by_cases e:k=n
 · subst e; rw[g_]at hk
   obtain rfl:L=L':=by simpa using hk
   exact hL
 · rw[eX _ _ e]at hk; exact hF k L' hk
theorem Rel.dead(h:Rel P ρ H w):Rel P (lJ ρ H.length none) (H++[none]) w:=by
 have hu:=XO h none
 constructor
 · intro k L' hk
   by_cases e:k=H.length
   · subst e; rw[g_]at hk; simp at hk
   · rw[eX _ _ e]at hk
     obtain⟨b',hb',hr⟩:=h.blk k L' hk
     exact⟨b',by rw[List.getElem?_append_left (qz hb')]; exact hb',hr.of_same hu rfl⟩
 · intro k b' hb' hk
   by_cases e:k=H.length
   · subst e; simp at hb'
   · rw[eX _ _ e]at hk
     have hkl:k<H.length:=by
       have:=qz hb'
       simp at this; omega
     rw[List.getElem?_append_left hkl]at hb'
     exact h.alive k b' hb' hk
 · intro k hk
   simp at hk
   rw[eX _ _ (by omega)]
   exact h.dom k (by omega)
 · intro k k' L1 L2 h1 h2 ho he
   by_cases e:k=H.length
   · subst e; rw[g_]at h1; simp at h1
   · by_cases e':k'=H.length
     · subst e'; rw[g_]at h2; simp at h2
     · rw[eX _ _ e]at h1; rw[eX _ _ e']at h2
       exact h.inj k k' L1 L2 h1 h2 ho he
 · refine h.vok.keep (Nat.le_refl _) (fun _ _ _=>rfl) fun k L' hk ho=>?_
   by_cases e:k=H.length
   · subst e; rw[g_]at hk; simp at hk
   · rw[eX _ _ e]at hk; exact .inl hk
theorem qm.dead(hF:qm ρ)(n:Nat):qm (lJ ρ n none):=by
 intro k L' hk
 by_cases e:k=n
 · subst e; rw[g_]at hk; simp at hk
 · rw[eX _ _ e]at hk; exact hF k L' hk
theorem Q9(H:aB)(x:Option fE):gP H (H++[x]):=fun k b hk _=>by rw[List.getElem?_append_left (qz hk)]; exact hk
def sH(a:Int):Prop:=-9223372036854775808<=a/\a<=9223372036854775807
def azr(_:UInt8):Prop:=True
def avI{α:Type}(_:α):Prop:=True
def avJ(a:List UInt8):Prop:=a.length<=140737488351232
def qK{α:Type}(W:α->Prop)(a:List α):Prop:=a.length<=140737488351232/\ ∀x∈a,W x
theorem iQ.int{t:TypeId}(ht:P.underlying t=some (.int .i64)):iQ P t aH sH:=by
 intro T enc w fuel cs x h _ ρ H hr hF
 obtain⟨n,rfl,rfl,hw⟩:=DataW.trod_int ht h
 refine⟨ρ,H,.int .i64 n,n,hr,hF,Up.refl ρ,gP.refl H,.cons _ _ _ _ (.int _ _) .nil,rfl,?_⟩
 simp only[Lit.wf,IntKind.min,IntKind.max,Bool.and_eq_true]at hw
 unfold sH
 simpa[IntKind.signed,IntKind.bits]using hw
theorem iQ.u8{t:TypeId}(ht:P.underlying t=some (.int .u8)):iQ P t Gj azr:=by
 intro T enc w fuel cs x h _ ρ H hr hF
 obtain⟨n,rfl,rfl,hw⟩:=DataW.trod_int ht h
 simp only[Lit.wf,IntKind.min,IntKind.max,Bool.and_eq_true]at hw
 have hw':0<=n/\n<=255:=by simpa[IntKind.signed,IntKind.bits]using hw
 refine⟨ρ,H,.int .u8 n,UInt8.ofNat n.toNat,hr,hF,Up.refl ρ,gP.refl H,.cons _ _ _ _ (.int _ _) .nil,?_,trivial⟩
 unfold Gj
 have:((UInt8.ofNat n.toNat).toNat:Int)=n:=by
   simp[UInt8.toNat_ofNat']
   omega
 rw[this]
theorem iQ.bool{t:TypeId}(ht:P.underlying t=some .bool):iQ P t rdBool avI:=by
 intro T enc w fuel cs x h _ ρ H hr hF
 obtain⟨b,rfl,rfl⟩:=DataW.trod_bool ht h
 exact⟨ρ,H,.bool b,b,hr,hF,Up.refl ρ,gP.refl H,.cons _ _ _ _ (.bool _) .nil,rfl,trivial⟩
theorem iQ.str{t:TypeId}(ht:P.underlying t=some .string):iQ P t rdStr avJ:=by
 intro T enc w fuel cs x h hw ρ H hr hF
 obtain⟨s,rfl,rfl,hs⟩:=DataW.trod_string ht h
 refine⟨ρ,H,.string s,s.data.toList,hr,hF,Up.refl ρ,gP.refl H,.cons _ _ _ _ (.string _) .nil,rfl,?_⟩
 have:=hw s.data.toList.length (by simp[DataW.weights])
 exact this
theorem aoy{Pg:Program}{T:Type}{e:TypeId}{l:List (DataW T)}{d:DataW T}(hd:d∈l){n:Nat}(hn:n∈d.weights Pg e):n∈DataW.weightsAll Pg e l:=by
 induction l with
 |nil=>simp at hd
 |cons x l ih=>
   simp only[DataW.weightsAll,List.mem_append]
   rcases List.mem_cons.1 hd with rfl|h
   · exact .inl hn
   · exact .inr (ih h)
theorem ahQ{α T:Type}{enc:TypeId×Value->T}{E:TypeId}{R:aB->Value->α->Prop}{W:α->Prop} [dC R](hE:iQ P E R W){fuel:Nat}{C:Nat->List Value}{D:Nat->DataW T×List MemPlace}:
   ∀(len:Nat),(∀i,i<len->DataW.trod enc P w 0 (fun _=>true) true fuel E (C i)=some (D i)/\ ∀n∈(D i).1.weights P E,n<=reachBytes)-> ∀(ρ:dR)(H:aB),Rel P ρ H w->qm ρ->
     ∃(ρ':dR)(H':aB)(es:List Value)(bf:List α),Rel P ρ' H' w/\qm ρ'/\Up ρ ρ'/\gP H H'/\es.length=len/\bf.length=len/\(∀(i:Nat) e,es[i]?=some e->bP ρ' e.cells.toList (C i))/\
       (∀(i:Nat) a,bf[i]?=some a-> ∃e,es[i]?=some e/\R H' e a)/\ ∀a∈bf,W a
 |0,_,ρ,H,hr,hF=>⟨ρ,H,[],[],hr,hF,Up.refl ρ,gP.refl H,rfl,rfl,by simp,by simp,by simp⟩
 |len+1,h,ρ,H,hr,hF=>by
   obtain⟨ρ1,H1,es,bf,r1,f1,u1,i1,l1,l2,g1,g2,g3⟩:=ahQ hE len (fun i hi=>h i (by omega)) ρ H hr hF
   obtain⟨t,tw⟩:=h len (by omega)
   obtain⟨ρ2,H2,e,a,r2,f2,u2,i2,v2,q2,w2⟩:=hE enc w fuel _ _ t tw ρ1 H1 r1 f1
   refine⟨ρ2,H2,es++[e],bf++[a],r2,f2,u1.trans u2,i1.trans i2,by simp[l1],by simp[l2],?_,?_,?_⟩
   · intro i e' he'
     by_cases hi:i<es.length
     · rw[List.getElem?_append_left hi]at he'
       exact (g1 i e' he').up u2
     · rw[List.getElem?_append_right (by omega)]at he'
       have hi':i-es.length=0:=by
         rcases Nat.eq_zero_or_pos (i-es.length)with h|h
         · exact h
         · rw[List.getElem?_eq_none (by simp; omega)]at he'; simp at he'
       rw[hi']at he'
       obtain rfl:e=e':=by simpa using he'
       obtain rfl:i=len:=by omega
       exact v2
   · intro i a' ha'
     by_cases hi:i<bf.length
     · rw[List.getElem?_append_left hi]at ha'
       obtain⟨e',he',hq⟩:=g2 i a' ha'
       exact⟨e',by rw[List.getElem?_append_left (by omega)]; exact he',dC.up hq i2⟩
     · rw[List.getElem?_append_right (by omega)]at ha'
       have hi':i-bf.length=0:=by
         rcases Nat.eq_zero_or_pos (i-bf.length)with h|h
         · exact h
         · rw[List.getElem?_eq_none (by simp; omega)]at ha'; simp at ha'
       rw[hi']at ha'
       obtain rfl:a=a':=by simpa using ha'
       exact⟨e,by rw[List.getElem?_append_right (by omega),show i-es.length=0 by omega]; rfl,q2⟩
   · intro a' ha'
     rcases List.mem_append.1 ha' with h|h
     · exact g3 a' h
     · obtain rfl:a'=a:=by simpa using h
       exact w2
theorem iQ.slice{α:Type}{t E:TypeId}{R:aB->Value->α->Prop}{W:α->Prop}{s:Nat} [dC R] [Cells R s](ht:P.underlying t=some (.slice E))(hs:P.cellsOf E=s)(h0:0<s)(hb:0<P.bytesOf E)
   (hE:iQ P E R W):iQ P t (aI E R) (qK W):=by
 intro T enc w fuel cs x h hw ρ H hr hF
 rcases Deep.open_slice ht h with⟨rfl,rfl⟩|⟨a,len,cap,m,n,D,Pl,rfl,-,hlc,hcm,hm,rfl,hx⟩
 · exact⟨ρ,H,.slice none 0 0,[],hr,hF,Up.refl ρ,gP.refl H,.cons _ _ _ _ .nilSlice .nil,.inl ⟨rfl,rfl⟩,by simp[qK]⟩
 have hm':m=cap:=by simpa using hm
 subst hm'
 rcases Nat.eq_zero_or_pos len with rfl|hpos
 · refine⟨_,_,.slice (some ⟨H.length,0,none⟩) 0 0,[],hr.dead,hF.dead _,XO hr none,Q9 H none,?_,.inr (.inr ⟨_,_,_,rfl,rfl⟩),by simp[qK]⟩
   exact .cons _ _ _ _ (.sliceDead _ _ _ _ _ _ (g_ _ _ _)) .nil
 have hwl:len*P.bytesOf E<=reachBytes:=by
   have:=hw _ (by simp only[DataW.weights,ht]; exact List.mem_cons_self)
   simp only[List.length_map,List.length_range]at this
   exact Nat.le_trans (Nat.mul_le_mul_right _ (by omega)) this
 have hlen:len<=140737488351232:=by
   have h1:len*1<=len*P.bytesOf E:=Nat.mul_le_mul_left _ hb
   have h2:reachBytes=140737488351232:=rfl
   omega
 have hch:∀i,∃cs',i<len->w.cells? 0 (a.add (i*P.cellsOf E)) (P.cellsOf E)=some cs'/\DataW.trod enc P w 0 (fun _=>true) true n E cs'=some (D i,Pl i):=by
   intro i
   by_cases hi:i<len
   · obtain⟨cs',h1,h2⟩:=hx i (by omega)
     exact⟨cs',fun _=>⟨h1,h2⟩⟩
   · exact⟨[],fun h=>absurd h hi⟩
 obtain⟨C,hC⟩:=Classical.axiomOfChoice hch
 rw[hs]at hC
 obtain⟨ρ1,H1,es,bf,r1,f1,u1,i1,l1,l2,g1,g2,g3⟩:=ahQ (enc:=enc) (D:=fun i=>(D i,Pl i)) hE len (fun i hi=>⟨(hC i hi).2,fun k hk=>hw k (by
   simp only[DataW.weights,ht]
   refine List.mem_cons_of_mem _ (List.mem_append_left _ (aoy (d:=D i) (List.mem_map.2 ⟨i,by simpa using hi,rfl⟩) hk)))⟩) ρ H hr hF
 obtain⟨-,hl0,hc0⟩:=World.cells?_some (hC 0 hpos).1
 have hcell:=hc0 0 h0
 rw[List.getElem?_eq_getElem (by omega)]at hcell
 obtain⟨ab,ao,asp⟩:=a
 have hsp:asp=none:=by simpa[Addr.add]using World.cell?_spot hcell
 subst hsp
 have YT:∃c ct fr,w.heap[ab]?=some (.cells c ct fr):=by
   simp only[World.cell?,Addr.add,Nat.zero_mul,if_true]at hcell
   split at hcell
   · exact⟨_,_,_,by assumption⟩
   · simp at hcell
 obtain⟨c,ct,fr,YT⟩:=YT
 have hadd:∀(o:Nat),Addr.add ⟨ab,ao,none⟩ o=⟨ab,ao+o,none⟩:=by
   intro o
   exact addr_add _ _ _
 have hCi:∀i,i<len->(c.toList.drop (ao+i*s)).take s=C i:=by
   intro i hi
   obtain⟨-,hl,hc⟩:=World.cells?_some (hC i hi).1
   apply List.ext_getElem?
   intro j
   by_cases hj:j<s
   · have:=hc j hj
     rw[hadd,show Addr.add ⟨ab,ao+i*s,none⟩ j=⟨ab,ao+i*s+j,none⟩from addr_add _ _ _,Js YT]at this
     rw[List.getElem?_take_of_lt hj,List.getElem?_drop,←this]
     simp
   · rw[List.getElem?_eq_none (by rw[List.length_take]; omega),List.getElem?_eq_none (by omega)]
 have hbr:wN P ρ1 ⟨ab,ao,s,0,false⟩ ⟨es,E,false,false⟩ w:=by
   refine⟨rfl,hs,c,ct,fr,YT,fun i e he=>?_,by simp⟩
   have hi:i<len:=by
     have:i<es.length:=by
       rcases Nat.lt_or_ge i es.length with h|h
       · exact h
       · simp[List.getElem?_eq_none h]at he
     omega
   obtain⟨e',he',hq⟩:=g2 i _ (List.getElem?_eq_getElem (show i<bf.length by omega))
   rw[he]at he'
   obtain rfl:e=e':=by simpa using he'
   exact⟨(Cells.cells hq).1,by rw[hCi i hi]; exact g1 i e he⟩
 refine⟨_,_,.slice (some ⟨H1.length,0,none⟩) len 0,bf,r1.foreign f1 rfl hbr,f1.foreign rfl _,u1.trans (XO r1 _),i1.trans (Q9 _ _),?_,?_,by omega,g3⟩
 · refine .cons _ _ _ _ (.slice _ _ _ _ _ _ _ (g_ _ _ _) hlc (by simp) (by simp) fun _=>⟨?_,by simp⟩) .nil
   simp
 · refine .inr (.inl ⟨H1.length,0,0,⟨es,E,false,false⟩,by rw[l2],by simp,rfl,rfl,by simp[l1,l2],by omega,fun j a ha=>?_⟩)
   obtain⟨e,he,hq⟩:=g2 j a ha
   exact⟨e,by simpa using he,dC.up hq (Q9 _ _)⟩
def fieldAt(P:Program) [b_ P](t:TypeId)(i:Nat):Option (TypeId×Nat×Nat):=
 match P.underlying t with
 |some (.struct fs)=>(fs[i]?).map fun f=>(f.type,f.offset,P.cellsOf f.type)
 |_=>none
theorem agv{t ft:TypeId}{i o s:Nat}(h:fieldAt P t i=some (ft,o,s)):∃fs f,P.underlying t=some (.struct fs)/\fs[i]?=some f/\f.type=ft/\f.offset=o/\P.cellsOf ft=s:=by
 unfold fieldAt at h
 split at h
 · rename_i fs hfs
   obtain⟨f,hf,he⟩:=Option.map_eq_some_iff.1 h
   injection he with e1 e2
   injection e2 with e2 e3
   exact⟨fs,f,hfs,hf,e1,e2,by rw[←e1]; exact e3⟩
 · simp at h
theorem wI{α T:Type}{enc:TypeId×Value->T}{t ft:TypeId}{i o s fuel:Nat}{R:aB->Value->α->Prop}{W:α->Prop}{cs:List Value}{x:DataW T×List MemPlace}
   (hi:fieldAt P t i=some (ft,o,s)) (h:DataW.trod enc P w 0 (fun _=>true) true fuel t cs=some x) (hw:∀n∈x.1.weights P t,n<=reachBytes) (hE:iQ P ft R W) (hr:Rel P ρ H w) (hF:qm ρ):
   ∃(ρ':dR)(H':aB)(av:Value)(a:α),Rel P ρ' H' w/\qm ρ'/\Up ρ ρ'/\gP H H'/\bP ρ' av.cells.toList ((cs.drop o).take s)/\R H' av a/\W a:=by
 obtain⟨fs,f,hfs,hf,rfl,rfl,rfl⟩:=agv hi
 obtain⟨xs,n,rfl,rfl,hl,hxl,hx⟩:=DataW.trod_struct hfs h
 have hlt:i<fs.size:=(Array.getElem?_eq_some_iff.1 hf).1
 have hxi:xs[i]?=some xs[i]:=List.getElem?_eq_getElem (by omega)
 have ht:=hx i f hf
 rw[hxi]at ht
 refine hE enc w n _ _ ht (fun k hk=>hw k ?_) ρ H hr hF
 simp only[DataW.weights,hfs]
 exact DataW.weights_mem_each (j:=i) (t:=f.type) (d:=(xs[i]).1) (by simp[hf]) (by simp[hxi]) k hk
theorem Xx{T:Type}{enc:TypeId×Value->T}{t ft:TypeId}{o s fuel n:Nat}{cs:List Value}{x:DataW T×List MemPlace}
   (hi:fieldAt P t 0=some (ft,o,s)) (h:DataW.trod enc P w 0 (fun _=>true) true fuel t cs=some x) (hn:P.cellsOf t=n):cs.length=n:=by
 obtain⟨fs,f,hfs,-⟩:=agv hi
 obtain⟨xs,n,rfl,rfl,hl,-⟩:=DataW.trod_struct hfs h
 rw[hl,hn]
theorem bP.field{l l' cs:List Value}{o s:Nat}(h:bP ρ l ((cs.drop o).take s))(h':bP ρ l' (cs.drop (o+s))):bP ρ (l++l') (cs.drop o):=by
 have:=h.append h'
 rwa [←List.drop_drop,List.take_append_drop]at this
theorem bP.one{v:Value}{l:List Value}(h:bP ρ v.cells.toList l)(hv:Value.cells v= #[v]):bP ρ [v] l:=by rw[hv]at h; exact h
theorem bP.end{cs:List Value}{o:Nat}(h:cs.length=o):bP ρ [] (cs.drop o):=by
 rw[List.drop_of_length_le (by omega)]; exact .nil
def vG:Value->Bool
 | .agg _=>true
 |_=>false
def J_(P:Program) [b_ P](t:TypeId):Bool:=
 match P.underlying t with
 |some (.struct _)|some (.array _ _)=>true
 |_=>false
theorem aq1{r:Reach}{base:Nat}{t:TypeId}{v:Value}(h:Value.okWide P w r base t v):vG v=J_ P t:=by
 unfold Value.okWide at h
 unfold J_
 split at h
 · obtain⟨cs,rfl,-⟩:=h; simp_all [vG]
 · obtain⟨cs,rfl,-⟩:=h; simp_all [vG]
 · rename_i h1 h2
   have:vG v=false:=by
     cases v with
     |agg l=>unfold Cell.okWide at h; split at h<;>simp_all [Cell.ok]
     |_=>rfl
   rw[this]
   split<;>simp_all
theorem dh.of_cells{av v:Value}(h:bP ρ av.cells.toList v.cells.toList)(hs:vG v=vG av):dh ρ av v:=by
 cases av with
 |agg l'=>
   cases v with
   |agg l=>have:=dh.agg _ _ h; simpa[Value.cells]using this
   |_=>simp[vG]at hs
 |_=>
   cases v with
   |agg l=>simp[vG]at hs
   |_=>cases h with|cons _ _ _ _ h _=>exact h
theorem Xy{α T:Type}{enc:TypeId×Value->T}{t:TypeId}{ts:List TypeId}{R:aB->Value->α->Prop}{W:α->Prop}{vs:List Value}{ds:List (DataW T)}{ps:List MemPlace}
   (h:DataW.TrodAll enc P w 0 (fun _=>true) true (t::ts) vs ds ps) (hw:∀n∈DataW.weightsEach P (t::ts) ds,n<=reachBytes) (hE:iQ P t R W) (hsh:∀H v a,R H v a->vG v=J_ P t) {r:Reach} {base:Nat} (hok:∀v,vs[0]?=some v->Value.okWide P w r base t v) (hr:Rel P ρ H w) (hF:qm ρ):
   ∃(v:Value)(vs':List Value)(d:DataW T)(ds':List (DataW T))(q:List MemPlace)(ρ':dR)(H':aB)(av:Value)(a:α),vs=v::vs'/\ds=d::ds'/\DataW.TrodAll enc P w 0 (fun _=>true) true ts vs' ds' q/\
     (∀n∈DataW.weightsEach P ts ds',n<=reachBytes)/\Rel P ρ' H' w/\qm ρ'/\Up ρ ρ'/\gP H H'/\dh ρ' av v/\R H' av a/\W a:=by
 cases vs with
 |nil=>cases ds<;>exact h.elim
 |cons v vs=>
   cases ds with
   |nil=>exact h.elim
   |cons d ds=>
     obtain⟨p,q,⟨fuel,h1⟩,h2,rfl⟩:=h
     obtain⟨ρ',H',av,a,g1,g2,g3,g4,g5,g6,g7⟩:=hE enc w fuel _ _ h1 (fun n hn=>hw n (by simp only[DataW.weightsEach,List.mem_append]; exact .inl hn)) ρ H hr hF
     exact⟨v,vs,d,ds,q,ρ',H',av,a,rfl,rfl,h2,fun n hn=>hw n (by simp only[DataW.weightsEach,List.mem_append]; exact .inr hn),g1,g2,g3,g4,.of_cells g5 (by rw[hsh _ _ _ g6,aq1 (hok v rfl)]),g6,g7⟩
theorem XP{args:Array Value}{i:Nat}{v:Value}(h:args.toList[i]?=some v):args[i]?=some v:=by simpa using h
theorem ar5{Pg:Program}{T:Type}{enc:TypeId×Value->T}{vs:List Value}{ds:List (DataW T)}{ps:List MemPlace}(h:DataW.TrodAll enc Pg w 0 (fun _=>true) true [] vs ds ps):vs=[]/\ds=[]:=by
 cases vs<;>cases ds<;>first|exact⟨rfl,rfl⟩|exact h.elim
end
end Go.Fw
/-
 Small rules for the generator.
-/
set_option linter.unusedVariables false
namespace Go.Fw
open Go
section
variable{P:Program} [b_ P]{n:Nat}{f:Fr}{H:aB}{d:Option Tmp}{x y z:Operand}{T T' T'' E:TypeId}{ps:String}{af:Array Edge}{gd:Option (Nat×Bool)}
theorem sD{g:Bool}{s b:Nat}{zv:Value}(ht:TY P T s b zv)(hv:zv.cells.size=s)(hc:zy zv=true):xx P n ⟨d,.alloc T,T',ps,af,gd⟩ f (fun k=>.pointer (some ⟨k,0,some 0⟩)) ⟨[zv],T,true,g⟩:=by
 obtain⟨i,hi,-,-,hz⟩:=ht.inv
 exact asG hi hz ht.sz hv hc
theorem bV{g:Bool}{s b':Nat}{zv:Value}{len:Nat}{parts:List (Nat×Operand)}{vs:List Value}(hT:SL P T E)(ht:TY P E s b' zv)(hxs:jO n f (parts.map (·.2)) vs)
   (hidx:parts.map (·.1)=List.range' 0 parts.length) (hlen:len=parts.length) (hbig:Nat.ble (len*s) (2 ^ 24)=true) (hv:∀v∈vs,v.cells.size=s):
   xx P n ⟨d,.buildSlice T len parts.toArray,T',ps,af,gd⟩ f (fun k=>.slice (some ⟨k,0,none⟩) len 1) ⟨vs,E,true,g⟩:=by
 obtain⟨iE,xy,h1,h2,h3⟩:=ht.inv
 exact apx hT ht.sz xy h3 hxs hidx hlen hbig hv
theorem j6{s t u:List UInt8}(hx:EV n f x (sv s))(hy:EV n f y (sv t))(h:gV s t=some u):fe P n ⟨d,.binOp .add T x y T',T'',ps,af,none⟩ f H (sv u):=by
 obtain⟨rfl,hl⟩:=jR h
 exact ar0 hx hy hl
theorem jA{o:Oper}{base pre rest:List aF}{ι:Type}{val:ι->Value}{post:ι->List aF}(hs:gm base pre rest)(hx:XC P n o f pre val post):XC P n o f base val post:=by
 intro H hc ρ w a K' Q' hr hf hk
 have hc':=hc.take hs
 have hsub:∀k∈foot pre,k∈foot base:=by
   intro k hk
   have:=(hc'.own k (by simp only[foot,List.flatMap_append,List.mem_append]; exact .inl hk))
   rcases this.1 with h|h
   · exact h
   · omega
 refine hx H hc'.view ρ w a K' Q' hr hf fun f' ρ' H' a' w' h1 h2 h3 h4=>?_
 obtain⟨x,e,h5⟩:=h4
 refine hk f' ρ' H' a' w' h1 h2 h3 ⟨x,e,h5.len,h5.imm,fun k hk hn=>h5.agr k hk (fun h=>hn (hsub k h)),h5.hold,h5.nd,fun k hk=>⟨?_,(h5.own k hk).2⟩⟩
 exact (h5.own k hk).1.imp (hsub k) id
theorem ais{o:Oper}{base pre:List aF}{ι:Type}{val:ι->Value}{post:ι->List aF}(hp:base.Perm pre)(hx:XC P n o f pre val post):XC P n o f base val post:=by
 intro H hc ρ w a K' Q' hr hf hk
 have hm:∀k,k∈foot pre↔k∈foot base:=fun k=>(hp.flatMap_right aF.F).symm.mem_iff
 have hc2:Ctx H (foot pre) H pre:=by
   have h:=hc.perm hp
   exact⟨h.len,h.imm,fun _ _ _=>rfl,h.hold,h.nd,fun k hk=>⟨.inl hk,(h.own k hk).2⟩⟩
 refine hx H hc2 ρ w a K' Q' hr hf fun f' ρ' H' a' w' h1 h2 h3 h4=>?_
 obtain⟨x,e,h5⟩:=h4
 refine hk f' ρ' H' a' w' h1 h2 h3 ⟨x,e,h5.len,h5.imm,fun k hk hn=>h5.agr k hk (fun h=>hn ((hm k).1 h)),h5.hold,h5.nd,fun k hk=>⟨?_,(h5.own k hk).2⟩⟩
 exact (h5.own k hk).1.imp (hm k).1 id
theorem asK{o:Oper}{c c':aF}{pre:List aF}{ι:Type}{val:ι->Value}{post:ι->List aF}(hf:zU c c')(hl:∀x,xY (post x))(hx:XC P n o f (pre++[c']) val post):XC P n o f (c::pre) val (fun x=>c::post x):=
 gH hf hl (ais (List.perm_append_singleton c' pre).symm hx)
inductive N8:List aF->List aF->List aF->Prop
 |nil {pre:List aF}:N8 [] pre pre
 |cons {c c':aF} {cs pre base:List aF} [J6 c] (h:zU c c') (t:N8 cs (c'::pre) base):N8 (c::cs) pre base
theorem N8.loc{cl pre base post:List aF}(h:N8 cl pre base)(hl:xY post):xY (cl++post):=by
 induction h with
 |nil=>exact hl
 |cons _ _ ih=>exact .cons ih
theorem jy{o:Oper}{cl pre base:List aF}{ι:Type}{val:ι->Value}{post:ι->List aF}(hf:N8 cl pre base)(hl:∀x,xY (post x))(hx:XC P n o f base val post):XC P n o f (cl++pre) val (fun x=>cl++post x):=by
 induction hf with
 |nil=>exact hx
 |cons h t ih=>exact gH h (fun x=>t.loc (hl x)) (ais List.perm_middle.symm (ih hx))
end
end Go.Fw
namespace Go.Fw
open Go
theorem Ctx.start(H:aB):Ctx H [] H []:=⟨Nat.le_refl _,gP.refl _,fun _ _ _=>rfl,fun c hc=>by simp at hc,by simp,fun k hk=>by simp at hk⟩
end Go.Fw
/-
 Parts of elements of our own slices: loaded, stored, handed to a callee that turns them.
-/
set_option linter.unusedVariables false
namespace Go.Fw
open Go
theorem arx{ρ:dR}{c:Value}(h:dh ρ undef c):c=undef:=by
 generalize hx:undef=x at h
 cases h with
 |tuple a a' h=>
   have:a=[]:=by
     have e:(undef:Value)= .tuple #[]:=rfl
     rw[e]at hx
     injection hx with hx
     have:=congrArg Array.toList hx
     simpa using this.symm
   subst this
   cases h
   rfl
 |_=>simp[undef]at hx
theorem agi{n:Nat}{A:Array Oper}{f:Fr}{o:Oper}{j:Nat}{want:Bool}{t:Tmp}(h:o.guard=some (j,want))(hd:(A[j]?).bind (·.dst)=some t)(hv:f t=undef)(ht:Nat.blt t n=true):Wanted n A f o false:=by
 intro ρ a hf
 have hlt:t<n:=by simpa[Nat.blt_eq]using ht
 have hr:=hf.get t hlt
 rw[hv]at hr
 have hlt':t<a.tmps.size:=by rw[hf.size]; exact hlt
 have hg:a.tmps[t]?=some (a.tmps.getD t undef):=by
   simp[Array.getD_eq_getD_getElem?,hlt']
 rw[arx hr]at hg
 simp[Region.wanted,h,yielded,hd,hg,undef]
section
variable{P:Program} [b_ P]{n:Nat}{H0:aB}{F0:List Nat}{f:Fr}{cs:List aF}{A:Array Oper}{r:List Oper}{K:Fr->List aF->Prop}{d:Option Tmp}{op:Op}{T T' E:TypeId}{ps:String}{af:Array Edge}{gd:Option (Nat×Bool)}{x y:Operand}
variable{l:List Oper}{tb bf todo:List Nat}{fl:List (Nat×List Nat)}{i:Nat}
theorem atE{j:Nat}{t:Tmp}{b:Bool}(hd:(A[j]?).bind (·.dst)=some t)(hv:f t=undef)(ht:Nat.blt t n=true)(h:bI P n H0 F0 A r (put f d undef) cs K):
   bI P n H0 F0 A (⟨d,op,T,ps,af,some (j,b)⟩::r) f cs K:=fun H hc=>ahb (agi rfl hd hv ht) (h H hc)
theorem atF(t:Tmp){j:Nat}{b:Bool}(ho:l[i]?=some ⟨d,op,T,ps,af,some (j,b)⟩)(h1:(l[j]?).bind (·.dst)=some t)(h2:f t=undef)(h3:Nat.blt t n=true)(h:DC P n l tb bf H0 F0 K todo fl (put f d undef) cs):
   DC P n l tb bf H0 F0 K (i::todo) fl f cs:=
 fun H hc=>.flt (Ks:=[]) ho (.inr ⟨rfl,fun f' ha=>by
   have hv:f' t=undef:=(ha t (aaQ h1)).trans h2
   exact agi (o:=⟨d,op,T,ps,af,some (j,b)⟩) rfl (by simpa using h1) hv h3⟩) ((h H hc).cov fun p hp=>by
   rcases List.mem_cons.1 hp with h|h
   · exact .inr (by rw[h])
   · exact .inl h)
variable{α β:Type}{Ro:fO α}{Rf:fO β}
structure Part(Ro:fO α)(off:Nat)(Rf:fO β)(get:α->β)(set:α->β->α):Prop where
 split:∀{F:List Nat}{H:aB}{e:Value}{a:α},Ro F H e a-> ∃(w:Sv)(Fa Fw Fb:List Nat),e.cells.toList[off]?=some w.v/\F=Fa++Fw++Fb/\Rf Fw H w.v (get a)/\
   ∀{H':aB}{Fw':List Nat}{d':β},gP H H'->(∀k,k∈Fa\/k∈Fb->H'[k]?=H[k]?)->Rf Fw' H' w.v d'->Ro (Fa++Fw'++Fb) H' e (set a d')
def azs(E:TypeId)(Ro:fO α)(i off:Nat)(w:Value):fO (List α):=fun F H v xs=>az E Ro F H v xs/\ ∃k b e,F.head?=some k/\jo v=some k/\H[k]?=some (some b)/\b.elems[i]?=some e/\e.cells.toList[off]?=some w
instance{i off:Nat}{w:Value} [eO Ro]:eO (azs E Ro i off w):=⟨fun{F H H' v a} h hi hk=>by
 obtain⟨h1,k,b,e,h0,h2,h3,h4,h5⟩:=h
 refine⟨eO.keep h1 hi hk,k,b,e,h0,h2,(hk k ?_).trans h3,h4,h5⟩
 cases F with
 |nil=>simp at h0
 |cons q F=>simp at h0; subst h0; simp⟩
theorem az.head{F:List Nat}{H:aB}{v:Value}{xs:List α}{k:Nat}(h:az E Ro F H v xs)(hk:jo v=some k):F.head?=some k/\ ∃m b G,v= .slice (some ⟨k,0,none⟩) xs.length m/\(m=1\/m=2)/\H[k]?=some (some b)/\b.wr=true/\b.own=true/\b.ty=E/\xs.length<4611686018427387904/\F=k::G/\dP Ro H b.elems xs G:=by
 rcases h with⟨rfl,-,-⟩|⟨k',m,b,G,rfl,h2,h3,h4,h5,h6,h7,rfl,h9⟩
 · simp[jo]at hk
 · have e:k'=k:=by simpa[jo]using hk
   subst e
   exact⟨rfl,m,b,G,rfl,h2,h3,h4,h5,h6,h7,rfl,h9⟩
theorem ar6 [eO Ro]{s k off:Nat}{F:List Nat}{i:Int}{a a':α}{u v:Value}{xs:List α}(hs:SZ P T s)(h0:Nat.blt 0 s=true)(hx:EV n f x (.pointer (some ⟨k,i.toNat,some off⟩)))(hy:EV n f y u)(hk:jo v=some k)(hj:xs[i.toNat]?=some a)
   (hu:u.cells.size=s) (hsc:u.cells.toList.all scal=true) (hfit:∀F H e,Ro F H e a->off+s<=e.cells.size) (hset:∀F H e,Ro F H e a->Ro F H (uj e off u.cells.toList) a'):
   XC P n ⟨d,.store T x y,T',ps,af,gd⟩ f [aD (az E Ro) F v xs] (fun _:Unit=>undef) (fun _=>[aD (az E Ro) F v (xs.set i.toNat a')]):=by
 intro H dN
 have ho:az E Ro F H v xs:=dN.hold _ (List.mem_singleton.2 rfl)
 obtain⟨hh,m,b,G,rfl,h2,h3,h4,h5,h6,h7,rfl,h9⟩:=ho.head hk
 obtain⟨e,F1,Fj,F2,g1,rfl,g3,g4⟩:=h9.at hj
 refine abH hs hx hy h3 h5 g1 hu hsc (by simpa[Nat.blt_eq]using h0) (hfit _ _ _ g3) ⟨(),rfl,?_⟩
 have BD:∀q,q≠k->(H.set k (some ⟨b.elems.set i.toNat (uj e off u.cells.toList),b.ty,true,b.wr⟩))[q]?=H[q]?:=fun q hq=>by rw[List.getElem?_set_ne (fun e=>hq e.symm)]
 have lh:gP H (H.set k (some ⟨b.elems.set i.toNat (uj e off u.cells.toList),b.ty,true,b.wr⟩)):=by
   intro q b2 hq hw2
   rw[BD q (fun e=>by
     subst e; rw[hq]at h3
     injection h3 with h3; injection h3 with h3
     rw[h3]at hw2; rw[hw2]at h4; simp at h4)]
   exact hq
 have hnd:=dN.nd
 have xz:∀q,q∈F1\/q∈Fj\/q∈F2->q≠k:=by
   intro q hq e
   subst e
   simp only[foot,aD,List.flatMap_cons,List.flatMap_nil,List.append_nil,List.nodup_cons,List.mem_append]at hnd
   exact hnd.1 (by rcases hq with h|h|h<;>simp[h])
 refine⟨by simp,lh,fun q hq Dk=>BD q (fun e=>Dk (by subst e; simp[foot,aD])),?_,by simpa[foot,aD]using hnd,fun q hq=>⟨.inl (by simpa[foot,aD]using hq),?_⟩⟩
 · intro c hc
   simp at hc; subst hc
   refine .inr ⟨k,m,_,F1++Fj++F2,by rw[List.length_set],h2,List.getElem?_set_self (qz h3),h4,rfl,h6,by simpa using h7,by simp,?_⟩
   refine g4 (fun Fi x y hr hm=>eO.keep hr lh fun q hq=>BD q (xz q ?_)) (eO.keep (hset _ _ _ g3) lh fun q hq=>BD q (xz q (by simp[hq])))
   rcases hm q hq with h|h
   · exact .inl h
   · exact .inr (.inr h)
 · simpa using (dN.own q (by simpa[foot,aD]using hq)).2
theorem jw{H:aB}{k s:Nat}{ow w:Bool}{TB:TypeId}{l:List Value}{f:Fr}(hA:AG P T true)(hs:SZ P T s)(h0:Nat.blt 0 s=true)(hx:EV n f x (.pointer (some ⟨k,0,some 0⟩)))(hk:H[k]?=some (some ⟨[.agg l.toArray],TB,ow,w⟩))(hl:l.length=s):
   fe P n ⟨d,.load T x,T',ps,af,none⟩ f H (.agg l.toArray):=
 Fg (e:=.agg l.toArray) hA hs hx hk rfl (by simpa[Nat.blt_eq]using h0) (by simp[Value.cells,hl]) (by subst hl; simp[Value.cells])
theorem aqa{E:TypeId}{R:aB->Value->α->Prop}{v:Value}{xs:List α}{H:aB}(h:aI E R H v xs):∃a m,v= .slice a xs.length m/\(a=none->xs=[]):=by
 rcases h with⟨rfl,rfl⟩|⟨k,i,m,b,rfl,-⟩|⟨k,i,m,rfl,rfl⟩
 · exact⟨none,0,rfl,fun _=>rfl⟩
 · exact⟨_,m,rfl,fun h=>by simp at h⟩
 · exact⟨_,m,rfl,fun h=>by simp at h⟩
theorem ahR{E:TypeId}{R:aB->Value->α->Prop} [dC R]{v:Value}{xs:List α}(H:aB)(h:(aR (aI E R) v xs).P H):∃a m,v= .slice a xs.length m/\(a=none->xs=[]):=aqa (R:=R) h
theorem ary{E:TypeId} [eO Ro]{F:List Nat}{v:Value}{xs:List α}(H:aB)(h:(aD (az E Ro) F v xs).P H):∃a m,v= .slice a xs.length m/\(a=none->xs=[]):=by
 have h:az E Ro F H v xs:=h
 rcases h with⟨rfl,rfl,-⟩|⟨k,m,b,G,rfl,-⟩
 · exact⟨none,0,rfl,fun _=>rfl⟩
 · exact⟨_,m,rfl,fun h=>by simp at h⟩
variable{T'':TypeId}
theorem ait{H:aB}{a:Option Addr}{n' m:Nat}{f:Fr}(hT:SL P T E)(hx:EV n f x (.slice a n' m)):fe P n ⟨d,.binOp .eql T x (.const (.slice none 0 0)) T',T'',ps,af,none⟩ f H (.bool a.isNone):=by
 intro ρ w q hr hf
 have hu:P.underlying T=some (.slice E):=hT
 have hv:=hx.use hf
 have key:∃a' c,q.eval x= .slice a' n' c/\a'.isNone=a.isNone:=by
   generalize q.eval x=cv at hv
   cases hv with
   |nilSlice=>exact⟨none,0,rfl,rfl⟩
   |slice k i n m L p cap=>exact⟨some p,cap,rfl,rfl⟩
   |sliceDead k i n m p cap=>exact⟨some p,cap,rfl,rfl⟩
 obtain⟨a',c,he,hi⟩:=key
 refine⟨.bool a'.isNone,?_,by rw[hi]; exact .bool _⟩
 have hc:Act.eval q (.const (.slice none 0 0))= .slice none 0 0:=rfl
 simp[execOp,he,hc,eqGuard,Lib.run_eql_slice_nil w T E a' n' c 0 0 hu]
theorem asL{H:aB}{a:Option Addr}{n' m:Nat}{f:Fr}(hT:SL P T E)(hx:EV n f x (.slice a n' m)):fe P n ⟨d,.binOp .neq T x (.const (.slice none 0 0)) T',T'',ps,af,none⟩ f H (.bool (!a.isNone)):=by
 intro ρ w q hr hf
 have hu:P.underlying T=some (.slice E):=hT
 have hv:=hx.use hf
 have key:∃a' c,q.eval x= .slice a' n' c/\a'.isNone=a.isNone:=by
   generalize q.eval x=cv at hv
   cases hv with
   |nilSlice=>exact⟨none,0,rfl,rfl⟩
   |slice k i n m L p cap=>exact⟨some p,cap,rfl,rfl⟩
   |sliceDead k i n m p cap=>exact⟨some p,cap,rfl,rfl⟩
 obtain⟨a',c,he,hi⟩:=key
 refine⟨.bool (!a'.isNone),?_,by rw[hi]; exact .bool _⟩
 have hc:Act.eval q (.const (.slice none 0 0))= .slice none 0 0:=rfl
 simp[execOp,he,hc,eqGuard,run_neq_slice_nil_any w T E a' n' c 0 0 hu]
theorem aiu{v:Value}{xs:List α}{c:aF}(hT:SL P T E)(hx:EV n f x v)(hm:Mem c cs)(hc:∀H,c.P H-> ∃a m,v= .slice a xs.length m/\(a=none->xs=[]))(h:∀b:Bool,(b=true->xs=[])->bI P n H0 F0 A r (put f d (.bool b)) cs K):
   bI P n H0 F0 A (⟨d,.binOp .eql T x (.const (.slice none 0 0)) T',T'',ps,af,none⟩::r) f cs K:=by
 intro H dN
 obtain⟨a,m,rfl,ha⟩:=hc H (dN.mem hm)
 exact wK (ait hT hx) (h a.isNone (fun e=>ha (by simpa using e)) H dN)
def IK(P:Program) [b_ P](t:TypeId)(k:IntKind):Prop:=P.underlying t=some (.int k)
theorem arz{H:aB}{S D:TypeId}{k1 k2:IntKind}{i:Int}(hS:IK P S k1)(hD:IK P D k2)(hx:EV n f x (.int k1 i)):fe P n ⟨d,.convert S D x,T',ps,af,none⟩ f H (.int k2 (k2.wrap i)):=by
 intro ρ w q hr hf
 have hS':P.underlying S=some (.int k1):=hS
 have hD':P.underlying D=some (.int k2):=hD
 exact⟨_,by simp[execOp,(hx.use hf).int_inv,convert,underlying,hS',hD',Conv.intToInt],.int _ _⟩
def uM(i:Int):UInt8:=UInt8.ofNat (IntKind.u8.wrap i).toNat
theorem asM(i:Int):((uM i).toNat:Int)=IntKind.u8.wrap i:=by
 have h:IntKind.u8.wrap i=i % 256:=by simp[IntKind.wrap,IntKind.bits,IntKind.signed]
 unfold uM
 rw[h]
 have h1:0<=i % 256:=Int.emod_nonneg _ (by decide)
 have h2:i % 256<256:=Int.emod_lt_of_pos _ (by decide)
 simp[UInt8.toNat_ofNat']
 omega
theorem ahS{H:aB}{S D:TypeId}{k1:IntKind}{i:Int}(hS:IK P S k1)(hD:IK P D .u8)(hx:EV n f x (.int k1 i)):fe P n ⟨d,.convert S D x,T',ps,af,none⟩ f H (.int .u8 ((uM i).toNat:Int)):=by
 rw[asM]; exact arz hS hD hx
end
end Go.Fw
/-
 Plain laws on the helpers that laws use: copies, sizes, comparisons.
-/
namespace Go.Fw
open Go
theorem jB{α:Type}(l:List α)(k:Nat):ix l (k:Int)=l[k]?:=by simp[ix]
theorem aiv{α:Type}(n:Nat)(z:α)(h:n<4294967296):yN (n:Int) z=some (List.replicate n z):=by
 unfold yN
 rw[if_pos (by omega)]
 simp
theorem abo{n:Nat}(h:n<9223372036854775808):IntKind.i64.wrap (n:Int)=n:=fo (by omega) (by omega)
theorem QJ{α:Type}{l:List α}{k:Nat}{x:α}{r:List α}(h:l.drop k=x::r):l[k]?=some x/\l.drop (k+1)=r:=by
 have hlt:k<l.length:=by
   rcases Nat.lt_or_ge k l.length with h'|h'
   · exact h'
   · rw[List.drop_of_length_le h']at h; simp at h
 rw[List.drop_eq_getElem_cons hlt]at h
 injection h with h1 h2
 exact⟨by rw[List.getElem?_eq_getElem hlt,h1],h2⟩
theorem aiw{α:Type}{L:List α->Nat->List α->Option (List α)}(h0:∀k c,L [] k c=some c){W:α->Prop}(h1:∀x r k c,W x->k<c.length->L (x::r) k c=L r (k+1) (c.set k x)):
   ∀(rest:List α)(k:Nat)(c:List α),(∀x∈rest,W x)->k+rest.length<=c.length->L rest k c=some (c.take k++rest++c.drop (k+rest.length))
 |[],k,c,_,_=>by rw[h0]; simp
 |x::r,k,c,hw,hl=>by
   simp only[List.length_cons]at hl
   rw[h1 x r k c (hw x (by simp)) (by omega),aiw h0 h1 r (k+1) _ (fun y hy=>hw y (by simp[hy])) (by simp; omega)]
   have hk:k<c.length:=by omega
   congr 1
   rw[List.take_succ_eq_append_getElem (by simpa using hk)]
   simp only[List.getElem_set_self,List.take_set_of_le (Nat.le_refl k)]
   rw[List.drop_set_of_lt (by omega)]
   simp[Nat.add_assoc,Nat.add_comm 1]
theorem atG{α:Type}{L:List α->Nat->List α->Option (List α)}(h0:∀k c,L [] k c=some c){W:α->Prop}(h1:∀x r k c,W x->k<c.length->L (x::r) k c=L r (k+1) (c.set k x)){a:List α}{z:α}(hw:∀x∈a,W x):
   L a 0 (List.replicate a.length z)=some a:=by
 rw[aiw h0 h1 a 0 _ hw (by simp)]
 simp
def Sz{α:Type}(f:α->Int->Option Int)(tot:α->Nat)(W:α->Prop):Prop:=
 ∀a,W a-> ∀left:Int,0<=left->left<=1048576-> ∃n,f a left=some n/\(n=left-tot a/\0<=n\/n<0)
theorem aix{α:Type}{L:List α->Nat->Int->Option Int}{f:α->Int->Option Int}{tot:α->Nat}{W:α->Prop}(hf:Sz f tot W)(h0:∀k c,L [] k c=some c)
   (h1:∀x r k c,L (x::r) k c=(f x c).bind fun n=>if decide ((n:Int)<0)then some (-1)else L r (k+1) n):
   ∀(rest:List α)(k:Nat)(left:Int),(∀x∈rest,W x)->0<=left->left<=1048576-> ∃n,L rest k left=some n/\(n=left-((rest.map tot).sum:Nat)/\0<=n\/n<0)
 |[],k,left,_,hl,_=>⟨left,h0 k left,.inl ⟨by simp,hl⟩⟩
 |x::r,k,left,hw,hl,hm=>by
   obtain⟨n,e,h⟩:=hf x (hw x (by simp)) left hl hm
   rw[h1,e,Option.bind_some]
   rcases h with⟨rfl,hn⟩|hn
   · rw[if_neg (by simp; omega)]
     obtain⟨m,e2,h2⟩:=aix hf h0 h1 r (k+1) _ (fun y hy=>hw y (by simp[hy])) hn (by omega)
     refine⟨m,e2,h2.imp (fun ⟨a,b⟩=>⟨?_,b⟩) id⟩
     rw[a]; simp only[List.map_cons,List.sum_cons]; omega
   · rw[if_pos (by simpa using hn)]
     exact⟨-1,rfl,.inr (by omega)⟩
theorem abp{α:Type}{S:List α->Int->Option Int}{L:List α->Nat->Int->Option Int}{f:α->Int->Option Int}{tot:α->Nat}{W:α->Prop}(hf:Sz f tot W)(h0:∀k c,L [] k c=some c)
   (h1:∀x r k c,L (x::r) k c=(f x c).bind fun n=>if decide ((n:Int)<0)then some (-1)else L r (k+1) n)
   (hS:∀a left,S a left=if decide ((IntKind.i64.wrap (left-(a.length:Int)):Int)<0)then some (-1)else L a 0 (IntKind.i64.wrap (left-(a.length:Int)))):
   Sz S (fun a=>a.length+(a.map tot).sum) (qK W):=by
 intro a ⟨hlen,hw⟩ left hl hm
 rw[hS,fo (by omega) (by omega)]
 by_cases h:left-(a.length:Int)<0
 · rw[if_pos (by simpa using h)]; exact⟨-1,rfl,.inr (by omega)⟩
 · rw[if_neg (by simpa using h)]
   obtain⟨n,e,h2⟩:=aix hf h0 h1 a 0 (left-(a.length:Int)) hw (by omega) (by omega)
   refine⟨n,e,h2.imp (fun ⟨p,q⟩=>⟨?_,q⟩) id⟩
   rw[p]; simp only[Int.natCast_add]; omega
theorem asN{α:Type}{S:List α->Int->Option Int}{W:α->Prop}(hS:∀a left,S a left=if decide ((IntKind.i64.wrap (left-(a.length:Int)):Int)<0)then some (-1)else some (IntKind.i64.wrap (left-(a.length:Int)))):
   Sz S (fun a=>a.length) (qK W):=by
 intro a ⟨hlen,_⟩ left hl hm
 rw[hS,fo (by omega) (by omega)]
 by_cases h:left-(a.length:Int)<0
 · rw[if_pos (by simpa using h)]; exact⟨-1,rfl,.inr (by omega)⟩
 · rw[if_neg (by simpa using h)]; exact⟨_,rfl,.inl ⟨rfl,by omega⟩⟩
theorem aiy{α:Type}{L:List α->Nat->Option Bool}(b:List α)(h0:∀k,L [] k=some true)(h1:∀x r k,b[k]?=some x->L (x::r) k=L r (k+1)):
   ∀(rest:List α)(k:Nat),b.drop k=rest->L rest k=some true
 |[],k,_=>h0 k
 |x::r,k,h=>by
   obtain⟨e1,e2⟩:=QJ h
   rw[h1 x r k e1]
   exact aiy b h0 h1 r (k+1) e2
abbrev xc{α:Type}(f:α->Nat)(a:List α):Nat:=a.length+(a.map f).sum
def fA{α:Type}(p:α->Prop)(a:List α):Prop:=a.length<4294967296/\ ∀x∈a,p x
def vH{α:Type}(_:α):Prop:=True
theorem aiz{α:Type}{f:α->Nat}{x:α}:∀{a:List α},x∈a->f x<=(a.map f).sum
 |y::a,h=>by
   rcases List.mem_cons.1 h with rfl|h
   · simp
   · have:=aiz (f:=f) h; simp only[List.map_cons,List.sum_cons]; omega
theorem ab9{α:Type}{f:α->Nat}{p:α->Prop}(h:∀x,f x<4294967296->p x)(a:List α)(ha:xc f a<4294967296):fA p a:=
 ⟨by simp only[xc]at ha; omega,fun x hx=>h x (by have:=aiz (f:=f) hx; simp only[xc]at ha; omega)⟩
theorem ui{α:Type}(a:List α)(ha:a.length<4294967296):fA vH a:=⟨ha,fun _ _=>trivial⟩
theorem asO{α:Type}{p:α->Prop}:fA p []:=⟨by simp,by simp⟩
theorem Xk{α:Type}{p:α->Prop}{z:α}{S:List α->Option (List α)}{L:List α->Nat->List α->Option (List α)}(hS:∀a,S a=(yN (a.length:Int) z).bind fun z=>L a 0 z)(h0:∀k c,L [] k c=some c)
   (h1:∀x r k c,p x->k<c.length->L (x::r) k c=L r (k+1) (c.set k x)) (a:List α) (h:fA p a):S a=some a:=by
 rw[hS,aiv _ _ h.1,Option.bind_some]
 exact atG h0 h1 h.2
theorem Xl{α:Type}{S:List α->List α->Option Bool}{L:List α->List α->Nat->Option Bool}(hS:∀a b,S a b=if (((a.length:Int):Int)!=(b.length:Int))then some false else L b a 0)(h0:∀b k,L b [] k=some true)
   (h1:∀b x r k,b[k]?=some x->L b (x::r) k=L b r (k+1)) (a:List α):S a a=some true:=by
 rw[hS]
 simp only[bne_self_eq_false,Bool.false_eq_true,if_false]
 exact aiy a (h0 a) (h1 a) a 0 rfl
theorem nD{α:Type}{xs:List α}(h:xs.length<4294967296):app [] xs=some xs:=by unfold app; rw[if_pos (by simpa using h)]; rfl
theorem kz{α:Type}{xs ys:List α}(h:xs.length+ys.length<4294967296):app xs ys=some (xs++ys):=by unfold app; rw[if_pos h]
def jE{α:Type}(p:α->Bool):List α->Nat->Int
 |[],_=>-1
 |x::r,k=>if p x then (k:Int)else jE p r (k+1)
theorem uo{α:Type}{p:α->Bool}:∀(l:List α)(k:Nat),decide ((0:Int)<=jE p l k)=l.any p
 |[],k=>by simp[jE]
 |x::r,k=>by
   rw[jE,List.any_cons]
   by_cases h:p x=true
   · rw[if_pos h,h]; simp
   · rw[if_neg h,uo r (k+1)]; simp[h]
theorem pV{α:Type}{L:List α->Nat->Option Int}{f:α->Option Bool}{p:α->Bool}(h0:∀k,L [] k=some (-1))(h1:∀x r k,L (x::r) k=(f x).bind fun b=>if b then some (k:Int)else L r (k+1)):
   ∀(l:List α)(k:Nat),(∀x∈l,f x=some (p x))->L l k=some (jE p l k)
 |[],k,_=>h0 k
 |x::r,k,hf=>by
   rw[h1,hf x (by simp),Option.bind_some,jE]
   split
   · rfl
   · exact pV h0 h1 r (k+1) fun y hy=>hf y (by simp[hy])
theorem Nj{α:Type}{L:List α->Nat->Option Bool}{f:α->Option Bool}{p:α->Bool}{e:Bool}(h0:∀k,L [] k=some e)(h1:∀x r k,L (x::r) k=(f x).bind fun b=>if (!b)then some false else L r (k+1)):
   ∀(l:List α)(k:Nat),(∀x∈l,f x=some (p x))->L l k=some (l.all p&&e)
 |[],k,_=>by simp[h0]
 |x::r,k,hf=>by
   rw[h1,hf x (by simp),Option.bind_some,List.all_cons]
   cases h:p x
   · simp
   · simp[Nj h0 h1 r (k+1) fun y hy=>hf y (by simp[hy])]
def qY{α:Type}(p:α->α->Bool):List α->List α->Bool
 |[],[]=>true
 |x::a,y::b=>p x y&&qY p a b
 |_,_=>false
theorem aiA{α:Type}{p:α->α->Bool}:∀{a b:List α},a.length≠b.length->qY p a b=false
 |[],[],h=>by simp at h
 |x::a,y::b,h=>by rw[qY,aiA (a:=a) (b:=b) (by simpa using h),Bool.and_false]
 |[],_::_,_=>rfl
 |_::_,[],_=>rfl
theorem ahT{α:Type}{L:List α->Nat->Option Bool}{f:α->α->Option Bool}{p:α->α->Bool}{b:List α}{e:Bool}(h0:∀k,L [] k=some e)(h1:∀x r k y,b[k]?=some y->L (x::r) k=(f x y).bind fun c=>if (!c)then some false else L r (k+1)):
   ∀(l:List α)(k:Nat),l.length=(b.drop k).length->(∀x∈l,∀y∈b,f x y=some (p x y))->L l k=some (qY p l (b.drop k)&&e)
 |[],k,hl,_=>by
   have:b.drop k=[]:=List.length_eq_zero_iff.1 hl.symm
   rw[h0,this]; rfl
 |x::r,k,hl,hf=>by
   cases hd:b.drop k with
   |nil=>rw[hd]at hl; simp at hl
   |cons y t=>
     obtain⟨e1,e2⟩:=QJ hd
     have hy:y∈b:=List.mem_of_getElem? e1
     rw[h1 x r k y e1,hf x (by simp) y hy,Option.bind_some,qY]
     cases hp:p x y
     · rfl
     · rw[hd]at hl
       simp only[Bool.not_true,Bool.false_eq_true,if_false,Bool.true_and]
       rw[ahT h0 h1 r (k+1) (by rw[e2]; simpa using hl) fun x' hx'=>hf x' (by simp[hx']),e2]
theorem aiB{α:Type}{S:List α->List α->Option Bool}{L:List α->List α->Nat->Option Bool}{f:α->α->Option Bool}{p:α->α->Bool}(hS:∀a b,S a b=if (((a.length:Int):Int)!=(b.length:Int))then some false else L b a 0)(h0:∀b k,L b [] k=some true)
   (h1:∀b x r k y,b[k]?=some y->L b (x::r) k=(f x y).bind fun c=>if (!c)then some false else L b r (k+1)) (a b:List α) (hf:∀x∈a,∀y∈b,f x y=some (p x y)):S a b=some (qY p a b):=by
 rw[hS]
 by_cases h:a.length=b.length
 · rw[if_neg (by simp[h]),ahT (L:=L b) (h0 b) (h1 b) a 0 (by simpa using h) hf]
   simp
 · rw[if_pos (by simpa[Int.natCast_inj]using h),aiA h]
def jX(x y:Int):Int:=if x<y then -1 else if y<x then 1 else 0
def cmpL:List Int->List Int->Int
 |[],[]=>0
 |[],_::_=>-1
 |_::_,[]=>1
 |x::a,y::b=>if jX x y !=0 then jX x y else cmpL a b
theorem agw{α:Type}{P:α->Prop}{p:α->Bool}{L:List α->Nat->List α->Option (List α)}(h0:∀k c,L [] k c=some c)(h1:∀x r k c,P x->c.length+1<4294967296->L (x::r) k c=L r (k+1) (if p x then c++[x]else c)):
   ∀(l:List α)(k:Nat)(c:List α),(∀x∈l,P x)->c.length+l.length<4294967296->L l k c=some (c++l.filter p)
 |[],k,c,_,_=>by simp[h0]
 |x::r,k,c,hp,hl=>by
   simp only[List.length_cons]at hl
   rw[h1 x r k c (hp x (by simp)) (by omega),agw h0 h1 r (k+1) _ (fun y hy=>hp y (by simp[hy])) (by split<;>(try simp only[List.length_append,List.length_cons,List.length_nil])<;>omega),List.filter_cons]
   split<;>simp
theorem abq{α β:Type}{P:α->Prop}{g:α->β}{L:List α->Nat->List β->Option (List β)}(h0:∀k c,L [] k c=some c)(h1:∀x r k c,P x->c.length+1<4294967296->L (x::r) k c=L r (k+1) (c++[g x])):
   ∀(l:List α)(k:Nat)(c:List β),(∀x∈l,P x)->c.length+l.length<4294967296->L l k c=some (c++l.map g)
 |[],k,c,_,_=>by simp[h0]
 |x::r,k,c,hp,hl=>by
   simp only[List.length_cons]at hl
   rw[h1 x r k c (hp x (by simp)) (by omega),abq h0 h1 r (k+1) _ (fun y hy=>hp y (by simp[hy])) (by simp; omega)]
   simp
theorem ahU{α:Type}{P:α->Prop}{L:List α->Nat->List α->Option (List α)}(h0:∀k c,L [] k c=some c)(h1:∀x r k c,P x->c.length+1<4294967296->L (x::r) k c=L r (k+1) (c++[x]))(l:List α)(h:fA P l):L l 0 []=some l:=by
 have:=abq (g:=fun x=>x) h0 h1 l 0 [] h.2 (by simpa using h.1)
 simpa using this
theorem app1{α:Type}{c:List α}{x:α}(h:c.length+1<4294967296):app c [x]=some (c++[x]):=kz (by simpa using h)
def jY{α:Type}(p:α->Bool)(q:α->α->Bool):Option α->List α->Bool
 |_,[]=>true
 |none,x::r=>p x&&jY p q (some x) r
 |some y,x::r=>p x&&!q y x&&jY p q (some x) r
theorem abr{α:Type}(p:α->Bool)(q:α->α->Bool):∀(o:Option α)(l:List α),jY p q o l=(jY (fun _=>true) q o l&&l.all p)
 |_,[]=>by simp[jY]
 |none,x::r=>by
   rw[jY,jY,abr p q (some x) r,List.all_cons]
   cases p x<;>cases jY (fun _=>true) q (some x) r<;>simp
 |some y,x::r=>by
   rw[jY,jY,abr p q (some x) r,List.all_cons]
   cases p x<;>cases q y x<;>cases jY (fun _=>true) q (some x) r<;>simp
theorem ai8{α:Type}{L:List α->Nat->Option Bool}{P:α->Prop}{p:α->Bool}{q:α->α->Bool}{e:Bool}(l:List α)(hP:∀x∈l,P x)(hl:l.length<4294967296)(h0:∀k,L [] k=some e)
   (h2:∀x r k y,P x->P y->l[k]?=some y->k<4294967296->L (x::r) (k+1)=if p x&&!q y x then L r (k+2)else some false):
   ∀(rest:List α)(k:Nat)(y:α),l.drop (k+1)=rest->l[k]?=some y->L rest (k+1)=some (jY p q (some y) rest&&e)
 |[],k,y,_,_=>by rw[h0]; simp[jY]
 |x::r,k,y,hd,hy=>by
   obtain⟨e1,e2⟩:=QJ hd
   have hlt:k<l.length:=by
     rcases Nat.lt_or_ge k l.length with h|h
     · exact h
     · simp[List.getElem?_eq_none h]at hy
   rw[h2 x r k y (hP x (List.mem_of_getElem? e1)) (hP y (List.mem_of_getElem? hy)) hy (by omega),jY]
   cases hpq:(p x&&!q y x)
   · simp
   · rw[if_pos rfl,ai8 l hP hl h0 h2 r (k+1) x e2 e1]; simp
theorem ahV{α:Type}{L:List α->Nat->Option Bool}{P:α->Prop}{p:α->Bool}{q:α->α->Bool}{e:Bool}(l:List α)(hP:∀x∈l,P x)(hl:l.length<4294967296)(h0:∀k,L [] k=some e)
   (h1:∀x r,P x->L (x::r) 0=if p x then L r 1 else some false)
   (h2:∀x r k y,P x->P y->l[k]?=some y->k<4294967296->L (x::r) (k+1)=if p x&&!q y x then L r (k+2)else some false):
   L l 0=some (jY p q none l&&e):=by
 cases l with
 |nil=>rw[h0]; simp[jY]
 |cons x r=>
   rw[h1 x r (hP x (by simp)),jY]
   cases hp:p x
   · simp
   · rw[if_pos rfl,ai8 (x::r) hP hl h0 h2 r 0 x rfl rfl]; simp
theorem aiC{α:Type}(l:List α)(k:Nat)(h:k<4294967296):ix l (IntKind.i64.wrap ((((k+1:Nat):Int))-1))=l[k]?:=by
 rw[show (((k+1:Nat):Int))-1=(k:Int) by omega,abo (by omega),jB]
theorem ahW(k:Nat):decide ((0:Int)<((k+1:Nat):Int))=true:=decide_eq_true (by omega)
theorem ar7:decide ((0:Int)<((0:Nat):Int))=false:=rfl
def aZ(lo hi n:Int):Bool:=decide (lo<=n)&&decide (n<=hi)
theorem XQ{α:Type}{l:List α}{m:Int}(h:aZ 0 ((l.length:Int)-1) m=true):∃x,ix l m=some x/\l[m.toNat]?=some x:=by
 simp[aZ]at h
 have hlt:m.toNat<l.length:=by omega
 exact⟨l[m.toNat],by unfold ix; rw[if_pos h.1,List.getElem?_eq_getElem hlt],List.getElem?_eq_getElem hlt⟩
theorem ahX{α:Type}{L:List α->Nat->Option Bool}{f:α->Option Bool}{p:α->Bool}(h0:∀k,L [] k=some false)(h1:∀x r k,L (x::r) k=(f x).bind fun b=>if b then some true else L r (k+1)):
   ∀(l:List α)(k:Nat),(∀x∈l,f x=some (p x))->L l k=some (l.any p)
 |[],k,_=>h0 k
 |x::r,k,hf=>by
   rw[h1,hf x (by simp),Option.bind_some,List.any_cons]
   cases h:p x
   · simp[ahX h0 h1 r (k+1) fun y hy=>hf y (by simp[hy])]
   · simp
end Go.Fw
/-
 Slice expressions on our own slices; clear; elements that keep their identity; a function that only moves elements, over deep data.
-/
set_option linter.unusedVariables false
namespace Go.Fw
open Go
theorem arA{z:Value}(hz:zy z=true)(h0:z.cells.toList.all scal=true)(n:Nat)(hs:0<z.cells.size):∀u∈(Builtin.zeroCells z.cells n).toList,scal u=true:=by
 intro u hu
 simp only[Builtin.zeroCells,Array.toList_map,List.mem_map,Array.toList_range,List.mem_range]at hu
 obtain⟨i,-,rfl⟩:=hu
 have hlt:i % z.cells.size<z.cells.size:=Nat.mod_lt _ hs
 rw[getElem!_pos z.cells (i % z.cells.size) hlt]
 exact List.all_eq_true.1 h0 _ (by simp)
theorem ahY(z:Array Value)(n:Nat):(Builtin.zeroCells z n).toList.length=n*z.size:=by simp[Builtin.zeroCells]
section
variable{P:Program} [b_ P]{n:Nat}{f:Fr}{H0:aB}{F0:List Nat}{cs:List aF}{A:Array Oper}{r:List Oper}{K:Fr->List aF->Prop}{d:Option Tmp}{x y z:Operand}{T T' E:TypeId}{ps:String}{af:Array Edge}{gd:Option (Nat×Bool)}
variable{α:Type}{R:aB->Value->α->Prop}{xs:List α}{v:Value}
theorem ahi{H:aB}{k m l s:Nat}{b:fE}{kk:IntKind}{i:Int}(hT:SL P T E)(hs:SZ P E s)(hx:EV n f x (.slice (some ⟨k,0,none⟩) l m))(hy:EV n f y (.int kk i))(hk:H[k]?=some (some b))(hbt:b.ty=E)(h0:0<=i)(hi:i<=(l:Int)):
   fe P n ⟨d,.slice T x (some y) none none,T',ps,af,none⟩ f H (.slice (some ⟨k,i.toNat,none⟩) (l-i.toNat) 0):=by
 intro ρ w a hr hf
 obtain⟨L,p,cap,hl,hb,hc,hcap,h1,h2,hp⟩:=(hx.use hf).slice_inv hr hk
 have hyv:a.eval y= .int kk i:=(hy.use hf).int_inv
 have hu:P.underlying T=some (.slice E):=hT
 have he:P.elem T=E:=by simp[Program.elem,hu]
 have hu2:P.underlying T=some (.slice (P.elem T)):=by rw[he]; exact hu
 have azt:L.sz=s:=by rw[←hb.sz,hbt,hs.cells]
 refine⟨sliced (some p) i.toNat l cap s,?_,?_⟩
 · have hrun:=run_slice_l (P:=P) w T (some p) l cap hu2 kk i h0 hi
   rw[he,hs.run,Result.andThen]at hrun
   have h2':=run_sliceAt_slice (P:=P) w T (.slice (some p) l cap) (some (.int kk i)) none none hu2
   simp[execOp,hc,hyv,h2',hrun]
 · have hform:∃q:Addr,sliced (some p) i.toNat l cap s= .slice (some q) (l-i.toNat) (cap-i.toNat)/\(l-i.toNat≠0->q=p.add (i.toNat*s)):=by
     unfold sliced
     by_cases e:cap=i.toNat
     · exact⟨p,by rw[if_pos e],fun h=>by omega⟩
     · exact⟨p.add (i.toNat*s),by rw[if_neg e]; rfl,fun _=>rfl⟩
   obtain⟨q,hq,hqe⟩:=hform
   rw[hq]
   refine dh.slice k i.toNat _ 0 L q _ hl (by omega) (by simp) (by simp) (fun hn=>⟨?_,fun ho=>?_⟩)
   · rw[hqe hn,hp (by omega),addr_add,azt]
     simp
   · obtain⟨L',hl',hx'⟩:=(hx.use hf).slice_ext hr hk (by omega)
     rw[hl]at hl'
     obtain rfl:L=L':=by simpa using hl'
     have:=hx' ho
     omega
theorem ahj{H:aB}{k m l s:Nat}{b:fE}{kk:IntKind}{i:Int}(hT:SL P T E)(hs:SZ P E s)(hx:EV n f x (.slice (some ⟨k,0,none⟩) l m))(hm:m=1\/m=2)(hy:EV n f y (.int kk i))(hk:H[k]?=some (some b))(ho:b.own=true)(h0:0<=i)(hi:i<=(l:Int))(hl0:l≠0):
   fe P n ⟨d,.slice T x none (some y) none,T',ps,af,none⟩ f H (.slice (some ⟨k,0,none⟩) i.toNat 2):=by
 intro ρ w a hr hf
 obtain⟨L,p,cap,hl,hb,hc,hcap,h1,h2,hp⟩:=(hx.use hf).slice_inv hr hk
 have hyv:a.eval y= .int kk i:=(hy.use hf).int_inv
 have hu:P.underlying T=some (.slice E):=hT
 have he:P.elem T=E:=by simp[Program.elem,hu]
 have hu2:P.underlying T=some (.slice (P.elem T)):=by rw[he]; exact hu
 have hown:L.own=true:=by rw[←hb.own]; exact ho
 obtain⟨cs0,ct,fr,-,-,hr2⟩:=hb.cells
 obtain⟨hoff,-⟩:=hr2 hown
 refine⟨sliced (some p) 0 i.toNat cap s,?_,?_⟩
 · have hrun:=run_slice_h (P:=P) w T (some p) l cap hu2 kk i h0 (by omega)
   rw[he,hs.run,Result.andThen]at hrun
   have h2':=run_sliceAt_slice (P:=P) w T (.slice (some p) l cap) none (some (.int kk i)) none hu2
   simp[execOp,hc,hyv,h2',hrun]
 · have hq:sliced (some p) 0 i.toNat cap s= .slice (some p) i.toNat cap:=by
     unfold sliced
     rw[if_neg (by omega)]
     simp[Addr.add]
   rw[hq]
   have lU:=hp hl0
   rw[Nat.zero_mul,Nat.add_zero]at lU
   have Ox:cap<=L.cap:=by
     rcases hm with rfl|rfl
     · have:=h1 rfl; omega
     · exact (h2 (Nat.le_refl _)).2.2.1
   exact dh.slice k 0 _ 2 L p _ hl (by omega) (by simp) (fun _=>⟨rfl,hown,Ox,lU,by omega⟩) (fun _=>⟨by rw[lU]; simp,fun _=>by omega⟩)
theorem ar8{R:aB->Value->α->Prop} [dC R]{H H':aB}(hi:gP H H'){es:List Value}{ys:List α}{G:List Nat}(h:dP (aj R) H es ys G):∀i,dP (aj R) H' (es.take i) (ys.take i) []:=by
 induction h with
 |nil=>intro i; simpa using dP.nil
 |cons h _ ih=>
   intro i
   cases i with
   |zero=>simpa using dP.nil
   |succ i=>
     have:=dP.cons (Ro:=aj R) (F:=[]) (G:=[]) ⟨rfl,dC.up h.2 hi⟩ (ih i)
     simpa using this
theorem asP [dC R]{F:List Nat}{k l m j i s by':Nat}{zv:Value}{ts:List TypeId}(hT:SL P T E)(ht:TY P E s by' zv)(h0s:Nat.blt 0 s=true)(hzs:zv.cells.size=s)(hzc:zy zv=true)(hzl:zv.cells.toList.all scal=true)
   (hl:l=xs.length) (hj:i+j=l) (hx:EV n f x (.slice (some ⟨k,i,none⟩) j 0)):
   XC P n ⟨d,.call ⟨.builtin .clear,[x].toArray,(T::ts).toArray⟩,T',ps,af,gd⟩ f [aD (az E (aj R)) F (.slice (some ⟨k,0,none⟩) l m) xs] (fun _:Unit=>undef)
     (fun _=>[aD (az E (aj R)) F (.slice (some ⟨k,0,none⟩) i 2) (xs.take i)]):=by
 intro H dN
 have h0:0<s:=by simpa[Nat.blt_eq]using h0s
 have ho:az E (aj R) F H (.slice (some ⟨k,0,none⟩) l m) xs:=dN.hold _ (List.mem_singleton.2 rfl)
 obtain⟨hh,m',b,G,hv,h2,h3,h4,h5,h6,h7,rfl,h9⟩:=ho.head (k:=k) rfl
 subst hl
 have hlen:=h9.length
 have azu:P.cellsOf E=s:=ht.sz.cells
 intro ρ w a K' Q' hr hf hkk
 obtain⟨L,p,cap,hl,hbr,hc,hcap,g1,g2,gp⟩:=(hx.use hf).slice_inv hr h3
 have hown:L.own=true:=by rw[←hbr.own]; exact h5
 obtain⟨cs,ct,fr,qo,hel,hr2⟩:=hbr.cells
 obtain⟨hoff,sG,hlenL,hfr,rfl⟩:=hr2 hown
 have j5:L.sz=s:=by rw[←hbr.sz,h6,azu]
 have hu:P.underlying T=some (.slice E):=hT
 obtain⟨it,hit,e1,e2,e3⟩:=ht.inv
 have RG:∀w:World,(zeroValue E).run P w= .ok zv w:=fun w=>by simp[zeroValue,typeInfo,hit,e3]
 have ale:i*s+j*s<=cs.size:=by
   have h1:(i+j)*s<=L.cap*L.sz:=by rw[j5]; exact Nat.mul_le_mul_right _ (by omega)
   rw[Nat.add_mul]at h1; omega
 have hend:∀w':World,(w'.heap=w.heap\/ ∃vs:List Value,vs.length=j*s/\w'.heap=w.heap.setIfInBounds L.blk (.cells (splice cs.toList (i*s) vs).toArray b.ty fr))->w'.os=w.os->w'.output=w.output->w'.tape=w.tape->
     Rel P ρ (H.set k (some ⟨b.elems.take i,b.ty,true,b.wr⟩)) w'/\Step ρ H w ρ (H.set k (some ⟨b.elems.take i,b.ty,true,b.wr⟩)) w':=by
   intro w' hw' w1 w2 w3
   have hw'':∃cs':Array Value,w'.heap=w.heap.setIfInBounds L.blk (.cells cs' b.ty fr)/\cs'.size=cs.size/\ ∀q,q+s<=i*s->(cs'.toList.drop q).take s=(cs.toList.drop q).take s:=by
     rcases hw' with hw'|⟨vs,hvl,hw'⟩
     · refine⟨cs,?_,rfl,fun _ _=>rfl⟩
       rw[hw']
       have hlt:=hr.lt hl
       apply Array.ext_getElem?
       intro q
       by_cases hq:L.blk=q
       · subst hq; rw[Array.getElem?_setIfInBounds_self_of_lt hlt]; exact qo
       · rw[Array.getElem?_setIfInBounds_ne hq]
     · refine⟨_,hw',?_,fun q hq=>?_⟩
       · simp only[List.size_toArray]; rw[Ir _ _ _ (by rw[hvl]; simpa using ale)]; simp
       · exact WM _ _ _ _ _ (.inl hq) (by rw[hvl]; simpa using ale)
   obtain⟨cs',hh',hsz',hsame⟩:=hw''
   refine⟨hr.write (b':=⟨b.elems.take i,b.ty,true,b.wr⟩) hl hown hh' rfl rfl hbr.sz ?_ ⟨hoff,by rw[hsz']; exact sG,by simp only[List.length_take]; omega,by rw[hsz']; exact hfr⟩,Step.write hl hown hh' w1 w2 w3⟩
   intro q e he
   have hqi:q<i:=by
     rcases Nat.lt_or_ge q i with h|h
     · exact h
     · rw[List.getElem?_eq_none (by simp; omega)]at he; simp at he
   rw[List.getElem?_take_of_lt hqi]at he
   have:=hel q e he
   refine⟨this.1,?_⟩
   rw[hoff,Nat.zero_add,j5]at this ⊢
   rw[hsame (q*s) (by rw[←Nat.succ_mul]; exact Nat.mul_le_mul_right _ hqi)]
   exact this.2
 have hpost:Ctx H (foot [aD (az E (aj R)) (k::G) (.slice (some ⟨k,0,none⟩) xs.length m) xs]) (H.set k (some ⟨b.elems.take i,b.ty,true,b.wr⟩)) [aD (az E (aj R)) (k::G) (.slice (some ⟨k,0,none⟩) i 2) (xs.take i)]:=by
   have hnd:=dN.nd
   have hG:G=[]:=by
     have:∀{es:List Value}{ys:List α}{G:List Nat},dP (aj R) H es ys G->G=[]:=by
       intro es ys G h
       induction h with
       |nil=>rfl
       |cons h _ ih=>rw[ih,h.1]; rfl
     exact this h9
   subst hG
   have hne:∀q,q≠k->(H.set k (some ⟨b.elems.take i,b.ty,true,b.wr⟩))[q]?=H[q]?:=fun q hq=>by rw[List.getElem?_set_ne (fun e=>hq e.symm)]
   have lh:gP H (H.set k (some ⟨b.elems.take i,b.ty,true,b.wr⟩)):=by
     intro q b2 hq hw2
     rw[hne q (fun e=>by
       subst e; rw[hq]at h3
       injection h3 with h3; injection h3 with h3
       rw[h3]at hw2; rw[hw2]at h4; simp at h4)]
     exact hq
   refine⟨by simp,lh,fun q hq Dk=>hne q (fun e=>Dk (by subst e; simp[foot,aD])),?_,by simp[foot,aD],fun q hq=>⟨.inl (by simpa[foot,aD]using hq),by simpa[foot,aD]using (dN.own q (by simpa[foot,aD]using hq)).2⟩⟩
   intro c hcm
   simp at hcm; subst hcm
   refine .inr ⟨k,2,_,[],by rw[List.length_take,Nat.min_eq_left (by omega)],.inr rfl,List.getElem?_set_self (qz h3),h4,rfl,h6,by simp only[List.length_take]; omega,rfl,?_⟩
   exact ar8 lh h9 i
 by_cases hj0:j=0
 · subst hj0
   have hex:(execOp a.eval ⟨d,.call ⟨.builtin .clear,[x].toArray,(T::ts).toArray⟩,T',ps,af,gd⟩).run P w= .ok (.value undef) w:=by
     simp[execOp,resolve,invoke,builtin,Builtin.clear_,hc,underlying,hu,undef]
   show Oper.upon P _ a K' Q' _
   rw[hex]
   obtain⟨r1,r2⟩:=hend w (.inl rfl) rfl rfl rfl
   exact hkk _ _ _ _ _ (hf.put d (dh.undef ρ)) r1 r2 ⟨(),rfl,hpost⟩
 · have hp:=gp hj0
   have hvl:=ahY zv.cells j
   obtain⟨w',hrun,hw',w1,w2,w3⟩:=V9 P (b:=L.blk) (o:=i*s) (Builtin.zeroCells zv.cells j).toList 0 cs w qo (fun o h=>hfr o (Nat.le_of_lt h)) (arA hzc hzl j (by rw[hzs]; exact h0)) (by rw[hvl,hzs]; omega)
   have hex:(execOp a.eval ⟨d,.call ⟨.builtin .clear,[x].toArray,(T::ts).toArray⟩,T',ps,af,gd⟩).run P w= .ok (.value undef) w':=by
     obtain⟨j',rfl⟩:∃q,j=q+1:=⟨j-1,by omega⟩
     have hp':p=⟨L.blk,i*s,none⟩:=by rw[hp,hoff,Nat.zero_add,j5]
     simp[execOp,resolve,invoke,builtin,Builtin.clear_,hc,underlying,hu,undef,RG,hp',hrun]
   show Oper.upon P _ a K' Q' _
   rw[hex]
   obtain⟨r1,r2⟩:=hend w' (.inr ⟨_,by rw[hvl,hzs],by rw[hw',Nat.add_zero]⟩) w1 w2 w3
   exact hkk _ _ _ _ _ (hf.put d (dh.undef ρ)) r1 r2 ⟨(),rfl,hpost⟩
end
def rq{α:Type}(R:aB->Value->α->Prop)(H:aB)(e:Value)(q:Value×α):Prop:=e=q.1/\R H e q.2
instance{α:Type}{R:aB->Value->α->Prop} [dC R]:dC (rq R):=⟨fun h hi=>⟨h.1,dC.up h.2 hi⟩⟩
instance{α:Type}{R:aB->Value->α->Prop}{s:Nat} [Cells R s]:Cells (rq R) s:=⟨fun h=>Cells.cells h.2⟩
def UU{α:Type}(_:aB)(e:Value)(q:Value×α):Prop:=e=q.1
instance{α:Type}:Pure (UU (α:=α)):=⟨fun h=>h⟩
section
variable{α:Type}{R:aB->Value->α->Prop}{Ro:fO α}{E:TypeId}
theorem dP.map{β:Type}{R1 R2:fO β}{H:aB}(hm:∀F e a,R1 F H e a->R2 F H e a){es:List Value}{xs:List β}{G:List Nat}(h:dP R1 H es xs G):dP R2 H es xs G:=by
 induction h with
 |nil=>exact .nil
 |cons h _ ih=>exact .cons (hm _ _ _ h) ih
theorem az.map{β:Type}{R1 R2:fO β}{F:List Nat}{H:aB}{v:Value}{xs:List β}(hm:∀F e a,R1 F H e a->R2 F H e a)(h:az E R1 F H v xs):az E R2 F H v xs:=by
 rcases h with h|⟨k,m,b,G,h1,h2,h3,h4,h5,h6,h7,h8,h9⟩
 · exact .inl h
 · exact .inr ⟨k,m,b,G,h1,h2,h3,h4,h5,h6,h7,h8,h9.map hm⟩
theorem ar9{β:Type}{Q:aB->Value->β->Prop}{H:aB}{es:List Value}{ys:List β}{G:List Nat}(h:dP (aj Q) H es ys G):G=[]:=by
 induction h with
 |nil=>rfl
 |cons h _ ih=>rw[ih,h.1]; rfl
theorem atH{H:aB}{es:List Value}{ys:List (Value×α)}{G:List Nat}(h:dP (aj UU) H es ys G):es=ys.map Prod.fst:=by
 induction h with
 |nil=>rfl
 |cons h _ ih=>rw[ih,h.2]; rfl
theorem dP.sub{H:aB}{es:List Value}{xs:List α}{G:List Nat}(h:dP Ro H es xs G):∀{sel:List (Value×α)},sel.Sublist (es.zip xs)-> ∃G',G'.Sublist G/\dP Ro H (sel.map Prod.fst) (sel.map Prod.snd) G':=by
 induction h with
 |nil=>intro sel hs; simp at hs; subst hs; exact⟨[],.slnil,.nil⟩
 | @cons e es a xs F G h t ih=>
   intro sel hs
   rw[List.zip_cons_cons]at hs
   cases hs with
   |cons _ hs=>
     obtain⟨G',h1,h2⟩:=ih hs
     exact⟨G',h1.trans (List.sublist_append_right _ _),h2⟩
   |cons_cons _ hs=>
     obtain⟨G',h1,h2⟩:=ih hs
     exact⟨F++G',(List.Sublist.refl _).append h1,.cons h h2⟩
theorem arB [dC R] [kT Ro] [kw Ro R]{F:List Nat}{H:aB}{v:Value}{xs:List α}(h:az E Ro F H v xs)(hnd:F.Nodup):
   ∃es F1 G,F=F1++G/\es.length=xs.length/\dP Ro H es xs G/\az E (aj (rq R)) F1 (frz H G) v (es.zip xs):=by
 rcases h with⟨rfl,rfl,rfl⟩|⟨k,m,b,G,rfl,h2,h3,h4,h5,h6,h7,rfl,h9⟩
 · exact⟨[],[],[],rfl,rfl,.nil,.inl ⟨rfl,rfl,rfl⟩⟩
 · have hk:k∉G:=(List.nodup_cons.1 hnd).1
   have hl:=h9.length
   have hz:(b.elems.zip xs).length=xs.length:=by simp[hl]
   refine⟨b.elems,[k],G,rfl,hl,h9,.inr ⟨k,m,b,[],by rw[hz],h2,by rw[zz _ _ hk]; exact h3,h4,h5,h6,by rw[hz]; exact h7,rfl,?_⟩⟩
   refine ab6 (R:=rq R) (by simp[hl]) fun j q hj=>?_
   rw[List.getElem?_zip_eq_some]at hj
   obtain⟨e,he,hr⟩:=h9.frz (fun _ h=>h) j q.2 hj.2
   rw[hj.1]at he
   obtain rfl:q.1=e:=by simpa using he
   exact⟨q.1,hj.1,rfl,hr⟩
theorem ar_{F:List Nat}{H:aB}{v:Value}{es:List Value}{xs:List α}{G:List Nat}{sel:List (Value×α)}(h:az E (aj UU) F H v sel)(hs:sel.Sublist (es.zip xs))(he:dP Ro H es xs G):
   ∃G',G'.Sublist G/\az E Ro (F++G') H v (sel.map Prod.snd):=by
 obtain⟨G',h1,h2⟩:=he.sub hs
 rcases h with⟨rfl,rfl,rfl⟩|⟨k,m,b,G0,rfl,g2,g3,g4,g5,g6,g7,rfl,g9⟩
 · cases h2
   exact⟨[],List.nil_sublist _,.inl ⟨rfl,rfl,rfl⟩⟩
 · obtain rfl:=ar9 g9
   refine⟨G',h1,.inr ⟨k,m,b,G',by simp,g2,g3,g4,g5,g6,by simpa using g7,rfl,?_⟩⟩
   rw[atH g9]; exact h2
end
theorem arC{P:Program} [b_ P]{α:Type}{R:aB->Value->α->Prop}{Ro:fO α} [eO Ro] [dC R] [Local Ro] [kT Ro] [kw Ro R]{E:TypeId}{g:FuncId}{args:List Value}{F:List Nat}{v:Value}{xs ys:List α}{cc:List aF}(hcc:foot cc=[])
   (h:∀(es:List Value)(F1:List Nat),es.length=xs.length-> ∃sel:List (Value×α),sel.Sublist (es.zip xs)/\sel.map Prod.snd=ys/\Spec P g args (aD (az E (aj (rq R))) F1 v (es.zip xs)::cc) (fun q:Sv×List Nat=>q.1.v) (fun q=>[aD (az E (aj (rq R))) q.2 q.1.v sel])):
   Spec P g args (aD (az E Ro) F v xs::cc) (fun q:Sv×List Nat=>q.1.v) (fun q=>[aD (az E Ro) q.2 q.1.v ys]):=by
 intro H F0 dN ρ w jL hr hargs
 have ho:az E Ro F H v xs:=dN.hold (aD (az E Ro) F v xs) (by simp)
 have hfp:foot (aD (az E Ro) F v xs::cc)=F:=by
   have:foot (aD (az E Ro) F v xs::cc)=F++foot cc:=rfl
   rw[this,hcc,List.append_nil]
 have hnd:F.Nodup:=by have:=dN.nd; rwa [hfp]at this
 have hown:∀q∈F,q∈F0/\q<H.length:=fun q hq=>by
   obtain⟨h1,h2⟩:=dN.own q (by rw[hfp]; exact hq)
   exact⟨h1.resolve_right (by omega),h2⟩
 obtain⟨es,F1,G,rfl,hel,alf,hsh⟩:=arB (R:=R) ho hnd
 obtain⟨n1,n2,n3⟩:=List.nodup_append.1 hnd
 have hw:=alf.owns
 obtain⟨sel,hsel,hys,hspec⟩:=h es F1 hel
 have UV:foot (aD (az E (aj (rq R))) F1 v (es.zip xs)::cc)=F1:=by
   have:foot (aD (az E (aj (rq R))) F1 v (es.zip xs)::cc)=F1++foot cc:=rfl
   rw[this,hcc,List.append_nil]
 have hc2:Ctx (frz H G) F1 (frz H G) (aD (az E (aj (rq R))) F1 v (es.zip xs)::cc):=by
   refine⟨Nat.le_refl _,gP.refl _,fun _ _ _=>rfl,fun c hc=>?_,by rw[UV]; exact n1,fun q hq=>?_⟩
   · rcases List.mem_cons.1 hc with rfl|hc
     · exact hsh
     · refine c.keep (dN.hold c (by simp[hc])) (xU _ _) fun q hq=>?_
       have:q∈foot cc:=List.mem_flatMap.2 ⟨c,hc,hq⟩
       rw[hcc]at this; simp at this
   · rw[UV]at hq
     exact⟨.inl hq,by rw[jS]; exact (hown q (by simp[hq])).2⟩
 refine (hspec (frz H G) F1 hc2 ρ w jL (hr.recore (jS _ _) (zt _ H)) hargs).mono fun e w' hp=>?_
 obtain⟨v0,r,ρ',H',h1,h2,h3,h4,q,rfl,h5⟩:=hp
 have hG:∀k∈G,H'[k]?=(frz H G)[k]?:=fun k hk=>h5.agr k (by rw[jS]; exact (hown k (by simp[hk])).2) (fun hk1=>n3 k hk1 k hk rfl)
 have azv:∀k∈G,(ql H' G)[k]?=H[k]?:=fun k hk=>abI hw hG hk
 have hpost:az E (aj (rq R)) q.2 H' q.1.v sel:=h5.hold (aD (az E (aj (rq R))) q.2 q.1.v sel) (by simp)
 have GM:∀k∈q.2,k∉G/\(k∈F1\/H.length<=k)/\k<H'.length:=fun k hk=>by
   obtain⟨g1,g2⟩:=h5.own k (by simpa[foot,aD]using hk)
   rw[jS]at g1
   refine⟨fun ZU=>?_,g1,g2⟩
   rcases g1 with g1|g1
   · exact n3 k g1 k ZU rfl
   · have:=(hown k (by simp[ZU])).2; omega
 have hid:az E (aj UU) q.2 (ql H' G) q.1.v sel:=
   Local.keep (R:=az E (aj UU)) (hpost.map fun F e a h=>⟨h.1,h.2.1⟩) fun k hk=>Bg _ _ (GM k hk).1
 obtain⟨G',hG',hfin⟩:=ar_ hid hsel (alf.local azv)
 rw[hys]at hfin
 have hlen:H.length<=(ql H' G).length:=by rw[wL]; have:=h5.len; rwa [jS]at this
 refine⟨v0,_,ρ',ql H' G,h1,h2,h3.recore (wL _ _) (Nf _ H'),(Step.recore (H:=H) (jS _ _) (zt _ H)).trans (h4.trans (Step.recore (wL _ _) (Nf _ H'))),(q.1,q.2++G'),rfl,hlen,?_,?_,?_,?_,?_⟩
 · intro k b hb hbw
   have ZU:k∉G:=fun hk=>by
     obtain⟨b',hb',hw'⟩:=hw k hk
     rw[hb]at hb'
     injection hb' with hb'; injection hb' with hb'
     rw[hb',hw']at hbw; simp at hbw
   rw[Bg _ _ ZU]
   exact h5.imm k b ((xU H G) k b hb hbw) hbw
 · intro k hk xz
   have YU:k∉F1++G:=fun h=>xz (hown k h).1
   simp only[List.mem_append,not_or]at YU
   rw[Bg _ _ YU.2,h5.agr k (by rw[jS]; exact hk) YU.1,zz _ _ YU.2]
 · intro c hc
   simp at hc; subst hc
   exact hfin
 · have hq2:q.2.Nodup:=by have:=h5.nd; simpa[foot,aD]using this
   simp only[foot,aD,List.flatMap_cons,List.flatMap_nil,List.append_nil]
   exact List.nodup_append.2 ⟨hq2,n2.sublist hG',fun a ha b hb e=>(GM a ha).1 (e ▸ hG'.subset hb)⟩
 · intro k hk
   simp only[foot,aD,List.flatMap_cons,List.flatMap_nil,List.append_nil,List.mem_append]at hk
   rcases hk with hk|hk
   · obtain⟨-,g1,g2⟩:=GM k hk
     exact⟨g1.imp (fun h=>(hown k (by simp[h])).1) id,by rw[wL]; exact g2⟩
   · have:=hown k (by simp[hG'.subset hk])
     exact⟨.inl this.1,Nat.lt_of_lt_of_le this.2 hlen⟩
def N9{β:Type}(f:β->Option Bool):List β->Option (List β)
 |[]=>some []
 |x::r=>(f x).bind fun b=>(N9 f r).bind fun ys=>some (if b then ys else x::ys)
theorem ahk{β:Type}{f:β->Option Bool}:∀{xs ys:List β},N9 f xs=some ys->(∀x∈xs,f x=some ((f x).getD false))/\ys=xs.filter (fun a=>!(f a).getD false)
 |[],ys,h=>by simp[N9]at h; subst h; simp
 |x::r,ys,h=>by
   obtain⟨b,hb,h⟩:=bind_some h
   obtain⟨zs,hz,h⟩:=bind_some h
   obtain⟨h1,h2⟩:=ahk hz
   obtain rfl:=Option.some.inj h
   refine⟨fun y hy=>?_,?_⟩
   · rcases List.mem_cons.1 hy with rfl|hy
     · rw[hb]; rfl
     · exact h1 y hy
   · rw[List.filter_cons,hb,h2]
     cases b<;>simp
theorem aiD{β:Type}{f:β->Option Bool}{p:β->Bool}:∀{xs:List β},(∀x∈xs,f x=some (p x))->N9 f xs=some (xs.filter fun a=>!p a)
 |[],_=>rfl
 |x::r,h=>by
   rw[N9,h x (by simp),Option.bind_some,aiD (p:=p) fun y hy=>h y (by simp[hy]),Option.bind_some,List.filter_cons]
   cases p x<;>simp
theorem aiE{β γ:Type}(g:β->γ)(p:γ->Bool):∀(l:List β)(k:Nat),jE p (l.map g) k=jE (fun a=>p (g a)) l k
 |[],_=>rfl
 |x::r,k=>by simp only[List.map_cons,jE,aiE g p r (k+1)]
structure uN{β:Type}(p:β->Bool)(qs cur:List β)(i j:Nat):Prop where
 len:cur.length=qs.length
 lt:i<j
 le:j<=qs.length
 tk:cur.take i=(qs.take j).filter fun a=>!p a
 dr:cur.drop j=qs.drop j
theorem ai9{β:Type}{p:β->Bool}:∀{l:List β}{k i:Nat},jE p l k=(i:Int)-> ∃q,i=k+q/\q<l.length/\(l.take q).filter (fun a=>!p a)=l.take q/\ ∃x,l[q]?=some x/\p x=true
 |[],k,i,h=>by simp[jE]at h
 |x::r,k,i,h=>by
   rw[jE]at h
   by_cases hp:p x=true
   · rw[if_pos hp]at h
     exact⟨0,by omega,by simp,by simp,x,by simp,hp⟩
   · rw[if_neg hp]at h
     obtain⟨q,h1,h2,h3,y,h4,h5⟩:=ai9 h
     refine⟨q+1,by omega,by simpa using h2,?_,y,by simpa using h4,h5⟩
     rw[List.take_succ_cons,List.filter_cons,h3]
     simp[hp]
theorem ahZ{β:Type}{p:β->Bool}:∀{l:List β}{k:Nat},jE p l k= -1->l.filter (fun a=>!p a)=l
 |[],_,_=>rfl
 |x::r,k,h=>by
   rw[jE]at h
   by_cases hp:p x=true
   · rw[if_pos hp]at h; omega
   · rw[if_neg hp]at h
     rw[List.filter_cons,ahZ h]; simp[hp]
theorem ahl{β:Type}(p:β->Bool):∀(l:List β)(k:Nat),jE p l k= -1\/ ∃i:Nat,jE p l k=(i:Int)/\i<k+l.length
 |[],k=>.inl rfl
 |x::r,k=>by
   rw[jE]
   by_cases hp:p x=true
   · rw[if_pos hp]; exact .inr ⟨k,rfl,by simp⟩
   · rw[if_neg hp]
     rcases ahl p r (k+1)with h|⟨i,h,hi⟩
     · exact .inl h
     · exact .inr ⟨i,h,by simp; omega⟩
section
variable{β:Type}{p:β->Bool}{qs cur:List β}{i j:Nat}{x:β}
theorem aar(hx:qs[j]?=some x):(qs.take (j+1)).filter (fun a=>!p a)=(qs.take j).filter (fun a=>!p a)++(if p x then []else [x]):=by
 have hlt:j<qs.length:=by
   rcases Nat.lt_or_ge j qs.length with h|h
   · exact h
   · simp[List.getElem?_eq_none h]at hx
 rw[List.take_succ_eq_append_getElem hlt,List.filter_append]
 rw[List.getElem?_eq_getElem hlt]at hx
 obtain rfl:=Option.some.inj hx
 cases hp:p qs[j]<;>simp[hp]
theorem uN.init(h:jE p qs 0=(i:Int)):uN p qs qs i (i+1):=by
 obtain⟨q,h1,h2,h3,y,h4,h5⟩:=ai9 h
 obtain rfl:i=q:=by omega
 exact⟨rfl,Nat.lt_succ_self _,h2,by rw[aar h4,h3,h5]; simp,rfl⟩
theorem uN.at(h:uN p qs cur i j)(hj:j<qs.length):∃x,cur[j]?=some x/\qs[j]?=some x:=by
 refine⟨qs[j],?_,List.getElem?_eq_getElem hj⟩
 have:=congrArg (fun l:List β=>l[0]?) h.dr
 simpa[List.getElem?_eq_getElem hj]using this
theorem uN.yes(h:uN p qs cur i j)(hx:qs[j]?=some x)(hp:p x=true):uN p qs cur i (j+1):=by
 have hlt:j<qs.length:=P8 hx
 refine⟨h.len,by have:=h.lt; omega,hlt,by rw[aar hx,←h.tk,hp]; simp,?_⟩
 rw[←List.drop_drop,h.dr,List.drop_drop]
theorem uN.no(h:uN p qs cur i j)(hx:qs[j]?=some x)(hp:p x=false):uN p qs (cur.set i x) (i+1) (j+1):=by
 have hlt:j<qs.length:=P8 hx
 have hi:i<cur.length:=by have:=h.lt; have:=h.len; omega
 refine⟨by simpa using h.len,by have:=h.lt; omega,hlt,?_,?_⟩
 · rw[aar hx,←h.tk,hp,List.take_succ_eq_append_getElem (by simpa using hi)]
   simp[List.take_set_of_le]
 · rw[List.drop_set_of_lt (by have:=h.lt; omega),←List.drop_drop,h.dr,List.drop_drop]
theorem uN.fin(h:uN p qs cur i j)(hj:qs.length<=j):cur.take i=qs.filter fun a=>!p a:=by
 rw[h.tk,List.take_of_length_le hj]
end
section
variable{P:Program} [b_ P]{n:Nat}{f:Fr}{H0:aB}{F0:List Nat}{cs:List aF}{A:Array Oper}{r:List Oper}{K:Fr->List aF->Prop}{d:Option Tmp}{x y z:Operand}{T T' E:TypeId}{ps:String}{af:Array Edge}{gd:Option (Nat×Bool)}
variable{α:Type}{R:aB->Value->α->Prop}{Ro':fO α}{xs:List α}{v:Value}
theorem atI [dC R]{ι:Type}{F:List Nat}{k j s:Nat}{a:α}{ul:ι->List Value}{cc:ι->List aF}(hA:AG P T true)(hs:SZ P T s)(h0:Nat.blt 0 s=true)(hx:EV n f x (.pointer (some ⟨k,j,some 0⟩)))(hm:Mem (aD (az E (aj R)) F v xs) cs)(hk:jo v=some k)(hj:xs[j]?=some a)
   (hop:∀H e,R H e a-> ∃i,e= .agg (ul i).toArray/\(ul i).length=s/\ ∀c∈cc i,c.P H/\c.F=[]) (h:∀i,bI P n H0 F0 A r (put f d (.agg (ul i).toArray)) (aR R (.agg (ul i).toArray) a::(cc i++cs)) K):bI P n H0 F0 A (⟨d,.load T x,T',ps,af,none⟩::r) f cs K:=by
 intro H hc
 have ho:az E (aj R) F H v xs:=hc.mem hm
 obtain⟨-,m,b,G,rfl,-,h3,-,-,-,-,rfl,h9⟩:=ho.head hk
 obtain⟨e,F1,Fj,F2,g1,g2,g3,-⟩:=h9.at hj
 obtain⟨i,he,hl,hcc⟩:=hop H e g3.2
 subst he
 refine wK (Fg hA hs hx h3 g1 (by simpa[Nat.blt_eq]using h0) (by simp[Value.cells,hl]) (show ((Value.agg (ul i).toArray).cells.toList.drop 0).take s=ul i by subst hl; simp[Value.cells])) (h i H ?_)
 have hb:∀(l:List aF),(∀c∈l,c.P H/\c.F=[])->Ctx H0 F0 H (l++cs):=by
   intro l
   induction l with
   |nil=>intro _; exact hc
   |cons c l ih=>intro hl; exact (ih fun d hd=>hl d (by simp[hd])).dup (hl c (by simp)).1 (hl c (by simp)).2
 exact (hb _ hcc).dup (c:=aR R (.agg (ul i).toArray) a) g3.2 rfl
theorem atJ [dC R]{F:List Nat}{v:Value}{qs:List (Value×α)}:zU (aD (az E (aj (rq R))) F v qs) (aR (aI E R) v (qs.map Prod.snd)):=
 ⟨fun H h=>by
   have h2:=(bq (Ro:=az E (aj (rq R))) (R':=aI E (rq R)) (F:=F) (v:=v) (a:=qs)).P H h
   have h3:aI E (rq R) (frz H F) v qs:=h2
   rcases h3 with⟨rfl,rfl⟩|⟨k,i,m,b,rfl,g1,g2,g3,g4,g5,g6⟩|⟨k,i,m,rfl,rfl⟩
   · exact .inl ⟨rfl,rfl⟩
   · refine .inr (.inl ⟨k,i,m,b,by simp,g1,g2,g3,by simpa using g4,by simpa using g5,fun j a hj=>?_⟩)
     rw[List.getElem?_map]at hj
     cases hq:qs[j]? with
     |none=>rw[hq]at hj; simp at hj
     |some q=>
       rw[hq]at hj
       obtain rfl:q.2=a:=by simpa using hj
       obtain⟨e,he,hr⟩:=g6 j q hq
       exact⟨e,he,hr.2⟩
   · exact .inr (.inr ⟨k,i,m,rfl,rfl⟩),fun H h=>(bq (Ro:=az E (aj (rq R))) (R':=aI E (rq R)) (F:=F) (v:=v) (a:=qs)).w H h,rfl⟩
theorem abt [eO Ro']{F:List Nat}{v:Sv}(hne:xs≠[])(H:aB)(h:(aD (az E Ro') F v.v xs).P H):∃k m,v=⟨some ⟨k,0,none⟩,xs.length,m⟩/\(m=1\/m=2):=by
 have h:az E Ro' F H v.v xs:=h
 rcases h with⟨-,h,-⟩|⟨k,m,b,G,h1,h2,-⟩
 · exact absurd h hne
 · obtain⟨va,vn,vm⟩:=v
   injection h1 with e1 e2 e3
   subst e1 e2 e3
   exact⟨k,_,rfl,h2⟩
theorem arD [dC R]{F:List Nat}{k l m s:Nat}{kk:IntKind}{i:Int}(hT:SL P T E)(hs:SZ P E s)(hx:EV n f x (.slice (some ⟨k,0,none⟩) l m))(hy:EV n f y (.int kk i))(hm:Mem (aD (az E (aj R)) F (.slice (some ⟨k,0,none⟩) l m) xs) cs)(h0:0<=i)(hi:i<=(l:Int))
   (h:bI P n H0 F0 A r (put f d (.slice (some ⟨k,i.toNat,none⟩) (l-i.toNat) 0)) cs K):bI P n H0 F0 A (⟨d,.slice T x (some y) none none,T',ps,af,none⟩::r) f cs K:=
 fQ hm (fun{H} ho=>by
   have ho:az E (aj R) F H (.slice (some ⟨k,0,none⟩) l m) xs:=ho
   obtain⟨-,m',b,G,-,-,h3,-,-,h6,-⟩:=ho.head (k:=k) rfl
   exact ahi hT hs hx hy h3 h6 h0 hi) h
theorem arE [dC R]{F:List Nat}{k l m s:Nat}{kk:IntKind}{i:Int}{u:Value}(hT:SL P T E)(hs:SZ P E s)(hx:EV n f x (.slice (some ⟨k,0,none⟩) l m))(hmm:m=1\/m=2)(hy:EV n f y (.int kk i))(hm:Mem (aD (az E (aj R)) F u xs) cs)(hk:jo u=some k)(h0:0<=i)(hi:i<=(l:Int))(hl:l≠0)
   (h:bI P n H0 F0 A r (put f d (.slice (some ⟨k,0,none⟩) i.toNat 2)) cs K):bI P n H0 F0 A (⟨d,.slice T x none (some y) none,T',ps,af,none⟩::r) f cs K:=
 fQ hm (fun{H} ho=>by
   have ho:az E (aj R) F H u xs:=ho
   obtain⟨-,m',b,G,rfl,-,h3,-,h5,-⟩:=ho.head hk
   exact ahj hT hs hx hmm hy h3 h5 h0 hi hl) h
end
theorem arF{P:Program} [b_ P]{g:FuncId}{args:List Value}{ι:Type}{val:ι->Value}{post:ι->List aF}{c:aF}{cc:List aF}{p:Prop}(hp:∀H,c.P H->p)(h:p->Spec P g args (c::cc) val post):Spec P g args (c::cc) val post:=
 fun H F0 hc=>h (hp H (hc.hold c (by simp))) H F0 hc
theorem aq2{α:Type}(p:α->Bool)(es:List Value)(xs:List α)(h:es.length=xs.length):((es.zip xs).filter fun a=>!p a.2).map Prod.snd=xs.filter fun a=>!p a:=by
 have:=List.filter_map (f:=Prod.snd) (p:=fun a:α=>!p a) (l:=es.zip xs)
 rw[List.map_snd_zip (Nat.le_of_eq h.symm)]at this
 rw[this]; rfl
section
variable{P:Program} [b_ P]{n:Nat}{f:Fr}{H0:aB}{F0:List Nat}{cs:List aF}{A:Array Oper}{r:List Oper}{K:Fr->List aF->Prop}{d:Option Tmp}{T:TypeId}{ps:String}{af:Array Edge}{gd:Option (Nat×Bool)}{t:Tmp}
variable{l:List Oper}{tb bf todo:List Nat}{fl:List (Nat×List Nat)}{i:Nat}
theorem Cm(v:Value)(hv:f t=v)(ht:Nat.blt t n=true)(h:bI P n H0 F0 A r (put f d v) cs K):bI P n H0 F0 A (⟨d,.move (.tmp t),T,ps,af,none⟩::r) f cs K:=aO (eH (.tmp hv ht)) h
theorem Ca(v:Value)(hv:f t=v)(ht:Nat.blt t n=true)(h:bI P n H0 F0 A r (put f d v) cs K):bI P n H0 F0 A (⟨d,.assign (.tmp t),T,ps,af,none⟩::r) f cs K:=aO (iZ (.tmp hv ht)) h
theorem Dm(v:Value)(ho:l[i]?=some ⟨d,.move (.tmp t),T,ps,af,none⟩)(hv:f t=v)(ht:Nat.blt t n=true)(hn:gT (.tmp t) (fK l ⟨d,.move (.tmp t),T,ps,af,none⟩)=true)(h:DC P n l tb bf H0 F0 K todo fl (put f d v) cs):DC P n l tb bf H0 F0 K (i::todo) fl f cs:=
 bQ ho .no (fun ha=>eH (EN ha (.tmp hv ht) hn)) h
theorem Da(v:Value)(ho:l[i]?=some ⟨d,.assign (.tmp t),T,ps,af,none⟩)(hv:f t=v)(ht:Nat.blt t n=true)(hn:gT (.tmp t) (fK l ⟨d,.assign (.tmp t),T,ps,af,none⟩)=true)(h:DC P n l tb bf H0 F0 K todo fl (put f d v) cs):DC P n l tb bf H0 F0 K (i::todo) fl f cs:=
 bQ ho .no (fun ha=>iZ (EN ha (.tmp hv ht) hn)) h
end
end Go.Fw
/-
 A slice of our own keeps its array, and its elements turn no more. No conditions.
-/
set_option linter.unusedVariables false
namespace Go.Fw
open Go
section
variable{α:Type}{Ro:fO α}{R':aB->Value->α->Prop}{E:TypeId}{H0:aB}{F0:List Nat}{cs rest cs2:List aF}{F:List Nat}{v:Value}{xs:List α}
theorem dP.half [kw Ro R']{H:aB}{G:List Nat}{es:List Value}{F:List Nat}(h:dP Ro H es xs F):(∀k∈F,k∈G)->dP (aj R') (Fw.frz H G) es xs []:=by
 induction h with
 |nil=>intro _; exact .nil
 |cons h _ ih=>
   intro hm
   have:=dP.cons (Ro:=aj R') (F:=[]) (G:=[]) ⟨rfl,kw.frz h (fun k hk=>hm k (by simp[hk]))⟩ (ih fun k hk=>hm k (by simp[hk]))
   simpa using this
theorem Ctx.half [eO Ro] [kT Ro] [dC R'] [kw Ro R']{H:aB}(h:Ctx H0 F0 H cs)(hs:Sel cs (aD (az E Ro) F v xs) rest):Ctx H0 F0 (Fw.frz H (F.drop 1)) (aD (az E (aj R')) (F.take 1) v xs::rest):=by
 have h':=h.perm hs.perm
 have hp:az E Ro F H v xs:=h'.hold _ (List.mem_cons_self ..)
 have hv1:=h'.view (pre:=[aD (az E Ro) F v xs])
 have hnd:F.Nodup:=by simpa[foot,aD]using hv1.nd
 have hown:∀k∈F,k<H.length:=fun k hk=>(hv1.own k (by simpa[foot,aD]using hk)).2
 refine Ctx.step (pre:=[aD (az E Ro) F v xs]) (post:=[aD (az E (aj R')) (F.take 1) v xs]) h' (by rw[jS]; exact Nat.le_refl _) (xU _ _)
   (fun k _ hk=>zz _ _ (fun hd=>hk (by have hd':=List.mem_of_mem_drop hd; simpa[foot,aD]using hd'))) ?_ (by simpa[foot,aD]using hnd.sublist (List.take_sublist 1 F))
   (fun k hk=>?_)
 · intro d hd
   simp at hd
   subst hd
   show az E (aj R') (F.take 1) (Fw.frz H (F.drop 1)) v xs
   rcases hp with⟨rfl,rfl,rfl⟩|⟨k,m,b,G,rfl,h2,h3,h4,h5,h6,h7,rfl,h9⟩
   · exact .inl ⟨rfl,rfl,rfl⟩
   · refine .inr ⟨k,m,b,[],rfl,h2,?_,h4,h5,h6,h7,rfl,?_⟩
     · rw[List.drop_one,List.tail_cons,zz _ _ (List.nodup_cons.1 hnd).1]; exact h3
     · exact h9.half (fun q hq=>by simpa using hq)
 · have hk':k∈F:=List.mem_of_mem_take (by simpa[foot,aD]using hk)
   exact⟨.inl (by simpa[foot,aD]using hk'),by rw[jS]; exact hown k hk'⟩
variable{P:Program} [b_ P]{n:Nat}{f:Fr}{c1:Code}{Q:Exit->Fr->List aF->Prop}
theorem aK.half [eO Ro] [kT Ro] [dC R'] [kw Ro R'](hs:Sel cs (aD (az E Ro) F v xs) rest)(h:aK (aD (az E (aj R')) (F.take 1) v xs::rest) cs2):aK cs cs2:=fun H0 F0 H hc=>by
 obtain⟨H2,h1,h2,h3⟩:=h H0 F0 _ (hc.half hs)
 exact⟨H2,h1.trans (jS _ _),fun k=>(h2 k).trans (zt _ H k),h3⟩
theorem zD{o:Oper}{ι:Type}{val:ι->Value}{pre:List aF}{post post':ι->List aF}(he:∀x,aK (post x) (post' x))(hx:XC P n o f pre val post):XC P n o f pre val post':=by
 intro H hc ρ w a K' Q' hr hf hk
 refine hx H hc ρ w a K' Q' hr hf fun f' ρ' H' a' w' h1 h2 h3 h4=>?_
 obtain⟨x,e,h5⟩:=h4
 obtain⟨H2,l1,l2,l3⟩:=he x H (foot pre) H' h5
 exact hk f' ρ' H2 a' w' h1 (h2.recore l1 l2) (h3.trans (Step.recore l1 l2)) ⟨x,e,l3⟩
end
end Go.Fw
/-
 The ways meet again at the end of a loop's round.  No conditions.
-/
set_option linter.unusedVariables false
namespace Go.Fw
open Go
section
variable{P:Program} [b_ P]{n:Nat}{f:Fr}{H0:aB}{F0:List Nat}{cs cs2:List aF}{c1:Code}{Q:Exit->Fr->List aF->Prop}
theorem yf(he:aK cs cs2)(h:Q .normal f cs2):∃cs2,aK cs cs2/\Q .normal f cs2:=⟨_,he,h⟩
theorem xV(M:Fr->List aF->Prop)(h:CW P n H0 F0 c1 (Fz M Q) f cs)(hm:∀f' cs',M f' cs'-> ∃cs2,aK cs' cs2/\Q .normal f' cs2):CW P n H0 F0 c1 Q f cs:=by
 intro H hc ρ w a hr hf
 refine wp_mono (h H hc ρ w a hr hf) fun e a' w' ⟨f',ρ',H',h1,h2,h3,cs',h4,h5⟩=>?_
 cases e with
 |normal=>
   obtain⟨cs2,he,hq⟩:=hm f' cs' h4
   obtain⟨H2,g1,g2,g3⟩:=he H0 F0 H' h5
   exact⟨f',ρ',H2,h1,h2.recore g1 g2,h3.trans (Step.recore g1 g2),cs2,hq,g3⟩
 |_=>exact⟨f',ρ',H',h1,h2,h3,cs',h4,h5⟩
end
end Go.Fw
/-
 Whole structs are read out of shallow slices of our own.
-/
set_option linter.unusedVariables false
namespace Go.Fw
open Go
section
variable{P:Program} [b_ P]{n:Nat}{f:Fr}{H0:aB}{F0:List Nat}{cs:List aF}{A:Array Oper}{r:List Oper}{K:Fr->List aF->Prop}{d:Option Tmp}{x:Operand}{T T' E:TypeId}{ps:String}{af:Array Edge}
variable{α ι:Type}{R:aB->Value->α->Prop}{xs:List α}{v:Value}
theorem ai_ [dC R]{F:List Nat}{k j s:Nat}{a:α}(ul:ι->List Value){cc cs':ι->List aF}(hA:AG P T true)(hs:SZ P T s)(h0:Nat.blt 0 s=true)(hx:EV n f x (.pointer (some ⟨k,j,some 0⟩)))(hm:Mem (aD (az E (aj R)) F v xs) cs)(hk:jo v=some k)(hj:xs[j]?=some a)
   (hop:∀H e,R H e a-> ∃i,0+s<=e.cells.size/\(e.cells.toList.drop 0).take s=ul i/\ ∀c∈cc i,c.P H/\c.F=[]) (ha:∀i,rV (cc i) cs (cs' i))
   (h:∀i,bI P n H0 F0 A r (put f d (.agg (ul i).toArray)) (cs' i) K):bI P n H0 F0 A (⟨d,.load T x,T',ps,af,none⟩::r) f cs K:=by
 intro H hc
 have ho:az E (aj R) F H v xs:=hc.mem hm
 obtain⟨-,m,b,G,rfl,-,h3,-,-,-,-,rfl,h9⟩:=ho.head hk
 obtain⟨e,F1,Fj,F2,g1,g2,g3,-⟩:=h9.at hj
 obtain⟨i,q1,q2,q3⟩:=hop H e g3.2
 refine wK (Fg hA hs hx h3 g1 (by simpa[Nat.blt_eq]using h0) q1 q2) (h i H ?_)
 rw[(ha i).eq]
 have hb:∀(l:List aF),(∀c∈l,c.P H/\c.F=[])->Ctx H0 F0 H (l++cs):=by
   intro l
   induction l with
   |nil=>intro _; exact hc
   |cons c l ih=>intro hl; exact (ih fun d hd=>hl d (by simp[hd])).dup (hl c (by simp)).1 (hl c (by simp)).2
 exact hb _ q3
theorem asQ [dC R]{F:List Nat}{k j s:Nat}{a:α}(ul:ι->List Value)(hA:AG P T true)(hs:SZ P T s)(h0:Nat.blt 0 s=true)(hx:EV n f x (.pointer (some ⟨k,j,some 0⟩)))(hm:Mem (aD (az E (aj R)) F v xs) cs)(hk:jo v=some k)(hj:xs[j]?=some a)
   (hop:∀H e,R H e a-> ∃i,0+s<=e.cells.size/\(e.cells.toList.drop 0).take s=ul i/\ ∀c∈([]:List aF),c.P H/\c.F=[]) (h:∀i,bI P n H0 F0 A r (put f d (.agg (ul i).toArray)) cs K):
   bI P n H0 F0 A (⟨d,.load T x,T',ps,af,none⟩::r) f cs K:=ai_ ul (cc:=fun i=>[]) hA hs h0 hx hm hk hj hop (fun _=>dm) h
theorem asR [dC R]{F:List Nat}{k j s:Nat}{a:α}(ul:ι->List Value){c1:ι->aF}(hA:AG P T true)(hs:SZ P T s)(h0:Nat.blt 0 s=true)(hx:EV n f x (.pointer (some ⟨k,j,some 0⟩)))(hm:Mem (aD (az E (aj R)) F v xs) cs)(hk:jo v=some k)(hj:xs[j]?=some a)
   (hop:∀H e,R H e a-> ∃i,0+s<=e.cells.size/\(e.cells.toList.drop 0).take s=ul i/\ ∀c∈([c1 i]:List aF),c.P H/\c.F=[]) (h:∀i,bI P n H0 F0 A r (put f d (.agg (ul i).toArray)) (c1 i::cs) K):
   bI P n H0 F0 A (⟨d,.load T x,T',ps,af,none⟩::r) f cs K:=ai_ ul (cc:=fun i=>[c1 i]) hA hs h0 hx hm hk hj hop (fun _=>dm) h
end
end Go.Fw
/-
 Own lists laid open: the list's block with the elements' values, and the elements, each with the blocks it owns. No conditions.
-/
set_option linter.unusedVariables false
namespace Go.Fw
open Go
def kP(s:Nat):aB->Value->Value->Prop:=fun _ e a=>e=a/\e.cells.size=s/\e.cells.toList.all scal=true
instance(s:Nat):Pure (kP s):=⟨fun h=>h⟩
instance(s:Nat):Cells (kP s) s:=⟨fun h=>h.2⟩
section
variable{α:Type}{Ro:fO α}{H:aB}{E:TypeId}{s:Nat}
theorem ah0:∀{es vs:List Value}{G:List Nat},dP (aj (kP s)) H es vs G->es=vs/\G=[]
 |_,_,_,.nil=>⟨rfl,rfl⟩
 |_,_,_,.cons h t=>by
   obtain⟨h1,h2⟩:=ah0 t
   obtain⟨h3,h4,-⟩:=h
   exact⟨by rw[h4,h1],by rw[h3,h2]; rfl⟩
theorem ah1:∀{es:List Value},(∀e∈es,e.cells.size=s/\e.cells.toList.all scal=true)->dP (aj (kP s)) H es es []
 |[],_=>.nil
 |e::es,h=>.cons (F:=[]) ⟨rfl,rfl,h e (by simp)⟩ (ah1 fun x hx=>h x (by simp[hx]))
def oZ(Ro:fO α) [eO Ro](G:List Nat)(es:List Value)(xs:List α):aF:=⟨G,fun H=>dP Ro H es xs G,fun h hi hk=>dP.keep h hi hk⟩
instance [eO Ro] [Local Ro](G:List Nat)(es:List Value)(xs:List α):J6 (oZ Ro G es xs):=⟨fun h hk=>dP.local h hk⟩
theorem Ctx.exch{H0:aB}{F0:List Nat}{cs pre post rest:List aF}(h:Ctx H0 F0 H cs)(hs:gm cs pre rest)(hh:(∀c∈pre,c.P H)-> ∀c∈post,c.P H)(hf:(foot post).Sublist (foot pre)):Ctx H0 F0 H (post++rest):=by
 have h':=h.take hs
 have hv1:=h'.view
 exact h'.step (Nat.le_refl _) (gP.refl _) (fun _ _ _=>rfl) (hh hv1.hold) (hv1.nd.sublist hf) (fun k hk=>⟨.inl (hf.subset hk),(hv1.own k (hf.subset hk)).2⟩)
theorem ah2 [mo Ro s]{F:List Nat}{v:Value}{xs:List α}(h:az E Ro F H v xs):∃es F' G,es.length=xs.length/\F=F'++G/\az E (aj (kP s)) F' H v es/\dP Ro H es xs G:=by
 rcases h with⟨rfl,rfl,rfl⟩|⟨k,m,b,G,h1,h2,h3,h4,h5,h6,h7,rfl,h9⟩
 · exact⟨[],[],[],rfl,rfl,.inl ⟨rfl,rfl,rfl⟩,.nil⟩
 · have hl:=h9.length
   exact⟨b.elems,[k],G,hl,rfl,.inr ⟨k,m,b,[],by rw[h1,hl],h2,h3,h4,h5,h6,by omega,rfl,ah1 (dP.cells h9)⟩,h9⟩
theorem ar'{F' G:List Nat}{v:Value}{es:List Value}{xs:List α}(h:az E (aj (kP s)) F' H v es)(he:dP Ro H es xs G):az E Ro (F'++G) H v xs:=by
 have hl:=he.length
 rcases h with⟨rfl,rfl,rfl⟩|⟨k,m,b,G0,h1,h2,h3,h4,h5,h6,h7,rfl,h9⟩
 · cases he; exact .inl ⟨rfl,rfl,rfl⟩
 · obtain⟨rfl,rfl⟩:=ah0 h9
   exact .inr ⟨k,m,b,G,by rw[h1,hl],h2,h3,h4,h5,h6,by omega,by simp,he⟩
theorem aa7:∀{es:List Value}{xs:List α}{G:List Nat}{j:Nat}{a:α},dP Ro H es xs G->xs[j]?=some a-> ∃e G1 F1 G2,es[j]?=some e/\G=G1++(F1++G2)/\dP Ro H (es.take j) (xs.take j) G1/\Ro F1 H e a/\dP Ro H (es.drop (j+1)) (xs.drop (j+1)) G2
 |_,_,_,j,a,.nil,hj=>by simp at hj
 |_,_,_,0,a,.cons (e:=e) (F:=F) (G:=G) h t,hj=>by
   obtain rfl:_=a:=by simpa using hj
   exact⟨e,[],F,G,rfl,rfl,.nil,h,by simpa using t⟩
 |_,_,_,j+1,a,.cons (e:=e) (F:=F) (G:=G) h t,hj=>by
   obtain⟨e',G1,F1,G2,h1,h2,h3,h4,h5⟩:=aa7 (j:=j) t (by simpa using hj)
   exact⟨e',F++G1,F1,G2,by simpa using h1,by rw[h2,List.append_assoc],by simpa using dP.cons h h3,h4,by simpa using h5⟩
end
section
variable{P:Program} [b_ P]{n:Nat}{H0:aB}{F0:List Nat}{Q:Exit->Fr->List aF->Prop}{f:Fr}{cs pre rest:List aF}{c1:Code}{A:Array Oper}{l:List Oper}{K:Fr->List aF->Prop}{α ι:Type}{Ro:fO α}{E:TypeId}{s:Nat}
theorem azw{p:ι->Prop}{post:ι->List aF}(hs:gm cs pre rest)(hx:∀H,(∀c∈pre,c.P H)-> ∃i,p i/\(∀c∈post i,c.P H)/\(foot (post i)).Sublist (foot pre))(h:∀i,p i->CW P n H0 F0 c1 Q f (post i++rest)):CW P n H0 F0 c1 Q f cs:=fun H hc=>by
 obtain⟨i,h1,h2,h3⟩:=hx H (hc.take hs).view.hold
 exact h i h1 H (hc.exch hs (fun _=>h2) h3)
theorem azx{p:ι->Prop}{post:ι->List aF}(hs:gm cs pre rest)(hx:∀H,(∀c∈pre,c.P H)-> ∃i,p i/\(∀c∈post i,c.P H)/\(foot (post i)).Sublist (foot pre))(h:∀i,p i->bI P n H0 F0 A l f (post i++rest) K):bI P n H0 F0 A l f cs K:=fun H hc=>by
 obtain⟨i,h1,h2,h3⟩:=hx H (hc.take hs).view.hold
 exact h i h1 H (hc.exch hs (fun _=>h2) h3)
theorem atK [eO Ro] [mo Ro s]{F:List Nat}{v:Value}{xs:List α}:∀H,(∀c∈[aD (az E Ro) F v xs],c.P H)-> ∃i:List Value×List Nat×List Nat,i.1.length=xs.length/\(∀c∈[aD (az E (aj (kP s))) i.2.1 v i.1,oZ Ro i.2.2 i.1 xs],c.P H)/\(foot [aD (az E (aj (kP s))) i.2.1 v i.1,oZ Ro i.2.2 i.1 xs]).Sublist (foot [aD (az E Ro) F v xs]):=fun H h=>by
 obtain⟨es,F',G,h1,h2,h3,h4⟩:=ah2 (Ro:=Ro) (h (aD (az E Ro) F v xs) (by simp))
 refine⟨(es,F',G),h1,fun c hc=>?_,by rw[h2]; simp[foot,aD,oZ]⟩
 simp only[List.mem_cons,List.not_mem_nil,or_false]at hc
 rcases hc with rfl|rfl
 · exact h3
 · exact h4
end
end Go.Fw
/-
 Elements of an own list that are moved out one by one, in a range loop. The list's block is frozen and read by values; the elements stay our own. No conditions.
-/
set_option linter.unusedVariables false
namespace Go.Fw
open Go
section
variable{α ι:Type}{Ro:fO α}{H:aB}{E:TypeId}{s:Nat}
structure Un(Ro:fO α)(a:α)(val:ι->Value)(post:ι->List aF):Prop where
 un:∀F H e,Ro F H e a-> ∃i,e=val i/\(∀c∈post i,c.P H)/\foot (post i)=F
theorem asa{β:Type}{Rb:fO β} [eO Rb]{xs:List β}:Un (az E Rb) xs (fun i:Sv×List Nat=>i.1.v) (fun i=>[aD (az E Rb) i.2 i.1.v xs]):=⟨fun F H e h=>by
 obtain⟨a,m,rfl⟩:=az.len (Ro:=Rb) h
 refine⟨(⟨a,xs.length,m⟩,F),rfl,fun c hc=>?_,by simp[foot,aD]⟩
 obtain rfl:=List.mem_singleton.1 hc
 exact h⟩
def qL(E:TypeId)(s:Nat)(Ro:fO α) [eO Ro](G:List Nat)(v:Value)(es:List Value)(N k:Nat)(rest:List α):aF:=
 ⟨G,fun H=>aI E (kP s) H v es/\es.length=N/\dP Ro H (es.drop k) rest G,fun h hi hk=>⟨dC.up h.1 hi,h.2.1,dP.keep h.2.2 hi hk⟩⟩
theorem aq3 [eO Ro]{G:List Nat}{v:Value}{es:List Value}{N k:Nat}{rest:List α}(H:aB)(h:(qL E s Ro G v es N k rest).P H):N<4611686018427387904:=by
 have h1:=aI.bound (R:=kP s) h.1
 rw[h.2.1]at h1; exact h1
theorem avK [eO Ro] [mo Ro s]{a:α}{G:List Nat}{v:Value}{es:List Value}{N k:Nat}{r:List α}{val:ι->Value}{post:ι->List aF}(hu:Un Ro a val post):
   ∀H,(∀c∈[qL E s Ro G v es N k (a::r)],c.P H)-> ∃i:ι×List Nat,es[k]?=some (val i.1)/\(∀c∈post i.1++[aR (aI E (kP s)) v es,qL E s Ro i.2 v es N (k+1) r],c.P H)/\
     (foot (post i.1++[aR (aI E (kP s)) v es,qL E s Ro i.2 v es N (k+1) r])).Sublist (foot [qL E s Ro G v es N k (a::r)]):=fun H h=>by
 obtain⟨h0,h1,h2⟩:=h (qL E s Ro G v es N k (a::r)) (by simp)
 obtain⟨e,G1,F1,G2,g1,g2,g3,g4,g5⟩:=aa7 (j:=0) (a:=a) h2 (by simp)
 have hG1:G1=[]:=by
   rw[List.take_zero,List.take_zero]at g3
   cases g3; rfl
 obtain⟨i,rfl,i2,i3⟩:=hu.un _ _ _ g4
 refine⟨(i,G2),by simpa[List.getElem?_drop]using g1,fun c hc=>?_,by rw[show ∀(a b:List aF),foot (a++b)=foot a++foot b from fun a b=>by simp[foot]]; rw[i3]; show (F1++foot [aR (aI E (kP s)) v es,qL E s Ro G2 v es N (k+1) r]).Sublist (foot [qL E s Ro G v es N k (a::r)]); simp[foot,aR,qL,g2,hG1]⟩
 rcases List.mem_append.1 hc with hc|hc
 · exact i2 c hc
 simp only[List.mem_cons,List.not_mem_nil,or_false]at hc
 rcases hc with rfl|rfl
 · exact h0
 · exact⟨h0,h1,by simpa[List.drop_drop,Nat.add_comm]using g5⟩
theorem atL{es:List Value}{k:Nat}{e:Value}(h:es[k]?=some e):es[(k:Int).toNat]?=some e:=by simpa using h
end
section
variable{P:Program} [b_ P]{n:Nat}{H0:aB}{F0:List Nat}{Q:Exit->Fr->List aF->Prop}{f:Fr}{cs pre rest:List aF}{c1:Code}{A:Array Oper}{l r:List Oper}{K:Fr->List aF->Prop}{α ι:Type}{Ro:fO α}{E T T':TypeId}{s:Nat}{d:Option Tmp}{x:Operand}{ps:String}{af:Array Edge}
theorem avL [eO Ro] [mo Ro s]{F:List Nat}{v:Value}{xs:List α}(hs:Sel cs (aD (az E Ro) F v xs) rest)(h:∀(es:List Value)(G:List Nat),CW P n H0 F0 c1 Q f (qL E s Ro G v es xs.length 0 xs::rest)):CW P n H0 F0 c1 Q f cs:=by
 refine azw (.cons hs .nil) (atK (s:=s)) (fun i hi=>?_)
 refine jM (c':=aR (aI E (kP s)) v i.1) .h bq ?_
 refine atz (pre:=[aR (aI E (kP s)) v i.1,oZ Ro i.2.2 i.1 xs]) (post:=[qL E s Ro i.2.2 v i.1 xs.length 0 xs]) (.cons .h (.cons .h .nil)) ⟨fun H hp c hc=>?_,by simp[foot,aR,oZ,qL]⟩ dm (h i.1 i.2.2)
 obtain rfl:=List.mem_singleton.1 hc
 exact⟨hp (aR (aI E (kP s)) v i.1) (by simp),hi,hp (oZ Ro i.2.2 i.1 xs) (by simp)⟩
theorem asS [eO Ro] [mo Ro s]{a:α}{G:List Nat}{v:Value}{es:List Value}{N k:Nat}{r':List α}{val:ι->Value}{p1:ι->aF}(hu:Un Ro a val (fun i=>[p1 i]))(hs:Sel cs (qL E s Ro G v es N k (a::r')) rest)
   (h:∀i G',es[k]?=some (val i)->bI P n H0 F0 A l f (p1 i::aR (aI E (kP s)) v es::qL E s Ro G' v es N (k+1) r'::rest) K):bI P n H0 F0 A l f cs K:=
 azx (.cons hs .nil) (avK hu) (fun i hi=>h i.1 i.2 hi)
theorem atM{e:Value}{w:Value}{off:Nat}(h:e.cells.toList[off]?=some w):∀H e',kP s H e' e->e'.cells.toList[off]?=some w:=fun _ _ hh=>by rw[hh.1]; exact h
end
end Go.Fw
/-
 Slices that are compared with nil: whether they are is told by a fact of its own. No conditions.
-/
set_option linter.unusedVariables false
namespace Go.Fw
open Go
def ab_:Value->Bool
 | .slice none _ _=>true
 |_=>false
def sQ(v:Value)(z:Bool):aF:=⟨[],fun _=>ab_ v=z,fun h _ _=>h⟩
instance(v:Value)(z:Bool):J6 (sQ v z):=⟨fun h _=>h⟩
theorem atN:Conv [] [sQ (.slice none 0 0) true]:=⟨fun H _ c hc=>by
 obtain rfl:=List.mem_singleton.1 hc
 exact rfl,by simp[foot,sQ]⟩
theorem atO{a:Addr}{n m:Nat}:Conv [] [sQ (.slice (some a) n m) false]:=⟨fun H _ c hc=>by
 obtain rfl:=List.mem_singleton.1 hc
 exact rfl,by simp[foot,sQ]⟩
theorem atP{α:Type}{Ro:fO α} [eO Ro]{E:TypeId}{F:List Nat}{v:Value}{xs:List α}(h:xs≠[]):Conv [aD (az E Ro) F v xs] [aD (az E Ro) F v xs,sQ v false]:=⟨fun H hp c hc=>by
 have h0:=hp _ (List.mem_singleton.2 rfl)
 rcases List.mem_cons.1 hc with rfl|hc
 · exact h0
 · obtain rfl:=List.mem_singleton.1 hc
   obtain⟨a,m,rfl,ha⟩:=ary H h0
   rcases a with _|a
   · exact absurd (ha rfl) h
   · exact rfl,by simp[foot,sQ]⟩
section
variable{P:Program} [b_ P]{n:Nat}{f:Fr}{H:aB}{d:Option Tmp}{T T' T'' E:TypeId}{ps:String}{af:Array Edge}{x:Operand}
theorem asb{u:Sv}{z:Bool}(hT:SL P T E)(hx:EV n f x u.v)(hz:ab_ u.v=z):fe P n ⟨d,.binOp .eql T x (.const (.slice none 0 0)) T',T'',ps,af,none⟩ f H (.bool z):=by
 subst hz
 obtain⟨a,k,m⟩:=u
 have h:=ait (P:=P) (n:=n) (d:=d) (T':=T') (T'':=T'') (ps:=ps) (af:=af) (H:=H) hT hx
 rcases a with _|a
 · exact h
 · exact h
theorem asc{u:Sv}{z:Bool}(hT:SL P T E)(hx:EV n f x u.v)(hz:ab_ u.v=z):fe P n ⟨d,.binOp .neq T x (.const (.slice none 0 0)) T',T'',ps,af,none⟩ f H (.bool (!z)):=by
 subst hz
 obtain⟨a,k,m⟩:=u
 have h:=asL (P:=P) (n:=n) (d:=d) (T':=T') (T'':=T'') (ps:=ps) (af:=af) (H:=H) hT hx
 rcases a with _|a
 · exact h
 · exact h
end
end Go.Fw
/-
 Lending several own comps at once.
-/
set_option linter.unusedVariables false
namespace Go.Fw
open Go
section
variable{P:Program} [b_ P]{n:Nat}{f:Fr}{ι:Type}{val:ι->Value}{pre:List aF}
inductive zW:List aF->List aF->Prop
 |nil:zW [] []
 |cons {c c':aF} {cl cl':List aF} (h:zU c c') (t:zW cl cl'):zW (c::cl) (c'::cl')
theorem zW.foot{cl cl':List aF}(h:zW cl cl'):foot cl'=[]:=by
 induction h with
 |nil=>rfl
 |cons h _ ih=>show _++Go.Fw.foot _=_; rw[h.F,ih]; rfl
theorem zW.wr{cl cl':List aF}(h:zW cl cl'){H:aB}(hp:∀c∈cl,c.P H):∀k∈Go.Fw.foot cl,∃b,H[k]?=some (some b)/\b.wr=true:=by
 induction h with
 |nil=>intro k hk; simp[Go.Fw.foot]at hk
 |cons h _ ih=>
   intro k hk
   simp only[Go.Fw.foot,List.flatMap_cons,List.mem_append]at hk
   rcases hk with hk|hk
   · exact h.w H (hp _ (by simp)) k hk
   · exact ih (fun c hc=>hp c (by simp[hc])) k hk
theorem asT(H:aB)(F G:List Nat):frz H (F++G)=frz (frz H F) G:=by unfold frz; rw[List.foldl_append]
theorem zW.hold{cl cl':List aF}(h:zW cl cl'):∀{H:aB},(∀c∈cl,c.P H)->(Go.Fw.foot cl).Nodup-> ∀c∈cl',c.P (frz H (Go.Fw.foot cl)):=by
 induction h with
 |nil=>intro H _ _ c hc; simp at hc
 | @cons c c' cl cl' h t ih=>
   intro H hp hnd d hd
   have e:Go.Fw.foot (c::cl)=c.F++Go.Fw.foot cl:=rfl
   rw[e]at hnd ⊢
   obtain⟨n1,n2,n3⟩:=List.nodup_append.1 hnd
   rw[asT]
   rcases List.mem_cons.1 hd with rfl|hd
   · exact d.keep (h.P H (hp c (by simp))) (xU _ _) fun k hk=>by rw[h.F]at hk; simp at hk
   · refine ih (H:=frz H c.F) (fun x hx=>x.keep (hp x (by simp[hx])) (xU _ _) fun k hk=>zz _ _ fun hkc=>n3 k hkc k (List.mem_flatMap.2 ⟨x,hx,hk⟩) rfl) n2 d hd
theorem Q_{cl cl':List aF}{o:Oper}{post:ι->List aF}(hf:zW cl cl')(hl:∀x,xY (post x))(hx:XC P n o f (cl'++pre) val post):XC P n o f (cl++pre) val (fun x=>cl++post x):=by
 intro H hc
 have hcP:∀c∈cl,c.P H:=fun c h=>hc.hold c (by simp[h])
 have hw:=hf.wr hcP
 have hfo:∀l,foot (cl++l)=foot cl++foot l:=fun l=>by simp[foot]
 have N_:∀l,foot (cl'++l)=foot l:=fun l=>by
   have:foot (cl'++l)=foot cl'++foot l:=by simp[foot]
   rw[this,hf.foot,List.nil_append]
 have hnd:=hc.nd
 rw[hfo]at hnd
 obtain⟨n1,n2,n3⟩:=List.nodup_append.1 hnd
 have hcl:∀k∈foot cl,k<H.length:=fun k hk=>(hc.own k (by rw[hfo]; exact List.mem_append.2 (.inl hk))).2
 have hpo:∀k∈foot pre,k∉foot cl:=fun k hk hkc=>n3 k hkc k hk rfl
 have dN:Ctx (frz H (foot cl)) (foot (cl'++pre)) (frz H (foot cl)) (cl'++pre):=by
   refine⟨Nat.le_refl _,gP.refl _,fun _ _ _=>rfl,fun d hd=>?_,?_,fun k hk=>⟨.inl hk,?_⟩⟩
   · rcases List.mem_append.1 hd with hd|hd
     · exact hf.hold hcP n1 d hd
     · refine d.keep (hc.hold d (by simp[hd])) (xU _ _) fun k hk=>zz _ _ (hpo k (List.mem_flatMap.2 ⟨d,hd,hk⟩))
   · rw[N_]; exact n2
   · rw[N_]at hk
     rw[jS]
     exact (hc.own k (by rw[hfo]; exact List.mem_append.2 (.inr hk))).2
 intro ρ w a K' Q' hr hF hk
 refine hx (frz H (foot cl)) dN ρ w a K' Q' (hr.recore (jS _ _) (zt _ H)) hF fun f2 ρ' H' a' w' h1 h2 h3 h4=>?_
 obtain⟨x,rfl,h5⟩:=h4
 have hFc:∀k∈foot cl,H'[k]?=(frz H (foot cl))[k]?:=fun k hk=>h5.agr k (by rw[jS]; exact hcl k hk) (by
   rw[N_]; exact fun h=>hpo k h hk)
 have Rp:∀k∈foot (post x),k∉foot cl:=by
   intro k hk hkc
   rcases (h5.own k hk).1 with h|h
   · rw[N_]at h; exact hpo k h hkc
   · rw[jS]at h; have:=hcl k hkc; omega
 have hget:∀k,k<H.length->k∉foot pre->(ql H' (foot cl))[k]?=H[k]?:=by
   intro k hkl hkp
   by_cases hkc:k∈foot cl
   · exact abI hw hFc hkc
   · rw[Bg _ _ hkc,h5.agr k (by rw[jS]; exact hkl) (by rw[N_]; exact hkp),zz _ _ hkc]
 refine hk _ ρ' (ql H' (foot cl)) a' w' h1 (h2.recore (wL _ _) (Nf _ H')) ((Step.recore (H:=H) (jS _ _) (zt _ H)).trans (h3.trans (Step.recore (wL _ _) (Nf _ H')))) ⟨x,rfl,?_⟩
 have hlen:H.length<=(ql H' (foot cl)).length:=by rw[wL]; have:=h5.len; rwa [jS]at this
 have lh:gP H (ql H' (foot cl)):=by
   intro k b hb hbw
   have hkc:k∉foot cl:=fun h=>by
     obtain⟨b',hb',hw'⟩:=hw k h
     rw[hb]at hb'
     injection hb' with hb'; injection hb' with hb'
     rw[hb',hw']at hbw; simp at hbw
   rw[Bg _ _ hkc]
   exact h5.imm k b ((xU H (foot cl)) k b hb hbw) hbw
 refine⟨hlen,lh,fun k hkl hkn=>?_,fun d hd=>?_,?_,fun k hkk=>?_⟩
 · rw[hfo]at hkn
   simp only[List.mem_append,not_or]at hkn
   exact hget k hkl hkn.2
 · rcases List.mem_append.1 hd with hd|hd
   · exact d.keep (hcP d hd) lh fun k hk=>hget k (hcl k (List.mem_flatMap.2 ⟨d,hd,hk⟩)) (fun h=>hpo k h (List.mem_flatMap.2 ⟨d,hd,hk⟩))
   · exact (hl x).keep h5.hold (fun k hk=>Bg _ _ (Rp k hk)) d hd
 · rw[hfo]
   exact List.nodup_append.2 ⟨n1,h5.nd,fun a ha b hb e=>Rp b hb (e ▸ ha)⟩
 · rw[hfo]at hkk
   rw[hfo]
   rcases List.mem_append.1 hkk with h|h
   · exact⟨.inl (List.mem_append.2 (.inl h)),Nat.lt_of_lt_of_le (hcl k h) hlen⟩
   · refine⟨?_,by rw[wL]; exact (h5.own k h).2⟩
     rcases (h5.own k h).1 with g|g
     · rw[N_]at g; exact .inl (List.mem_append.2 (.inr g))
     · rw[jS]at g; exact .inr g
end
end Go.Fw
/-
 Fields of values, and slices of readable slices.
-/
set_option linter.unusedVariables false
namespace Go.Fw
open Go Go.RowKit
section
variable{P:Program} [b_ P]{n:Nat}{f:Fr}{H:aB}{d:Option Tmp}{x y:Operand}{T T' E Tf:TypeId}{ps:String}{af:Array Edge}
theorem aa1{l m s:Nat}{p:Option Addr}{kk:IntKind}{i:Int}(hT:SL P T E)(hs:SZ P E s)(hx:EV n f x (.slice p l m))(hy:EV n f y (.int kk i))(h0:0<=i)(hi:i<=(l:Int))(hd:l=0\/ ∃(k i0:Nat)(b:fE),p=some ⟨k,i0,none⟩/\H[k]?=some (some b)):
   fe P n ⟨d,.slice T x none (some y) none,T',ps,af,none⟩ f H (.slice p i.toNat 0):=by
 intro ρ w a hr hf
 have hyv:a.eval y= .int kk i:=(hy.use hf).int_inv
 have hu:P.underlying T=some (.slice E):=hT
 have he:P.elem T=E:=by simp[Program.elem,hu]
 have hu2:P.underlying T=some (.slice (P.elem T)):=by rw[he]; exact hu
 have key:∀(q:Option Addr)(cap:Nat),i<=(cap:Int)->a.eval x= .slice q l cap->(execOp a.eval ⟨d,.slice T x none (some y) none,T',ps,af,none⟩).run P w= .ok (.value (sliced q 0 i.toNat cap s)) w:=fun q cap hcap hc=>by
   have hrun:=run_slice_h (P:=P) w T q l cap hu2 kk i h0 (by omega)
   rw[he,hs.run,Result.andThen]at hrun
   have h2':=run_sliceAt_slice (P:=P) w T (.slice q l cap) none (some (.int kk i)) none hu2
   simp[execOp,hc,hyv,h2',hrun]
 have hq:∀(p:Addr)(cap:Nat),sliced (some p) 0 i.toNat cap s= .slice (some p) i.toNat cap:=fun p cap=>by
   unfold sliced
   simp[Addr.add]
 have hrx:=hx.use hf
 generalize hc:a.eval x=c at hrx
 cases hrx with
 |nilSlice=>
   refine⟨_,key none 0 hi hc,?_⟩
   have:i.toNat=0:=by omega
   rw[this]
   simp[sliced]
   exact .nilSlice
 |slice k i0 n m L p cap h hcp h1 h2 hp=>
   refine⟨_,key (some p) cap (by omega) hc,?_⟩
   rw[hq]
   exact dh.slice k i0 _ 0 L p _ h (by omega) (by simp) (by simp) (fun h'=>by
     obtain⟨a1,a2⟩:=hp (by omega)
     exact⟨a1,fun ho=>by have:=a2 ho; omega⟩)
 |sliceDead k i0 n m p cap h=>
   rcases hd with rfl|⟨k',i1,b,e,hk⟩
   · refine⟨_,key (some p) cap (by omega) hc,?_⟩
     rw[hq]
     have:i.toNat=0:=by omega
     rw[this]
     exact dh.sliceDead k i0 _ 0 p _ h
   · obtain⟨rfl,rfl⟩:k=k'/\i0=i1:=by simpa using e
     obtain⟨L,p',cap',hl',-⟩:=(hx.use hf).slice_inv hr hk
     rw[h]at hl'; simp at hl'
end
section
variable{P:Program} [b_ P]{n:Nat}{f:Fr}{H0:aB}{F0:List Nat}{cs:List aF}{A:Array Oper}{r:List Oper}{K:Fr->List aF->Prop}{d:Option Tmp}{x y:Operand}{T T' E:TypeId}{ps:String}{af:Array Edge}{α:Type}{R:aB->Value->α->Prop}{xs:List α}{v:Value}
theorem aq4 [dC R]{s:Nat}{kk:IntKind}{i:Int}(hT:SL P T E)(hs:SZ P E s)(hx:EV n f x v)(hy:EV n f y (.int kk i))(hm:Mem (aR (aI E R) v xs) cs)(h0:0<=i)(hi:i<=(xs.length:Int))
   (h:∀w:Sv,bI P n H0 F0 A r (put f d w.v) (aR (aI E R) w.v (xs.take i.toNat)::cs) K):bI P n H0 F0 A (⟨d,.slice T x none (some y) none,T',ps,af,none⟩::r) f cs K:=by
 intro H hc
 have hr:aI E R H v xs:=hc.mem hm
 have hr':=hr
 rcases hr' with⟨rfl,rfl⟩|⟨k,i0,m,b,rfl,h1,h2,h3,h4,hL,h6⟩|⟨k,i0,m,rfl,rfl⟩
 · have:i.toNat=0:=by simp at hi; omega
   refine wK (aa1 hT hs hx hy h0 hi (.inl rfl)) (h ⟨none,i.toNat,0⟩ H (hc.dup (c:=aR (aI E R) (.slice none i.toNat 0) _) ?_ rfl))
   exact .inl ⟨by rw[this],by simp⟩
 · refine wK (aa1 hT hs hx hy h0 hi (.inr ⟨k,i0,b,rfl,h1⟩)) (h ⟨some ⟨k,i0,none⟩,i.toNat,0⟩ H (hc.dup (c:=aR (aI E R) (.slice (some ⟨k,i0,none⟩) i.toNat 0) _) ?_ rfl))
   have e:(xs.take i.toNat).length=i.toNat:=by rw[List.length_take]; omega
   exact .inr (.inl ⟨k,i0,0,b,by rw[e],h1,h2,h3,by omega,by omega,fun j a hj=>h6 j a (by
     rw[List.getElem?_take]at hj
     split at hj
     · exact hj
     · simp at hj)⟩)
 · have:i.toNat=0:=by simp at hi; omega
   refine wK (aa1 hT hs hx hy h0 hi (.inl rfl)) (h ⟨some ⟨k,i0,none⟩,i.toNat,0⟩ H (hc.dup (c:=aR (aI E R) (.slice (some ⟨k,i0,none⟩) i.toNat 0) _) ?_ rfl))
   exact .inr (.inr ⟨k,i0,0,by rw[this],by simp⟩)
end
end Go.Fw
/-
 Shifts and bits of whole numbers. No conditions.
-/
set_option linter.unusedVariables false
namespace Go.Fw
open Go
def Ka(k:IntKind)(i j:Int):Option Int:=if j<0 then none else some (k.wrap (i*2 ^ min j.toNat k.bits))
def Kc(k:IntKind)(i j:Int):Option Int:=if j<0 then none else some (i.fdiv (2 ^ min j.toNat k.bits))
def CG(k:IntKind)(i j:Int):Int:=k.wrap ((BitVec.ofInt k.bits i &&& BitVec.ofInt k.bits j).toNat:Int)
section
variable{P:Program} [b_ P]{n:Nat}{f:Fr}{H:aB}{d:Option Tmp}{T T' T'':TypeId}{ps:String}{af:Array Edge}{x y:Operand}
theorem aj4{k l:IntKind}{i j q:Int}(hx:EV n f x (.int k i))(hy:EV n f y (.int l j))(h:Ka k i j=some q):
   fe P n ⟨d,.binOp .shl T x y T',T'',ps,af,none⟩ f H (.int k q):=by
 unfold Ka at h
 split at h
 · simp at h
 rename_i hj
 cases h
 exact fun ρ _ a _ hf=>⟨_,by simp[execOp,(hx.use hf).int_inv,(hy.use hf).int_inv,eqGuard,binOp,Op.shift,hj],.int _ _⟩
theorem acv{k l:IntKind}{i j q:Int}(hx:EV n f x (.int k i))(hy:EV n f y (.int l j))(h:Kc k i j=some q):
   fe P n ⟨d,.binOp .shr T x y T',T'',ps,af,none⟩ f H (.int k q):=by
 unfold Kc at h
 split at h
 · simp at h
 rename_i hj
 cases h
 exact fun ρ _ a _ hf=>⟨_,by simp[execOp,(hx.use hf).int_inv,(hy.use hf).int_inv,eqGuard,binOp,Op.shift,hj],.int _ _⟩
theorem acw{k:IntKind}{i j:Int}(hx:EV n f x (.int k i))(hy:EV n f y (.int k j)):
   fe P n ⟨d,.binOp .and T x y T',T'',ps,af,none⟩ f H (.int k (CG k i j)):=
 fun ρ _ a _ hf=>⟨_,by simp[execOp,(hx.use hf).int_inv,(hy.use hf).int_inv,eqGuard,binOp,Op.intBits,CG],.int _ _⟩
end
end Go.Fw
/-
 Drawn regions: elements of an own slice are read and stored.
-/
set_option linter.unusedVariables false
namespace Go.Fw
open Go Go.RowKit
section
variable{P:Program} [b_ P]{n:Nat}{l:List Oper}{tb bf:List Nat}{H0:aB}{F0:List Nat}{K:Fr->List aF->Prop}{cs:List aF}{f:Fr}{i:Nat}{r:List Nat}{fl:List (Nat×List Nat)}{d:Option Tmp}{T E T':TypeId}{ps:String}{af:Array Edge}{gd:Option (Nat×Bool)}{v:Value}{x y:Operand}{α:Type}{Ro:List Nat->aB->Value->α->Prop}{xs:List α}{s:Nat}
end
section
variable{P:Program} [b_ P]{n:Nat}{f:Fr}{H:aB}{d:Option Tmp}{x:Operand}{T:TypeId}{ps:String}{af:Array Edge}
theorem mR{v:Value}{q:Addr}(hv:v= .pointer (some q))(hx:EV n f x v):fe P n ⟨d,.nilCheck x,T,ps,af,none⟩ f H v:=fun ρ _ a _ hf=>by
 subst hv
 have h:=hx.use hf
 have:∃p,a.eval x= .pointer (some p):=by
   generalize a.eval x=u at h
   cases h<;>exact⟨_,rfl⟩
 obtain⟨p,hp⟩:=this
 exact⟨a.eval x,by simp[execOp,hp],h⟩
end
end Go.Fw
/-
 Library functions that hand back strings: what the shelf's contracts say, at the abstract heap.
-/
set_option linter.unusedVariables false
namespace Go.Fw
open Go Go.RowKit
section
variable{P:Program} [b_ P]{ρ:dR}{H:aB}{w:World}
theorem Rel.ofBelow{w':World}(h:Rel P ρ H w)(hb:Below w.heap.size w w'):Rel P ρ H w':=by
 constructor
 · intro k L hk
   obtain⟨b,hbk,hr⟩:=h.blk k L hk
   exact⟨b,hbk,hr.of_same (Up.refl ρ) (hb.block _ (h.lt hk))⟩
 · exact h.alive
 · exact h.dom
 · exact h.inj
 · exact h.vok.keep hb.size (fun b hb' _=>hb.block b hb') fun _ _ hk _=>.inl hk
theorem Step.ofBelow{w':World}(hb:Below w.heap.size w w'):Step ρ H w ρ H w' where
 up:=Up.refl ρ
 os:=hb.os
 output:=hb.output
 tape:=hb.tape
 size:=hb.size
 frame b hb' _:=hb.block b hb'
 fresh _ _ h:=.inl h
 len:=Nat.le_refl _
 hold k hk hn:=⟨hn,rfl⟩
theorem below_grow(w:World)(k:Nat)(os:Array Obj):Below w.heap.size w (Sort.grow (w.drewN k) os):=
 ⟨rfl,rfl,rfl,by simp[Sort.grow,World.drewN],fun j hj=>by
   show (w.heap++os)[j]?=_
   rw[Array.getElem?_append_left hj]⟩
theorem xq.var{name:String}{cs:Array Value}(hV:∀w0,b_.V P w0->w0.var? P name=some cs)(h:xq P ρ w):w.var? P name=some cs:=by
 obtain⟨w0,h1,h2,h3,-⟩:=h
 have:=hV w0 h1
 unfold World.var? at this ⊢
 cases hg:P.globalNamed name with
 |none=>rw[hg]at this; simp at this
 |some g=>
   rw[hg,Option.bind_some]at this
   rw[Option.bind_some]
   have hlt:g<w0.heap.size:=by
     rcases Nat.lt_or_ge g w0.heap.size with h|h
     · exact h
     · rw[Array.getElem?_eq_none h]at this; simp at this
   rw[h3 g hlt]
   exact this
theorem arG{g:FuncId}{n:Int}(h:∀w,(∃ρ,xq P ρ w)->Calls P g #[.int .i64 n] w fun e w'=>e= .returned (.string ⟨(Lib.itoa n).toArray⟩)/\ ∃k os,w'=Sort.grow (w.drewN k) os):
   Fw.Spec P g [.int .i64 n] [] (fun _:Unit=>sv (Lib.itoa n)) (fun _=>[]):=by
 intro H F0 dN ρ w jL hr hargs
 obtain⟨l⟩:=jL
 cases hargs with
 |cons _ c _ _ hc t=>
   cases t
   obtain rfl:=hc.int_inv
   refine (h w ⟨ρ,hr.vok⟩).mono ?_
   rintro e w' ⟨rfl,k,os,rfl⟩
   have hb:=below_grow w k os
   exact⟨_,_,ρ,H,rfl,.string _,hr.ofBelow hb,Step.ofBelow hb,(),rfl,dN⟩
theorem arH{g:FuncId}{E:TypeId}{v:Value}{xs:List (List UInt8)}{sep:List UInt8}(hs:SZ P E 1)
   (h1:∀(a:Option Addr)(c:Nat)(s:ByteArray) w,Calls P g #[.slice a 0 c,.string s] w fun e w'=>e= .returned (.string ⟨#[]⟩)/\w'=w)
   (h2:∀bk o c (ys:List ByteArray)(s:ByteArray) w,(∀(j:Nat) x,ys[j]?=some x->w.cell? ⟨bk,o+j,none⟩=some (.string x))->bk<w.heap.size->ys.length<=140737488355328->ys.length<=c->
     (Lib.join (ys.map (·.data.toList)) s.data.toList).length<=140737488355328->Calls P g #[.slice (some ⟨bk,o,none⟩) ys.length c,.string s] w fun e w'=>e= .returned (.string ⟨(Lib.join (ys.map (·.data.toList)) s.data.toList).toArray⟩)/\Below w.heap.size w w')
   (hN:xs.length<4294967296) (hlen:(Lib.join xs sep).length<4294967296):
   Fw.Spec P g [v,sv sep] [aR (aI E rdStr) v xs] (fun _:Unit=>sv (Lib.join xs sep)) (fun _=>[]):=by
 intro H F0 dN ρ w jL hr hargs
 obtain⟨l⟩:=jL
 have hnil:xs=[]->Lib.join xs sep=[]:=fun h=>by subst h; rfl
 have hdone:∀w',Below w.heap.size w w'-> ∃x0 r ρ' H',Ending.returned (sv (Lib.join xs sep))= .returned x0/\dh ρ' r x0/\Rel P ρ' H' w'/\Step ρ H w ρ' H' w'/\ ∃x:Unit,r=sv (Lib.join xs sep)/\Ctx H F0 H' []:=fun w' hb=>
   ⟨_,_,ρ,H,rfl,.string _,hr.ofBelow hb,Step.ofBelow hb,(),rfl,dN.sublist (List.nil_sublist _)⟩
 cases hargs with
 |cons _ c _ _ hc t=>
   cases t with
   |cons _ c2 _ _ hc2 t=>
     cases t
     obtain rfl:=hc2.sv_inv
     have hemp:∀a cap,c= .slice a 0 cap->xs=[]->Calls P g #[c,sv sep] w fun e w'=>∃x0 r ρ' H',e= .returned x0/\dh ρ' r x0/\Rel P ρ' H' w'/\Step ρ H w ρ' H' w'/\ ∃x:Unit,r=sv (Lib.join xs sep)/\Ctx H F0 H' []:=by
       intro a cap e hx
       subst e
       refine (h1 a cap _ w).mono ?_
       rintro e w' ⟨rfl,rfl⟩
       have:=hdone w' (Below.refl _ _)
       rw[hnil hx]at this ⊢
       exact this
     have hrd:aI E rdStr H v xs:=dN.hold (aR (aI E rdStr) v xs) (by simp)
     rcases hrd with⟨rfl,hx⟩|⟨k,i,m,b,rfl,g2,g3,g4,g5,g6,g7⟩|⟨k,i,m,rfl,hx⟩
     · cases hc
       exact hemp none 0 rfl hx
     · obtain⟨L,p,cap,hl,hbr,rfl,hcap,-,-,hp⟩:=hc.slice_inv hr g2
       by_cases hx:xs.length=0
       · have hx':=List.length_eq_zero_iff.1 hx
         exact hemp (some p) cap (by rw[hx]) hx'
       have lU:=hp hx
       have j5:L.sz=1:=by rw[←hbr.sz,g4,hs.cells]
       obtain⟨cs,ct,fr,qo,hel,-⟩:=hbr.cells
       have hmap:(xs.map fun l=>(⟨l.toArray⟩:ByteArray)).map (·.data.toList)=xs:=by
         rw[List.map_map]
         exact List.map_id' xs
       have hl2:(xs.map fun l=>(⟨l.toArray⟩:ByteArray)).length=xs.length:=by simp
       have:=h2 L.blk (L.off+i) cap (xs.map fun l=>(⟨l.toArray⟩:ByteArray)) ⟨sep.toArray⟩ w (fun j x hj=>by
         rw[List.getElem?_map]at hj
         cases hxj:xs[j]? with
         |none=>rw[hxj]at hj; simp at hj
         |some a=>
           rw[hxj]at hj
           obtain rfl:(⟨a.toArray⟩:ByteArray)=x:=by simpa using hj
           obtain⟨e,he,hr'⟩:=g7 j a hxj
           have hr2:e=sv a:=hr'
           subst hr2
           have:=(hel (i+j) _ he).2
           rw[j5,Nat.mul_one,←Nat.add_assoc]at this
           obtain⟨c0,q1,q2⟩:=this.get 0 _ rfl
           have q3:=q2.sv_inv
           subst q3
           rw[Js qo]
           rw[List.getElem?_take_of_lt (by omega),List.getElem?_drop,Nat.add_zero,Array.getElem?_toList]at q1
           exact q1) (hr.lt hl) (by rw[hl2]; omega) (by rw[hl2]; exact hcap) (by rw[hmap]; show (Lib.join xs sep).length<=_; omega)
       rw[hl2,hmap]at this
       rw[lU,j5,Nat.mul_one]
       refine this.mono ?_
       rintro e w' ⟨rfl,hb⟩
       exact hdone w' hb
     · obtain⟨p,cap,rfl⟩:∃p cap,c= .slice (some p) 0 cap:=by
         cases hc with
         |slice _ _ _ _ L p cap=>exact⟨p,cap,rfl⟩
         |sliceDead _ _ _ _ p cap=>exact⟨p,cap,rfl⟩
       exact hemp (some p) cap rfl hx
end
section
variable{P:Program} [b_ P]{n:Nat}{f:Fr}{d:Option Tmp}{x:Operand}{S T D E:TypeId}{ps:String}{af:Array Edge}{H:aB}{F:List Nat}{v:Value}{u:UInt8}
theorem ah3(hS:SL P S E)(hE:IK P E .u8)(hD:P.underlying D=some .string)(hs:SZ P E 1)(hx:EV n f x v)(hp:(aD (az E (aj Gj)) F v [u]).P H):fe P n ⟨d,.convert S D x,T,ps,af,none⟩ f H (sv [u]):=by
 have ho:az E (aj Gj) F H v [u]:=hp
 rcases ho with⟨-,h,-⟩|⟨k,m,b,G,rfl,hm,h3,h4,h5,h6,h7,rfl,h9⟩
 · simp at h
 intro ρ w a hr hf
 obtain⟨L,p,cap,hl,hbr,hc,hcap,-,-,hp2⟩:=(hx.use hf).slice_inv hr h3
 have lU:=hp2 (by simp)
 rw[Nat.zero_mul,Nat.add_zero]at lU
 have hcz:P.cellsOf b.ty=1:=by rw[h6]; exact hs.cells
 obtain⟨e,F1,Fj,F2,g1,-,g3,-⟩:=h9.at (j:=0) rfl
 have g4:e= .int .u8 (u.toNat:Int):=g3.2
 subst g4
 have j5:L.sz=1:=by rw[←hbr.sz,hcz]
 obtain⟨cs,ct,fr,qo,hel,-⟩:=hbr.cells
 have:=(hel 0 _ g1).2
 rw[Nat.zero_mul,Nat.add_zero,j5]at this
 obtain⟨c0,q1,q2⟩:=this.get 0 _ rfl
 have q3:=q2.int_inv
 subst q3
 rw[List.getElem?_take_of_lt (by omega),List.getElem?_drop,Nat.add_zero,Array.getElem?_toList]at q1
 obtain⟨hlt,hv⟩:=Array.getElem?_eq_some_iff.1 q1
 have hrun:=run_loadCells P qo 1 (o:=L.off) (Nat.succ_le_of_lt hlt)
 have hd:(cs.toList.drop L.off).take 1=[Value.int .u8 (u.toNat:Int)]:=by
   rw[List.drop_eq_getElem_cons (by simpa using hlt)]
   simp[hv]
 rw[hd]at hrun
 have hu:P.underlying S=some (.slice E):=hS
 have hue:P.underlying E=some (.int .u8):=hE
 have hcv:(Conv.bytesToString (.slice (some p) 1 cap)).run P w= .ok (sv [u]) w:=by
   subst lU
   simp[Conv.bytesToString,hrun,sv]
   rfl
 refine⟨sv [u],?_,.string _⟩
 have hc1:a.eval x= .slice (some p) 1 cap:=hc
 simp[execOp,hc1,Go.convert,underlying,hu,hD,hue,hcv]
end
end Go.Fw
namespace Go.Fw
open Go
section
variable{P:Program} [b_ P]{n:Nat}{f:Fr}{H:aB}{d:Option Tmp}{x:Operand}{T T':TypeId}{ps:String}{af:Array Edge}
theorem avM{k:IntKind}{i:Int}(hx:EV n f x (.int k i)):fe P n ⟨d,.unOp .neg T x,T',ps,af,none⟩ f H (.int k (k.wrap (-i))):=
 fun ρ _ a _ hf=>⟨_,by simp[execOp,(hx.use hf).int_inv,Op.unary,Op.intArith],.int _ _⟩
end
end Go.Fw
/-
 Library functions on our own rows of integers: what the shelf's contracts say, at the abstract heap.
-/
set_option linter.unusedVariables false
namespace Go.Fw
open Go Go.Sort
section
variable{P:Program} [b_ P]{ρ:dR}{H:aB}{w:World}
theorem Rel.grown{w':World}{os:Array Obj}(h:Rel P ρ H w)(hw:w'.heap=w.heap++os):Rel P ρ H w':=by
 have hs:∀b,b<w.heap.size->w'.heap[b]?=w.heap[b]?:=fun b hb=>by rw[hw,Array.getElem?_append_left hb]
 constructor
 · intro k L hk
   obtain⟨b,hb,hr⟩:=h.blk k L hk
   exact⟨b,hb,hr.of_same (Up.refl ρ) (hs _ (h.lt hk))⟩
 · exact h.alive
 · exact h.dom
 · exact h.inj
 · exact h.vok.keep (by rw[hw]; simp) (fun b hb _=>hs b hb) fun _ _ hk _=>.inl hk
theorem Step.grown{w':World}{os:Array Obj}(hw:w'.heap=w.heap++os)(h1:w'.os=w.os)(h2:w'.output=w.output)(h3:w'.tape=w.tape):Step ρ H w ρ H w' where
 up:=Up.refl ρ
 os:=h1
 output:=h2
 tape:=h3
 size:=by rw[hw]; simp
 frame b hb _:=by rw[hw,Array.getElem?_append_left hb]
 fresh _ _ h:=.inl h
 len:=Nat.le_refl _
 hold k hk hn:=⟨hn,rfl⟩
theorem Rel.row{k n:Nat}{L:Loc}{b:fE}{zs ys:List Int}{os:Array Obj}(h:Rel P ρ H w)(hk:ρ k=some (some L))(hb:H[k]?=some (some b))(hown:b.own=true)(hsz:P.cellsOf b.ty=1)
   (hl:b.elems.length=zs.length) (hys:∀(i:Nat) y,ys[i]?=some y->zs[i]?=some y):
   Rel P ρ (H.set k (some ⟨ys.map (Value.int .i64),b.ty,true,b.wr⟩)) (grow (putRow (Value.int .i64) (Sort.ahead w n) L.blk L.off zs.toArray) os)/\
   Step ρ H w ρ (H.set k (some ⟨ys.map (Value.int .i64),b.ty,true,b.wr⟩)) (grow (putRow (Value.int .i64) (Sort.ahead w n) L.blk L.off zs.toArray) os):=by
 obtain⟨b',hb',hbr⟩:=h.blk k L hk
 rw[hb]at hb'
 obtain rfl:b=b':=by simpa using hb'
 have ho:L.own=true:=by rw[←hbr.own]; exact hown
 have j5:L.sz=1:=by rw[←hbr.sz,hsz]
 obtain⟨cs,ct,fr,qo,hel,hr2⟩:=hbr.cells
 obtain⟨hoff,sG,hlenL,hfr,rfl⟩:=hr2 ho
 have hlt:=h.lt hk
 have hyl:ys.length<=zs.length:=by
   rcases Nat.lt_or_ge zs.length ys.length with h'|h'
   · have:=hys zs.length ys[zs.length] (List.getElem?_eq_getElem h')
     rw[List.getElem?_eq_none (Nat.le_refl _)]at this; simp at this
   · exact h'
 have hzc:zs.length<=cs.size:=by rw[j5,Nat.mul_one]at sG; omega
 have hh1:(putRow (Value.int .i64) (Sort.ahead w n) L.blk L.off zs.toArray).heap=w.heap.setIfInBounds L.blk (.cells (putCells (Value.int .i64) L.off zs.toArray cs) b.ty fr):=by
   show w.heap.modify L.blk (onCells (putCells (Value.int .i64) L.off zs.toArray))=_
   apply Array.ext_getElem?
   intro q
   rw[Array.getElem?_modify,Array.getElem?_setIfInBounds]
   by_cases e:L.blk=q
   · subst e
     rw[if_pos rfl,if_pos rfl,if_pos hlt,qo]; rfl
   · rw[if_neg e,if_neg e]
 have hsz':(putCells (Value.int .i64) L.off zs.toArray cs).size=cs.size:=by simp[putCells]
 have R1:Rel P ρ (H.set k (some ⟨ys.map (Value.int .i64),b.ty,true,b.wr⟩)) (putRow (Value.int .i64) (Sort.ahead w n) L.blk L.off zs.toArray):=by
   refine h.write (b:=b) (b':=⟨ys.map (Value.int .i64),b.ty,true,b.wr⟩) hk ho hh1 rfl rfl hbr.sz ?_ ⟨hoff,by rw[hsz']; exact sG,by simp only[List.length_map]; omega,by rw[hsz']; exact hfr⟩
   intro i e he
   rw[List.getElem?_map]at he
   cases hy:ys[i]? with
   |none=>rw[hy]at he; simp at he
   |some y=>
     rw[hy]at he
     obtain rfl:Value.int .i64 y=e:=by simpa using he
     have hz:=hys i y hy
     obtain⟨hi,hz'⟩:=List.getElem?_eq_some_iff.1 hz
     refine⟨j5 ▸ rfl,?_⟩
     rw[hoff,j5,Nat.zero_add,Nat.mul_one]
     have hc:(putCells (Value.int .i64) 0 zs.toArray cs).toList.drop i=Value.int .i64 y::(putCells (Value.int .i64) 0 zs.toArray cs).toList.drop (i+1):=by
       rw[List.drop_eq_getElem_cons (by simp[putCells]; omega)]
       congr 1
       simp[putCells,hi,hz']
     rw[hc]
     exact .cons _ _ _ _ (.int _ _) .nil
 have S1:Step ρ H w ρ (H.set k (some ⟨ys.map (Value.int .i64),b.ty,true,b.wr⟩)) (putRow (Value.int .i64) (Sort.ahead w n) L.blk L.off zs.toArray):=
   Step.write hk ho hh1 rfl rfl rfl
 exact⟨R1.grown rfl,S1.trans (Step.grown rfl rfl rfl rfl)⟩
theorem Rel.holds{k:Nat}{L:Loc}{b:fE}{zs:List Int}(h:Rel P ρ H w)(hk:ρ k=some (some L))(hb:H[k]?=some (some b))(hown:b.own=true)(hsz:P.cellsOf b.ty=1)
   (he:b.elems=zs.map (Value.int .i64)):Holds (Value.int .i64) w L.blk L.off zs.toArray:=by
 obtain⟨b',hb',hbr⟩:=h.blk k L hk
 rw[hb]at hb'
 obtain rfl:b=b':=by simpa using hb'
 have ho:L.own=true:=by rw[←hbr.own]; exact hown
 have j5:L.sz=1:=by rw[←hbr.sz,hsz]
 obtain⟨cs,ct,fr,qo,hel,hr2⟩:=hbr.cells
 obtain⟨hoff,sG,hlenL,hfr,rfl⟩:=hr2 ho
 rw[j5,Nat.mul_one]at sG
 rw[he,List.length_map]at hlenL
 intro j hj
 simp only[List.size_toArray]at hj
 have hjc:j<cs.size:=by omega
 rw[hoff,Nat.zero_add]
 have:=(hel j (Value.int .i64 zs[j]) (by rw[he,List.getElem?_map,List.getElem?_eq_getElem hj]; rfl)).2
 rw[hoff,j5,Nat.zero_add,Nat.mul_one,List.drop_eq_getElem_cons (by simpa using hjc)]at this
 have hv:cs[j]=Value.int .i64 zs[j]:=by
   obtain⟨c,h1,h2⟩:=this.get 0 _ rfl
   have h3:=h2.int_inv
   subst h3
   simpa using h1
 constructor
 · rw[Js qo,Array.getElem?_eq_getElem hjc,hv]
   simp[hj]
 · have:=hfr j (Nat.le_of_lt hjc)
   simp only[World.frozen?,qo]
   simpa using this
end
section
variable{P:Program} [b_ P]{H:aB}{F0:List Nat}{E:TypeId}
theorem Xm{es:List Value}{xs:List Int}{G:List Nat}(h:dP (aj aH) H es xs G):es=xs.map (Value.int .i64)/\G=[]:=by
 induction h with
 |nil=>exact⟨rfl,rfl⟩
 |cons h _ ih=>exact⟨by rw[ih.1,h.2]; rfl,by rw[ih.2,h.1]; rfl⟩
theorem ah4:∀(xs:List Int),dP (aj aH) H (xs.map (Value.int .i64)) xs []
 |[]=>.nil
 |x::xs=>by simpa using dP.cons (Ro:=aj aH) (F:=[]) ⟨rfl,rfl⟩ (ah4 xs)
theorem Ctx.setrow{k m m':Nat}{b:fE}{xs ys:List Int}(dN:Ctx H F0 H [aD (az E (aj aH)) [k] (.slice (some ⟨k,0,none⟩) xs.length m) xs])(h3:H[k]?=some (some b))(h4:b.wr=true)(h6:b.ty=E)
   (hm:m'=1\/m'=2) (hb:ys.length<4611686018427387904):
   Ctx H F0 (H.set k (some ⟨ys.map (Value.int .i64),b.ty,true,b.wr⟩)) [aD (az E (aj aH)) [k] (.slice (some ⟨k,0,none⟩) ys.length m') ys]:=by
 have hne:∀q,q≠k->(H.set k (some ⟨ys.map (Value.int .i64),b.ty,true,b.wr⟩))[q]?=H[q]?:=fun q hq=>by rw[List.getElem?_set_ne (fun e=>hq e.symm)]
 have hkl:=qz h3
 refine⟨by simp,?_,fun q hq Dk=>hne q (fun e=>Dk ?_),?_,by simp[foot,aD],fun q hq=>?_⟩
 · intro q b2 hq hw2
   rw[hne q (fun e=>by subst e; rw[hq]at h3; injection h3 with h3; injection h3 with h3; rw[h3]at hw2; rw[hw2]at h4; simp at h4)]
   exact hq
 · subst e
   rcases (dN.own q (by simp[foot,aD])).1 with h|h
   · exact h
   · omega
 · intro c hcm
   simp at hcm; subst hcm
   exact .inr ⟨k,m',_,[],rfl,hm,List.getElem?_set_self hkl,h4,rfl,h6,hb,rfl,ah4 ys⟩
 · have hqk:q=k:=by simpa[foot,aD]using hq
   subst hqk
   exact⟨(dN.own q (by simp[foot,aD])).1,by simpa using hkl⟩
theorem ahm{ρ:dR}{v:Value}{jL:Array Value}(h:bP ρ [v] jL.toList):∃c,jL= #[c]/\dh ρ v c:=by
 obtain⟨l⟩:=jL
 cases h with
 |cons _ c _ _ h t=>cases t; exact⟨c,rfl,h⟩
theorem arI{g:FuncId}{F:List Nat}{v:Value}{xs:List Int}(hty:TY P E 1 8 (.int .i64 0))
   (h1:∀(p:Option Addr) cap w,Calls P g #[.slice p 0 cap] w fun e w'=>e= .returned (.tuple #[])/\w'=w)
   (h2:∀blk off cap (zs:List Int) w,Holds (Value.int .i64) w blk off zs.toArray->blk<w.heap.size->zs.length<4611686018427387904->Calls P g #[.slice (some ⟨blk,off,none⟩) zs.length cap] w fun e w'=>
     e= .returned (.tuple #[])/\ ∃n os,w'=grow (putRow (Value.int .i64) (Sort.ahead w n) blk off (zs.mergeSort fun x y=>decide (x<=y)).toArray) os):
   Fw.Spec P g [v] [aD (az E (aj aH)) F v xs] (fun _:List Nat=>.tuple [].toArray) (fun p=>[aD (az E (aj aH)) p v (xs.mergeSort fun x y=>decide (x<=y))]):=by
 intro H F0 dN ρ w jL hr hargs
 obtain⟨c,rfl,hc⟩:=ahm hargs
 have ho:az E (aj aH) F H v xs:=dN.hold _ (List.mem_singleton.2 rfl)
 rcases ho with⟨rfl,rfl,rfl⟩|⟨k,m,b,G,rfl,hm,h3,h4,h5,h6,h7,rfl,h9⟩
 · cases hc with
   |nilSlice=>
     refine (h1 none 0 w).mono ?_
     rintro e w' ⟨rfl,rfl⟩
     exact⟨_,_,ρ,H,rfl,.tuple [] [] .nil,hr,Step.refl _ _ _,_,rfl,by simpa using dN⟩
 · obtain⟨-,rfl⟩:b.elems=xs.map (Value.int .i64)/\G=[]:=Xm h9
   have hel:=(Xm h9).1
   obtain⟨L,p,cap,hl,hbr,rfl,hcap,g1,g2,gp⟩:=hc.slice_inv hr h3
   rcases xs with _|⟨x,xs⟩
   · refine (h1 (some p) cap w).mono ?_
     rintro e w' ⟨rfl,rfl⟩
     exact⟨_,_,ρ,H,rfl,.tuple [] [] .nil,hr,Step.refl _ _ _,_,rfl,by simpa using dN⟩
   · have hp:=gp (by simp)
     rw[Nat.zero_mul,Nat.add_zero]at hp
     subst hp
     have hcz:P.cellsOf b.ty=1:=by rw[h6]; exact hty.sz.cells
     refine (h2 L.blk L.off cap (x::xs) w (hr.holds hl h3 h5 hcz hel) (hr.lt hl) h7).mono ?_
     rintro e w' ⟨rfl,n,os,rfl⟩
     have hlen:((x::xs).mergeSort fun x y=>decide (x<=y)).length=(x::xs).length:=List.length_mergeSort _
     obtain⟨r1,r2⟩:=hr.row (n:=n) (os:=os) (zs:=(x::xs).mergeSort fun x y=>decide (x<=y)) (ys:=(x::xs).mergeSort fun x y=>decide (x<=y)) hl h3 h5 hcz (by rw[hel,List.length_map,hlen]) (fun _ _ h=>h)
     have:=Ctx.setrow (ys:=(x::xs).mergeSort fun x y=>decide (x<=y)) dN h3 h4 h6 hm (by rw[hlen]; exact h7)
     rw[hlen]at this
     exact⟨_,_,ρ,_,rfl,.tuple [] [] .nil,r1,r2,_,rfl,this⟩
theorem apA{g:FuncId}{F:List Nat}{v:Sv}{xs:List Int}{cm:List Int->List Int}(hty:TY P E 1 8 (.int .i64 0))(hle:∀zs,(cm zs).length<=zs.length)(hnil:cm []=[])
   (h1:∀(p:Option Addr) cap w,Calls P g #[.slice p 0 cap] w fun e w'=>e= .returned (.slice p 0 cap)/\w'=w)
   (h2:∀blk off cap (zs:List Int) w,Holds (Value.int .i64) w blk off zs.toArray->zs.length<=9223372036854775807->zs.length<=cap->Calls P g #[.slice (some ⟨blk,off,none⟩) zs.length cap] w fun e w'=>
     e= .returned (.slice (some ⟨blk,off,none⟩) (cm zs).length cap)/\ ∃q,w'=putRow (Value.int .i64) (Sort.ahead w q) blk off (cm zs++List.replicate (zs.length-(cm zs).length) 0).toArray):
   Fw.Spec P g [v.v] [aD (az E (aj aH)) F v.v xs] (fun p:Sv×List Nat=>p.1.v) (fun p=>[aD (az E (aj aH)) p.2 p.1.v (cm xs)]):=by
 intro H F0 dN ρ w jL hr hargs
 obtain⟨c,rfl,hc⟩:=ahm hargs
 have ho:az E (aj aH) F H v.v xs:=dN.hold _ (List.mem_singleton.2 rfl)
 have ho':=ho
 rcases ho with⟨hv,rfl,rfl⟩|⟨k,m,b,G,hv,hm,h3,h4,h5,h6,h7,rfl,h9⟩
 · have hc':=hc
   rw[hv]at hc
   cases hc with
   |nilSlice=>
     refine (h1 none 0 w).mono ?_
     rintro e w' ⟨rfl,rfl⟩
     exact⟨_,_,ρ,H,rfl,hc',hr,Step.refl _ _ _,(v,[]),rfl,by simpa[hnil]using dN⟩
 · obtain⟨-,rfl⟩:b.elems=xs.map (Value.int .i64)/\G=[]:=Xm h9
   have hel:=(Xm h9).1
   have hc':=hc
   rw[hv]at hc
   obtain⟨L,p,cap,hl,hbr,rfl,hcap,g1,g2,gp⟩:=hc.slice_inv hr h3
   rcases xs with _|⟨x,xs⟩
   · refine (h1 (some p) cap w).mono ?_
     rintro e w' ⟨rfl,rfl⟩
     exact⟨_,_,ρ,H,rfl,hc',hr,Step.refl _ _ _,(v,[k]),rfl,by simpa[hnil]using dN⟩
   · have hp:=gp (by simp)
     rw[Nat.zero_mul,Nat.add_zero]at hp
     subst hp
     have hcz:P.cellsOf b.ty=1:=by rw[h6]; exact hty.sz.cells
     have hown:L.own=true:=by rw[←hbr.own]; exact h5
     refine (h2 L.blk L.off cap (x::xs) w (hr.holds hl h3 h5 hcz hel) (by omega) hcap).mono ?_
     rintro e w' ⟨rfl,n,rfl⟩
     have hlen:=hle (x::xs)
     obtain⟨r1,r2⟩:=hr.row (n:=n) (os:=#[]) (zs:=cm (x::xs)++List.replicate ((x::xs).length-(cm (x::xs)).length) 0) (ys:=cm (x::xs)) hl h3 h5 hcz (by rw[hel,List.length_map,List.length_append,List.length_replicate]; omega)
       (fun i y h=>by rw[List.getElem?_append_left (List.getElem?_eq_some_iff.1 h).1]; exact h)
     rw[grow_empty]at r1 r2
     have hcc:cap<=L.cap:=by
       rcases hm with rfl|rfl
       · have:=g1 rfl; omega
       · exact (g2 (Nat.le_refl _)).2.2.1
     rw[hv]at dN
     have:=Ctx.setrow (ys:=cm (x::xs)) (m':=2) dN h3 h4 h6 (.inr rfl) (by omega)
     refine⟨_,.slice (some ⟨k,0,none⟩) (cm (x::xs)).length 2,ρ,_,rfl,.slice _ _ _ _ L _ cap hl (by omega) (by simp) (fun _=>⟨rfl,hown,hcc,rfl,by omega⟩) (fun _=>⟨by simp,fun _=>by omega⟩),r1,r2,(⟨some ⟨k,0,none⟩,(cm (x::xs)).length,2⟩,[k]),rfl,this⟩
end
theorem aq5(zs:List Int):(Lib.compact zs).length<=zs.length:=by
 unfold Lib.compact Lib.compactUpTo
 rw[List.length_map]
 exact Nat.le_trans (List.length_filter_le _ _) (Nat.le_of_eq List.length_range)
end Go.Fw
/-
 slices.Insert at slices of our own: capacities, copy, overlaps, append of a make.
-/
set_option linter.unusedVariables false
namespace Go.Fw
open Go
def gB(s:Nat)(_:aB)(e q:Value):Prop:=e=q/\e.cells.size=s/\e.cells.toList.all scal=true
instance{s:Nat}:Pure (gB s):=⟨fun h=>h⟩
instance{s:Nat}:Cells (gB s) s:=⟨fun h=>h.2⟩
section
variable{H:aB}{s:Nat}
theorem Rq{es xs:List Value}{G:List Nat}(h:dP (aj (gB s)) H es xs G):es=xs/\G=[]/\ ∀e∈es,e.cells.size=s/\e.cells.toList.all scal=true:=by
 induction h with
 |nil=>exact⟨rfl,rfl,by simp⟩
 |cons h _ ih=>
   refine⟨by rw[ih.1,h.2.1],by rw[ih.2.1,h.1]; rfl,fun e he=>?_⟩
   rcases List.mem_cons.1 he with rfl|he
   · exact h.2.2
   · exact ih.2.2 e he
theorem XR:∀{es:List Value},(∀e∈es,e.cells.size=s/\e.cells.toList.all scal=true)->dP (aj (gB s)) H es es []
 |[],_=>.nil
 |e::es,h=>by simpa using dP.cons (Ro:=aj (gB s)) (F:=[]) ⟨rfl,rfl,h e (by simp)⟩ (XR fun x hx=>h x (by simp[hx]))
end
theorem jN.relabel{ρ:dR}{n t:Nat}{f:Fr}{a:Act}{v:Value}(h:jN ρ n f a)(hv:dh ρ v (a.tmps.getD t undef)):jN ρ n (upd f t v) a:=
 ⟨h.defers,h.size,fun u hu=>by
   by_cases e:u=t
   · subst e; rw[Jm]; exact hv
   · rw[upd_ne _ _ e]; exact h.get u hu⟩
theorem aq6{α:Type}(l:List α)(p t m:Nat)(vs:List α)(hp:p<=l.length)(h:t+m<=vs.length):((splice l p vs).drop (p+t)).take m=(vs.drop t).take m:=by
 have hl:(l.take p).length=p:=by simp; omega
 unfold splice
 rw[List.append_assoc,←List.drop_drop,List.drop_append_of_le_length (by omega),List.drop_of_length_le (l:=l.take p) (by omega),List.nil_append,List.drop_append_of_le_length (by omega),List.take_append_of_le_length (by simp; omega)]
section
variable{P:Program} [b_ P]{ρ:dR}{H:aB}{w:World}
theorem Rel.copyIn{k a s:Nat}{L:Loc}{b:fE}{S:List Value}{vs:List Value}(h:Rel P ρ H w)(hk:ρ k=some (some L))(hb:H[k]?=some (some b))(hown:b.own=true)(hsz:P.cellsOf b.ty=s)
   (hS:∀e∈S,e.cells.size=s/\e.cells.toList.all scal=true) (hv:bP ρ (flat S) vs) (ha:a<=b.elems.length) (hcap:a+S.length<=L.cap):
   ∃w',(storeCells ⟨L.blk,L.off+a*s,none⟩ vs).run P w= .ok () w'/\
     Rel P ρ (H.set k (some ⟨b.elems.take a++S++b.elems.drop (a+S.length),b.ty,true,b.wr⟩)) w'/\Step ρ H w ρ (H.set k (some ⟨b.elems.take a++S++b.elems.drop (a+S.length),b.ty,true,b.wr⟩)) w':=by
 obtain⟨b',hb',hbr⟩:=h.blk k L hk
 rw[hb]at hb'
 obtain rfl:b=b':=by simpa using hb'
 have ho:L.own=true:=by rw[←hbr.own]; exact hown
 have j5:L.sz=s:=by rw[←hbr.sz,hsz]
 obtain⟨cs,ct,fr,qo,hel,hr2⟩:=hbr.cells
 obtain⟨hoff,sG,hlenL,hfr,rfl⟩:=hr2 ho
 have hvl:vs.length=S.length*s:=by rw[←hv.length,Ex S fun e he=>(hS e he).1]
 have hcs:(a+S.length)*s<=cs.size:=Nat.le_trans (by rw[j5]; exact Nat.mul_le_mul_right _ hcap) sG
 have hbd:a*s+vs.length<=cs.size:=by rw[hvl,←Nat.add_mul]; exact hcs
 have RF:∀c∈vs,scal c=true:=by
   intro c hc
   obtain⟨q,hq⟩:=List.mem_iff_getElem?.1 hc
   have KS:q<(flat S).length:=by rw[hv.length]; exact (List.getElem?_eq_some_iff.1 hq).1
   obtain⟨c',hc',hrc⟩:=hv.get q _ (List.getElem?_eq_getElem KS)
   rw[hc']at hq
   obtain rfl:c'=c:=by simpa using hq
   rw[hrc.scal]
   have hm:=List.getElem_mem KS
   simp only[flat,List.mem_flatMap]at hm
   obtain⟨e,he,hx⟩:=hm
   exact List.all_eq_true.1 (hS e he).2 _ hx
 obtain⟨w',hrun,hw',w1,w2,w3⟩:=V9 P (b:=L.blk) (o:=L.off+a*s) vs 0 cs w qo (fun o h=>hfr o (Nat.le_of_lt h)) RF (by rw[hoff]; omega)
 rw[hoff,Nat.zero_add,Nat.add_zero]at hw'
 have hsl:(splice cs.toList (a*s) vs).length=cs.size:=by rw[Ir _ _ _ (by simpa using hbd)]; simp
 refine⟨w',hrun,h.write (b':=⟨b.elems.take a++S++b.elems.drop (a+S.length),b.ty,true,b.wr⟩) hk ho hw' rfl rfl hbr.sz ?_ ⟨hoff,by simp only[List.size_toArray]; rw[hsl]; exact sG,?_,by simp only[List.size_toArray]; rw[hsl]; exact hfr⟩,Step.write hk ho hw' w1 w2 w3⟩
 · intro q e he
   rw[hoff,j5,Nat.zero_add]
   show e.cells.size=s/\bP ρ e.cells.toList (((splice cs.toList (a*s) vs).drop (q*s)).take s)
   have hta:(b.elems.take a).length=a:=by simp; omega
   have hold:b.elems[q]?=some e->(q<a\/a+S.length<=q)->e.cells.size=s/\bP ρ e.cells.toList (((splice cs.toList (a*s) vs).drop (q*s)).take s):=by
     intro h1 h2
     have:=hel q e h1
     rw[hoff,j5,Nat.zero_add]at this
     refine⟨this.1,?_⟩
     rw[WM _ _ _ _ _ (h2.imp (fun h=>by rw[←Nat.succ_mul]; exact Nat.mul_le_mul_right _ h) (fun h=>by rw[hvl,←Nat.add_mul]; exact Nat.mul_le_mul_right _ h)) (by simpa using hbd)]
     exact this.2
   rcases Nat.lt_or_ge q a with h1|h1
   · refine hold ?_ (.inl h1)
     rw[List.append_assoc,List.getElem?_append_left (by omega),List.getElem?_take_of_lt h1]at he
     exact he
   rcases Nat.lt_or_ge q (a+S.length)with h2|h2
   · rw[List.getElem?_append_left (by simp; omega),List.getElem?_append_right (by omega),hta]at he
     have:=bP.elems (ρ:=ρ) S vs [] hv (fun e he=>(hS e he).1) (q-a) e he
     rw[List.append_nil]at this
     refine⟨(hS e (List.mem_of_getElem? he)).1,?_⟩
     have hw:q*s=a*s+(q-a)*s:=by rw[←Nat.add_mul]; congr 1; omega
     rw[hw,aq6 _ _ _ _ _ (by simp; omega) (by rw[hvl,←Nat.succ_mul]; exact Nat.mul_le_mul_right _ (by omega))]
     exact this
   · refine hold ?_ (.inr h2)
     rw[List.getElem?_append_right (by simp; omega),List.getElem?_drop]at he
     simp only[List.length_append,hta]at he
     rwa [show a+S.length+(q-(a+S.length))=q by omega]at he
 · simp only[List.length_append,List.length_take,List.length_drop]; omega
theorem Rel.cellsOf{k i m s:Nat}{L:Loc}{b:fE}(h:Rel P ρ H w)(hk:ρ k=some (some L))(hb:H[k]?=some (some b))(hsz:P.cellsOf b.ty=s)(hs0:0<s)(him:i+m<=b.elems.length):
   ∃cells:Array Value,(loadCells ⟨L.blk,L.off+i*L.sz,none⟩ (m*s)).run P w= .ok cells w/\bP ρ (flat ((b.elems.drop i).take m)) cells.toList:=by
 obtain⟨b',hb',hbr⟩:=h.blk k L hk
 rw[hb]at hb'
 obtain rfl:b=b':=by simpa using hb'
 have j5:L.sz=s:=by rw[←hbr.sz,hsz]
 obtain⟨cs,ct,fr,qo,hel,hr2⟩:=hbr.cells
 have hlen:((b.elems.drop i).take m).length=m:=by rw[List.length_take,List.length_drop]; omega
 have hget:∀(q:Nat) e,((b.elems.drop i).take m)[q]?=some e->e.cells.size=s/\bP ρ e.cells.toList ((cs.toList.drop (L.off+i*L.sz+q*L.sz)).take L.sz):=by
   intro q e he
   have hq:q<m:=by
     rcases Nat.lt_or_ge q m with h|h
     · exact h
     · rw[List.getElem?_eq_none (by omega)]at he; simp at he
   rw[List.getElem?_take_of_lt hq,List.getElem?_drop]at he
   have:=hel (i+q) e he
   rw[Nat.add_mul,←Nat.add_assoc]at this
   exact⟨this.1.trans j5,this.2⟩
 have hrel:bP ρ (flat ((b.elems.drop i).take m)) ((cs.toList.drop (L.off+i*L.sz)).take (m*L.sz)):=by
   have:=bP.window (ρ:=ρ) (cs:=cs.toList) (sz:=L.sz) ((b.elems.drop i).take m) (L.off+i*L.sz) (fun q e he=>⟨(hget q e he).2,(hget q e he).1.trans j5.symm⟩)
   rwa [hlen]at this
 by_cases hm:m=0
 · subst hm
   exact⟨#[],by simp[loadCells,loadCellsFrom],by simpa using hrel⟩
 · have hbd:L.off+i*L.sz+m*s<=cs.size:=by
     obtain⟨e,he⟩:∃e,((b.elems.drop i).take m)[m-1]?=some e:=⟨_,List.getElem?_eq_getElem (by omega)⟩
     obtain⟨h1,h2⟩:=hget (m-1) e he
     have:=h2.length
     simp only[Array.length_toList,List.length_take,List.length_drop]at this
     have h3:(m-1)*L.sz+L.sz=m*s:=by rw[j5]; rw[←Nat.succ_mul]; congr 1; omega
     omega
   refine⟨_,run_loadCells P qo (m*s) hbd,?_⟩
   rw[j5]at hrel ⊢
   simpa using hrel
end
section
variable{P:Program} [b_ P]{n:Nat}{f:Fr}{H0:aB}{F0:List Nat}{cs:List aF}{A:Array Oper}{r:List Oper}{K:Fr->List aF->Prop}{d:Option Tmp}{x y z:Operand}{T T2 T' E:TypeId}{ts:List TypeId}{ps:String}{af:Array Edge}{gd:Option (Nat×Bool)}{s:Nat}{t:Tmp}{c1:Code}{Q:Exit->Fr->List aF->Prop}
theorem avN{α:Type}{Ro:fO α} [eO Ro]{F:List Nat}{xs:List α}{v:Value}{k l m:Nat}(hv:f t= .slice (some ⟨k,0,none⟩) l m)(ht:Nat.blt t n=true)(hm:m=1\/m=2)(hl:l≠0)(hc:Mem (aD (az E Ro) F v xs) cs)(hk:jo v=some k)
   (h:∀c,l<=c->CW P n H0 F0 c1 Q (upd f t (.slice (some ⟨k,0,none⟩) l (c+3))) cs):CW P n H0 F0 c1 Q f cs:=by
 intro H dN ρ w a hr hf
 have ho:az E Ro F H v xs:=dN.mem hc
 obtain⟨-,m',b,G,hv',-,h3,-,h5,-⟩:=ho.head hk
 have hg:=hf.get t (by simpa[Nat.blt_eq]using ht)
 rw[hv]at hg
 obtain⟨L,p,cap,hl',hbr,hc',hcap,g1,g2,gp⟩:=hg.slice_inv hr h3
 obtain⟨L2,hl2,hx⟩:=hg.slice_ext hr h3 hl
 rw[hl']at hl2
 obtain rfl:L=L2:=by simpa using hl2
 have hown:L.own=true:=by rw[←hbr.own]; exact h5
 obtain⟨cs0,ct,fr,-,-,hr2⟩:=hbr.cells
 obtain⟨hoff,-⟩:=hr2 hown
 have lU:=gp hl
 rw[Nat.zero_mul,Nat.add_zero]at lU
 have Ox:cap<=L.cap:=by
   rcases hm with rfl|rfl
   · have:=g1 rfl; omega
   · exact (g2 (Nat.le_refl _)).2.2.1
 refine h cap hcap H dN ρ w a hr (hf.relabel ?_)
 rw[hc']
 exact .slice k 0 l (cap+3) L p cap hl' hcap (by omega) (fun _=>⟨rfl,hown,Ox,lU,fun _=>rfl⟩) (fun _=>⟨by rw[lU]; simp,hx⟩)
theorem asU{k l c:Nat}(hv:f t= .slice (some ⟨k,0,none⟩) l (c+3))(ht:Nat.blt t n=true)(h:CW P n H0 F0 c1 Q (upd f t (.slice (some ⟨k,0,none⟩) l 2)) cs):CW P n H0 F0 c1 Q f cs:=by
 intro H dN ρ w a hr hf
 refine h H dN ρ w a hr (hf.relabel ?_)
 have hg:=hf.get t (by simpa[Nat.blt_eq]using ht)
 rw[hv]at hg
 generalize a.tmps.getD t undef=u at hg
 cases hg with
 |slice _ _ _ _ L p cap hl hc h1 h2 hp=>
   obtain⟨e1,e2,e3,e4,-⟩:=h2 (by omega)
   exact .slice _ _ _ _ L p cap hl hc (by simp) (fun _=>⟨e1,e2,e3,e4,by omega⟩) hp
 |sliceDead _ _ _ _ p cap hl=>exact .sliceDead _ _ _ _ p cap hl
theorem avO{H:aB}{k l c:Nat}{b:fE}(hT:SL P T E)(hx:EV n f x (.slice (some ⟨k,0,none⟩) l (c+3)))(hk:H[k]?=some (some b)):
   fe P n ⟨d,.call ⟨.builtin .cap,[x].toArray,(T::ts).toArray⟩,T',ps,af,none⟩ f H (.int .i64 (c:Int)):=by
 intro ρ w a hr hf
 obtain⟨L,p,cap,hl',hbr,hc',hcap,g1,g2,gp⟩:=(hx.use hf).slice_inv hr hk
 have:=(g2 (by omega)).2.2.2.2 (by omega)
 obtain rfl:cap=c:=by omega
 have hu:P.underlying T=some (.slice E):=hT
 exact⟨.int .i64 cap,by simp[execOp,resolve,invoke,builtin,Builtin.cap_,hc',goInt,underlying,hu],.int _ _⟩
theorem aq7{H:aB}{k l c:Nat}{b:fE}{kk:IntKind}{j:Nat}(hT:SL P T E)(hs:SZ P E s)(hx:EV n f x (.slice (some ⟨k,0,none⟩) l (c+3)))(hy:EV n f y (.int kk (j:Int)))(hk:H[k]?=some (some b))(hj:j<=c):
   fe P n ⟨d,.slice T x none (some y) none,T',ps,af,none⟩ f H (.slice (some ⟨k,0,none⟩) j (c+3)):=by
 intro ρ w a hr hf
 obtain⟨L,p,cap,hl,hb,hc,hcap,h1,h2,hp⟩:=(hx.use hf).slice_inv hr hk
 obtain⟨-,hown,Ox,lU,h5⟩:=h2 (by omega)
 have:=h5 (by omega)
 obtain rfl:cap=c:=by omega
 have hyv:a.eval y= .int kk (j:Int):=(hy.use hf).int_inv
 have hu:P.underlying T=some (.slice E):=hT
 have he:P.elem T=E:=by simp[Program.elem,hu]
 have hu2:P.underlying T=some (.slice (P.elem T)):=by rw[he]; exact hu
 obtain⟨cs0,ct,fr,-,-,hr2⟩:=hb.cells
 obtain⟨hoff,-⟩:=hr2 hown
 refine⟨sliced (some p) 0 j cap s,?_,?_⟩
 · have hrun:=run_slice_h (P:=P) w T (some p) l cap hu2 kk (j:Int) (by omega) (by omega)
   rw[he,hs.run,Result.andThen]at hrun
   have h2':=run_sliceAt_slice (P:=P) w T (.slice (some p) l cap) none (some (.int kk (j:Int))) none hu2
   rw[Int.toNat_natCast]at hrun
   simp[execOp,hc,hyv,h2',hrun]
 · have hq:sliced (some p) 0 j cap s= .slice (some p) j cap:=by
     unfold sliced
     by_cases e:cap=0
     · rw[if_pos (by omega)]; simp
     · rw[if_neg (by omega)]
       simp[Addr.add]
   rw[hq]
   exact dh.slice k 0 _ (cap+3) L p _ hl hj (by omega) (fun _=>⟨rfl,hown,Ox,lU,fun _=>rfl⟩) (fun _=>⟨by rw[lU]; simp,fun _=>by omega⟩)
end
section
variable{H:aB}{F0:List Nat}{E:TypeId}{s:Nat}
theorem Ctx.setw{rest:List aF}{k m':Nat}{b:fE}{u:Value}{es es':List Value}(dN:Ctx H F0 H (aD (az E (aj (gB s))) [k] u es::rest))(h3:H[k]?=some (some b))(h4:b.wr=true)(h6:b.ty=E)
   (hm:m'=1\/m'=2) (hb:es'.length<4611686018427387904) (hes:∀e∈es',e.cells.size=s/\e.cells.toList.all scal=true):
   Ctx H F0 (H.set k (some ⟨es',b.ty,true,b.wr⟩)) (aD (az E (aj (gB s))) [k] (.slice (some ⟨k,0,none⟩) es'.length m') es'::rest):=by
 have hne:∀q,q≠k->(H.set k (some ⟨es',b.ty,true,b.wr⟩))[q]?=H[q]?:=fun q hq=>by rw[List.getElem?_set_ne (fun e=>hq e.symm)]
 have hkl:=qz h3
 have hf1:foot (aD (az E (aj (gB s))) [k] u es::rest)=k::foot rest:=rfl
 have hf2:foot (aD (az E (aj (gB s))) [k] (.slice (some ⟨k,0,none⟩) es'.length m') es'::rest)=k::foot rest:=rfl
 have lh:gP H (H.set k (some ⟨es',b.ty,true,b.wr⟩)):=by
   intro q b2 hq hw2
   rw[hne q (fun e=>by subst e; rw[hq]at h3; injection h3 with h3; injection h3 with h3; rw[h3]at hw2; rw[hw2]at h4; simp at h4)]
   exact hq
 have hnd:=dN.nd
 rw[hf1]at hnd
 refine⟨by simp,lh,fun q hq Dk=>hne q (fun e=>Dk ?_),?_,by rw[hf2]; exact hnd,fun q hq=>?_⟩
 · subst e
   rcases (dN.own q (by rw[hf1]; simp)).1 with h|h
   · exact h
   · omega
 · intro c hcm
   rcases List.mem_cons.1 hcm with rfl|hcm2
   · exact .inr ⟨k,m',_,[],rfl,hm,List.getElem?_set_self hkl,h4,rfl,h6,hb,rfl,XR hes⟩
   · refine c.keep (dN.hold c (by simp[hcm2])) lh fun q hq=>hne q (fun e=>?_)
     subst e
     exact (List.nodup_cons.1 hnd).1 (List.mem_flatMap.2 ⟨c,hcm2,hq⟩)
 · rw[hf2,←hf1]at hq
   have:=dN.own q hq
   exact⟨this.1,by simpa using this.2⟩
theorem aiF{es S:List Value}{a:Nat}{p:Value->Prop}(h1:∀e∈es,p e)(h2:∀e∈S,p e):∀e∈es.take a++S++es.drop (a+S.length),p e:=by
 intro e he
 rw[List.mem_append,List.mem_append]at he
 rcases he with (h|h)|h
 · exact h1 e (List.mem_of_mem_take h)
 · exact h2 e h
 · exact h1 e (List.mem_of_mem_drop h)
end
section
variable{P:Program} [b_ P]{n:Nat}{f:Fr}{d:Option Tmp}{x y:Operand}{T T2 T' E:TypeId}{ts:List TypeId}{ps:String}{af:Array Edge}{gd:Option (Nat×Bool)}{s:Nat}
theorem agj{w:World}{a:Act}{k k2 ia ja ld ls m1 m2:Nat}{ρ:dR}{H:aB}{b b2:fE}(hT:SL P T E)(hs:SZ P E s)(hs0:0<s)(hr:Rel P ρ H w)(hf:jN ρ n f a)(hx:EV n f x (.slice (some ⟨k,ia,none⟩) ld m1))(hy:EV n f y (.slice (some ⟨k2,ja,none⟩) ls m2))
   (h3:H[k]?=some (some b)) (h5:b.own=true) (h6:b.ty=E) (g3:H[k2]?=some (some b2)) (g6:b2.ty=E) (hld:ld≠0) (hls:ls≠0) (hj:ja+min ls ld<=b2.elems.length) (ha:ia<=b.elems.length)
   (hS:∀e∈b2.elems,e.cells.size=s/\e.cells.toList.all scal=true):
   ∃w',(execOp a.eval ⟨d,.call ⟨.builtin .copy,[x,y].toArray,(T::T2::ts).toArray⟩,T',ps,af,gd⟩).run P w= .ok (.value (.int .i64 ((min ls ld:Nat):Int))) w'/\
     Rel P ρ (H.set k (some ⟨b.elems.take ia++(b2.elems.drop ja).take (min ls ld)++b.elems.drop (ia+((b2.elems.drop ja).take (min ls ld)).length),b.ty,true,b.wr⟩)) w'/\
     Step ρ H w ρ (H.set k (some ⟨b.elems.take ia++(b2.elems.drop ja).take (min ls ld)++b.elems.drop (ia+((b2.elems.drop ja).take (min ls ld)).length),b.ty,true,b.wr⟩)) w':=by
 obtain⟨L,p,cap,hl,hbr,hc,-,-,-,hp⟩:=(hx.use hf).slice_inv hr h3
 obtain⟨L',hl',w_⟩:=(hx.use hf).slice_ext hr h3 hld
 rw[hl]at hl'
 obtain rfl:L=L':=by simpa using hl'
 obtain⟨L2,p2,cap2,hl2,TA,hc2,-,-,-,hp2⟩:=(hy.use hf).slice_inv hr g3
 have hown:L.own=true:=by rw[←hbr.own]; exact h5
 have j5:L.sz=s:=by rw[←hbr.sz,h6,hs.cells]
 have alg:L2.sz=s:=by rw[←TA.sz,g6,hs.cells]
 obtain⟨cells,avP,Jy⟩:=hr.cellsOf (i:=ja) (m:=min ls ld) hl2 g3 (by rw[g6,hs.cells]) hs0 hj
 have hlen:((b2.elems.drop ja).take (min ls ld)).length=min ls ld:=by rw[List.length_take,List.length_drop]; omega
 obtain⟨w',avQ,r1,r2⟩:=hr.copyIn (a:=ia) (S:=(b2.elems.drop ja).take (min ls ld)) (vs:=cells.toList) hl h3 h5 (by rw[h6,hs.cells]) (fun e he=>hS e (List.mem_of_mem_drop (List.mem_of_mem_take he))) Jy ha
   (by rw[hlen]; have:=w_ hown; have:=Nat.min_le_right ls ld; omega)
 refine⟨w',?_,r1,r2⟩
 have hu:P.underlying T=some (.slice E):=hT
 have lU:=hp hld
 have YV:=hp2 hls
 rw[j5]at lU
 have atQ:(Builtin.firstCells s (min ls ld) (.slice (some p2) ls cap2)).run P w= .ok cells w:=by rw[YV]; exact avP
 have hmin:Nat.min ls ld=min ls ld:=rfl
 subst lU
 simp[execOp,resolve,invoke,builtin,Builtin.copy_,hc,hc2,underlying,hu,hs.run,Builtin.lenOf,hmin,atQ,avQ,goInt]
theorem abJ{F F2:List Nat}{u u2:Value}{es es2:List Value}{k k2 ia ja ld ls m1 m2:Nat}(hT:SL P T E)(hs:SZ P E s)(hs0:Nat.blt 0 s=true)(hk:jo u=some k)(hk2:jo u2=some k2)(hx:EV n f x (.slice (some ⟨k,ia,none⟩) ld m1))(hy:EV n f y (.slice (some ⟨k2,ja,none⟩) ls m2))
   (hld:ld≠0) (hls:ls≠0) (hj:ja+min ls ld<=es2.length) (ha:ia<=es.length) {es':List Value} (he:es'=es.take ia++(es2.drop ja).take (min ls ld)++es.drop (ia+min ls ld)) (hb:es'.length<4611686018427387904):
   XC P n ⟨d,.call ⟨.builtin .copy,[x,y].toArray,(T::T2::ts).toArray⟩,T',ps,af,gd⟩ f [aD (az E (aj (gB s))) F u es,aD (az E (aj (gB s))) F2 u2 es2] (fun _:Unit=>.int .i64 ((min ls ld:Nat):Int))
     (fun _=>[aD (az E (aj (gB s))) F (.slice (some ⟨k,0,none⟩) es'.length 2) es',aD (az E (aj (gB s))) F2 u2 es2]):=by
 intro H dN
 have ho:az E (aj (gB s)) F H u es:=dN.hold (aD (az E (aj (gB s))) F u es) (by simp)
 have ho2:az E (aj (gB s)) F2 H u2 es2:=dN.hold (aD (az E (aj (gB s))) F2 u2 es2) (by simp)
 obtain⟨-,m',b,G,-,-,h3,h4,h5,h6,-,rfl,h9⟩:=ho.head hk
 obtain⟨-,m2',b2,G2,-,-,g3,-,-,g6,-,rfl,g9⟩:=ho2.head hk2
 obtain⟨rfl,rfl,hes⟩:=Rq h9
 obtain⟨rfl,rfl,alh⟩:=Rq g9
 intro ρ w a K' Q' hr hf hkk
 have hlen:((b2.elems.drop ja).take (min ls ld)).length=min ls ld:=by rw[List.length_take,List.length_drop]; omega
 obtain⟨w',hex,r1,r2⟩:=agj (d:=d) (ts:=ts) (T':=T') (ps:=ps) (af:=af) (gd:=gd) (T2:=T2) hT hs (by simpa[Nat.blt_eq]using hs0) hr hf hx hy h3 h5 h6 g3 g6 hld hls hj ha alh
 rw[hlen,←he]at r1 r2
 show Oper.upon P _ a K' Q' _
 rw[hex]
 refine hkk _ _ _ _ _ (hf.put d (.int _ _)) r1 r2 ⟨(),rfl,?_⟩
 refine dN.setw h3 h4 h6 (.inr rfl) hb ?_
 have:=aiF (a:=ia) (p:=fun e=>e.cells.size=s/\e.cells.toList.all scal=true) hes (S:=(b2.elems.drop ja).take (min ls ld)) (fun e he=>alh e (List.mem_of_mem_drop (List.mem_of_mem_take he)))
 rw[hlen,←he]at this
 exact this
theorem asV{F:List Nat}{u:Value}{es:List Value}{k ia ja ld ls m1 m2:Nat}(hT:SL P T E)(hs:SZ P E s)(hs0:Nat.blt 0 s=true)(hk:jo u=some k)(hx:EV n f x (.slice (some ⟨k,ia,none⟩) ld m1))(hy:EV n f y (.slice (some ⟨k,ja,none⟩) ls m2))
   (hld:ld≠0) (hls:ls≠0) (hj:ja+min ls ld<=es.length) (ha:ia<=es.length) {es':List Value} (he:es'=es.take ia++(es.drop ja).take (min ls ld)++es.drop (ia+min ls ld)) (hb:es'.length<4611686018427387904):
   XC P n ⟨d,.call ⟨.builtin .copy,[x,y].toArray,(T::T2::ts).toArray⟩,T',ps,af,gd⟩ f [aD (az E (aj (gB s))) F u es] (fun _:Unit=>.int .i64 ((min ls ld:Nat):Int))
     (fun _=>[aD (az E (aj (gB s))) F (.slice (some ⟨k,0,none⟩) es'.length 2) es']):=by
 intro H dN
 have ho:az E (aj (gB s)) F H u es:=dN.hold (aD (az E (aj (gB s))) F u es) (by simp)
 obtain⟨-,m',b,G,-,-,h3,h4,h5,h6,-,rfl,h9⟩:=ho.head hk
 obtain⟨rfl,rfl,hes⟩:=Rq h9
 intro ρ w a K' Q' hr hf hkk
 have hlen:((b.elems.drop ja).take (min ls ld)).length=min ls ld:=by rw[List.length_take,List.length_drop]; omega
 obtain⟨w',hex,r1,r2⟩:=agj (d:=d) (ts:=ts) (T':=T') (ps:=ps) (af:=af) (gd:=gd) (T2:=T2) hT hs (by simpa[Nat.blt_eq]using hs0) hr hf hx hy h3 h5 h6 h3 h6 hld hls hj ha hes
 rw[hlen,←he]at r1 r2
 show Oper.upon P _ a K' Q' _
 rw[hex]
 refine hkk _ _ _ _ _ (hf.put d (.int _ _)) r1 r2 ⟨(),rfl,?_⟩
 refine dN.setw h3 h4 h6 (.inr rfl) hb ?_
 have:=aiF (a:=ia) (p:=fun e=>e.cells.size=s/\e.cells.toList.all scal=true) hes (S:=(b.elems.drop ja).take (min ls ld)) (fun e he=>hes e (List.mem_of_mem_drop (List.mem_of_mem_take he)))
 rw[hlen,←he]at this
 exact this
end
section
variable{P:Program} [b_ P]{n:Nat}{f:Fr}{d:Option Tmp}{x y:Operand}{T T2 T' E B:TypeId}{ts:List TypeId}{ps:String}{af:Array Edge}{gd:Option (Nat×Bool)}{s:Nat}
theorem aq8{g:FuncId}{F F2:List Nat}{u u2:Value}{es es2:List Value}{k k2 ia ib la lb m1 m2:Nat}(hT:SL P T E)(hs:SZ P E s)(hs0:Nat.blt 0 s=true)
   (hov:∀args w,(callFunc g args).run P w=((Extern.SlicesOverlaps.overlaps #[T,T] #[B] args).run P w).andThen fun v w'=>.ok (.value v) w')
   (hk:jo u=some k) (hk2:jo u2=some k2) (hx:EV n f x (.slice (some ⟨k,ia,none⟩) la m1)) (hy:EV n f y (.slice (some ⟨k2,ib,none⟩) lb m2)) (hla:la≠0) (hlb:lb≠0):
   XC P n ⟨d,.call ⟨.value (.func g),[x,y].toArray,ts.toArray⟩,T',ps,af,gd⟩ f [aD (az E (aj (gB s))) F u es,aD (az E (aj (gB s))) F2 u2 es2] (fun _:Unit=>.bool false)
     (fun _=>[aD (az E (aj (gB s))) F u es,aD (az E (aj (gB s))) F2 u2 es2]):=by
 intro H dN
 have ho:az E (aj (gB s)) F H u es:=dN.hold (aD (az E (aj (gB s))) F u es) (by simp)
 have ho2:az E (aj (gB s)) F2 H u2 es2:=dN.hold (aD (az E (aj (gB s))) F2 u2 es2) (by simp)
 obtain⟨-,m',b,G,-,-,h3,h4,h5,h6,-,rfl,h9⟩:=ho.head hk
 obtain⟨-,m2',b2,G2,-,-,g3,-,g5,g6,-,rfl,g9⟩:=ho2.head hk2
 have azy:k≠k2:=by
   intro e; subst e
   have:=dN.nd
   simp[foot,aD]at this
 intro ρ w a K' Q' hr hf hkk
 have YW:0<s:=by simpa[Nat.blt_eq]using hs0
 obtain⟨L,p,cap,hl,hbr,hc,-,-,-,hp⟩:=(hx.use hf).slice_inv hr h3
 obtain⟨La,ali,w_⟩:=(hx.use hf).slice_ext hr h3 hla
 rw[hl]at ali
 obtain rfl:L=La:=by simpa using ali
 obtain⟨L2,p2,cap2,hl2,TA,hc2,-,-,-,hp2⟩:=(hy.use hf).slice_inv hr g3
 obtain⟨Lb,alj,avR⟩:=(hy.use hf).slice_ext hr g3 hlb
 rw[hl2]at alj
 obtain rfl:L2=Lb:=by simpa using alj
 have hown:L.own=true:=by rw[←hbr.own]; exact h5
 have hown2:L2.own=true:=by rw[←TA.own]; exact g5
 have j5:L.sz=s:=by rw[←hbr.sz,h6,hs.cells]
 have alg:L2.sz=s:=by rw[←TA.sz,g6,hs.cells]
 obtain⟨cs,ct,fr,qo,-,hr2⟩:=hbr.cells
 obtain⟨hoff,sG,-,hfr,-⟩:=hr2 hown
 obtain⟨cs2,ct2,fr2,azz,-,azA⟩:=TA.cells
 obtain⟨aC3,atS,-,-,-⟩:=azA hown2
 have lU:=hp hla
 have YV:=hp2 hlb
 have hne:L.blk≠L2.blk:=fun e=>azy (hr.inj k k2 L L2 hl hl2 hown e)
 have e1:=w_ hown
 have e2:=avR hown2
 have q1:(ia+la)*s<=cs.size:=Nat.le_trans (by rw[j5]; exact Nat.mul_le_mul_right _ e1) sG
 have q2:(ib+lb)*s<=cs2.size:=Nat.le_trans (by rw[alg]; exact Nat.mul_le_mul_right _ e2) atS
 have q3:0<(ib+lb)*s:=Nat.mul_pos (by omega) YW
 have q4:ia*s<=(ia+la)*s:=Nat.mul_le_mul_right _ (by omega)
 have hfz:∀o,o<=cs.size->w.frozen? ⟨L.blk,o,none⟩=false:=fun o ho=>by
   have:=hfr o ho
   simp only[World.frozen?,qo]
   simpa using this
 have hrun:=Lib.run_overlaps_apart (P:=P) w T B E hT s (fun w=>hs.run w) p p2 la cap lb cap2 (by rw[lU,YV]; exact hne) ct ct2 cs.size cs2.size (by rw[lU]; simp[World.shape?,qo]) (by rw[YV]; simp[World.shape?,azz]) (by omega)
   (by rw[lU]; exact hfz _ (by rw[hoff,j5]; omega)) (by rw[lU]; exact hfz _ (Nat.le_refl _))
 have hex:(execOp a.eval ⟨d,.call ⟨.value (.func g),[x,y].toArray,ts.toArray⟩,T',ps,af,gd⟩).run P w= .ok (.value (.bool false)) w:=by
   have h1:=hov #[.slice (some p) la cap,.slice (some p2) lb cap2] w
   rw[hrun]at h1
   simp only[Result.andThen_ok]at h1
   have e0:a.eval (.func g)= .func (.func g) #[] #[]:=rfl
   simp[execOp,resolve,invoke,Deferred.ofValue,e0,hc,hc2,h1]
 show Oper.upon P _ a K' Q' _
 rw[hex]
 exact hkk _ _ _ _ _ (hf.put d (.bool _)) hr (Step.refl _ _ _) ⟨(),rfl,dN⟩
theorem aoz(z:Array Value)(q:Nat):Builtin.zeroCells z q=madeCells z (q*z.size):=rfl
theorem apB{F:List Nat}{u zv:Value}{es:List Value}{k i q c by':Nat}{kq kn:IntKind}(hT:SL P T E)(hTI:P.underlying T2=some (.int kn))(ht:TY P E s by' zv)(hs0:Nat.blt 0 s=true)(hzs:zv.cells.size=s)(hzl:zv.cells.toList.all scal=true)(hzc:zy zv=true)(hby:Nat.ble by' 16384=true)
   (hk:jo u=some k) (hx:EV n f x (.slice (some ⟨k,0,none⟩) i (c+3))) (hy:EV n f y (.int kq (q:Int))) (hc:c<i+q) (hi:i<=es.length) (hq:0<q) (hb:i+q<4294967296):
   XC P n ⟨d,.call ⟨.builtin .append,[x,y].toArray,[T,T2].toArray⟩,T',ps,af,gd⟩ f [aD (az E (aj (gB s))) F u es] (fun k':Nat=>.slice (some ⟨k',0,none⟩) (i+q) 2)
     (fun k'=>[aD (az E (aj (gB s))) [k'] (.slice (some ⟨k',0,none⟩) (i+q) 2) (es.take i++List.replicate q zv),aD (az E (aj (gB s))) F u es]):=by
 intro H dN
 have YW:0<s:=by simpa[Nat.blt_eq]using hs0
 have J8:by'<=16384:=by simpa[Nat.ble_eq]using hby
 obtain⟨iE,xy,h1,h2,h3z⟩:=ht.inv
 have ho:az E (aj (gB s)) F H u es:=dN.hold (aD (az E (aj (gB s))) F u es) (by simp)
 obtain⟨-,m',b,G,hu',-,h3,h4,h5,h6,h7,rfl,h9⟩:=ho.head hk
 obtain⟨rfl,rfl,hes⟩:=Rq h9
 intro ρ w a K' Q' hr hf hkk
 obtain⟨L,p,cap,hl,hbr,hcx,hcap,g1,g2,gp⟩:=(hx.use hf).slice_inv hr h3
 obtain⟨-,hown,Ox,lU,g5⟩:=g2 (by omega)
 have:=g5 (by omega)
 obtain rfl:cap=c:=by omega
 have hcy:a.eval y= .int kq (q:Int):=(hy.use hf).int_inv
 have hr1:Rel P ρ H w.drew:=hr.of_heap rfl
 have hcz:P.cellsOf b.ty=s:=by rw[h6]; exact ht.sz.cells
 have j5:L.sz=s:=by rw[←hbr.sz,hcz]
 obtain⟨cells,hrun,hrel⟩:=hr1.cellsOf (i:=0) (m:=i) hl h3 hcz YW (by omega)
 rw[List.drop_zero,Nat.zero_mul,Nat.add_zero]at*
 obtain⟨newCap,hnew,hnc⟩:∃nc,i+q<=nc/\grownCap w (i+q) cap E=nc:=⟨_,grownCap_ge w (i+q) cap E,rfl⟩
 have happ:=Lib.run_append_grow_zeros (P:=P) w T T2 T' E iE zv kq kn hT hTI xy h3z (some p) i cap cells.toList (by rw[lU,h1]; exact hrun) q hq (by omega) hc (by omega)
   (by rw[h2]; exact Nat.le_trans (Nat.mul_le_mul (show q<=4294967296 by omega) J8) (by decide))
   (by rw[h2]; exact growslice_fits hc (Nat.le_trans (Nat.mul_le_mul (show i+q<=4294967296 by omega) J8) (by decide)))
 rw[hnc]at happ
 have hex:(execOp a.eval ⟨d,.call ⟨.builtin .append,[x,y].toArray,[T,T2].toArray⟩,T',ps,af,gd⟩).run P w=
     .ok (.value (.slice (some ⟨w.heap.size,0,none⟩) (i+q) newCap)) (w.drew.alloc (.cells (cells++Builtin.zeroCells zv.cells q++Builtin.zeroCells zv.cells (newCap-(i+q))) E)):=by
   simp[execOp,resolve,invoke,builtin,hcx,hcy,happ]
 show Oper.upon P _ a K' Q' _
 rw[hex]
 have hcl:cells.toList.length=i*s:=by
   rw[←hrel.length,Ex (s:=s) _ (fun e he=>(hes e (List.mem_of_mem_take he)).1),List.length_take,Nat.min_eq_left hi]
 have hcsz:cells.size=i*s:=by simpa using hcl
 have hpush:=hr1.push (g:=true) (w':=w.drew.alloc (.cells (cells++Builtin.zeroCells zv.cells q++Builtin.zeroCells zv.cells (newCap-(i+q))) E)) (cs:=cells++Builtin.zeroCells zv.cells q++Builtin.zeroCells zv.cells (newCap-(i+q))) (ty:=E)
   (es:=b.elems.take i++List.replicate q zv) (sz:=s) (cap:=newCap) rfl ht.sz.cells
   (by
     intro j e he
     have htl:(b.elems.take i).length=i:=by simp; omega
     rcases Nat.lt_or_ge j i with hj|hj
     · rw[List.getElem?_append_left (by omega)]at he
       have:=bP.elems (ρ:=ρ) (b.elems.take i) cells.toList ((Builtin.zeroCells zv.cells q).toList++(Builtin.zeroCells zv.cells (newCap-(i+q))).toList) hrel (fun e he=>(hes e (List.mem_of_mem_take he)).1) j e he
       exact⟨(hes e (List.mem_of_mem_take (List.mem_of_getElem? he))).1,by simpa[List.append_assoc]using this⟩
     · rw[List.getElem?_append_right (by omega),htl]at he
       have hjq:j-i<q:=by
         rcases Nat.lt_or_ge (j-i) q with h|h
         · exact h
         · rw[List.getElem?_eq_none (by simpa using h)]at he; simp at he
       obtain rfl:zv=e:=by rw[List.getElem?_replicate,if_pos hjq]at he; simpa using he
       refine⟨hzs,?_⟩
       have hz:=afT zv.cells q s (j-i) hzs hjq
       have hjs:j*s=i*s+(j-i)*s:=by rw[←Nat.add_mul]; congr 1; omega
       have aC4:(Builtin.zeroCells zv.cells q).toList.length=q*s:=by rw[ahY,hzs]
       have hjl:(j-i)*s+s<=q*s:=by rw[←Nat.succ_mul]; exact Nat.mul_le_mul_right _ hjq
       rw[Array.toList_append,Array.toList_append,List.append_assoc,hjs,←hcl,←List.drop_drop,List.drop_append_of_le_length (Nat.le_refl _),List.drop_length,List.nil_append,List.drop_append_of_le_length (by omega),List.take_append_of_le_length (by rw[List.length_drop]; omega),aoz,hzs,hz]
       exact (dh.closed hzc).cells)
   (by
     rw[Array.size_append,Array.size_append,Pf,Pf,hcsz,hzs,←Nat.add_mul,←Nat.add_mul]
     exact Nat.mul_le_mul_right _ (by omega)) (by simp; omega)
 have w9:Step ρ H w ρ H w.drew:=⟨Up.refl ρ,rfl,rfl,rfl,Nat.le_refl _,fun _ _ _=>rfl,fun _ _ h=>.inl h,Nat.le_refl _,fun _ _ h=>⟨h,rfl⟩⟩
 have hsp:=Step.push (b:=⟨b.elems.take i++List.replicate q zv,E,true,true⟩) (sz:=s) (cap:=newCap) hr1 (w':=w.drew.alloc (.cells (cells++Builtin.zeroCells zv.cells q++Builtin.zeroCells zv.cells (newCap-(i+q))) E)) rfl rfl rfl rfl
 refine hkk _ _ _ _ _ ((hf.up hsp.up).put d (dh.slice H.length 0 _ 2 ⟨w.heap.size,0,s,newCap,true⟩ _ newCap (g_ _ _ _) hnew (by simp) (fun _=>⟨rfl,rfl,Nat.le_refl _,rfl,by omega⟩) (fun _=>⟨by simp,fun _=>Nat.le_trans (Nat.le_of_eq (Nat.zero_add _)) hnew⟩))) hpush (w9.trans hsp) ⟨H.length,rfl,?_⟩
 have hkl:=qz h3
 have lh:gP H (H++[some ⟨b.elems.take i++List.replicate q zv,E,true,true⟩]):=Q9 _ _
 have hlen:(b.elems.take i++List.replicate q zv).length=i+q:=by simp; omega
 refine⟨by simp,lh,fun j hj _=>List.getElem?_append_left hj,?_,?_,?_⟩
 · intro c0 hcm
   rcases List.mem_cons.1 hcm with rfl|hcm2
   · refine .inr ⟨H.length,2,⟨b.elems.take i++List.replicate q zv,E,true,true⟩,[],by rw[hlen],.inr rfl,by simp,rfl,rfl,rfl,by omega,rfl,XR fun e he=>?_⟩
     rcases List.mem_append.1 he with h|h
     · exact hes e (List.mem_of_mem_take h)
     · rw[(List.mem_replicate.1 h).2]; exact⟨hzs,hzl⟩
   · obtain rfl:=List.mem_singleton.1 hcm2
     exact aF.keep _ (dN.hold _ (by simp)) lh fun j hj=>List.getElem?_append_left (dN.own j (by simpa[foot,aD]using hj)).2
 · simp[foot,aD]; omega
 · intro j hj
   simp only[foot,aD,List.flatMap_cons,List.flatMap_nil,List.append_nil,List.cons_append,List.nil_append,List.mem_cons,List.not_mem_nil,or_false]at hj
   rcases hj with rfl|rfl
   · exact⟨.inr (Nat.le_refl _),by simp⟩
   · exact⟨.inl (by simp[foot,aD]),by simp; omega⟩
end
section
variable{P:Program} [b_ P]{n:Nat}{f:Fr}{d:Option Tmp}{x y:Operand}{T T2 T' E B:TypeId}{ts:List TypeId}{ps:String}{af:Array Edge}{gd:Option (Nat×Bool)}{s:Nat}{α:Type}{Ro:fO α}{F:List Nat}{u:Value}{xs:List α}{H:aB}
theorem EI [eO Ro]{k m l j:Nat}{kk:IntKind}(hT:SL P T E)(hs:SZ P E s)(hp:(aD (az E Ro) F u xs).P H)(hk:jo u=some k)(hx:EV n f x (.slice (some ⟨k,0,none⟩) l m))(hy:EV n f y (.int kk (j:Int)))(hj:j<=l):
   fe P n ⟨d,.slice T x (some y) none none,T',ps,af,none⟩ f H (.slice (some ⟨k,j,none⟩) (l-j) 0):=by
 have ho:az E Ro F H u xs:=hp
 obtain⟨-,m',b,G,-,-,h3,-,-,h6,-⟩:=ho.head hk
 exact ahi hT hs hx hy h3 h6 (by omega) (by omega)
theorem atT [eO Ro]{k l c:Nat}(hT:SL P T E)(hp:(aD (az E Ro) F u xs).P H)(hk:jo u=some k)(hx:EV n f x (.slice (some ⟨k,0,none⟩) l (c+3))):
   fe P n ⟨d,.call ⟨.builtin .cap,[x].toArray,(T::ts).toArray⟩,T',ps,af,none⟩ f H (.int .i64 (c:Int)):=by
 have ho:az E Ro F H u xs:=hp
 obtain⟨-,m',b,G,-,-,h3,-⟩:=ho.head hk
 exact avO hT hx h3
theorem agx [eO Ro]{k l c j:Nat}{kk:IntKind}(hT:SL P T E)(hs:SZ P E s)(hp:(aD (az E Ro) F u xs).P H)(hk:jo u=some k)(hx:EV n f x (.slice (some ⟨k,0,none⟩) l (c+3)))(hy:EV n f y (.int kk (j:Int)))(hj:j<=c):
   fe P n ⟨d,.slice T x none (some y) none,T',ps,af,none⟩ f H (.slice (some ⟨k,0,none⟩) j (c+3)):=by
 have ho:az E Ro F H u xs:=hp
 obtain⟨-,m',b,G,-,-,h3,-⟩:=ho.head hk
 exact aq7 hT hs hx hy h3 hj
theorem aq9{es:List Value}{j:Nat}{kk:IntKind}(hT:SL P T E)(hs:SZ P E s)(hx:EV n f x u)(hy:EV n f y (.int kk (j:Int)))(hj:j<=es.length):
   XC P n ⟨d,.slice T x (some y) none none,T',ps,af,none⟩ f [aD (az E (aj (gB s))) F u es] (fun w:Value=>w) (fun _=>[aD (az E (aj (gB s))) F u es]):=by
 intro H dN
 have ho:az E (aj (gB s)) F H u es:=dN.hold (aD (az E (aj (gB s))) F u es) (by simp)
 have ho':=ho
 rcases ho with⟨rfl,rfl,rfl⟩|⟨k,m,b,G,rfl,-⟩
 · refine WU (v:=.slice none 0 0) (fun ρ w a hr hf=>?_) ⟨.slice none 0 0,rfl,dN⟩
   have hc:a.eval x= .slice none 0 0:=by have:=hx.use hf; generalize a.eval x=c at this; cases this; rfl
   have hyv:a.eval y= .int kk (j:Int):=(hy.use hf).int_inv
   have hj0:j=0:=by simpa using hj
   subst hj0
   have hu:P.underlying T=some (.slice E):=hT
   have he:P.elem T=E:=by simp[Program.elem,hu]
   have hu2:P.underlying T=some (.slice (P.elem T)):=by rw[he]; exact hu
   refine⟨.slice none 0 0,?_,.nilSlice⟩
   have hrun:=run_slice_l (P:=P) w T none 0 0 hu2 kk 0 (by omega) (by omega)
   rw[he,hs.run,Result.andThen]at hrun
   have h2':=run_sliceAt_slice (P:=P) w T (.slice none 0 0) (some (.int kk 0)) none none hu2
   have azB:a.eval y= .int kk 0:=hyv
   simp[execOp,hc,azB,h2',hrun,sliced]
 · refine WU (v:=.slice (some ⟨k,j,none⟩) (es.length-j) 0) (EI hT hs ho' rfl hx hy hj) ⟨_,rfl,dN⟩
end
end Go.Fw
namespace Go.Fw
section
variable{es:List Value}{e z:Value}{i:Nat}
theorem asW(hi:i<=es.length):(es.take i++e::es.drop i).length=es.length+1:=by simp; omega
theorem atU(hi:i<es.length):es.take i++e::List.replicate (es.length-i) z=(es.take i++List.replicate (es.length+1-i) z).take i++([e].drop 0).take (min 1 (es.length+1-i))++(es.take i++List.replicate (es.length+1-i) z).drop (i+min 1 (es.length+1-i)):=by
 have hl:(es.take i).length=i:=by simp; omega
 have hm:min 1 (es.length+1-i)=1:=by omega
 rw[hm,List.take_append_of_le_length (by omega),List.take_of_length_le (l:=es.take i) (by omega),←List.drop_drop,List.drop_append_of_le_length (by omega),List.drop_of_length_le (l:=es.take i) (by omega),List.nil_append,List.drop_replicate,show es.length+1-i-1=es.length-i by omega]
 simp
theorem atW(hi:i<es.length):es.take i++e::es.drop i=(es.take i++e::List.replicate (es.length-i) z).take (i+1)++(es.drop i).take (min (es.length-i) (es.length+1-(i+1)))++(es.take i++e::List.replicate (es.length-i) z).drop (i+1+min (es.length-i) (es.length+1-(i+1))):=by
 have hl:(es.take i).length=i:=by simp; omega
 have hm:min (es.length-i) (es.length+1-(i+1))=es.length-i:=by omega
 rw[hm,List.take_of_length_le (l:=es.drop i) (by simp),List.drop_of_length_le (l:=es.take i++e::List.replicate (es.length-i) z) (by simp; omega),List.append_nil,List.take_append,hl,List.take_of_length_le (l:=es.take i) (by omega),show i+1-i=1 by omega]
 simp
theorem atX(hi:i<es.length):es.take (i+1)++es.drop i=es.take (i+1)++(es.drop i).take (min (es.length+1-i) (es.length+1-(i+1)))++es.drop (i+1+min (es.length+1-i) (es.length+1-(i+1))):=by
 have hm:min (es.length+1-i) (es.length+1-(i+1))=es.length-i:=by omega
 rw[hm,List.take_of_length_le (l:=es.drop i) (by simp),List.drop_of_length_le (l:=es) (i:=i+1+(es.length-i)) (by omega),List.append_nil]
theorem atY(hi:i<es.length):es.take i++e::es.drop i=(es.take (i+1)++es.drop i).take i++([e].drop 0).take (min 1 (es.length+1-i))++(es.take (i+1)++es.drop i).drop (i+min 1 (es.length+1-i)):=by
 have hl:(es.take (i+1)).length=i+1:=by simp; omega
 have hm:min 1 (es.length+1-i)=1:=by omega
 rw[hm,List.take_append_of_le_length (by omega),List.take_take,Nat.min_eq_left (by omega),List.drop_append_of_le_length (by omega),List.drop_of_length_le (l:=es.take (i+1)) (by omega),List.nil_append]
 simp
end
end Go.Fw
namespace Go.Fw
section
variable{P:Program} [b_ P]{α:Type}{Ro:fO α}{E:TypeId}{s:Nat}{H H':aB}{F:List Nat}{u:Value}{xs:List α}
theorem az.rawD [mo Ro s](h:az E Ro F H u xs):∃(es:List Value)(Fh G:List Nat),F=Fh++G/\az E (aj (gB s)) Fh H u es/\dP Ro H es xs G:=by
 rcases h with⟨rfl,rfl,rfl⟩|⟨k,m,b,G,rfl,h2,h3,h4,h5,h6,h7,rfl,h9⟩
 · exact⟨[],[],[],rfl,.inl ⟨rfl,rfl,rfl⟩,.nil⟩
 · exact⟨b.elems,[k],G,rfl,.inr ⟨k,m,b,[],by rw[h9.length],h2,h3,h4,h5,h6,by rw[h9.length]; exact h7,rfl,XR (h9.cells (s:=s))⟩,h9⟩
theorem az.unrawD{es:List Value}{G:List Nat}(h:az E (aj (gB s)) F H u es)(hne:es≠[])(hE:dP Ro H es xs G):az E Ro (F++G) H u xs:=by
 have hl:=hE.length
 rcases h with⟨rfl,rfl,rfl⟩|⟨k,m,b,G0,rfl,h2,h3,h4,h5,h6,h7,rfl,h9⟩
 · exact absurd rfl hne
 · obtain⟨rfl,rfl,-⟩:=Rq h9
   exact .inr ⟨k,m,b,G,by rw[hl],h2,h3,h4,h5,h6,by rw[←hl]; exact h7,rfl,hE⟩
theorem dP.cut{es:List Value}{G:List Nat}(h:dP Ro H es xs G):∀i,∃Ga Gb,G=Ga++Gb/\dP Ro H (es.take i) (xs.take i) Ga/\dP Ro H (es.drop i) (xs.drop i) Gb:=by
 induction h with
 |nil=>intro i; exact⟨[],[],rfl,by simpa using dP.nil,by simpa using dP.nil⟩
 | @cons e es a xs F G h t ih=>
   intro i
   cases i with
   |zero=>exact⟨[],F++G,rfl,.nil,.cons h t⟩
   |succ i=>
     obtain⟨Ga,Gb,rfl,h1,h2⟩:=ih i
     exact⟨F++Ga,Gb,by rw[List.append_assoc],.cons h h1,h2⟩
theorem arJ [eO Ro] [Local Ro] [mo Ro s]{g:FuncId}{v iv:Value}{F2:List Nat}{a:α}{i:Nat}
   (hraw:∀(es:List Value)(e:Value)(Fa Fb:List Nat),es.length=xs.length->Fw.Spec P g [v,iv,u] [aD (az E (aj (gB s))) Fa v es,aD (az E (aj (gB s))) Fb u [e]] (fun q:Sv×List Nat=>q.1.v) (fun q=>[aD (az E (aj (gB s))) q.2 q.1.v (es.take i++e::es.drop i)])):
   Fw.Spec P g [v,iv,u] [aD (az E Ro) F v xs,aD (az E Ro) F2 u [a]] (fun q:Sv×List Nat=>q.1.v) (fun q=>[aD (az E Ro) q.2 q.1.v (xs.take i++a::xs.drop i)]):=by
 intro H F0 dN ρ w jL hr hargs
 have ho:az E Ro F H v xs:=dN.hold (aD (az E Ro) F v xs) (by simp)
 have ho2:az E Ro F2 H u [a]:=dN.hold (aD (az E Ro) F2 u [a]) (by simp)
 obtain⟨es,Fh,G,rfl,h1,h2⟩:=ho.rawD
 obtain⟨es2,uV,G2,rfl,g1,g2⟩:=ho2.rawD
 have hl2:=g2.length
 obtain⟨e,rfl⟩:∃e,es2=[e]:=by
   rcases es2 with _|⟨e,_|⟨_,_⟩⟩
   · simp at hl2
   · exact⟨e,rfl⟩
   · simp at hl2
 have hfp:foot [aD (az E Ro) (Fh++G) v xs,aD (az E Ro) (uV++G2) u [a]]=(Fh++G)++(uV++G2):=by simp[foot,aD]
 have hnd:=dN.nd
 rw[hfp]at hnd
 have hown:∀q∈(Fh++G)++(uV++G2),q∈F0/\q<H.length:=fun q hq=>by
   obtain⟨h1,h2⟩:=dN.own q (by rw[hfp]; exact hq)
   exact⟨h1.resolve_right (by omega),h2⟩
 obtain⟨n1,n2,n3⟩:=List.nodup_append.1 hnd
 obtain⟨n4,n5,n6⟩:=List.nodup_append.1 n1
 obtain⟨n7,n8,n9⟩:=List.nodup_append.1 n2
 have alk:∀k∈G++G2,k∉Fh++uV:=by
   intro k hk hk2
   rcases List.mem_append.1 hk with hk|hk<;>rcases List.mem_append.1 hk2 with hk2|hk2
   · exact n6 k hk2 k hk rfl
   · exact n3 k (by simp[hk]) k (by simp[hk2]) rfl
   · exact n3 k (by simp[hk2]) k (by simp[hk]) rfl
   · exact n9 k hk2 k hk rfl
 have hin:∀k∈Fh++uV,k∈(Fh++G)++(uV++G2):=fun k hk=>by
   rcases List.mem_append.1 hk with hk|hk<;>simp[hk]
 have hin2:∀k∈G++G2,k∈(Fh++G)++(uV++G2):=fun k hk=>by
   rcases List.mem_append.1 hk with hk|hk<;>simp[hk]
 have UV:foot [aD (az E (aj (gB s))) Fh v es,aD (az E (aj (gB s))) uV u [e]]=Fh++uV:=by simp[foot,aD]
 have hc2:Ctx H (Fh++uV) H [aD (az E (aj (gB s))) Fh v es,aD (az E (aj (gB s))) uV u [e]]:=
   ⟨Nat.le_refl _,gP.refl _,fun _ _ _=>rfl,fun c hc=>by
     rcases List.mem_cons.1 hc with rfl|hc
     · exact h1
     · obtain rfl:=List.mem_singleton.1 hc
       exact g1,by rw[UV]; exact List.nodup_append.2 ⟨n4,n7,fun x hx y hy e=>n3 x (by simp[hx]) y (by simp[hy]) e⟩,fun q hq=>by
     rw[UV]at hq
     exact⟨.inl hq,(hown q (hin q hq)).2⟩⟩
 refine (hraw es e Fh uV h2.length H (Fh++uV) hc2 ρ w jL hr hargs).mono ?_
 rintro en w' ⟨v0,r,ρ',H',rfl,q1,q2,q3,q,rfl,q4⟩
 have hsame:∀k∈G++G2,H'[k]?=H[k]?:=fun k hk=>q4.agr k (hown k (hin2 k hk)).2 (alk k hk)
 have e1:=h2.local (H':=H') (fun k hk=>hsame k (by simp[hk]))
 have e2:=g2.local (H':=H') (fun k hk=>hsame k (by simp[hk]))
 obtain⟨Ga,Gb,rfl,e3,e4⟩:=e1.cut i
 have avS:az E (aj (gB s)) q.2 H' q.1.v (es.take i++e::es.drop i):=q4.hold (aD (az E (aj (gB s))) q.2 q.1.v (es.take i++e::es.drop i)) (by simp)
 have hfin:=avS.unrawD (by simp) (e3.append (e2.append e4))
 have hq:∀k∈q.2,(k∈Fh++uV\/H.length<=k)/\k<H'.length:=fun k hk=>q4.own k (by simpa[foot,aD]using hk)
 have hmem:∀k∈Ga++(G2++Gb),k∈(Ga++Gb)++G2:=fun k hk=>by
   simp only[List.mem_append]at hk ⊢
   rcases hk with hk|hk|hk<;>simp[hk]
 have azC:((Ga++Gb)++G2).Nodup:=List.nodup_append.2 ⟨n5,n8,fun x hx y hy e=>n3 x (List.mem_append_right _ hx) y (List.mem_append_right _ hy) e⟩
 have hperm:(Ga++(G2++Gb)).Perm ((Ga++Gb)++G2):=by
   rw[List.append_assoc]
   exact (List.perm_append_comm).append_left Ga
 refine⟨v0,_,ρ',H',rfl,q1,q2,q3,(q.1,q.2++(Ga++(G2++Gb))),rfl,q4.len,q4.imm,fun k hk xz=>q4.agr k hk (fun h=>xz (hown k (hin k h)).1),fun c hc=>?_,?_,fun k hk=>?_⟩
 · obtain rfl:=List.mem_singleton.1 hc
   exact hfin
 · simp only[foot,aD,List.flatMap_cons,List.flatMap_nil,List.append_nil]
   refine List.nodup_append.2 ⟨by have:=q4.nd; simpa[foot,aD]using this,hperm.nodup_iff.2 azC,fun x hx y hy e=>?_⟩
   subst e
   have hy':=hmem x hy
   rcases (hq x hx).1 with h|h
   · exact alk x hy' h
   · have:=(hown x (hin2 x hy')).2; omega
 · simp only[foot,aD,List.flatMap_cons,List.flatMap_nil,List.append_nil]at hk
   rcases List.mem_append.1 hk with hk|hk
   · exact⟨(hq k hk).1.imp (fun h=>(hown k (hin k h)).1) id,(hq k hk).2⟩
   · have:=hown k (hin2 k (hmem k hk))
     exact⟨.inl this.1,Nat.lt_of_lt_of_le this.2 q4.len⟩
end
end Go.Fw
namespace Go.Fw
section
variable{P:Program} [b_ P]{n:Nat}{f:Fr}{d:Option Tmp}{x y:Operand}{T T2 T' E:TypeId}{ts:List TypeId}{ps:String}{af:Array Edge}{gd:Option (Nat×Bool)}{s:Nat}{H:aB}
theorem ah5(hT:SL P T E)(hx:EV n f x (.slice none 0 0)):fe P n ⟨d,.call ⟨.builtin .cap,[x].toArray,(T::ts).toArray⟩,T',ps,af,none⟩ f H (.int .i64 0):=by
 intro ρ w a hr hf
 have hc:a.eval x= .slice none 0 0:=by have:=hx.use hf; generalize a.eval x=c at this; cases this; rfl
 have hu:P.underlying T=some (.slice E):=hT
 exact⟨.int .i64 0,by simp[execOp,resolve,invoke,builtin,Builtin.cap_,hc,goInt,underlying,hu],.int _ _⟩
theorem apC{kk:IntKind}(hT:SL P T E)(hs:SZ P E s)(hx:EV n f x (.slice none 0 0))(hy:EV n f y (.int kk 0)):fe P n ⟨d,.slice T x none (some y) none,T',ps,af,none⟩ f H (.slice none 0 0):=by
 intro ρ w a hr hf
 have hc:a.eval x= .slice none 0 0:=by have:=hx.use hf; generalize a.eval x=c at this; cases this; rfl
 have hyv:a.eval y= .int kk 0:=(hy.use hf).int_inv
 have hu:P.underlying T=some (.slice E):=hT
 have he:P.elem T=E:=by simp[Program.elem,hu]
 have hu2:P.underlying T=some (.slice (P.elem T)):=by rw[he]; exact hu
 refine⟨.slice none 0 0,?_,.nilSlice⟩
 have hrun:=run_slice_h (P:=P) w T none 0 0 hu2 kk 0 (by omega) (by omega)
 rw[he,hs.run,Result.andThen]at hrun
 have h2':=run_sliceAt_slice (P:=P) w T (.slice none 0 0) none (some (.int kk 0)) none hu2
 simp[execOp,hc,hyv,h2',hrun,sliced]
theorem arK{α:Type}{Ro:fO α} [eO Ro]{zv:Value}{q by':Nat}{kq kn:IntKind}(hT:SL P T E)(hTI:P.underlying T2=some (.int kn))(ht:TY P E s by' zv)(hs0:Nat.blt 0 s=true)(hzs:zv.cells.size=s)(hby:Nat.ble by' 16384=true)
   (hx:EV n f x (.slice none 0 0)) (hy:EV n f y (.int kq (q:Int))) (hq:0<q) (hb:q<4294967296):
   XC P n ⟨d,.call ⟨.builtin .append,[x,y].toArray,[T,T2].toArray⟩,T',ps,af,gd⟩ f [] (fun k':Nat=>.slice (some ⟨k',0,none⟩) q 2) (fun k'=>[aD (az E Ro) [k'] (.slice (some ⟨k',0,none⟩) 0 2) []]):=by
 intro H dN
 have YW:0<s:=by simpa[Nat.blt_eq]using hs0
 have J8:by'<=16384:=by simpa[Nat.ble_eq]using hby
 obtain⟨iE,xy,h1,h2,h3z⟩:=ht.inv
 intro ρ w a K' Q' hr hf hkk
 have hcx:a.eval x= .slice none 0 0:=by have:=hx.use hf; generalize a.eval x=c at this; cases this; rfl
 have hcy:a.eval y= .int kq (q:Int):=(hy.use hf).int_inv
 have hr1:Rel P ρ H w.drew:=hr.of_heap rfl
 obtain⟨newCap,hnew,hnc⟩:∃nc,0+q<=nc/\grownCap w (0+q) 0 E=nc:=⟨_,grownCap_ge w (0+q) 0 E,rfl⟩
 have happ:=Lib.run_append_grow_zeros (P:=P) w T T2 T' E iE zv kq kn hT hTI xy h3z none 0 0 [] (by simp[Builtin.firstCells]) q hq (by omega) (by omega) (by omega)
   (by rw[h2]; exact Nat.le_trans (Nat.mul_le_mul (show q<=4294967296 by omega) J8) (by decide))
   (by rw[h2]; exact growslice_fits (by omega) (Nat.le_trans (Nat.mul_le_mul (show 0+q<=4294967296 by omega) J8) (by decide)))
 rw[hnc]at happ
 simp only[Nat.zero_add]at happ hnew
 have hex:(execOp a.eval ⟨d,.call ⟨.builtin .append,[x,y].toArray,[T,T2].toArray⟩,T',ps,af,gd⟩).run P w=
     .ok (.value (.slice (some ⟨w.heap.size,0,none⟩) q newCap)) (w.drew.alloc (.cells (#[]++Builtin.zeroCells zv.cells q++Builtin.zeroCells zv.cells (newCap-q)) E)):=by
   simp[execOp,resolve,invoke,builtin,hcx,hcy,happ]
 show Oper.upon P _ a K' Q' _
 rw[hex]
 have hpush:=hr1.push (g:=true) (w':=w.drew.alloc (.cells (#[]++Builtin.zeroCells zv.cells q++Builtin.zeroCells zv.cells (newCap-q)) E)) (cs:=#[]++Builtin.zeroCells zv.cells q++Builtin.zeroCells zv.cells (newCap-q)) (ty:=E)
   (es:=[]) (sz:=s) (cap:=newCap) rfl ht.sz.cells (by simp)
   (by
     rw[Array.size_append,Array.size_append,Pf,Pf,hzs,Array.size_empty,Nat.zero_add,←Nat.add_mul]
     exact Nat.mul_le_mul_right _ (by omega)) (by simp)
 have w9:Step ρ H w ρ H w.drew:=⟨Up.refl ρ,rfl,rfl,rfl,Nat.le_refl _,fun _ _ _=>rfl,fun _ _ h=>.inl h,Nat.le_refl _,fun _ _ h=>⟨h,rfl⟩⟩
 have hsp:=Step.push (b:=⟨[],E,true,true⟩) (sz:=s) (cap:=newCap) hr1 (w':=w.drew.alloc (.cells (#[]++Builtin.zeroCells zv.cells q++Builtin.zeroCells zv.cells (newCap-q)) E)) rfl rfl rfl rfl
 refine hkk _ _ _ _ _ ((hf.up hsp.up).put d (dh.slice H.length 0 _ 2 ⟨w.heap.size,0,s,newCap,true⟩ _ newCap (g_ _ _ _) hnew (by simp) (fun _=>⟨rfl,rfl,Nat.le_refl _,rfl,by omega⟩) (fun _=>⟨by simp,fun _=>Nat.le_trans (Nat.le_of_eq (Nat.zero_add _)) hnew⟩))) hpush (w9.trans hsp) ⟨H.length,rfl,?_⟩
 refine⟨by simp,Q9 _ _,fun j hj _=>List.getElem?_append_left hj,fun c hc=>?_,by simp[foot,aD],fun j hj=>?_⟩
 · obtain rfl:=List.mem_singleton.1 hc
   exact .inr ⟨H.length,2,⟨[],E,true,true⟩,[],rfl,.inr rfl,by simp,rfl,rfl,rfl,by simp,rfl,.nil⟩
 · have:j=H.length:=by simpa[foot,aD]using hj
   subst this
   exact⟨.inr (Nat.le_refl _),by simp⟩
end
end Go.Fw
namespace Go.Fw
section
variable{P:Program} [b_ P]{n:Nat}{f:Fr}{H0:aB}{F0:List Nat}{cs:List aF}{A:Array Oper}{r:List Oper}{K:Fr->List aF->Prop}{d:Option Tmp}{x y:Operand}{T T' E:TypeId}{ps:String}{af:Array Edge}{α:Type}{Ro:fO α}{xs:List α}
theorem aq_ [eO Ro]{F:List Nat}{k l m s:Nat}{kk:IntKind}{i:Int}{u:Value}(hT:SL P T E)(hs:SZ P E s)(hx:EV n f x (.slice (some ⟨k,0,none⟩) l m))(hmm:m=1\/m=2)(hy:EV n f y (.int kk i))(hm:Mem (aD (az E Ro) F u xs) cs)(hk:jo u=some k)(h0:0<=i)(hi:i<=(l:Int))(hl:l≠0)
   (h:bI P n H0 F0 A r (put f d (.slice (some ⟨k,0,none⟩) i.toNat 2)) cs K):bI P n H0 F0 A (⟨d,.slice T x none (some y) none,T',ps,af,none⟩::r) f cs K:=
 fQ hm (fun{H} ho=>by
   have ho:az E Ro F H u xs:=ho
   obtain⟨-,m',b,G,rfl,-,h3,-,h5,-⟩:=ho.head hk
   exact ahj hT hs hx hmm hy h3 h5 h0 hi hl) h
end
end Go.Fw
/-
 Drawn regions: a part of an element of an own list is stored to: the list is laid open ahead, and shut behind. No conditions.
-/
set_option linter.unusedVariables false
namespace Go.Fw
open Go Go.RowKit
section
variable{α ι:Type}{Ro:fO α}{H:aB}{E:TypeId}{s:Nat}
theorem ara [eO Ro]{F' G1 F G2:List Nat}{j:Nat}{v e:Value}{es:List Value}{a:α}{xs:List α}{p1:aF}(hm:Mk Ro F e a [p1])(hj:es[j]?=some e)(hl:es.length=xs.length):
   Conv [aD (az E (aj (kP s))) F' v es,oZ Ro G1 (es.take j) (xs.take j),p1,oZ Ro G2 (es.drop (j+1)) (xs.drop (j+1))] [aD (az E Ro) (F'++(G1++(F++G2))) v (xs.set j a)]:=⟨fun H h c hc=>by
 obtain rfl:=List.mem_singleton.1 hc
 have h0:az E (aj (kP s)) F' H v es:=h (aD (az E (aj (kP s))) F' v es) (by simp)
 have h1:dP Ro H (es.take j) (xs.take j) G1:=h (oZ Ro G1 (es.take j) (xs.take j)) (by simp)
 have h2:Ro F H e a:=hm.hold H fun c hc=>h c (by simp only[List.mem_singleton]at hc; simp[hc])
 have h3:dP Ro H (es.drop (j+1)) (xs.drop (j+1)) G2:=h (oZ Ro G2 (es.drop (j+1)) (xs.drop (j+1))) (by simp)
 obtain⟨hlt,hje⟩:=List.getElem?_eq_some_iff.1 hj
 refine ar' h0 ?_
 have he:es=es.take j++e::es.drop (j+1):=by
   rw[←hje,List.getElem_cons_drop,List.take_append_drop]
 rw[List.set_eq_take_append_cons_drop,if_pos (by omega)]
 rw[show dP Ro H es (xs.take j++a::xs.drop (j+1))=dP Ro H (es.take j++e::es.drop (j+1)) (xs.take j++a::xs.drop (j+1))from by rw[←he]]
 exact h1.append (.cons h2 h3),by simp[foot,aD,oZ,hm.foot]⟩
theorem aqb [eO Ro]{F' G1 F G2:List Nat}{j:Nat}{v e:Value}{es:List Value}{a:α}{xs:List α}{p1:aF}(hm:Mk Ro F e a [p1])(hj:es[j]?=some e)(hl:es.length=xs.length)(hx:xs[j]?=some a):
   Conv [aD (az E (aj (kP s))) F' v es,oZ Ro G1 (es.take j) (xs.take j),p1,oZ Ro G2 (es.drop (j+1)) (xs.drop (j+1))] [aD (az E Ro) (F'++(G1++(F++G2))) v xs]:=by
 have h:=ara (s:=s) (E:=E) (F':=F') (G1:=G1) (G2:=G2) (v:=v) hm hj hl
 obtain⟨h1,e1⟩:=List.getElem?_eq_some_iff.1 hx
 subst e1
 rwa [List.set_getElem_self]at h
end
section
variable{P:Program} [b_ P]{n:Nat}{H0:aB}{F0:List Nat}{f:Fr}{cs rest:List aF}{l:List Oper}{tb bf todo:List Nat}{fl:List (Nat×List Nat)}{K:Fr->List aF->Prop}{α ι:Type}{Ro:fO α}{E:TypeId}{s:Nat}
theorem ase{A:Array Oper}{lo:List Oper} [eO Ro] [mo Ro s]{F:List Nat}{j:Nat}{v:Value}{a:α}{xs:List α}{val:ι->Value}{p1:ι->aF}(hu:Un Ro a val (fun i=>[p1 i]))(hj:xs[j]?=some a)(hs:Sel cs (aD (az E Ro) F v xs) rest)
   (h:∀(i:ι)(es:List Value)(F' G1 G2:List Nat),es[j]?=some (val i)->es.length=xs.length->
     bI P n H0 F0 A lo f (aD (az E (aj (kP s))) F' v es::oZ Ro G1 (es.take j) (xs.take j)::p1 i::oZ Ro G2 (es.drop (j+1)) (xs.drop (j+1))::rest) K):bI P n H0 F0 A lo f cs K:=fun H hc=>by
 have h0:=(hc.take (.cons hs .nil)).view.hold (aD (az E Ro) F v xs) (by simp)
 obtain⟨es,F',G,h1,h2,h3,h4⟩:=ah2 (Ro:=Ro) (s:=s) h0
 obtain⟨e,G1,F1,G2,g1,g2,g3,g4,g5⟩:=aa7 h4 hj
 obtain⟨i,rfl,i2,i3⟩:=hu.un _ _ _ g4
 refine h i es F' G1 G2 g1 h1 H (hc.exch (post:=[aD (az E (aj (kP s))) F' v es,oZ Ro G1 (es.take j) (xs.take j),p1 i,oZ Ro G2 (es.drop (j+1)) (xs.drop (j+1))]) (.cons hs .nil) (fun _ c hc=>?_) ?_)
 · simp only[List.mem_cons,List.not_mem_nil,or_false]at hc
   rcases hc with rfl|rfl|rfl|rfl
   · exact h3
   · exact g3
   · exact i2 _ (by simp)
   · exact g5
 · have:(p1 i).F=F1:=by simpa[foot]using i3
   rw[show foot [aD (az E Ro) F v xs]=F from by simp[foot,aD],h2,g2,←this]
   simp[foot,aD,oZ]
theorem asX{β:Type}{es:List β}{xs:List α}{q:Int}(hl:es.length=xs.length)(h:(decide (0<=q)&&decide (q<(xs.length:Int)))=true):(decide (0<=q)&&decide (q<(es.length:Int)))=true:=by rw[hl]; exact h
end
section
variable{P:Program} [b_ P]{n:Nat}{f:Fr}{H0:aB}{F0:List Nat}{cs:List aF}{d:Option Tmp}{T T' E TB:TypeId}{ps:String}{af:Array Edge}{gd:Option (Nat×Bool)}{x y:Operand}{α:Type}{Ro:fO α}
end
end Go.Fw
/-
 A whole element of a list laid open.  No conditions.
-/
set_option linter.unusedVariables false
namespace Go.Fw
open Go
variable{P:Program} [b_ P]{n:Nat}{f:Fr}{H0:aB}{F0:List Nat}{cs:List aF}{A:Array Oper}{r:List Oper}{K:Fr->List aF->Prop}{d:Option Tmp}{x:Operand}{T T' E:TypeId}{ps:String}{af:Array Edge}
theorem atZ{F:List Nat}{k j s q:Nat}{v:Value}{es lv:List Value}(hA:AG P T true)(hs:SZ P T s)(h0:Nat.blt 0 s=true)(hx:EV n f x (.pointer (some ⟨k,j,some 0⟩)))(hm:Mem (aD (az E (aj (kP q))) F v es) cs)(hk:jo v=some k)(hj:es[j]?=some (.agg lv.toArray))
   (hl:lv.length=s) (h:bI P n H0 F0 A r (put f d (.agg lv.toArray)) cs K):bI P n H0 F0 A (⟨d,.load T x,T',ps,af,none⟩::r) f cs K:=
 asQ (R:=kP q) (fun _:Unit=>lv) hA hs h0 hx hm hk hj (fun H e h=>⟨(),by rw[h.1]; show 0+s<=lv.toArray.size; simp[hl],by rw[h.1]; show List.take s (List.drop 0 lv.toArray.toList)=lv; simp[←hl],fun c hc=>by simp at hc⟩) (fun _=>h)
end Go.Fw
/-
 Rules that look up by themselves what they need: names of temporaries, facts of the context, facts of the program's tables. No conditions.
-/
set_option linter.unusedVariables false
namespace Go.Fw
open Go
class ic(P:Program) [b_ P](t i:Nat)(off:outParam Nat):Prop where h:FD P t i off
class iB(P:Program) [b_ P](t:Nat)(b:outParam Bool):Prop where h:AG P t b
class ig(P:Program) [b_ P](t:Nat)(s b:outParam Nat)(z:outParam Value):Prop where h:TY P t s b z
class nO(P:Program) [b_ P](t:Nat)(e:outParam Nat):Prop where h:SL P t e
class aT(P:Program) [b_ P](g:Nat):Prop where h:CF P g
section
variable{P:Program} [b_ P]{n:Nat}{f:Fr}{H0:aB}{F0:List Nat}{cs pre rest:List aF}{c c':aF}{x y z:Operand}{v:Value}
theorem l_(h:Mem c cs:=by
   first
   |((repeat (first|with_reducible exact Mem.h|with_reducible apply Mem.t)); done)
   |((repeat (first|exact Mem.h|apply Mem.t)); done)):Mem c cs:=h
theorem aj5{r:List aF}(h:Sel cs c r:=by
   first
   |((repeat (first|with_reducible exact Sel.h|with_reducible apply Sel.t)); done)
   |((repeat (first|exact Sel.h|apply Sel.t)); done)):Sel cs c r:=h
theorem avT{α:Type}{R:aB->Value->α->Prop}{_:dC R}{a:α}(h:Mem (aR R v a) cs)(t:gm cs pre rest):gm cs (aR R v a::pre) rest:=.rd h rfl t
theorem avU{k:Nat}{b:fE}(h:Mem (uy k b) cs)(t:gm cs pre rest):gm cs (uy k b::pre) rest:=.rd h rfl t
theorem uO(h:gm cs pre rest:=by
   first
   |exact gm.nil
   |((with_reducible refine' avT ?hm ?ht); (case hm=>exact l_); (case ht=>exact uO))
   |((with_reducible refine' avU ?hm ?ht); (case hm=>exact l_); (case ht=>exact uO))
   |exact gm.cons aj5 uO
   |exact gm.rd l_ rfl uO):gm cs pre rest:=h
theorem eY(h:EV n f x v:=by
   first|exact EV.tmp rfl rfl|exact EV.int _ _|exact EV.bool _|exact EV.str _|exact EV.nilSlice|exact EV.nilPtr|exact EV.nilFunc|exact EV.nilIface|exact EV.fn _):EV n f x v:=h
theorem rW(h:EV n f x v:=by
   first
   |exact EV.tmp (v:=.int _ _) rfl rfl|exact EV.tmp (v:=.bool _) rfl rfl|exact EV.tmp (v:=Sv.v _) rfl rfl|exact EV.tmp (v:=.slice _ _ _) rfl rfl
   |exact EV.tmp (v:=.pointer _) rfl rfl|exact EV.tmp (v:=.agg _) rfl rfl|exact EV.tmp (v:=sv _) rfl rfl|exact EV.tmp (v:=.string _) rfl rfl
   |exact EV.tmp (v:=.func _ _ _) rfl rfl|exact EV.tmp (v:=.tuple _) rfl rfl|exact EV.tmp (v:=undef) rfl rfl
   |exact EV.int _ _|exact EV.bool _|exact EV.str _|exact EV.nilSlice|exact EV.nilPtr|exact EV.nilFunc|exact EV.nilIface|exact EV.fn _):EV n f x v:=h
theorem atV{o:Option Value}(h:o=some v:=by
   first
   |exact (rfl:_=some (Value.int _ _))|exact (rfl:_=some (Sv.v _))|exact (rfl:_=some (Value.bool _))|exact (rfl:_=some (Value.slice _ _ _))
   |exact (rfl:_=some (sv _))|exact (rfl:_=some (Value.string _))|exact (rfl:_=some (Value.pointer _))|exact (rfl:_=some (Value.func _ _ _))):o=some v:=h
theorem bN{xs:List Operand}{vs:List Value}(h:jO n f xs vs:=by first|exact jO.nil|exact jO.cons eY bN):jO n f xs vs:=h
theorem ay{l:List (Nat×Value)}(h:aG f l:=by
   repeat (first|exact aG.nil|refine' aG.cons rfl ?_)):f=aN f l:=h.eq
variable{A:Array Oper}{r:List Oper}{K:Fr->List aF->Prop}{d:Option Tmp}{op:Op}{T T' T'' E:TypeId}{ps:String}{af:Array Edge}
theorem azD(hx:EV n f x v)(h:bI P n H0 F0 A r (put f d v) cs K):bI P n H0 F0 A (⟨d,.move x,T,ps,af,none⟩::r) f cs K:=aO (eH hx) h
theorem azE(hx:EV n f x v)(h:bI P n H0 F0 A r (put f d v) cs K):bI P n H0 F0 A (⟨d,.assign x,T,ps,af,none⟩::r) f cs K:=aO (iZ hx) h
theorem aiG{H:aB}{u:Value}(hc:EV n f x (.bool true))(hy:EV n f y u):fe P n ⟨d,.pick x y z,T,ps,af,none⟩ f H u:=
 fun ρ _ a _ hf=>⟨a.eval y,by simp[execOp,(hc.use hf).bool_inv,asBool],hy.use hf⟩
theorem aiH{H:aB}{u:Value}(hc:EV n f x (.bool false))(hy:EV n f z u):fe P n ⟨d,.pick x y z,T,ps,af,none⟩ f H u:=
 fun ρ _ a _ hf=>⟨a.eval z,by simp[execOp,(hc.use hf).bool_inv,asBool],hy.use hf⟩
theorem avV(hc:EV n f x (.bool true))(hy:EV n f y v)(h:bI P n H0 F0 A r (put f d v) cs K):bI P n H0 F0 A (⟨d,.pick x y z,T,ps,af,none⟩::r) f cs K:=aO (aiG hc hy) h
theorem avW(hc:EV n f x (.bool false))(hy:EV n f z v)(h:bI P n H0 F0 A r (put f d v) cs K):bI P n H0 F0 A (⟨d,.pick x y z,T,ps,af,none⟩::r) f cs K:=aO (aiH hc hy) h
theorem azF{k i j fi off:Nat} [hF:ic P T fi off](hx:EV n f x (.pointer (some ⟨k,i,some j⟩)))(h:bI P n H0 F0 A r (put f d (.pointer (some ⟨k,i,some (j+off)⟩))) cs K):
   bI P n H0 F0 A (⟨d,.fieldAddr T x fi,T',ps,af,none⟩::r) f cs K:=aO (gU hF.h hx) h
theorem avX{k j:Nat}{TB:TypeId}{e:Value} [hA:iB P T false](hx:EV n f x (.pointer (some ⟨k,0,some j⟩)))(hm:Mem (uy k ⟨[e],TB,true,false⟩) cs)(hv:e.cells.toList[j]?=some v)
   (h:bI P n H0 F0 A r (put f d v) cs K):bI P n H0 F0 A (⟨d,.load T x,T',ps,af,none⟩::r) f cs K:=fQ hm (fun hp=>fI hA.h hx hp.2 rfl hv) h
theorem avY{k j:Nat}{TB:TypeId}{e:Value} [hA:iB P T false](hx:EV n f x (.pointer (some ⟨k,0,some j⟩)))(hm:Mem (jW k ⟨[e],TB,true,true⟩) cs)(hv:e.cells.toList[j]?=some v)
   (h:bI P n H0 F0 A r (put f d v) cs K):bI P n H0 F0 A (⟨d,.load T x,T',ps,af,none⟩::r) f cs K:=fQ hm (fun hp=>fI hA.h hx hp.2 rfl hv) h
theorem avZ{k s b:Nat}{zv:Value}{TB:TypeId}{l:List Value} [hA:iB P T true] [ht:ig P T s b zv](hx:EV n f x (.pointer (some ⟨k,0,some 0⟩)))(hm:Mem (uy k ⟨[.agg l.toArray],TB,true,false⟩) cs)(h0:Nat.blt 0 s=true)(hl:l.length=s)
   (h:bI P n H0 F0 A r (put f d (.agg l.toArray)) cs K):bI P n H0 F0 A (⟨d,.load T x,T',ps,af,none⟩::r) f cs K:=fQ hm (fun hp=>jw hA.h ht.h.sz h0 hx hp.2 hl) h
theorem av5{k s b:Nat}{zv:Value}{TB:TypeId}{l:List Value} [hA:iB P T true] [ht:ig P T s b zv](hx:EV n f x (.pointer (some ⟨k,0,some 0⟩)))(hm:Mem (jW k ⟨[.agg l.toArray],TB,true,true⟩) cs)(h0:Nat.blt 0 s=true)(hl:l.length=s)
   (h:bI P n H0 F0 A r (put f d (.agg l.toArray)) cs K):bI P n H0 F0 A (⟨d,.load T x,T',ps,af,none⟩::r) f cs K:=fQ hm (fun hp=>jw hA.h ht.h.sz h0 hx hp.2 hl) h
theorem av6{α:Type}{R:aB->Value->α->Prop}{_:dC R}{xs:List α}{ts:List TypeId} [hT:nO P T E](hx:EV n f x v)(hm:Mem (aR (aI E R) v xs) cs)
   (h:bI P n H0 F0 A r (put f d (.int .i64 xs.length)) cs K):bI P n H0 F0 A (⟨d,.call ⟨.builtin .len,[x].toArray,(T::ts).toArray⟩,T',ps,af,none⟩::r) f cs K:=fQ hm (fun hp=>jU hT.h hx (um hp)) h
theorem at0{α:Type}{Ro:fO α}{_:eO Ro}{F:List Nat}{xs:List α}{ts:List TypeId} [hT:nO P T E](hx:EV n f x v)(hm:Mem (aD (az E Ro) F v xs) cs)
   (h:bI P n H0 F0 A r (put f d (.int .i64 xs.length)) cs K):bI P n H0 F0 A (⟨d,.call ⟨.builtin .len,[x].toArray,(T::ts).toArray⟩,T',ps,af,none⟩::r) f cs K:=fQ hm (fun hp=>jU hT.h hx (uh hp)) h
theorem azG{j:Nat}{t:Tmp}{b:Bool}(hd:(A[j]?).bind (·.dst)=some t)(hv:f t= .bool b)(ht:Nat.blt t n=true)(h:bI P n H0 F0 A (⟨d,op,T,ps,af,none⟩::r) f cs K):
   bI P n H0 F0 A (⟨d,op,T,ps,af,some (j,b)⟩::r) f cs K:=vQ hd hv ht h
theorem azH{j:Nat}{t:Tmp}{b:Bool}(hd:(A[j]?).bind (·.dst)=some t)(hv:f t= .bool (!b))(ht:Nat.blt t n=true)(h:bI P n H0 F0 A r (put f d undef) cs K):
   bI P n H0 F0 A (⟨d,op,T,ps,af,some (j,b)⟩::r) f cs K:=acr hd hv ht h
theorem azI{j:Nat}{t:Tmp}{b:Bool}(hd:(A[j]?).bind (·.dst)=some t)(hv:f t=undef)(ht:Nat.blt t n=true)(h:bI P n H0 F0 A r (put f d undef) cs K):
   bI P n H0 F0 A (⟨d,op,T,ps,af,some (j,b)⟩::r) f cs K:=atE hd hv ht h
theorem av7{kk:IntKind}{q q2:Int}(hx:EV n f x (.int kk q))(hy:EV n f y (.int kk q2))(h:bI P n H0 F0 A r (put f d (.int kk (kk.wrap (q+q2)))) cs K):bI P n H0 F0 A (⟨d,.binOp .add T x y T',T'',ps,af,none⟩::r) f cs K:=aO (mq hx hy) h
theorem av8{kk:IntKind}{q q2:Int}(hx:EV n f x (.int kk q))(hy:EV n f y (.int kk q2))(h:bI P n H0 F0 A r (put f d (.int kk (kk.wrap (q-q2)))) cs K):bI P n H0 F0 A (⟨d,.binOp .sub T x y T',T'',ps,af,none⟩::r) f cs K:=aO (acp hx hy) h
theorem av9{kk:IntKind}{q q2:Int}(hx:EV n f x (.int kk q))(hy:EV n f y (.int kk q2))(h:bI P n H0 F0 A r (put f d (.int kk (kk.wrap (q*q2)))) cs K):bI P n H0 F0 A (⟨d,.binOp .mul T x y T',T'',ps,af,none⟩::r) f cs K:=aO (ajO hx hy) h
theorem av_{kk:IntKind}{q q2:Int}(hx:EV n f x (.int kk q))(hy:EV n f y (.int kk q2))(h:bI P n H0 F0 A r (put f d (.bool (decide (q<q2)))) cs K):bI P n H0 F0 A (⟨d,.binOp .lss T x y T',T'',ps,af,none⟩::r) f cs K:=aO (mr hx hy) h
theorem av'{kk:IntKind}{q q2:Int}(hx:EV n f x (.int kk q))(hy:EV n f y (.int kk q2))(h:bI P n H0 F0 A r (put f d (.bool (decide (q<=q2)))) cs K):bI P n H0 F0 A (⟨d,.binOp .leq T x y T',T'',ps,af,none⟩::r) f cs K:=aO (ajP hx hy) h
theorem awc{kk:IntKind}{q q2:Int}(hx:EV n f x (.int kk q))(hy:EV n f y (.int kk q2))(h:bI P n H0 F0 A r (put f d (.bool (decide (q2<q)))) cs K):bI P n H0 F0 A (⟨d,.binOp .gtr T x y T',T'',ps,af,none⟩::r) f cs K:=aO (RB hx hy) h
theorem awd{kk:IntKind}{q q2:Int}(hx:EV n f x (.int kk q))(hy:EV n f y (.int kk q2))(h:bI P n H0 F0 A r (put f d (.bool (decide (q2<=q)))) cs K):bI P n H0 F0 A (⟨d,.binOp .geq T x y T',T'',ps,af,none⟩::r) f cs K:=aO (ajQ hx hy) h
theorem awe{kk:IntKind}{q q2:Int}(hx:EV n f x (.int kk q))(hy:EV n f y (.int kk q2))(h:bI P n H0 F0 A r (put f d (.bool (q==q2))) cs K):bI P n H0 F0 A (⟨d,.binOp .eql T x y T',T'',ps,af,none⟩::r) f cs K:=aO (Jw hx hy) h
theorem awf{kk:IntKind}{q q2:Int}(hx:EV n f x (.int kk q))(hy:EV n f y (.int kk q2))(h:bI P n H0 F0 A r (put f d (.bool (q !=q2))) cs K):bI P n H0 F0 A (⟨d,.binOp .neq T x y T',T'',ps,af,none⟩::r) f cs K:=aO (ajR hx hy) h
theorem awg{b:Bool}(hx:EV n f x (.bool b))(h:bI P n H0 F0 A r (put f d (.bool (!b))) cs K):bI P n H0 F0 A (⟨d,.unOp .not T x,T',ps,af,none⟩::r) f cs K:=aO (RD hx) h
variable{l:List Oper}{tb bf todo:List Nat}{fl:List (Nat×List Nat)}{i:Nat}{gd:Option (Nat×Bool)}
theorem lV(h:Wt n l f gd:=by first|exact Wt.no|exact Wt.on _ rfl rfl rfl):Wt n l f gd:=h
theorem awh{kk:IntKind}{q q2:Int}(ho:l[i]?=some ⟨d,.binOp .add T x y T',T'',ps,af,gd⟩)(hw:Wt n l f gd)(hx:EV n f x (.int kk q))(hn:gT x (fK l ⟨d,.binOp .add T x y T',T'',ps,af,gd⟩)=true)(hy:EV n f y (.int kk q2))(hm:gT y (fK l ⟨d,.binOp .add T x y T',T'',ps,af,gd⟩)=true)
   (h:DC P n l tb bf H0 F0 K todo fl (put f d (.int kk (kk.wrap (q+q2)))) cs):DC P n l tb bf H0 F0 K (i::todo) fl f cs:=bQ ho hw (fun ha=>mq (EN ha hx hn) (EN ha hy hm)) h
theorem awi{kk:IntKind}{q q2:Int}(ho:l[i]?=some ⟨d,.binOp .sub T x y T',T'',ps,af,gd⟩)(hw:Wt n l f gd)(hx:EV n f x (.int kk q))(hn:gT x (fK l ⟨d,.binOp .sub T x y T',T'',ps,af,gd⟩)=true)(hy:EV n f y (.int kk q2))(hm:gT y (fK l ⟨d,.binOp .sub T x y T',T'',ps,af,gd⟩)=true)
   (h:DC P n l tb bf H0 F0 K todo fl (put f d (.int kk (kk.wrap (q-q2)))) cs):DC P n l tb bf H0 F0 K (i::todo) fl f cs:=bQ ho hw (fun ha=>acp (EN ha hx hn) (EN ha hy hm)) h
theorem awj{kk:IntKind}{q q2:Int}(ho:l[i]?=some ⟨d,.binOp .mul T x y T',T'',ps,af,gd⟩)(hw:Wt n l f gd)(hx:EV n f x (.int kk q))(hn:gT x (fK l ⟨d,.binOp .mul T x y T',T'',ps,af,gd⟩)=true)(hy:EV n f y (.int kk q2))(hm:gT y (fK l ⟨d,.binOp .mul T x y T',T'',ps,af,gd⟩)=true)
   (h:DC P n l tb bf H0 F0 K todo fl (put f d (.int kk (kk.wrap (q*q2)))) cs):DC P n l tb bf H0 F0 K (i::todo) fl f cs:=bQ ho hw (fun ha=>ajO (EN ha hx hn) (EN ha hy hm)) h
theorem awk{kk:IntKind}{q q2:Int}(ho:l[i]?=some ⟨d,.binOp .lss T x y T',T'',ps,af,gd⟩)(hw:Wt n l f gd)(hx:EV n f x (.int kk q))(hn:gT x (fK l ⟨d,.binOp .lss T x y T',T'',ps,af,gd⟩)=true)(hy:EV n f y (.int kk q2))(hm:gT y (fK l ⟨d,.binOp .lss T x y T',T'',ps,af,gd⟩)=true)
   (h:DC P n l tb bf H0 F0 K todo fl (put f d (.bool (decide (q<q2)))) cs):DC P n l tb bf H0 F0 K (i::todo) fl f cs:=bQ ho hw (fun ha=>mr (EN ha hx hn) (EN ha hy hm)) h
theorem awl{kk:IntKind}{q q2:Int}(ho:l[i]?=some ⟨d,.binOp .leq T x y T',T'',ps,af,gd⟩)(hw:Wt n l f gd)(hx:EV n f x (.int kk q))(hn:gT x (fK l ⟨d,.binOp .leq T x y T',T'',ps,af,gd⟩)=true)(hy:EV n f y (.int kk q2))(hm:gT y (fK l ⟨d,.binOp .leq T x y T',T'',ps,af,gd⟩)=true)
   (h:DC P n l tb bf H0 F0 K todo fl (put f d (.bool (decide (q<=q2)))) cs):DC P n l tb bf H0 F0 K (i::todo) fl f cs:=bQ ho hw (fun ha=>ajP (EN ha hx hn) (EN ha hy hm)) h
theorem awm{kk:IntKind}{q q2:Int}(ho:l[i]?=some ⟨d,.binOp .gtr T x y T',T'',ps,af,gd⟩)(hw:Wt n l f gd)(hx:EV n f x (.int kk q))(hn:gT x (fK l ⟨d,.binOp .gtr T x y T',T'',ps,af,gd⟩)=true)(hy:EV n f y (.int kk q2))(hm:gT y (fK l ⟨d,.binOp .gtr T x y T',T'',ps,af,gd⟩)=true)
   (h:DC P n l tb bf H0 F0 K todo fl (put f d (.bool (decide (q2<q)))) cs):DC P n l tb bf H0 F0 K (i::todo) fl f cs:=bQ ho hw (fun ha=>RB (EN ha hx hn) (EN ha hy hm)) h
theorem awn{kk:IntKind}{q q2:Int}(ho:l[i]?=some ⟨d,.binOp .geq T x y T',T'',ps,af,gd⟩)(hw:Wt n l f gd)(hx:EV n f x (.int kk q))(hn:gT x (fK l ⟨d,.binOp .geq T x y T',T'',ps,af,gd⟩)=true)(hy:EV n f y (.int kk q2))(hm:gT y (fK l ⟨d,.binOp .geq T x y T',T'',ps,af,gd⟩)=true)
   (h:DC P n l tb bf H0 F0 K todo fl (put f d (.bool (decide (q2<=q)))) cs):DC P n l tb bf H0 F0 K (i::todo) fl f cs:=bQ ho hw (fun ha=>ajQ (EN ha hx hn) (EN ha hy hm)) h
theorem awo{kk:IntKind}{q q2:Int}(ho:l[i]?=some ⟨d,.binOp .eql T x y T',T'',ps,af,gd⟩)(hw:Wt n l f gd)(hx:EV n f x (.int kk q))(hn:gT x (fK l ⟨d,.binOp .eql T x y T',T'',ps,af,gd⟩)=true)(hy:EV n f y (.int kk q2))(hm:gT y (fK l ⟨d,.binOp .eql T x y T',T'',ps,af,gd⟩)=true)
   (h:DC P n l tb bf H0 F0 K todo fl (put f d (.bool (q==q2))) cs):DC P n l tb bf H0 F0 K (i::todo) fl f cs:=bQ ho hw (fun ha=>Jw (EN ha hx hn) (EN ha hy hm)) h
theorem awp{kk:IntKind}{q q2:Int}(ho:l[i]?=some ⟨d,.binOp .neq T x y T',T'',ps,af,gd⟩)(hw:Wt n l f gd)(hx:EV n f x (.int kk q))(hn:gT x (fK l ⟨d,.binOp .neq T x y T',T'',ps,af,gd⟩)=true)(hy:EV n f y (.int kk q2))(hm:gT y (fK l ⟨d,.binOp .neq T x y T',T'',ps,af,gd⟩)=true)
   (h:DC P n l tb bf H0 F0 K todo fl (put f d (.bool (q !=q2))) cs):DC P n l tb bf H0 F0 K (i::todo) fl f cs:=bQ ho hw (fun ha=>ajR (EN ha hx hn) (EN ha hy hm)) h
theorem awq{b:Bool}(ho:l[i]?=some ⟨d,.unOp .not T x,T',ps,af,gd⟩)(hw:Wt n l f gd)(hx:EV n f x (.bool b))(hn:gT x (fK l ⟨d,.unOp .not T x,T',ps,af,gd⟩)=true)
   (h:DC P n l tb bf H0 F0 K todo fl (put f d (.bool (!b))) cs):DC P n l tb bf H0 F0 K (i::todo) fl f cs:=bQ ho hw (fun ha=>RD (EN ha hx hn)) h
theorem azJ(ho:l[i]?=some ⟨d,.move x,T,ps,af,gd⟩)(hw:Wt n l f gd)
   (hx:EV n f x v) (hn:gT x (fK l ⟨d,.move x,T,ps,af,gd⟩)=true) (h:DC P n l tb bf H0 F0 K todo fl (put f d v) cs):
   DC P n l tb bf H0 F0 K (i::todo) fl f cs:=bQ ho hw (fun ha=>eH (EN ha hx hn)) h
theorem azK(ho:l[i]?=some ⟨d,.assign x,T,ps,af,gd⟩)(hw:Wt n l f gd)
   (hx:EV n f x v) (hn:gT x (fK l ⟨d,.assign x,T,ps,af,gd⟩)=true) (h:DC P n l tb bf H0 F0 K todo fl (put f d v) cs):
   DC P n l tb bf H0 F0 K (i::todo) fl f cs:=bQ ho hw (fun ha=>iZ (EN ha hx hn)) h
theorem awr(ho:l[i]?=some ⟨d,.pick x y z,T,ps,af,gd⟩)(hw:Wt n l f gd)(hc:EV n f x (.bool true))(hn:gT x (fK l ⟨d,.pick x y z,T,ps,af,gd⟩)=true)
   (hy:EV n f y v) (hm:gT y (fK l ⟨d,.pick x y z,T,ps,af,gd⟩)=true) (h:DC P n l tb bf H0 F0 K todo fl (put f d v) cs):
   DC P n l tb bf H0 F0 K (i::todo) fl f cs:=bQ ho hw (fun ha=>aiG (EN ha hc hn) (EN ha hy hm)) h
theorem aws(ho:l[i]?=some ⟨d,.pick x y z,T,ps,af,gd⟩)(hw:Wt n l f gd)(hc:EV n f x (.bool false))(hn:gT x (fK l ⟨d,.pick x y z,T,ps,af,gd⟩)=true)
   (hy:EV n f z v) (hm:gT z (fK l ⟨d,.pick x y z,T,ps,af,gd⟩)=true) (h:DC P n l tb bf H0 F0 K todo fl (put f d v) cs):
   DC P n l tb bf H0 F0 K (i::todo) fl f cs:=bQ ho hw (fun ha=>aiH (EN ha hc hn) (EN ha hy hm)) h
theorem azL{k i0 j fi off:Nat}(ho:l[i]?=some ⟨d,.fieldAddr T x fi,T',ps,af,gd⟩){hF:ic P T fi off}(hw:Wt n l f gd)
   (hx:EV n f x (.pointer (some ⟨k,i0,some j⟩))) (hn:gT x (fK l ⟨d,.fieldAddr T x fi,T',ps,af,gd⟩)=true) (h:DC P n l tb bf H0 F0 K todo fl (put f d (.pointer (some ⟨k,i0,some (j+off)⟩))) cs):
   DC P n l tb bf H0 F0 K (i::todo) fl f cs:=bQ ho hw (fun ha=>gU hF.h (EN ha hx hn)) h
theorem awt{k j:Nat}{TB:TypeId}{e:Value}(ho:l[i]?=some ⟨d,.load T x,T',ps,af,gd⟩){hA:iB P T false}(hw:Wt n l f gd)
   (hx:EV n f x (.pointer (some ⟨k,0,some j⟩))) (hn:gT x (fK l ⟨d,.load T x,T',ps,af,gd⟩)=true) (hm:Mem (uy k ⟨[e],TB,true,false⟩) cs) (hv:e.cells.toList[j]?=some v)
   (h:DC P n l tb bf H0 F0 K todo fl (put f d v) cs):DC P n l tb bf H0 F0 K (i::todo) fl f cs:=J9 ho hw hm rfl (fun ha hp=>fI hA.h (EN ha hx hn) hp.2 rfl hv) h
theorem awu{k s b:Nat}{zv:Value}{TB:TypeId}{e:List Value}(ho:l[i]?=some ⟨d,.load T x,T',ps,af,gd⟩){hA:iB P T true}{ht:ig P T s b zv}(hw:Wt n l f gd)
   (hx:EV n f x (.pointer (some ⟨k,0,some 0⟩))) (hn:gT x (fK l ⟨d,.load T x,T',ps,af,gd⟩)=true) (hm:Mem (uy k ⟨[.agg e.toArray],TB,true,false⟩) cs) (h0:Nat.blt 0 s=true) (hl:e.length=s)
   (h:DC P n l tb bf H0 F0 K todo fl (put f d (.agg e.toArray)) cs):DC P n l tb bf H0 F0 K (i::todo) fl f cs:=J9 ho hw hm rfl (fun ha hp=>jw hA.h ht.h.sz h0 (EN ha hx hn) hp.2 hl) h
theorem awv{α:Type}{R:aB->Value->α->Prop}{_:dC R}{xs:List α}{ts:List TypeId}(ho:l[i]?=some ⟨d,.call ⟨.builtin .len,[x].toArray,(T::ts).toArray⟩,T',ps,af,gd⟩){hT:nO P T E}(hw:Wt n l f gd)
   (hx:EV n f x v) (hn:gT x (fK l ⟨d,.call ⟨.builtin .len,[x].toArray,(T::ts).toArray⟩,T',ps,af,gd⟩)=true) (hm:Mem (aR (aI E R) v xs) cs)
   (h:DC P n l tb bf H0 F0 K todo fl (put f d (.int .i64 xs.length)) cs):DC P n l tb bf H0 F0 K (i::todo) fl f cs:=J9 ho hw hm rfl (fun ha hp=>jU hT.h (EN ha hx hn) (um hp)) h
theorem azM{t:Tmp}{j:Nat}{b:Bool}(ho:l[i]?=some ⟨d,op,T,ps,af,some (j,b)⟩)(h1:(l[j]?).bind (·.dst)=some t)(h2:f t= .bool (!b))(h3:Nat.blt t n=true)(h:DC P n l tb bf H0 F0 K todo fl (put f d undef) cs):
   DC P n l tb bf H0 F0 K (i::todo) fl f cs:=avH t ho h1 h2 h3 h
theorem azN{t:Tmp}{j:Nat}{b:Bool}(ho:l[i]?=some ⟨d,op,T,ps,af,some (j,b)⟩)(h1:(l[j]?).bind (·.dst)=some t)(h2:f t=undef)(h3:Nat.blt t n=true)(h:DC P n l tb bf H0 F0 K todo fl (put f d undef) cs):
   DC P n l tb bf H0 F0 K (i::todo) fl f cs:=atF t ho h1 h2 h3 h
theorem arL{K:Fr->List aF->Prop}{Q:Exit->Fr->List aF->Prop}(h:K f cs):Fz K Q .normal f cs:=h
theorem asY{id:Nat}{Q:Exit->Fr->List aF->Prop}(h:Q .normal f cs):Dj id Q .normal f cs:=h
theorem au{G N:Prop}(k:N)(h:N->G:=by
   intro k
   repeat (first|with_reducible refine arL ?_|with_reducible refine asY ?_)
   first
   |((with_reducible refine' azD ?hx k); (case hx=>exact rW))
   |((with_reducible refine' azF ?hx k); (case hx=>exact eY))
   |with_reducible exact dI k
   |((with_reducible refine' azG ?r1 ?r2 ?r3 k); (case r1=>exact rfl); (case r2=>exact rfl); (case r3=>exact rfl))
   |((with_reducible refine' azH ?r1 ?r2 ?r3 k); (case r1=>exact rfl); (case r2=>exact rfl); (case r3=>exact rfl))
   |((with_reducible refine' azE ?hx k); (case hx=>exact rW))
   |((with_reducible refine' avX ?hx ?hm ?hv k); (case hx=>exact eY); (case hm=>exact l_); (case hv=>exact atV))
   |((with_reducible refine' avY ?hx ?hm ?hv k); (case hx=>exact eY); (case hm=>exact l_); (case hv=>exact atV))
   |((with_reducible refine' avZ ?hx ?hm ?r1 ?r2 k); (case hx=>exact eY); (case hm=>exact l_); (case r1=>exact rfl); (case r2=>exact rfl))
   |((with_reducible refine' av5 ?hx ?hm ?r1 ?r2 k); (case hx=>exact eY); (case hm=>exact l_); (case r1=>exact rfl); (case r2=>exact rfl))
   |((with_reducible refine' av6 ?hx ?hm k); (case hx=>exact rW); (case hm=>exact l_); all_goals infer_instance)
   |((with_reducible refine' at0 ?hx ?hm k); (case hx=>exact rW); (case hm=>exact l_); all_goals infer_instance)
   |((with_reducible refine' av_ ?a ?b k); (case a=>exact eY); (case b=>exact eY))
   |((with_reducible refine' awg ?a k); (case a=>exact eY))
   |((with_reducible refine' avV ?hc ?hy k); (case hc=>exact eY); (case hy=>exact rW))
   |((with_reducible refine' avW ?hc ?hy k); (case hc=>exact eY); (case hy=>exact rW))
   |((with_reducible refine' azI ?r1 ?r2 ?r3 k); (case r1=>exact rfl); (case r2=>exact rfl); (case r3=>exact rfl))
   |((with_reducible refine' av7 ?a ?b k); (case a=>exact eY); (case b=>exact eY))
   |((with_reducible refine' av8 ?a ?b k); (case a=>exact eY); (case b=>exact eY))
   |((with_reducible refine' awe ?a ?b k); (case a=>exact eY); (case b=>exact eY))
   |((with_reducible refine' awf ?a ?b k); (case a=>exact eY); (case b=>exact eY))
   |((with_reducible refine' av' ?a ?b k); (case a=>exact eY); (case b=>exact eY))
   |((with_reducible refine' awc ?a ?b k); (case a=>exact eY); (case b=>exact eY))
   |((with_reducible refine' awd ?a ?b k); (case a=>exact eY); (case b=>exact eY))
   |((with_reducible refine' av9 ?a ?b k); (case a=>exact eY); (case b=>exact eY))
   |with_reducible exact cu k
   |with_reducible exact nQ k
   |with_reducible exact Bh k
   |with_reducible exact nC k
   |with_reducible exact h_ k
   |with_reducible exact uf k
   |with_reducible exact arv k
   |with_reducible exact vC k
   |((with_reducible refine' ai6 ?a k); (case a=>exact rfl))
   |with_reducible exact asJ k
   |with_reducible exact vD k
   |with_reducible exact Fv k):G:=h k
theorem du{G N:Prop}(k:N)(h:N->G:=by
   intro k
   first
   |((with_reducible refine' azJ ?r1 ?hw ?hx ?r2 k); (case r1=>exact rfl); (case hw=>exact lV); (case hx=>exact rW); (case r2=>exact rfl))
   |((with_reducible refine' azL ?r1 ?hw ?hx ?r2 k); (case r1=>exact rfl); (case hw=>exact lV); (case hx=>exact eY); (case r2=>exact rfl); all_goals infer_instance)
   |((with_reducible refine' awt ?r1 ?hw ?hx ?r2 ?hm ?hv k); (case r1=>exact rfl); (case hw=>exact lV); (case hx=>exact eY); (case r2=>exact rfl); (case hm=>exact l_); (case hv=>exact atV); all_goals infer_instance)
   |((with_reducible refine' azM ?r1 ?r2 ?r3 ?r4 k); (case r1=>exact rfl); (case r2=>exact rfl); (case r3=>exact rfl); (case r4=>exact rfl))
   |((with_reducible refine' azN ?r1 ?r2 ?r3 ?r4 k); (case r1=>exact rfl); (case r2=>exact rfl); (case r3=>exact rfl); (case r4=>exact rfl))
   |((with_reducible refine' awv ?r1 ?hw ?hx ?r2 ?hm k); (case r1=>exact rfl); (case hw=>exact lV); (case hx=>exact rW); (case r2=>exact rfl); (case hm=>exact l_); all_goals infer_instance)
   |((with_reducible refine' awr ?r1 ?hw ?hc ?r2 ?hy ?r3 k); (case r1=>exact rfl); (case hw=>exact lV); (case hc=>exact eY); (case r2=>exact rfl); (case hy=>exact rW); (case r3=>exact rfl))
   |((with_reducible refine' aws ?r1 ?hw ?hc ?r2 ?hy ?r3 k); (case r1=>exact rfl); (case hw=>exact lV); (case hc=>exact eY); (case r2=>exact rfl); (case hy=>exact rW); (case r3=>exact rfl))
   |((with_reducible refine' awq ?r1 ?hw ?hx ?r2 k); (case r1=>exact rfl); (case hw=>exact lV); (case hx=>exact eY); (case r2=>exact rfl))
   |((with_reducible refine' awk ?r1 ?hw ?hx ?r2 ?hy ?r3 k); (case r1=>exact rfl); (case hw=>exact lV); (case hx=>exact eY); (case r2=>exact rfl); (case hy=>exact eY); (case r3=>exact rfl))
   |((with_reducible refine' awo ?r1 ?hw ?hx ?r2 ?hy ?r3 k); (case r1=>exact rfl); (case hw=>exact lV); (case hx=>exact eY); (case r2=>exact rfl); (case hy=>exact eY); (case r3=>exact rfl))
   |((with_reducible refine' awp ?r1 ?hw ?hx ?r2 ?hy ?r3 k); (case r1=>exact rfl); (case hw=>exact lV); (case hx=>exact eY); (case r2=>exact rfl); (case hy=>exact eY); (case r3=>exact rfl))
   |((with_reducible refine' awh ?r1 ?hw ?hx ?r2 ?hy ?r3 k); (case r1=>exact rfl); (case hw=>exact lV); (case hx=>exact eY); (case r2=>exact rfl); (case hy=>exact eY); (case r3=>exact rfl))
   |((with_reducible refine' awi ?r1 ?hw ?hx ?r2 ?hy ?r3 k); (case r1=>exact rfl); (case hw=>exact lV); (case hx=>exact eY); (case r2=>exact rfl); (case hy=>exact eY); (case r3=>exact rfl))
   |((with_reducible refine' awl ?r1 ?hw ?hx ?r2 ?hy ?r3 k); (case r1=>exact rfl); (case hw=>exact lV); (case hx=>exact eY); (case r2=>exact rfl); (case hy=>exact eY); (case r3=>exact rfl))
   |((with_reducible refine' awm ?r1 ?hw ?hx ?r2 ?hy ?r3 k); (case r1=>exact rfl); (case hw=>exact lV); (case hx=>exact eY); (case r2=>exact rfl); (case hy=>exact eY); (case r3=>exact rfl))
   |((with_reducible refine' awn ?r1 ?hw ?hx ?r2 ?hy ?r3 k); (case r1=>exact rfl); (case hw=>exact lV); (case hx=>exact eY); (case r2=>exact rfl); (case hy=>exact eY); (case r3=>exact rfl))
   |((with_reducible refine' awj ?r1 ?hw ?hx ?r2 ?hy ?r3 k); (case r1=>exact rfl); (case hw=>exact lV); (case hx=>exact eY); (case r2=>exact rfl); (case hy=>exact eY); (case r3=>exact rfl))
   |((with_reducible refine' azK ?r1 ?hw ?hx ?r2 k); (case r1=>exact rfl); (case hw=>exact lV); (case hx=>exact rW); (case r2=>exact rfl))
   |((with_reducible refine' awu ?r1 ?hw ?hx ?r2 ?hm ?r3 ?r4 k); (case r1=>exact rfl); (case hw=>exact lV); (case hx=>exact eY); (case r2=>exact rfl); (case hm=>exact l_); (all_goals (try infer_instance)); (case r3=>exact rfl); (case r4=>exact rfl))
   |with_reducible exact p_ k):G:=h k
theorem flA{fl:List (Nat×List Nat)}(h:lT tb i rest fl:=by
   repeat (first
     |exact lT.nil
     |refine' lT.dep rfl ?_
     |refine' lT.imm (by exact l_) ?_)):lT tb i rest fl:=h
theorem ZV{f':Fr}{o:Oper}:∀{xs:List Operand}{vs:List Value},iW l o f f'->jO n f xs vs->xs.all (fun x=>gT x (fK l o))=true->jO n f' xs vs
 |[],[],_,_,_=>.nil
 |x::xs,v::vs,ha,⟨h,t⟩,hn=>by
   simp only[List.all_cons,Bool.and_eq_true]at hn
   exact .cons (EN ha h hn.1) (ZV ha t hn.2)
 |[],_::_,_,h,_=>h.elim
 |_::_,[],_,h,_=>h.elim
variable{ι α:Type}{val:ι->Value}{R:aB->Value->α->Prop}{xs:List α}{a:α}{g k j s b off:Nat}{zv e:Value}{kk:IntKind}{q:Int}{TB:TypeId}{Q:Exit->Fr->List aF->Prop}{c1 c2:Code}
theorem Cc{b:Bool}(h1:b=true->CW P n H0 F0 c1 Q f cs)(h2:b=false->CW P n H0 F0 c2 Q f cs)(hc:EV n f x (.bool b):=by exact eY):CW P n H0 F0 (.cond x c1 c2) Q f cs:=jc hc h1 h2
theorem CcT{b:Bool}(hb:b=true)(h1:CW P n H0 F0 c1 Q f cs)(hc:EV n f x (.bool b):=by exact eY):CW P n H0 F0 (.cond x c1 c2) Q f cs:=jc hc (fun _=>h1) (fun h=>absurd (hb.symm.trans h) (by decide))
theorem CcF{b:Bool}(hb:b=false)(h2:CW P n H0 F0 c2 Q f cs)(hc:EV n f x (.bool b):=by exact eY):CW P n H0 F0 (.cond x c1 c2) Q f cs:=jc hc (fun h=>absurd (hb.symm.trans h) (by decide)) (fun _=>h2)
theorem cK{p:Prop}{_:Decidable p}(h1:CW P n H0 F0 c1 Q f cs)(hc:EV n f x (.bool (decide p)):=by exact eY)(hp:p:=by omega):CW P n H0 F0 (.cond x c1 c2) Q f cs:=CcT (decide_eq_true hp) h1 hc
theorem cO{p:Prop}{_:Decidable p}(h2:CW P n H0 F0 c2 Q f cs)(hc:EV n f x (.bool (decide p)):=by exact eY)(hp:¬ p:=by omega):CW P n H0 F0 (.cond x c1 c2) Q f cs:=CcF (decide_eq_false hp) h2 hc
theorem Ai [dC R] [hT:nO P T E] [hs:ig P E s b zv](hi:xs[q.toNat]?=some a)(h:∀k j,bI P n H0 F0 A r (put f d (.pointer (some ⟨k,j,some 0⟩))) (l8 E R k j a::cs) K)
   (hx:EV n f x v:=by exact rW) (hy:EV n f y (.int kk q):=by exact eY) (hm:Mem (aR (aI E R) v xs) cs:=by exact l_) (h0:0<=q:=by first|exact Int.natCast_nonneg _|assumption):
   bI P n H0 F0 A (⟨d,.indexAddr T x y,T',ps,af,none⟩::r) f cs K:=pY hT.h hs.h.sz hx hy hm h0 hi h
theorem Di [dC R] [hT:nO P T E] [hs:ig P E s b zv](hi:xs[q.toNat]?=some a)(h:∀k j,DC P n l tb bf H0 F0 K todo fl (put f d (.pointer (some ⟨k,j,some 0⟩))) (l8 E R k j a::cs))
   (ho:l[i]?=some ⟨d,.indexAddr T x y,T',ps,af,gd⟩:=by rfl) (hw:Wt n l f gd:=by exact lV)
   (hx:EV n f x v:=by exact rW) (hy:EV n f y (.int kk q):=by exact eY) (pF:gT x (fK l ⟨d,.indexAddr T x y,T',ps,af,gd⟩)=true:=by rfl) (hyn:gT y (fK l ⟨d,.indexAddr T x y,T',ps,af,gd⟩)=true:=by rfl)
   (hm:Mem (aR (aI E R) v xs) cs:=by exact l_) (h0:0<=q:=by first|exact Int.natCast_nonneg _|assumption):
   DC P n l tb bf H0 F0 K (i::todo) fl f cs:=uz hT.h hs.h.sz ho hw hx hy pF hyn hm h0 hi h
theorem Al [dC R] [hA:iB P T false](hop:∀H e,R H e a->e.cells.toList[off]?=some v)(h:bI P n H0 F0 A r (put f d v) cs K)(hx:EV n f x (.pointer (some ⟨k,j,some off⟩)):=by exact eY)(hm:Mem (l8 E R k j a) cs:=by exact l_):
   bI P n H0 F0 A (⟨d,.load T x,T',ps,af,none⟩::r) f cs K:=avF hA.h hx hm hop h
theorem Dl [dC R] [hA:iB P T false](hop:∀H e,R H e a->e.cells.toList[off]?=some v)(h:DC P n l tb bf H0 F0 K todo fl (put f d v) cs)(ho:l[i]?=some ⟨d,.load T x,T',ps,af,gd⟩:=by rfl)(hw:Wt n l f gd:=by exact lV)
   (hx:EV n f x (.pointer (some ⟨k,j,some off⟩)):=by exact eY) (pF:gT x (fK l ⟨d,.load T x,T',ps,af,gd⟩)=true:=by rfl) (hm:Mem (l8 E R k j a) cs:=by exact l_):
   DC P n l tb bf H0 F0 K (i::todo) fl f cs:=XW hA.h ho hw hx pF hm hop h
theorem bM [ht:ig P T s b zv](h:∀k,bI P n H0 F0 A r (put f d (.pointer (some ⟨k,0,some 0⟩))) (uy k ⟨[v],T,true,false⟩::cs) K)(hx:EV n f x v:=by exact rW)(hv:v.cells.size=s:=by rfl):
   bI P n H0 F0 A (⟨d,.box T x,T',ps,af,none⟩::r) f cs K:=atA rfl (ajT ht.h.sz hx hv) h
theorem AbW [ht:ig P T s b zv](h:∀k,bI P n H0 F0 A r (put f d (.pointer (some ⟨k,0,some 0⟩))) (jW k ⟨[v],T,true,true⟩::cs) K)(hx:EV n f x v:=by exact rW)(hv:v.cells.size=s:=by rfl):
   bI P n H0 F0 A (⟨d,.box T x,T',ps,af,none⟩::r) f cs K:=dx rfl (ajT ht.h.sz hx hv) h
theorem dJ [ht:ig P T s b zv](h:∀k,bI P n H0 F0 A r (put f d (.pointer (some ⟨k,0,some 0⟩))) (jW k ⟨[zv],T,true,true⟩::cs) K)(hv:zv.cells.size=s:=by rfl)(hc:zy zv=true:=by rfl):
   bI P n H0 F0 A (⟨d,.alloc T,T',ps,af,none⟩::r) f cs K:=dx rfl (sD ht.h hv hc) h
theorem As [ht:ig P T s b zv](e'':Value)(h:bI P n H0 F0 A r (put f d undef) (bS k TB e''::rest) K)(hx:EV n f x (.pointer (some ⟨k,0,some j⟩)):=by exact eY)(hy:EV n f y v:=by exact rW)(hm:Sel cs (bS k TB e) rest:=by exact aj5)
   (hv:v.cells.size=s:=by rfl) (hsc:v.cells.toList.all scal=true:=by rfl) (h0:Nat.blt 0 s=true:=by rfl) (hj:Nat.ble (j+s) e.cells.size=true:=by rfl) (he:uj e j v.cells.toList=e'':=by rfl):
   bI P n H0 F0 A (⟨d,.store T x y,T',ps,af,none⟩::r) f cs K:=dU (.cons hm .nil) (gF ht.h.sz hx hy hv hsc h0 hj he) (fun _=>h)
theorem azO{rs:List ResultVar}{vs:List Value}(h:oW P n f cs rs vs:=by
   first
   |exact oW.nil|exact .tmp rfl rfl .nil|exact .tmp rfl rfl (.tmp rfl rfl .nil)|exact .tmp rfl rfl (.tmp rfl rfl (.tmp rfl rfl .nil))|exact .tmp rfl rfl (.tmp rfl rfl (.tmp rfl rfl (.tmp rfl rfl .nil)))
   |exact oW.cellA rfl rfl (by exact l_) (by exact rfl) iB.h (TY.sz ig.h) (by exact rfl) (by exact rfl) .nil
   |exact oW.cellS rfl rfl (by exact l_) (by exact rfl) iB.h (by exact rfl) .nil):oW P n f cs rs vs:=h
theorem Er{rs:List ResultVar}{post:ι->List aF}{vs:List Value}(x:ι)(h1:oW P n f cs rs vs:=by exact azO)(h2:rF vs=val x:=by rfl)(h3:gm cs (post x) rest:=by exact uO):NZ P n rs val post .ret f cs:=gL x h1 h2 (.sel h3)
theorem ax(h:gm cs pre rest:=by exact uO):aK cs pre:=.sel h
theorem wk(k:Nat)(h:k<9223372036854775807:=by omega):IntKind.i64.wrap ((k:Int)+1)=((k+1:Nat):Int):=by rw[fo (by omega) (by omega)]; rfl
end
end Go.Fw
/-
 The same for calls: with the facts that come of them in a list.  No conditions.
-/
set_option linter.unusedVariables false
namespace Go.Fw
open Go
section
variable{P:Program} [b_ P]{n:Nat}{f:Fr}{H0:aB}{F0:List Nat}{cs pre rest:List aF}{x y:Operand}{v:Value}{A:Array Oper}{r:List Oper}{K:Fr->List aF->Prop}{d:Option Tmp}{T E:TypeId}{ps:String}{af:Array Edge}
variable{l:List Oper}{tb bf todo:List Nat}{fl:List (Nat×List Nat)}{i g:Nat}{gd:Option (Nat×Bool)}{ι α:Type}{val:ι->Value}{R:aB->Value->α->Prop}{a:α}{k j s b off:Nat}{zv:Value}{xs:List Operand}{ts:Array TypeId}{vs:List Value}
theorem nt{b:Bool}(h:b=false):¬ b=true:=by rw[h]; exact Bool.false_ne_true
theorem Se{fn:Func}{c:Code}{args:List Value}{post:ι->List aF}(n:Nat)(hf:P.funcs[g]?=some fn)(rs:List ResultVar)(h:∀H0 F0,CW P n H0 F0 c (NZ P n rs val post) (ab5 args) pre)
   (hb:fn.body=some c:=by rfl) (hn:fn.ntmps=n:=by rfl) (hr:fn.results=rs.toArray:=by rfl) (hl:Nat.ble rs.length 6=true:=by rfl) (ha:Nat.ble args.length n=true:=by rfl):Spec P g args pre val post:=MV hf hb hn hr hl ha h
theorem bJ [hg:aT P g](hs:Spec P g vs pre val (fun x=>[]))(h:∀x,bI P n H0 F0 A r (put f d (val x)) (rest) K)(he:jO n f xs vs:=by exact bN)(hl:gm cs pre rest:=by exact uO):
   bI P n H0 F0 A (⟨d,.call ⟨.value (.func g),xs.toArray,ts⟩,T,ps,af,none⟩::r) f cs K:=mX hl (bU hg.h he hs) h
theorem jk [hg:aT P g](hs:Spec P g vs pre val (fun x=>[]))(h:∀x,DC P n l tb bf H0 F0 K todo fl (put f d (val x)) (rest))
   (ho:l[i]?=some ⟨d,.call ⟨.value (.func g),xs.toArray,ts⟩,T,ps,af,gd⟩:=by rfl) (hA:bf.any (Nat.beq i)=true:=by rfl) (hw:Wt n l f gd:=by exact lV) (he:jO n f xs vs:=by exact bN)
   (hn:xs.all (fun x=>gT x (fK l ⟨d,.call ⟨.value (.func g),xs.toArray,ts⟩,T,ps,af,gd⟩))=true:=by rfl) (hl:gm cs pre rest:=by exact uO) (hfl:lT tb i rest fl:=by exact flA):
   DC P n l tb bf H0 F0 K (i::todo) fl f cs:=ND hA ho hw hl hfl (fun ha=>bU hg.h (ZV ha he hn) hs) h
theorem fq{c1:ι->aF} [hg:aT P g](hs:Spec P g vs pre val (fun x=>[c1 x]))(h:∀x,bI P n H0 F0 A r (put f d (val x)) (c1 x::rest) K)(he:jO n f xs vs:=by exact bN)(hl:gm cs pre rest:=by exact uO):
   bI P n H0 F0 A (⟨d,.call ⟨.value (.func g),xs.toArray,ts⟩,T,ps,af,none⟩::r) f cs K:=dU hl (bU hg.h he hs) h
theorem ni{c1:ι->aF} [hg:aT P g](hs:Spec P g vs pre val (fun x=>[c1 x]))(h:∀x,DC P n l tb bf H0 F0 K todo fl (put f d (val x)) (c1 x::rest))
   (ho:l[i]?=some ⟨d,.call ⟨.value (.func g),xs.toArray,ts⟩,T,ps,af,gd⟩:=by rfl) (hA:bf.any (Nat.beq i)=true:=by rfl) (hw:Wt n l f gd:=by exact lV) (he:jO n f xs vs:=by exact bN)
   (hn:xs.all (fun x=>gT x (fK l ⟨d,.call ⟨.value (.func g),xs.toArray,ts⟩,T,ps,af,gd⟩))=true:=by rfl) (hl:gm cs pre rest:=by exact uO) (hfl:lT tb i rest fl:=by exact flA):
   DC P n l tb bf H0 F0 K (i::todo) fl f cs:=df hA ho hw hl hfl (fun ha=>bU hg.h (ZV ha he hn) hs) h
theorem Af{c1 c2:ι->aF} [hg:aT P g](hs:Spec P g vs pre val (fun x=>[c1 x,c2 x]))(h:∀x,bI P n H0 F0 A r (put f d (val x)) (c1 x::c2 x::rest) K)(he:jO n f xs vs:=by exact bN)(hl:gm cs pre rest:=by exact uO):
   bI P n H0 F0 A (⟨d,.call ⟨.value (.func g),xs.toArray,ts⟩,T,ps,af,none⟩::r) f cs K:=l9 hl (bU hg.h he hs) h
theorem Dx2{c1 c2:ι->aF} [hg:aT P g](hs:Spec P g vs pre val (fun x=>[c1 x,c2 x]))(h:∀x,DC P n l tb bf H0 F0 K todo fl (put f d (val x)) (c1 x::c2 x::rest))
   (ho:l[i]?=some ⟨d,.call ⟨.value (.func g),xs.toArray,ts⟩,T,ps,af,gd⟩:=by rfl) (hA:bf.any (Nat.beq i)=true:=by rfl) (hw:Wt n l f gd:=by exact lV) (he:jO n f xs vs:=by exact bN)
   (hn:xs.all (fun x=>gT x (fK l ⟨d,.call ⟨.value (.func g),xs.toArray,ts⟩,T,ps,af,gd⟩))=true:=by rfl) (hl:gm cs pre rest:=by exact uO) (hfl:lT tb i rest fl:=by exact flA):
   DC P n l tb bf H0 F0 K (i::todo) fl f cs:=qB hA ho hw hl hfl (fun ha=>bU hg.h (ZV ha he hn) hs) h
theorem GN{c1 c2 c3:ι->aF} [hg:aT P g](hs:Spec P g vs pre val (fun x=>[c1 x,c2 x,c3 x]))(h:∀x,bI P n H0 F0 A r (put f d (val x)) (c1 x::c2 x::c3 x::rest) K)(he:jO n f xs vs:=by exact bN)(hl:gm cs pre rest:=by exact uO):
   bI P n H0 F0 A (⟨d,.call ⟨.value (.func g),xs.toArray,ts⟩,T,ps,af,none⟩::r) f cs K:=Gl hl (bU hg.h he hs) h
theorem Cx8{c1 c2 c3 c4 c5 c6 c7 c8:ι->aF} [hg:aT P g](hs:Spec P g vs pre val (fun x=>[c1 x,c2 x,c3 x,c4 x,c5 x,c6 x,c7 x,c8 x]))(h:∀x,bI P n H0 F0 A r (put f d (val x)) (c1 x::c2 x::c3 x::c4 x::c5 x::c6 x::c7 x::c8 x::rest) K)(he:jO n f xs vs:=by exact bN)(hl:gm cs pre rest:=by exact uO):
   bI P n H0 F0 A (⟨d,.call ⟨.value (.func g),xs.toArray,ts⟩,T,ps,af,none⟩::r) f cs K:=ald hl (bU hg.h he hs) h
theorem iw{T2:TypeId} [dC R]{c1:ι->aF} [hA:iB P T true] [ht:ig P T s b zv](ul:ι->List Value)(hop:∀H e,R H e a-> ∃i,off+s<=e.cells.size/\(e.cells.toList.drop off).take s=ul i/\ ∀c∈([c1 i]:List aF),c.P H/\c.F=[])
   (h:∀i,bI P n H0 F0 A r (put f d (.agg (ul i).toArray)) (c1 i::cs) K) (hx:EV n f x (.pointer (some ⟨k,j,some off⟩)):=by exact eY) (hm:Mem (l8 E R k j a) cs:=by exact l_) (h0:Nat.blt 0 s=true:=by rfl):
   bI P n H0 F0 A (⟨d,.load T x,T2,ps,af,none⟩::r) f cs K:=Rn ul hA.h ht.h.sz h0 hx hm hop h
theorem qM{T2:TypeId} [dC R]{c1:ι->aF} [hA:iB P T true] [ht:ig P T s b zv](ul:ι->List Value)(hop:∀H e,R H e a-> ∃i,off+s<=e.cells.size/\(e.cells.toList.drop off).take s=ul i/\ ∀c∈([c1 i]:List aF),c.P H/\c.F=[])
   (h:∀i,DC P n l tb bf H0 F0 K todo fl (put f d (.agg (ul i).toArray)) (c1 i::cs)) (ho:l[i]?=some ⟨d,.load T x,T2,ps,af,gd⟩:=by rfl) (hw:Wt n l f gd:=by exact lV)
   (hx:EV n f x (.pointer (some ⟨k,j,some off⟩)):=by exact eY) (pF:gT x (fK l ⟨d,.load T x,T2,ps,af,gd⟩)=true:=by rfl) (hm:Mem (l8 E R k j a) cs:=by exact l_) (h0:Nat.blt 0 s=true:=by rfl):
   DC P n l tb bf H0 F0 K (i::todo) fl f cs:=Fy ul hA.h ht.h.sz h0 ho hw hx pF hm hop h
theorem adu{T2:TypeId} [dC R]{c1 c2:ι->aF} [hA:iB P T true] [ht:ig P T s b zv](ul:ι->List Value)(hop:∀H e,R H e a-> ∃i,off+s<=e.cells.size/\(e.cells.toList.drop off).take s=ul i/\ ∀c∈([c1 i,c2 i]:List aF),c.P H/\c.F=[])
   (h:∀i,bI P n H0 F0 A r (put f d (.agg (ul i).toArray)) (c1 i::c2 i::cs) K) (hx:EV n f x (.pointer (some ⟨k,j,some off⟩)):=by exact eY) (hm:Mem (l8 E R k j a) cs:=by exact l_) (h0:Nat.blt 0 s=true:=by rfl):
   bI P n H0 F0 A (⟨d,.load T x,T2,ps,af,none⟩::r) f cs K:=ai7 ul hA.h ht.h.sz h0 hx hm hop h
theorem alm{T2:TypeId} [dC R]{c1 c2:ι->aF} [hA:iB P T true] [ht:ig P T s b zv](ul:ι->List Value)(hop:∀H e,R H e a-> ∃i,off+s<=e.cells.size/\(e.cells.toList.drop off).take s=ul i/\ ∀c∈([c1 i,c2 i]:List aF),c.P H/\c.F=[])
   (h:∀i,DC P n l tb bf H0 F0 K todo fl (put f d (.agg (ul i).toArray)) (c1 i::c2 i::cs)) (ho:l[i]?=some ⟨d,.load T x,T2,ps,af,gd⟩:=by rfl) (hw:Wt n l f gd:=by exact lV)
   (hx:EV n f x (.pointer (some ⟨k,j,some off⟩)):=by exact eY) (pF:gT x (fK l ⟨d,.load T x,T2,ps,af,gd⟩)=true:=by rfl) (hm:Mem (l8 E R k j a) cs:=by exact l_) (h0:Nat.blt 0 s=true:=by rfl):
   DC P n l tb bf H0 F0 K (i::todo) fl f cs:=atD ul hA.h ht.h.sz h0 ho hw hx pF hm hop h
theorem dH{c1:aF}{l:List Oper}(hs:gm cs pre rest)(hv:Conv pre [c1])(h:bI P n H0 F0 A l f (c1::rest) K):bI P n H0 F0 A l f cs K:=BB hs hv dm h
theorem jF{c1:aF}{r:List Nat}(hs:gm cs pre rest)(hv:Conv pre [c1])(h:DC P n l tb bf H0 F0 K r fl f (c1::rest)):DC P n l tb bf H0 F0 K r fl f cs:=NC hs hv dm h
theorem bnd{α β:Type}{G:Prop}{x:Option α}{g:α->Option β}{b:β}(h:x.bind g=some b)(k:∀a,x=some a->g a=some b->G):G:=by
 obtain⟨a,h1,h2⟩:=bind_some h
 exact k a h1 h2
theorem Ci{β:Type}{b:Bool}{p q:Option β}{R0:β}{c1 c2:Code}{Q:Exit->Fr->List aF->Prop}(hF:(if b=true then p else q)=some R0)(h1:b=true->p=some R0->CW P n H0 F0 c1 Q f cs)(h2:b=false->q=some R0->CW P n H0 F0 c2 Q f cs)
   (hc:EV n f x (.bool b):=by exact eY):CW P n H0 F0 (.cond x c1 c2) Q f cs:=
 jc hc (fun e=>h1 e (by rwa [if_pos e]at hF)) (fun e=>h2 e (by rwa [if_neg (nt e)]at hF))
theorem Kb{β:Type}{R':aB->Value->β->Prop} [dC R']{T3:TypeId}{u:Value}{cs':List aF}{c:Code}{Q:Exit->Fr->List aF->Prop}(he:aK cs cs')(ys:List β)(h:ys.length<4611686018427387904->CW P n H0 F0 c Q f cs')(hm:Mem (aR (aI T3 R') u ys) cs':=by exact l_):CW P n H0 F0 c Q f cs:=
 bH he (uu hm zn h)
abbrev pz(k:Nat):Value:=.pointer (some ⟨k,0,some 0⟩)
theorem dn{α:Type}{k:Nat}{l:List α}(h:List.drop k l=[]):l.length<=k:=List.drop_eq_nil_iff.1 h
end
end Go.Fw
/-
 More plain laws about loops. No conditions.
-/
set_option linter.unusedVariables false
namespace Go.Fw
open Go
theorem Ra{α β:Type}{P:α->Prop}{p:α->Bool}{g:α->β}{L:List α->Nat->List β->Option (List β)}(h0:∀k c,L [] k c=some c)
   (h1:∀x r k c,P x->c.length+1<4294967296->L (x::r) k c=L r (k+1) (if p x then c++[g x]else c)):
   ∀(l:List α)(k:Nat)(c:List β),(∀x∈l,P x)->c.length+l.length<4294967296->L l k c=some (c++(l.filter p).map g)
 |[],k,c,_,_=>by simp[h0]
 |x::r,k,c,hp,hl=>by
   simp only[List.length_cons]at hl
   rw[h1 x r k c (hp x (by simp)) (by omega),Ra h0 h1 r (k+1) _ (fun y hy=>hp y (by simp[hy])) (by split<;>(try simp only[List.length_append,List.length_cons,List.length_nil])<;>omega),List.filter_cons]
   split<;>simp
end Go.Fw
