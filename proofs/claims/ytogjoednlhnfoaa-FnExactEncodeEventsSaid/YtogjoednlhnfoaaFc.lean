/-
  A framework: readings, small rules, plain laws. No conditions.
-/
import Derived.Test.YtogjoednlhnfoaaFb
import Derived.Deep.Slices
import Derived.ChangeArms
import Derived.SizedLaws
import Derived.Laws.Small
import Derived.WalkSpells
import Derived.Laws.Slices
import Derived.Laws.Externs
import Derived.Lib.Builder
import Derived.Lib.UnsafeStr
/-
 The bridge: what the arguments of a row's function read ag, ag data.
-/
namespace Go.Fw
open Go Go.RowKit Go.WideShapes Go.ChangeShapes Go.ChangeAt
def bO(ρ:ax):Prop:=∀k L,ρ k=some (some L)->L.own=false
def bP{α:Type}(P:Program) [aj P](t:TypeId)(R:aa->Value->α->Prop)(W:α->Prop):Prop:=
 ∀{T:Type}(enc:TypeId×Value->T)(w:World)(fuel:Nat)(cs:List Value)(x:DataW T×List MemPlace),
   DataW.trod enc P w 0 (fun _=>true) true fuel t cs=some x->(∀n∈x.1.weights P t,n<=reachBytes)->
   ∀(ρ:ax)(H:aa),ay P ρ H w->bO ρ-> ∃(ρ':ax)(H':aa)(av:Value)(a:α),ay P ρ' H' w/\bO ρ'/\Up ρ ρ'/\aN H H'/\ah ρ' av.cells.toList cs/\R H' av a/\W a
theorem ay.nil(P:Program) [aj P](w:World)(hV:aj.V P w):ay P (fun _=>none) [] w:=⟨by simp,by simp,by simp,by simp,⟨w,hV,Nat.le_refl _,fun _ _=>rfl,by simp⟩⟩
theorem bO.nil:bO (fun _=>none):=fun _ _ h=>by simp at h
section
variable{P:Program} [aj P]{ρ:ax}{H:aa}{w:World}
theorem jw{ρ:ax}{H:aa}(h:ay P ρ H w)(o:Option Loc):Up ρ (aZ ρ H.length o):=by
 intro k
 by_cases e:k=H.length
 · subst e; exact .inl (h.dom _ (Nat.le_refl _))
 · exact .inr (.inl (az _ _ e))
theorem ay.foreign{L:Loc}{b:aG}(h:ay P ρ H w)(hF:bO ρ)(hL:L.own=false)(hb:dA P ρ L b w):ay P (aZ ρ H.length (some L)) (H++[some b]) w:=by
 have hu:=jw h (some L)
 constructor
 · intro k L' hk
   by_cases e:k=H.length
   · subst e
     rw[aJ]at hk
     obtain rfl:L=L':=by simpa using hk
     exact⟨b,by simp,hb.of_same hu rfl⟩
   · rw[az _ _ e]at hk
     obtain⟨b',hb',hr⟩:=h.blk k L' hk
     exact⟨b',by rw[List.getElem?_append_left (dz hb')]; exact hb',hr.of_same hu rfl⟩
 · intro k b' hb' hk
   by_cases e:k=H.length
   · subst e; rw[aJ]at hk; simp at hk
   · rw[az _ _ e]at hk
     have hkl:k<H.length:=by
       have:=dz hb'
       simp at this; omega
     rw[List.getElem?_append_left hkl]at hb'
     exact h.alive k b' hb' hk
 · intro k hk
   simp at hk
   rw[az _ _ (by omega)]
   exact h.dom k (by omega)
 · intro k k' L1 L2 h1 h2 ho _
   exfalso
   by_cases e:k=H.length
   · subst e; rw[aJ]at h1
     obtain rfl:L=L1:=by simpa using h1
     rw[hL]at ho; simp at ho
   · rw[az _ _ e]at h1
     rw[hF k L1 h1]at ho; simp at ho
 · refine h.vok.keep (Nat.le_refl _) (fun _ _ _=>rfl) fun k L' hk ho=>?_
   by_cases e:k=H.length
   · subst e; rw[aJ]at hk
     obtain rfl:L=L':=by simpa using hk
     rw[hL]at ho; simp at ho
   · rw[az _ _ e]at hk; exact .inl hk
theorem bO.foreign{L:Loc}(hF:bO ρ)(hL:L.own=false)(n:Nat):bO (aZ ρ n (some L)):=by
 intro k L' hk
 by_cases e:k=n
 · subst e; rw[aJ]at hk
   obtain rfl:L=L':=by simpa using hk
   exact hL
 · rw[az _ _ e]at hk; exact hF k L' hk
theorem ay.dead(h:ay P ρ H w):ay P (aZ ρ H.length none) (H++[none]) w:=by
 have hu:=jw h none
 constructor
 · intro k L' hk
   by_cases e:k=H.length
   · subst e; rw[aJ]at hk; simp at hk
   · rw[az _ _ e]at hk
     obtain⟨b',hb',hr⟩:=h.blk k L' hk
     exact⟨b',by rw[List.getElem?_append_left (dz hb')]; exact hb',hr.of_same hu rfl⟩
 · intro k b' hb' hk
   by_cases e:k=H.length
   · subst e; simp at hb'
   · rw[az _ _ e]at hk
     have hkl:k<H.length:=by
       have:=dz hb'
       simp at this; omega
     rw[List.getElem?_append_left hkl]at hb'
     exact h.alive k b' hb' hk
 · intro k hk
   simp at hk
   rw[az _ _ (by omega)]
   exact h.dom k (by omega)
 · intro k k' L1 L2 h1 h2 ho he
   by_cases e:k=H.length
   · subst e; rw[aJ]at h1; simp at h1
   · by_cases e':k'=H.length
     · subst e'; rw[aJ]at h2; simp at h2
     · rw[az _ _ e]at h1; rw[az _ _ e']at h2
       exact h.inj k k' L1 L2 h1 h2 ho he
 · refine h.vok.keep (Nat.le_refl _) (fun _ _ _=>rfl) fun k L' hk ho=>?_
   by_cases e:k=H.length
   · subst e; rw[aJ]at hk; simp at hk
   · rw[az _ _ e]at hk; exact .inl hk
theorem bO.dead(hF:bO ρ)(n:Nat):bO (aZ ρ n none):=by
 intro k L' hk
 by_cases e:k=n
 · subst e; rw[aJ]at hk; simp at hk
 · rw[az _ _ e]at hk; exact hF k L' hk
theorem kJ(H:aa)(x:Option aG):aN H (H++[x]):=fun k b hk _=>by rw[List.getElem?_append_left (dz hk)]; exact hk
def lh(a:Int):Prop:=-9223372036854775808<=a/\a<=9223372036854775807
def vV(_:UInt8):Prop:=True
def uN{α:Type}(_:α):Prop:=True
def oM(a:List UInt8):Prop:=a.length<=140737488351232
def gQ{α:Type}(W:α->Prop)(a:List α):Prop:=a.length<=140737488351232/\ ∀x∈a,W x
theorem bP.int{t:TypeId}(ht:P.underlying t=some (.int .i64)):bP P t lc lh:=by
 intro T enc w fuel cs x h _ ρ H hr hF
 obtain⟨n,rfl,rfl,hw⟩:=DataW.trod_int ht h
 refine⟨ρ,H,.int .i64 n,n,hr,hF,Up.refl ρ,aN.refl H,.cons _ _ _ _ (.int _ _) .nil,rfl,?_⟩
 simp only[Lit.wf,IntKind.min,IntKind.max,Bool.and_eq_true]at hw
 unfold lh
 simpa[IntKind.signed,IntKind.bits]using hw
theorem bP.u8{t:TypeId}(ht:P.underlying t=some (.int .u8)):bP P t bu vV:=by
 intro T enc w fuel cs x h _ ρ H hr hF
 obtain⟨n,rfl,rfl,hw⟩:=DataW.trod_int ht h
 simp only[Lit.wf,IntKind.min,IntKind.max,Bool.and_eq_true]at hw
 have hw':0<=n/\n<=255:=by simpa[IntKind.signed,IntKind.bits]using hw
 refine⟨ρ,H,.int .u8 n,UInt8.ofNat n.toNat,hr,hF,Up.refl ρ,aN.refl H,.cons _ _ _ _ (.int _ _) .nil,?_,trivial⟩
 unfold bu
 have:((UInt8.ofNat n.toNat).toNat:Int)=n:=by
   simp[UInt8.toNat_ofNat']
   omega
 rw[this]
theorem bP.bool{t:TypeId}(ht:P.underlying t=some .bool):bP P t rdBool uN:=by
 intro T enc w fuel cs x h _ ρ H hr hF
 obtain⟨b,rfl,rfl⟩:=DataW.trod_bool ht h
 exact⟨ρ,H,.bool b,b,hr,hF,Up.refl ρ,aN.refl H,.cons _ _ _ _ (.bool _) .nil,rfl,trivial⟩
theorem bP.str{t:TypeId}(ht:P.underlying t=some .string):bP P t rdStr oM:=by
 intro T enc w fuel cs x h hw ρ H hr hF
 obtain⟨s,rfl,rfl,hs⟩:=DataW.trod_string ht h
 refine⟨ρ,H,.string s,s.data.toList,hr,hF,Up.refl ρ,aN.refl H,.cons _ _ _ _ (.string _) .nil,rfl,?_⟩
 have:=hw s.data.toList.length (by simp[DataW.weights])
 exact this
theorem qz{Pg:Program}{T:Type}{e:TypeId}{l:List (DataW T)}{d:DataW T}(hd:d∈l){n:Nat}(hn:n∈d.weights Pg e):n∈DataW.weightsAll Pg e l:=by
 induction l with
 |nil=>simp at hd
 |cons x l ih=>
   simp only[DataW.weightsAll,List.mem_append]
   rcases List.mem_cons.1 hd with rfl|h
   · exact .inl hn
   · exact .inr (ih h)
theorem nz{α T:Type}{enc:TypeId×Value->T}{E:TypeId}{R:aa->Value->α->Prop}{W:α->Prop} [aP R](hE:bP P E R W){fuel:Nat}{C:Nat->List Value}{D:Nat->DataW T×List MemPlace}:
   ∀(len:Nat),(∀i,i<len->DataW.trod enc P w 0 (fun _=>true) true fuel E (C i)=some (D i)/\ ∀n∈(D i).1.weights P E,n<=reachBytes)-> ∀(ρ:ax)(H:aa),ay P ρ H w->bO ρ->
     ∃(ρ':ax)(H':aa)(es:List Value)(ag:List α),ay P ρ' H' w/\bO ρ'/\Up ρ ρ'/\aN H H'/\es.length=len/\ag.length=len/\(∀(i:Nat) e,es[i]?=some e->ah ρ' e.cells.toList (C i))/\
       (∀(i:Nat) a,ag[i]?=some a-> ∃e,es[i]?=some e/\R H' e a)/\ ∀a∈ag,W a
 |0,_,ρ,H,hr,hF=>⟨ρ,H,[],[],hr,hF,Up.refl ρ,aN.refl H,rfl,rfl,by simp,by simp,by simp⟩
 |len+1,h,ρ,H,hr,hF=>by
   obtain⟨ρ1,H1,es,ag,r1,f1,u1,i1,l1,l2,g1,g2,g3⟩:=nz hE len (fun i hi=>h i (by omega)) ρ H hr hF
   obtain⟨t,tw⟩:=h len (by omega)
   obtain⟨ρ2,H2,e,a,r2,f2,u2,i2,v2,q2,w2⟩:=hE enc w fuel _ _ t tw ρ1 H1 r1 f1
   refine⟨ρ2,H2,es++[e],ag++[a],r2,f2,u1.trans u2,i1.trans i2,by simp[l1],by simp[l2],?_,?_,?_⟩
   · intro i e' he'
     by_cases hi:i<es.length
     · rw[List.getElem?_append_left hi]at he'
       exact (g1 i e' he').up u2
     · rw[List.getElem?_append_right (by omega)]at he'
       have hi':i-es.length=0:=by
         rcases Nat.eq_zero_or_pos (i-es.length)with h|h
         · exact h
         · rw[List.getElem?_eq_none (by simp; omega)]at he'; simp at he'
       rw[hi']at he'
       obtain rfl:e=e':=by simpa using he'
       obtain rfl:i=len:=by omega
       exact v2
   · intro i a' ha'
     by_cases hi:i<ag.length
     · rw[List.getElem?_append_left hi]at ha'
       obtain⟨e',he',hq⟩:=g2 i a' ha'
       exact⟨e',by rw[List.getElem?_append_left (by omega)]; exact he',aP.up hq i2⟩
     · rw[List.getElem?_append_right (by omega)]at ha'
       have hi':i-ag.length=0:=by
         rcases Nat.eq_zero_or_pos (i-ag.length)with h|h
         · exact h
         · rw[List.getElem?_eq_none (by simp; omega)]at ha'; simp at ha'
       rw[hi']at ha'
       obtain rfl:a=a':=by simpa using ha'
       exact⟨e,by rw[List.getElem?_append_right (by omega),show i-es.length=0 by omega]; rfl,q2⟩
   · intro a' ha'
     rcases List.mem_append.1 ha' with h|h
     · exact g3 a' h
     · obtain rfl:a'=a:=by simpa using h
       exact w2
theorem bP.slice{α:Type}{t E:TypeId}{R:aa->Value->α->Prop}{W:α->Prop}{s:Nat} [aP R] [Cells R s](ht:P.underlying t=some (.slice E))(hs:P.cellsOf E=s)(h0:0<s)(hb:0<P.bytesOf E)
   (hE:bP P E R W):bP P t (aO E R) (gQ W):=by
 intro T enc w fuel cs x h hw ρ H hr hF
 rcases Deep.open_slice ht h with⟨rfl,rfl⟩|⟨a,len,cap,m,n,D,Pl,rfl,-,hlc,hcm,hm,rfl,hx⟩
 · exact⟨ρ,H,.slice none 0 0,[],hr,hF,Up.refl ρ,aN.refl H,.cons _ _ _ _ .nilSlice .nil,.inl ⟨rfl,rfl⟩,by simp[gQ]⟩
 have hm':m=cap:=by simpa using hm
 subst hm'
 rcases Nat.eq_zero_or_pos len with rfl|hpos
 · refine⟨_,_,.slice (some ⟨H.length,0,none⟩) 0 0,[],hr.dead,hF.dead _,jw hr none,kJ H none,?_,.inr (.inr ⟨_,_,_,rfl,rfl⟩),by simp[gQ]⟩
   exact .cons _ _ _ _ (.sliceDead _ _ _ _ _ _ (aJ _ _ _)) .nil
 have hwl:len*P.bytesOf E<=reachBytes:=by
   have:=hw _ (by simp only[DataW.weights,ht]; exact List.mem_cons_self)
   simp only[List.length_map,List.length_range]at this
   exact Nat.le_trans (Nat.mul_le_mul_right _ (by omega)) this
 have hlen:len<=140737488351232:=by
   have h1:len*1<=len*P.bytesOf E:=Nat.mul_le_mul_left _ hb
   have h2:reachBytes=140737488351232:=rfl
   omega
 have hch:∀i,∃cs',i<len->w.cells? 0 (a.add (i*P.cellsOf E)) (P.cellsOf E)=some cs'/\DataW.trod enc P w 0 (fun _=>true) true n E cs'=some (D i,Pl i):=by
   intro i
   by_cases hi:i<len
   · obtain⟨cs',h1,h2⟩:=hx i (by omega)
     exact⟨cs',fun _=>⟨h1,h2⟩⟩
   · exact⟨[],fun h=>absurd h hi⟩
 obtain⟨C,hC⟩:=Classical.axiomOfChoice hch
 rw[hs]at hC
 obtain⟨ρ1,H1,es,ag,r1,f1,u1,i1,l1,l2,g1,g2,g3⟩:=nz (enc:=enc) (D:=fun i=>(D i,Pl i)) hE len (fun i hi=>⟨(hC i hi).2,fun k hk=>hw k (by
   simp only[DataW.weights,ht]
   refine List.mem_cons_of_mem _ (List.mem_append_left _ (qz (d:=D i) (List.mem_map.2 ⟨i,by simpa using hi,rfl⟩) hk)))⟩) ρ H hr hF
 obtain⟨-,hl0,hc0⟩:=World.cells?_some (hC 0 hpos).1
 have hcell:=hc0 0 h0
 rw[List.getElem?_eq_getElem (by omega)]at hcell
 obtain⟨ab,ao,asp⟩:=a
 have hsp:asp=none:=by simpa[Addr.add]using World.cell?_spot hcell
 subst hsp
 have jI:∃c ct fr,w.heap[ab]?=some (.cells c ct fr):=by
   simp only[World.cell?,Addr.add,Nat.zero_mul,if_true]at hcell
   split at hcell
   · exact⟨_,_,_,by assumption⟩
   · simp at hcell
 obtain⟨c,ct,fr,jI⟩:=jI
 have hadd:∀(o:Nat),Addr.add ⟨ab,ao,none⟩ o=⟨ab,ao+o,none⟩:=by
   intro o
   exact addr_add _ _ _
 have xJ:∀i,i<len->(c.toList.drop (ao+i*s)).take s=C i:=by
   intro i hi
   obtain⟨-,hl,hc⟩:=World.cells?_some (hC i hi).1
   apply List.ext_getElem?
   intro j
   by_cases hj:j<s
   · have:=hc j hj
     rw[hadd,show Addr.add ⟨ab,ao+i*s,none⟩ j=⟨ab,ao+i*s+j,none⟩from addr_add _ _ _,iH jI]at this
     rw[List.getElem?_take_of_lt hj,List.getElem?_drop,←this]
     simp
   · rw[List.getElem?_eq_none (by rw[List.length_take]; omega),List.getElem?_eq_none (by omega)]
 have hbr:dA P ρ1 ⟨ab,ao,s,0,false⟩ ⟨es,E,false,false⟩ w:=by
   refine⟨rfl,hs,c,ct,fr,jI,fun i e he=>?_,by simp⟩
   have hi:i<len:=by
     have:i<es.length:=by
       rcases Nat.lt_or_ge i es.length with h|h
       · exact h
       · simp[List.getElem?_eq_none h]at he
     omega
   obtain⟨e',he',hq⟩:=g2 i _ (List.getElem?_eq_getElem (show i<ag.length by omega))
   rw[he]at he'
   obtain rfl:e=e':=by simpa using he'
   exact⟨(Cells.cells hq).1,by rw[xJ i hi]; exact g1 i e he⟩
 refine⟨_,_,.slice (some ⟨H1.length,0,none⟩) len 0,ag,r1.foreign f1 rfl hbr,f1.foreign rfl _,u1.trans (jw r1 _),i1.trans (kJ _ _),?_,?_,by omega,g3⟩
 · refine .cons _ _ _ _ (.slice _ _ _ _ _ _ _ (aJ _ _ _) hlc (by simp) (by simp) fun _=>⟨?_,by simp⟩) .nil
   simp
 · refine .inr (.inl ⟨H1.length,0,0,⟨es,E,false,false⟩,by rw[l2],by simp,rfl,rfl,by simp[l1,l2],by omega,fun j a ha=>?_⟩)
   obtain⟨e,he,hq⟩:=g2 j a ha
   exact⟨e,by simpa using he,aP.up hq (kJ _ _)⟩
def fieldAt(P:Program) [aj P](t:TypeId)(i:Nat):Option (TypeId×Nat×Nat):=
 match P.underlying t with
 |some (.struct fs)=>(fs[i]?).map fun f=>(f.type,f.offset,P.cellsOf f.type)
 |_=>none
theorem mF{t ft:TypeId}{i o s:Nat}(h:fieldAt P t i=some (ft,o,s)):∃fs f,P.underlying t=some (.struct fs)/\fs[i]?=some f/\f.type=ft/\f.offset=o/\P.cellsOf ft=s:=by
 unfold fieldAt at h
 split at h
 · rename_i fs hfs
   obtain⟨f,hf,he⟩:=Option.map_eq_some_iff.1 h
   injection he with e1 e2
   injection e2 with e2 e3
   exact⟨fs,f,hfs,hf,e1,e2,by rw[←e1]; exact e3⟩
 · simp at h
theorem mU{α T:Type}{enc:TypeId×Value->T}{t ft:TypeId}{i o s fuel:Nat}{R:aa->Value->α->Prop}{W:α->Prop}{cs:List Value}{x:DataW T×List MemPlace}
   (hi:fieldAt P t i=some (ft,o,s)) (h:DataW.trod enc P w 0 (fun _=>true) true fuel t cs=some x) (hw:∀n∈x.1.weights P t,n<=reachBytes) (hE:bP P ft R W) (hr:ay P ρ H w) (hF:bO ρ):
   ∃(ρ':ax)(H':aa)(av:Value)(a:α),ay P ρ' H' w/\bO ρ'/\Up ρ ρ'/\aN H H'/\ah ρ' av.cells.toList ((cs.drop o).take s)/\R H' av a/\W a:=by
 obtain⟨fs,f,hfs,hf,rfl,rfl,rfl⟩:=mF hi
 obtain⟨xs,n,rfl,rfl,hl,hxl,hx⟩:=DataW.trod_struct hfs h
 have hlt:i<fs.size:=(Array.getElem?_eq_some_iff.1 hf).1
 have hxi:xs[i]?=some xs[i]:=List.getElem?_eq_getElem (by omega)
 have ht:=hx i f hf
 rw[hxi]at ht
 refine hE enc w n _ _ ht (fun k hk=>hw k ?_) ρ H hr hF
 simp only[DataW.weights,hfs]
 exact DataW.weights_mem_each (j:=i) (t:=f.type) (d:=(xs[i]).1) (by simp[hf]) (by simp[hxi]) k hk
theorem tu{T:Type}{enc:TypeId×Value->T}{t ft:TypeId}{o s fuel n:Nat}{cs:List Value}{x:DataW T×List MemPlace}
   (hi:fieldAt P t 0=some (ft,o,s)) (h:DataW.trod enc P w 0 (fun _=>true) true fuel t cs=some x) (hn:P.cellsOf t=n):cs.length=n:=by
 obtain⟨fs,f,hfs,-⟩:=mF hi
 obtain⟨xs,n,rfl,rfl,hl,-⟩:=DataW.trod_struct hfs h
 rw[hl,hn]
theorem ah.field{l l' cs:List Value}{o s:Nat}(h:ah ρ l ((cs.drop o).take s))(h':ah ρ l' (cs.drop (o+s))):ah ρ (l++l') (cs.drop o):=by
 have:=h.append h'
 rwa [←List.drop_drop,List.take_append_drop]at this
theorem ah.one{v:Value}{l:List Value}(h:ah ρ v.cells.toList l)(hv:Value.cells v= #[v]):ah ρ [v] l:=by rw[hv]at h; exact h
theorem ah.end{cs:List Value}{o:Nat}(h:cs.length=o):ah ρ [] (cs.drop o):=by
 rw[List.drop_of_length_le (by omega)]; exact .nil
def dP:Value->Bool
 | .agg _=>true
 |_=>false
def jJ(P:Program) [aj P](t:TypeId):Bool:=
 match P.underlying t with
 |some (.struct _)|some (.array _ _)=>true
 |_=>false
theorem qZ{r:Reach}{base:Nat}{t:TypeId}{v:Value}(h:Value.okWide P w r base t v):dP v=jJ P t:=by
 unfold Value.okWide at h
 unfold jJ
 split at h
 · obtain⟨cs,rfl,-⟩:=h; simp_all [dP]
 · obtain⟨cs,rfl,-⟩:=h; simp_all [dP]
 · rename_i h1 h2
   have:dP v=false:=by
     cases v with
     |agg l=>unfold Cell.okWide at h; split at h<;>simp_all [Cell.ok]
     |_=>rfl
   rw[this]
   split<;>simp_all
theorem ak.of_cells{av v:Value}(h:ah ρ av.cells.toList v.cells.toList)(hs:dP v=dP av):ak ρ av v:=by
 cases av with
 |agg l'=>
   cases v with
   |agg l=>have:=ak.agg _ _ h; simpa[Value.cells]using this
   |_=>simp[dP]at hs
 |_=>
   cases v with
   |agg l=>simp[dP]at hs
   |_=>cases h with|cons _ _ _ _ h _=>exact h
theorem tC{α T:Type}{enc:TypeId×Value->T}{t:TypeId}{ts:List TypeId}{R:aa->Value->α->Prop}{W:α->Prop}{vs:List Value}{ds:List (DataW T)}{ps:List MemPlace}
   (h:DataW.TrodAll enc P w 0 (fun _=>true) true (t::ts) vs ds ps) (hw:∀n∈DataW.weightsEach P (t::ts) ds,n<=reachBytes) (hE:bP P t R W) (hsh:∀H v a,R H v a->dP v=jJ P t) {r:Reach} {base:Nat} (hok:∀v,vs[0]?=some v->Value.okWide P w r base t v) (hr:ay P ρ H w) (hF:bO ρ):
   ∃(v:Value)(vs':List Value)(d:DataW T)(ds':List (DataW T))(q:List MemPlace)(ρ':ax)(H':aa)(av:Value)(a:α),vs=v::vs'/\ds=d::ds'/\DataW.TrodAll enc P w 0 (fun _=>true) true ts vs' ds' q/\
     (∀n∈DataW.weightsEach P ts ds',n<=reachBytes)/\ay P ρ' H' w/\bO ρ'/\Up ρ ρ'/\aN H H'/\ak ρ' av v/\R H' av a/\W a:=by
 cases vs with
 |nil=>cases ds<;>exact h.elim
 |cons v vs=>
   cases ds with
   |nil=>exact h.elim
   |cons d ds=>
     obtain⟨p,q,⟨fuel,h1⟩,h2,rfl⟩:=h
     obtain⟨ρ',H',av,a,g1,g2,g3,g4,g5,g6,g7⟩:=hE enc w fuel _ _ h1 (fun n hn=>hw n (by simp only[DataW.weightsEach,List.mem_append]; exact .inl hn)) ρ H hr hF
     exact⟨v,vs,d,ds,q,ρ',H',av,a,rfl,rfl,h2,fun n hn=>hw n (by simp only[DataW.weightsEach,List.mem_append]; exact .inr hn),g1,g2,g3,g4,.of_cells g5 (by rw[hsh _ _ _ g6,qZ (hok v rfl)]),g6,g7⟩
theorem ui{args:Array Value}{i:Nat}{v:Value}(h:args.toList[i]?=some v):args[i]?=some v:=by simpa using h
theorem sj{Pg:Program}{T:Type}{enc:TypeId×Value->T}{vs:List Value}{ds:List (DataW T)}{ps:List MemPlace}(h:DataW.TrodAll enc Pg w 0 (fun _=>true) true [] vs ds ps):vs=[]/\ds=[]:=by
 cases vs<;>cases ds<;>first|exact⟨rfl,rfl⟩|exact h.elim
end
end Go.Fw
/-
 Small rules for the generator.
-/
set_option linter.unusedVariables false
namespace Go.Fw
open Go
section
variable{P:Program} [aj P]{n:Nat}{f:Fr}{H:aa}{d:Option Tmp}{x y z:Operand}{T T' T'' E:TypeId}{ps:String}{af:Array Edge}{gd:Option (Nat×Bool)}
theorem kz{g:Bool}{s b:Nat}{zv:Value}(ht:TY P T s b zv)(hv:zv.cells.size=s)(hc:fK zv=true):dK P n ⟨d,.alloc T,T',ps,af,gd⟩ f (fun k=>.pointer (some ⟨k,0,some 0⟩)) ⟨[zv],T,true,g⟩:=by
 obtain⟨i,hi,-,-,hz⟩:=ht.inv
 exact sS hi hz ht.sz hv hc
theorem mo{g:Bool}{s b':Nat}{zv:Value}{len:Nat}{parts:List (Nat×Operand)}{vs:List Value}(hT:SL P T E)(ht:TY P E s b' zv)(hxs:bB n f (parts.map (·.2)) vs)
   (hidx:parts.map (·.1)=List.range' 0 parts.length) (hlen:len=parts.length) (hbig:Nat.ble (len*s) (2 ^ 24)=true) (hv:∀v∈vs,v.cells.size=s):
   dK P n ⟨d,.buildSlice T len parts.toArray,T',ps,af,gd⟩ f (fun k=>.slice (some ⟨k,0,none⟩) len 1) ⟨vs,E,true,g⟩:=by
 obtain⟨iE,fu,h1,h2,h3⟩:=ht.inv
 exact qG hT ht.sz fu h3 hxs hidx hlen hbig hv
theorem fJ{s t u:List UInt8}(hx:EV n f x (sv s))(hy:EV n f y (sv t))(h:bG s t=some u):aH P n ⟨d,.binOp .add T x y T',T'',ps,af,none⟩ f H (sv u):=by
 obtain⟨rfl,hl⟩:=eT h
 exact rV hx hy hl
theorem tF{o:Oper}{base pre:List ae}{ι:Type}{val:ι->Value}{post:ι->List ae}(hp:base.Perm pre)(hx:XC P n o f pre val post):XC P n o f base val post:=by
 intro H hc ρ w a K' Q' hr hf hk
 have hm:∀k,k∈foot pre↔k∈foot base:=fun k=>(hp.flatMap_right ae.F).symm.mem_iff
 have hc2:Ctx H (foot pre) H pre:=by
   have h:=hc.perm hp
   exact⟨h.len,h.imm,fun _ _ _=>rfl,h.hold,h.nd,fun k hk=>⟨.inl hk,(h.own k hk).2⟩⟩
 refine hx H hc2 ρ w a K' Q' hr hf fun f' ρ' H' a' w' h1 h2 h3 h4=>?_
 obtain⟨x,e,h5⟩:=h4
 refine hk f' ρ' H' a' w' h1 h2 h3 ⟨x,e,h5.len,h5.imm,fun k hk hn=>h5.agr k hk (fun h=>hn ((hm k).1 h)),h5.hold,h5.nd,fun k hk=>⟨?_,(h5.own k hk).2⟩⟩
 exact (h5.own k hk).1.imp (hm k).1 id
inductive gT:List ae->List ae->List ae->Prop
 |nil {pre:List ae}:gT [] pre pre
 |cons {c c':ae} {cs pre base:List ae} [iP c] (h:jG c c') (t:gT cs (c'::pre) base):gT (c::cs) pre base
theorem gT.loc{cl pre base post:List ae}(h:gT cl pre base)(hl:dX post):dX (cl++post):=by
 induction h with
 |nil=>exact hl
 |cons _ _ ih=>exact .cons ih
theorem tH{o:Oper}{cl pre base:List ae}{ι:Type}{val:ι->Value}{post:ι->List ae}(hf:gT cl pre base)(hl:∀x,dX (post x))(hx:XC P n o f base val post):XC P n o f (cl++pre) val (fun x=>cl++post x):=by
 induction hf with
 |nil=>exact hx
 |cons h t ih=>exact kV h (fun x=>t.loc (hl x)) (tF List.perm_middle.symm (ih hx))
end
end Go.Fw
namespace Go.Fw
open Go
theorem Ctx.start(H:aa):Ctx H [] H []:=⟨Nat.le_refl _,aN.refl _,fun _ _ _=>rfl,fun c hc=>by simp at hc,by simp,fun k hk=>by simp at hk⟩
end Go.Fw
/-
 Parts of elements of our own slices: loaded, stored, handed to a callee that turns them.
-/
set_option linter.unusedVariables false
namespace Go.Fw
open Go
theorem rE{ρ:ax}{c:Value}(h:ak ρ undef c):c=undef:=by
 generalize hx:undef=x at h
 cases h with
 |tuple a a' h=>
   have:a=[]:=by
     have e:(undef:Value)= .tuple #[]:=rfl
     rw[e]at hx
     injection hx with hx
     have:=congrArg Array.toList hx
     simpa using this.symm
   subst this
   cases h
   rfl
 |_=>simp[undef]at hx
theorem mq{n:Nat}{A:Array Oper}{f:Fr}{o:Oper}{j:Nat}{want:Bool}{t:Tmp}(h:o.guard=some (j,want))(hd:(A[j]?).bind (·.dst)=some t)(hv:f t=undef)(ht:Nat.blt t n=true):Wanted n A f o false:=by
 intro ρ a hf
 have hlt:t<n:=by simpa[Nat.blt_eq]using ht
 have hr:=hf.get t hlt
 rw[hv]at hr
 have hlt':t<a.tmps.size:=by rw[hf.size]; exact hlt
 have hg:a.tmps[t]?=some (a.tmps.getD t undef):=by
   simp[Array.getD_eq_getD_getElem?,hlt']
 rw[rE hr]at hg
 simp[Region.wanted,h,yielded,hd,hg,undef]
section
variable{P:Program} [aj P]{n:Nat}{H0:aa}{F0:List Nat}{f:Fr}{cs:List ae}{A:Array Oper}{r:List Oper}{K:Fr->List ae->Prop}{d:Option Tmp}{op:Op}{T T' E:TypeId}{ps:String}{af:Array Edge}{gd:Option (Nat×Bool)}{x y:Operand}
variable{l:List Oper}{tb ag todo:List Nat}{fl:List (Nat×List Nat)}{i:Nat}
theorem uj{j:Nat}{t:Tmp}{b:Bool}(hd:(A[j]?).bind (·.dst)=some t)(hv:f t=undef)(ht:Nat.blt t n=true)(h:ai P n H0 F0 A r (put f d undef) cs K):
   ai P n H0 F0 A (⟨d,op,T,ps,af,some (j,b)⟩::r) f cs K:=fun H hc=>mK (mq rfl hd hv ht) (h H hc)
theorem uk(t:Tmp){j:Nat}{b:Bool}(ho:l[i]?=some ⟨d,op,T,ps,af,some (j,b)⟩)(h1:(l[j]?).bind (·.dst)=some t)(h2:f t=undef)(h3:Nat.blt t n=true)(h:DC P n l tb ag H0 F0 K todo fl (put f d undef) cs):
   DC P n l tb ag H0 F0 K (i::todo) fl f cs:=
 fun H hc=>.flt (Ks:=[]) ho (.inr ⟨rfl,fun f' ha=>by
   have hv:f' t=undef:=(ha t (kg h1)).trans h2
   exact mq (o:=⟨d,op,T,ps,af,some (j,b)⟩) rfl (by simpa using h1) hv h3⟩) ((h H hc).cov fun p hp=>by
   rcases List.mem_cons.1 hp with h|h
   · exact .inr (by rw[h])
   · exact .inl h)
variable{α β:Type}{Ro:aQ α}{Rf:aQ β}
structure Part(Ro:aQ α)(off:Nat)(Rf:aQ β)(get:α->β)(set:α->β->α):Prop where
 split:∀{F:List Nat}{H:aa}{e:Value}{a:α},Ro F H e a-> ∃(w:Sv)(Fa Fw Fb:List Nat),e.cells.toList[off]?=some w.v/\F=Fa++Fw++Fb/\Rf Fw H w.v (get a)/\
   ∀{H':aa}{pI:List Nat}{d':β},aN H H'->(∀k,k∈Fa\/k∈Fb->H'[k]?=H[k]?)->Rf pI H' w.v d'->Ro (Fa++pI++Fb) H' e (set a d')
def vW(E:TypeId)(Ro:aQ α)(i off:Nat)(w:Value):aQ (List α):=fun F H v xs=>aD E Ro F H v xs/\ ∃k b e,F.head?=some k/\cu v=some k/\H[k]?=some (some b)/\b.elems[i]?=some e/\e.cells.toList[off]?=some w
instance{i off:Nat}{w:Value} [bA Ro]:bA (vW E Ro i off w):=⟨fun{F H H' v a} h hi hk=>by
 obtain⟨h1,k,b,e,h0,h2,h3,h4,h5⟩:=h
 refine⟨bA.keep h1 hi hk,k,b,e,h0,h2,(hk k ?_).trans h3,h4,h5⟩
 cases F with
 |nil=>simp at h0
 |cons q F=>simp at h0; subst h0; simp⟩
theorem aD.head{F:List Nat}{H:aa}{v:Value}{xs:List α}{k:Nat}(h:aD E Ro F H v xs)(hk:cu v=some k):F.head?=some k/\ ∃m b G,v= .slice (some ⟨k,0,none⟩) xs.length m/\(m=1\/m=2)/\H[k]?=some (some b)/\b.wr=true/\b.own=true/\b.ty=E/\xs.length<4611686018427387904/\F=k::G/\aI Ro H b.elems xs G:=by
 rcases h with⟨rfl,-,-⟩|⟨k',m,b,G,rfl,h2,h3,h4,h5,h6,h7,rfl,h9⟩
 · simp[cu]at hk
 · have e:k'=k:=by simpa[cu]using hk
   subst e
   exact⟨rfl,m,b,G,rfl,h2,h3,h4,h5,h6,h7,rfl,h9⟩
theorem jg{H:aa}{k s:Nat}{ow w:Bool}{TB:TypeId}{l:List Value}{f:Fr}(hA:AG P T true)(hs:SZ P T s)(h0:Nat.blt 0 s=true)(hx:EV n f x (.pointer (some ⟨k,0,some 0⟩)))(hk:H[k]?=some (some ⟨[.agg l.toArray],TB,ow,w⟩))(hl:l.length=s):
   aH P n ⟨d,.load T x,T',ps,af,none⟩ f H (.agg l.toArray):=
 kE (e:=.agg l.toArray) hA hs hx hk rfl (by simpa[Nat.blt_eq]using h0) (by simp[Value.cells,hl]) (by subst hl; simp[Value.cells])
variable{T'':TypeId}
end
end Go.Fw
/-
 Plain laws on the helpers that laws use: copies, sizes, comparisons.
-/
namespace Go.Fw
open Go
theorem um{α:Type}(l:List α)(k:Nat):ix l (k:Int)=l[k]?:=by simp[ix]
theorem tJ{α:Type}(n:Nat)(z:α)(h:n<4294967296):fZ (n:Int) z=some (List.replicate n z):=by
 unfold fZ
 rw[if_pos (by omega)]
 simp
theorem su{α:Type}{l:List α}{k:Nat}{x:α}{r:List α}(h:l.drop k=x::r):l[k]?=some x/\l.drop (k+1)=r:=by
 have hlt:k<l.length:=by
   rcases Nat.lt_or_ge k l.length with h'|h'
   · exact h'
   · rw[List.drop_of_length_le h']at h; simp at h
 rw[List.drop_eq_getElem_cons hlt]at h
 injection h with h1 h2
 exact⟨by rw[List.getElem?_eq_getElem hlt,h1],h2⟩
theorem nL{α:Type}{L:List α->Nat->List α->Option (List α)}(h0:∀k c,L [] k c=some c){W:α->Prop}(h1:∀x r k c,W x->k<c.length->L (x::r) k c=L r (k+1) (c.set k x)):
   ∀(rest:List α)(k:Nat)(c:List α),(∀x∈rest,W x)->k+rest.length<=c.length->L rest k c=some (c.take k++rest++c.drop (k+rest.length))
 |[],k,c,_,_=>by rw[h0]; simp
 |x::r,k,c,hw,hl=>by
   simp only[List.length_cons]at hl
   rw[h1 x r k c (hw x (by simp)) (by omega),nL h0 h1 r (k+1) _ (fun y hy=>hw y (by simp[hy])) (by simp; omega)]
   have hk:k<c.length:=by omega
   congr 1
   rw[List.take_succ_eq_append_getElem (by simpa using hk)]
   simp only[List.getElem_set_self,List.take_set_of_le (Nat.le_refl k)]
   rw[List.drop_set_of_lt (by omega)]
   simp[Nat.add_assoc,Nat.add_comm 1]
theorem uo{α:Type}{L:List α->Nat->List α->Option (List α)}(h0:∀k c,L [] k c=some c){W:α->Prop}(h1:∀x r k c,W x->k<c.length->L (x::r) k c=L r (k+1) (c.set k x)){a:List α}{z:α}(hw:∀x∈a,W x):
   L a 0 (List.replicate a.length z)=some a:=by
 rw[nL h0 h1 a 0 _ hw (by simp)]
 simp
def Sz{α:Type}(f:α->Int->Option Int)(tot:α->Nat)(W:α->Prop):Prop:=
 ∀a,W a-> ∀left:Int,0<=left->left<=1048576-> ∃n,f a left=some n/\(n=left-tot a/\0<=n\/n<0)
theorem nM{α:Type}{L:List α->Nat->Int->Option Int}{f:α->Int->Option Int}{tot:α->Nat}{W:α->Prop}(hf:Sz f tot W)(h0:∀k c,L [] k c=some c)
   (h1:∀x r k c,L (x::r) k c=(f x c).bind fun n=>if decide ((n:Int)<0)then some (-1)else L r (k+1) n):
   ∀(rest:List α)(k:Nat)(left:Int),(∀x∈rest,W x)->0<=left->left<=1048576-> ∃n,L rest k left=some n/\(n=left-((rest.map tot).sum:Nat)/\0<=n\/n<0)
 |[],k,left,_,hl,_=>⟨left,h0 k left,.inl ⟨by simp,hl⟩⟩
 |x::r,k,left,hw,hl,hm=>by
   obtain⟨n,e,h⟩:=hf x (hw x (by simp)) left hl hm
   rw[h1,e,Option.bind_some]
   rcases h with⟨rfl,hn⟩|hn
   · rw[if_neg (by simp; omega)]
     obtain⟨m,e2,h2⟩:=nM hf h0 h1 r (k+1) _ (fun y hy=>hw y (by simp[hy])) hn (by omega)
     refine⟨m,e2,h2.imp (fun ⟨a,b⟩=>⟨?_,b⟩) id⟩
     rw[a]; simp only[List.map_cons,List.sum_cons]; omega
   · rw[if_pos (by simpa using hn)]
     exact⟨-1,rfl,.inr (by omega)⟩
theorem sw{α:Type}{S:List α->Int->Option Int}{L:List α->Nat->Int->Option Int}{f:α->Int->Option Int}{tot:α->Nat}{W:α->Prop}(hf:Sz f tot W)(h0:∀k c,L [] k c=some c)
   (h1:∀x r k c,L (x::r) k c=(f x c).bind fun n=>if decide ((n:Int)<0)then some (-1)else L r (k+1) n)
   (hS:∀a left,S a left=if decide ((IntKind.i64.wrap (left-(a.length:Int)):Int)<0)then some (-1)else L a 0 (IntKind.i64.wrap (left-(a.length:Int)))):
   Sz S (fun a=>a.length+(a.map tot).sum) (gQ W):=by
 intro a ⟨hlen,hw⟩ left hl hm
 rw[hS,jk (by omega) (by omega)]
 by_cases h:left-(a.length:Int)<0
 · rw[if_pos (by simpa using h)]; exact⟨-1,rfl,.inr (by omega)⟩
 · rw[if_neg (by simpa using h)]
   obtain⟨n,e,h2⟩:=nM hf h0 h1 a 0 (left-(a.length:Int)) hw (by omega) (by omega)
   refine⟨n,e,h2.imp (fun ⟨p,q⟩=>⟨?_,q⟩) id⟩
   rw[p]; simp only[Int.natCast_add]; omega
theorem nN{α:Type}{L:List α->Nat->Option Bool}(b:List α)(h0:∀k,L [] k=some true)(h1:∀x r k,b[k]?=some x->L (x::r) k=L r (k+1)):
   ∀(rest:List α)(k:Nat),b.drop k=rest->L rest k=some true
 |[],k,_=>h0 k
 |x::r,k,h=>by
   obtain⟨e1,e2⟩:=su h
   rw[h1 x r k e1]
   exact nN b h0 h1 r (k+1) e2
abbrev vX{α:Type}(f:α->Nat)(a:List α):Nat:=a.length+(a.map f).sum
def lU{α:Type}(p:α->Prop)(a:List α):Prop:=a.length<4294967296/\ ∀x∈a,p x
theorem sD{α:Type}{p:α->Prop}{z:α}{S:List α->Option (List α)}{L:List α->Nat->List α->Option (List α)}(hS:∀a,S a=(fZ (a.length:Int) z).bind fun z=>L a 0 z)(h0:∀k c,L [] k c=some c)
   (h1:∀x r k c,p x->k<c.length->L (x::r) k c=L r (k+1) (c.set k x)) (a:List α) (h:lU p a):S a=some a:=by
 rw[hS,tJ _ _ h.1,Option.bind_some]
 exact uo h0 h1 h.2
theorem sF{α:Type}{S:List α->List α->Option Bool}{L:List α->List α->Nat->Option Bool}(hS:∀a b,S a b=if (((a.length:Int):Int)!=(b.length:Int))then some false else L b a 0)(h0:∀b k,L b [] k=some true)
   (h1:∀b x r k,b[k]?=some x->L b (x::r) k=L b r (k+1)) (a:List α):S a a=some true:=by
 rw[hS]
 simp only[bne_self_eq_false,Bool.false_eq_true,if_false]
 exact nN a (h0 a) (h1 a) a 0 rfl
theorem uq{α:Type}{xs ys:List α}(h:xs.length+ys.length<4294967296):app xs ys=some (xs++ys):=by unfold app; rw[if_pos h]
end Go.Fw
/-
 Slice expressions on our own slices; clear; elements that keep their identity; a function that only moves elements, over deep data.
-/
set_option linter.unusedVariables false
namespace Go.Fw
open Go
section
variable{P:Program} [aj P]{n:Nat}{f:Fr}{H0:aa}{F0:List Nat}{cs:List ae}{A:Array Oper}{r:List Oper}{K:Fr->List ae->Prop}{d:Option Tmp}{x y z:Operand}{T T' E:TypeId}{ps:String}{af:Array Edge}{gd:Option (Nat×Bool)}
variable{α:Type}{R:aa->Value->α->Prop}{xs:List α}{v:Value}
end
def rq{α:Type}(R:aa->Value->α->Prop)(H:aa)(e:Value)(q:Value×α):Prop:=e=q.1/\R H e q.2
instance{α:Type}{R:aa->Value->α->Prop} [aP R]:aP (rq R):=⟨fun h hi=>⟨h.1,aP.up h.2 hi⟩⟩
instance{α:Type}{R:aa->Value->α->Prop}{s:Nat} [Cells R s]:Cells (rq R) s:=⟨fun h=>Cells.cells h.2⟩
def xK{α:Type}(_:aa)(e:Value)(q:Value×α):Prop:=e=q.1
instance{α:Type}:Pure (xK (α:=α)):=⟨fun h=>h⟩
section
variable{α:Type}{R:aa->Value->α->Prop}{Ro:aQ α}{E:TypeId}
theorem aI.map{β:Type}{R1 R2:aQ β}{H:aa}(hm:∀F e a,R1 F H e a->R2 F H e a){es:List Value}{xs:List β}{G:List Nat}(h:aI R1 H es xs G):aI R2 H es xs G:=by
 induction h with
 |nil=>exact .nil
 |cons h _ ih=>exact .cons (hm _ _ _ h) ih
theorem aD.map{β:Type}{R1 R2:aQ β}{F:List Nat}{H:aa}{v:Value}{xs:List β}(hm:∀F e a,R1 F H e a->R2 F H e a)(h:aD E R1 F H v xs):aD E R2 F H v xs:=by
 rcases h with h|⟨k,m,b,G,h1,h2,h3,h4,h5,h6,h7,h8,h9⟩
 · exact .inl h
 · exact .inr ⟨k,m,b,G,h1,h2,h3,h4,h5,h6,h7,h8,h9.map hm⟩
theorem aI.sub{H:aa}{es:List Value}{xs:List α}{G:List Nat}(h:aI Ro H es xs G):∀{sel:List (Value×α)},sel.Sublist (es.zip xs)-> ∃G',G'.Sublist G/\aI Ro H (sel.map Prod.fst) (sel.map Prod.snd) G':=by
 induction h with
 |nil=>intro sel hs; simp at hs; subst hs; exact⟨[],.slnil,.nil⟩
 | @cons e es a xs F G h t ih=>
   intro sel hs
   rw[List.zip_cons_cons]at hs
   cases hs with
   |cons _ hs=>
     obtain⟨G',h1,h2⟩:=ih hs
     exact⟨G',h1.trans (List.sublist_append_right _ _),h2⟩
   |cons_cons _ hs=>
     obtain⟨G',h1,h2⟩:=ih hs
     exact⟨F++G',(List.Sublist.refl _).append h1,.cons h h2⟩
end
structure iR{β:Type}(p:β->Bool)(qs cur:List β)(i j:Nat):Prop where
 len:cur.length=qs.length
 lt:i<j
 le:j<=qs.length
 tk:cur.take i=(qs.take j).filter fun a=>!p a
 dr:cur.drop j=qs.drop j
section
variable{β:Type}{p:β->Bool}{qs cur:List β}{i j:Nat}{x:β}
theorem qj(hx:qs[j]?=some x):(qs.take (j+1)).filter (fun a=>!p a)=(qs.take j).filter (fun a=>!p a)++(if p x then []else [x]):=by
 have hlt:j<qs.length:=by
   rcases Nat.lt_or_ge j qs.length with h|h
   · exact h
   · simp[List.getElem?_eq_none h]at hx
 rw[List.take_succ_eq_append_getElem hlt,List.filter_append]
 rw[List.getElem?_eq_getElem hlt]at hx
 obtain rfl:=Option.some.inj hx
 cases hp:p qs[j]<;>simp[hp]
theorem iR.at(h:iR p qs cur i j)(hj:j<qs.length):∃x,cur[j]?=some x/\qs[j]?=some x:=by
 refine⟨qs[j],?_,List.getElem?_eq_getElem hj⟩
 have:=congrArg (fun l:List β=>l[0]?) h.dr
 simpa[List.getElem?_eq_getElem hj]using this
theorem iR.no(h:iR p qs cur i j)(hx:qs[j]?=some x)(hp:p x=false):iR p qs (cur.set i x) (i+1) (j+1):=by
 have hlt:j<qs.length:=jd hx
 have hi:i<cur.length:=by have:=h.lt; have:=h.len; omega
 refine⟨by simpa using h.len,by have:=h.lt; omega,hlt,?_,?_⟩
 · rw[qj hx,←h.tk,hp,List.take_succ_eq_append_getElem (by simpa using hi)]
   simp[List.take_set_of_le]
 · rw[List.drop_set_of_lt (by have:=h.lt; omega),←List.drop_drop,h.dr,List.drop_drop]
end
section
variable{P:Program} [aj P]{n:Nat}{f:Fr}{H0:aa}{F0:List Nat}{cs:List ae}{A:Array Oper}{r:List Oper}{K:Fr->List ae->Prop}{d:Option Tmp}{x y z:Operand}{T T' E:TypeId}{ps:String}{af:Array Edge}{gd:Option (Nat×Bool)}
variable{α:Type}{R:aa->Value->α->Prop}{yU:aQ α}{xs:List α}{v:Value}
end
section
variable{P:Program} [aj P]{n:Nat}{f:Fr}{H0:aa}{F0:List Nat}{cs:List ae}{A:Array Oper}{r:List Oper}{K:Fr->List ae->Prop}{d:Option Tmp}{T:TypeId}{ps:String}{af:Array Edge}{gd:Option (Nat×Bool)}{t:Tmp}
variable{l:List Oper}{tb ag todo:List Nat}{fl:List (Nat×List Nat)}{i:Nat}
theorem Cm(v:Value)(hv:f t=v)(ht:Nat.blt t n=true)(h:ai P n H0 F0 A r (put f d v) cs K):ai P n H0 F0 A (⟨d,.move (.tmp t),T,ps,af,none⟩::r) f cs K:=aC (iJ (.tmp hv ht)) h
theorem Ca(v:Value)(hv:f t=v)(ht:Nat.blt t n=true)(h:ai P n H0 F0 A r (put f d v) cs K):ai P n H0 F0 A (⟨d,.assign (.tmp t),T,ps,af,none⟩::r) f cs K:=aC (dL (.tmp hv ht)) h
theorem Dm(v:Value)(ho:l[i]?=some ⟨d,.move (.tmp t),T,ps,af,none⟩)(hv:f t=v)(ht:Nat.blt t n=true)(hn:aM (.tmp t) (aF l ⟨d,.move (.tmp t),T,ps,af,none⟩)=true)(h:DC P n l tb ag H0 F0 K todo fl (put f d v) cs):DC P n l tb ag H0 F0 K (i::todo) fl f cs:=
 aU ho .no (fun ha=>iJ (EN ha (.tmp hv ht) hn)) h
theorem Da(v:Value)(ho:l[i]?=some ⟨d,.assign (.tmp t),T,ps,af,none⟩)(hv:f t=v)(ht:Nat.blt t n=true)(hn:aM (.tmp t) (aF l ⟨d,.assign (.tmp t),T,ps,af,none⟩)=true)(h:DC P n l tb ag H0 F0 K todo fl (put f d v) cs):DC P n l tb ag H0 F0 K (i::todo) fl f cs:=
 aU ho .no (fun ha=>dL (EN ha (.tmp hv ht) hn)) h
end
end Go.Fw
/-
 A slice of our own keeps its array, and its elements turn no more. No conditions.
-/
set_option linter.unusedVariables false
namespace Go.Fw
open Go
section
variable{α:Type}{Ro:aQ α}{R':aa->Value->α->Prop}{E:TypeId}{H0:aa}{F0:List Nat}{cs rest cs2:List ae}{F:List Nat}{v:Value}{xs:List α}
variable{P:Program} [aj P]{n:Nat}{f:Fr}{c1:Code}{Q:Exit->Fr->List ae->Prop}
end
end Go.Fw
/-
 strings.Builder: append of a string to bytes of our own; a pointer to the builder itself; unsafe.SliceData, unsafe.String.  No conditions.
-/
set_option linter.unusedVariables false
namespace Go.Fw
open Go
def bg(ys:List UInt8):List Value:=ys.map fun u=>.int .u8 (u.toNat:Int)
theorem kK(ys:List UInt8):(bg ys).length=ys.length:=by simp[bg]
theorem rF{s:Nat}(hs:s=1)(ys:List UInt8):∀e∈bg ys,e.cells.size=s:=by
 intro e he
 obtain⟨u,-,rfl⟩:=List.mem_map.1 he
 rw[hs]; rfl
theorem nA(ys:List UInt8):flat (bg ys)=bg ys:=by
 induction ys with
 |nil=>rfl
 |cons u r ih=>
   show (Value.cells _).toList++flat (bg r)=_
   rw[ih]; rfl
theorem rG{P:Program}(s:Nat)(ys:List UInt8)(w:World):(Builtin.firstCells s (bg ys).length (Value.string ⟨ys.toArray⟩)).run P w= .ok (bg ys).toArray w:=by
 rw[kK]
 have h:(⟨ys.toArray⟩:ByteArray).extract 0 ys.length=⟨ys.toArray⟩:=by rw[qX]; simp
 simp only[Builtin.firstCells,h]
 simp[bg]
theorem nO(ρ:ax):∀ys:List UInt8,ah ρ (flat (bg ys)) (bg ys).toArray.toList
 |[]=>.nil
 |u::r=>by
   have:=nO ρ r
   rw[nA]at this ⊢
   exact .cons _ _ _ _ (.int _ _) this
theorem sG(ys:List UInt8):(flat (bg ys)).all scal=true:=by
 rw[nA]
 refine List.all_eq_true.2 fun q hq=>?_
 obtain⟨u,-,rfl⟩:=List.mem_map.1 hq
 rfl
theorem nP{H:aa}:∀ys:List UInt8,aI (aR bu) H (bg ys) ys []
 |[]=>.nil
 |u::r=>by
   have:=aI.cons (H:=H) (F:=[]) (G:=[]) (Ro:=aR bu) (e:=.int .u8 (u.toNat:Int)) (a:=u) ⟨rfl,rfl⟩ (nP r)
   simpa[bg]using this
theorem aI.append_nilG{α:Type}{Ro:aQ α}{H:aa}{es es':List Value}{xs xs':List α}{F:List Nat}(h:aI Ro H es xs F)(h':aI Ro H es' xs' []):aI Ro H (es++es') (xs++xs') F:=by
 have:=h.append h'
 rwa [List.append_nil]at this
section
variable{P:Program} [aj P]{n:Nat}{f:Fr}{H:aa}{A:Array Oper}{r:List Oper}{K:Fr->aa->Prop}{d:Option Tmp}{x y z:Operand}{T T' T'' T2 E:TypeId}{ps:String}{af:Array Edge}
theorem rH{gd:Option (Nat×Bool)}{s by':Nat}{v zv:Value}{iE:TypeInfo}{old:List Value}{ys:List UInt8}{ts:List TypeId}(hT:SL P T E)(hu2:P.underlying T2=some .string)(hs:SZ P E s)(h0:0<s)(fu:P.info? E=some iE)(hzv:iE.zero=some zv)(hzs:zv.cells.size=s)(hby:iE.bytes=by')
   (hx:EV n f x v) (hy:EV n f y (sv ys)) (hr:Reads H E v old) (hg:oH H v) (hs1:s=1) (hne:ys≠[])
   (hroom:(2*(old.length+(bg ys).length)+1024)*by'<=2 ^ 48) (yl:old.length+(bg ys).length<2 ^ 62)
   (h:K (put f d (.slice (some ⟨H.length,0,none⟩) (old.length+(bg ys).length) 2)) (dF H v++[some ⟨old++bg ys,E,true,true⟩])):
   fq P n ⟨d,.call ⟨.builtin .append,[x,y].toArray,(T::T2::ts).toArray⟩,T',ps,af,gd⟩ f H K:=by
 intro ρ w a K' Q' hrel hf hkk
 obtain⟨base,sCap,hcx,hcap,hoe,-,-,-⟩:=hr.rel hs h0 hrel (hx.use hf)
 have hcy:a.eval y= .string ⟨ys.toArray⟩:=(hy.use hf).sv_inv
 have hne2:=rF hs1 ys
 have lD:=kK ys
 generalize hnew:bg ys=new at*
 have hu:P.underlying T=some (.slice E):=hT
 have hnl:0<new.length:=by rw[lD]; exact List.length_pos_iff.2 hne
 have pJ:∀w:World,(Builtin.firstCells s new.length (Value.string ⟨ys.toArray⟩)).run P w= .ok new.toArray w:=fun w=>by rw[←hnew]; exact rG s ys w
 have oN:∀ρ:ax,ah ρ (flat new) new.toArray.toList:=fun ρ=>by rw[←hnew]; exact nO ρ ys
 have hsc:(flat new).all scal=true:=by rw[←hnew]; exact sG ys
 show Oper.upon P _ a K' Q' _
 by_cases hfit:old.length+new.length<=sCap
 · -- it fits:our own block
   rcases hg with rfl|⟨k,i,m,q,b,rfl,hk,hmode⟩
   · have hv:=hx.use hf
     generalize a.eval x=c at hv hcx
     cases hv
     injection hcx with _ _ e
     omega
   have hv:=hx.use hf
   obtain⟨L,p,cap',hl,hbr,hc,hcl,h1,h2,hp⟩:=hv.slice_inv hrel hk
   rw[hcx]at hc
   injection hc with e1 e2 e3
   subst e2 e3
   rcases hmode with rfl|⟨rfl,rfl,hown⟩
   · have:=h1 rfl; omega
   obtain⟨-,hown',ll,rfl,-⟩:=h2 (Nat.le_refl _)
   subst e1
   obtain⟨cells,yj,ut,hcells⟩:∃cells:Array Value,cells=new.toArray/\(Builtin.firstCells s new.length (Value.string ⟨ys.toArray⟩)).run P w= .ok cells w/\ah ρ (flat new) cells.toList:=⟨_,rfl,pJ w,oN ρ⟩
   obtain⟨cs,ct,fr,hh,hel,hr2⟩:=hbr.cells
   obtain⟨hoff,uu,hlen,hfr,rfl⟩:=hr2 hown'
   have o7:b.ty=E:=by
     rcases hr with⟨e,-⟩|⟨k',i',n',m',b',e,hk',hty,-,-⟩
     · simp at e
     · injection e with e _ _; injection e with e; injection e with e _ _; subst e; rw[hk]at hk'; injection hk' with hk'; injection hk' with hk'; rw[hk']; exact hty
   have hsz:L.sz=s:=by rw[←hbr.sz,o7,hs.cells]
   have oO:cells.toList.length=new.length*s:=by rw[←hcells.length,gu _ hne2]
   have hcsz:cells.size=new.length*s:=by simpa using oO
   have hbound:old.length*s+new.length*s<=cs.size:=by
     have:(old.length+new.length)*s<=L.cap*L.sz:=by rw[hsz]; exact Nat.mul_le_mul_right _ (Nat.le_trans hfit ll)
     rw[Nat.add_mul]at this; omega
   have kY:∀c∈cells.toList,scal c=true:=by
     intro c hc
     obtain⟨q,hq⟩:=List.mem_iff_getElem?.1 hc
     have jR:q<cells.toList.length:=by
       rcases Nat.lt_or_ge q cells.toList.length with h|h
       · exact h
       · simp[List.getElem?_eq_none h]at hq
     have hq':q<(flat new).length:=by rw[hcells.length]; exact jR
     obtain⟨c',hc',hrc⟩:=hcells.get q _ (List.getElem?_eq_getElem hq')
     rw[hc']at hq
     obtain rfl:c'=c:=by simpa using hq
     rw[hrc.scal]
     exact (List.all_eq_true.1 hsc) _ (List.getElem_mem hq')
   obtain⟨w',hrun,hw',w1,w2,w3⟩:=mf P (b:=L.blk) (o:=old.length*s) cells.toList 0 cs w hh (fun o h=>hfr o (Nat.le_of_lt h)) kY (by omega)
   have hex:(execOp a.eval ⟨d,.call ⟨.builtin .append,[x,y].toArray,(T::T2::ts).toArray⟩,T',ps,af,gd⟩).run P w=
       .ok (.value (.slice (some ⟨L.blk,L.off,none⟩) (old.length+new.length) sCap)) w':=by
     have ha:Addr.add ⟨L.blk,L.off,none⟩ (old.length*s)=⟨L.blk,old.length*s,none⟩:=by rw[addr_add,hoff,Nat.zero_add]
     have hB:(ByteArray.mk ys.toArray).size=new.length:=by rw[lD]; exact kF ys
     simp[execOp,resolve,invoke,builtin,Builtin.append_,hcx,hcy,underlying,hu,hu2,SZ.run hs,Builtin.lenOf,hB,hfit,ut,ha,hrun]
   rw[hex]
   have hkn:ρ k≠none:=by rw[hl]; simp
   have uO:=hrel.kill hkn
   have hblt:=hrel.lt hl
   have oP:(splice cs.toList (old.length*s+0) cells.toList).length=cs.toList.length:=h_ _ _ _ (by simp; omega)
   have hold:(b.elems.take old.length)=old:=by
     rcases hr with⟨e,-⟩|⟨k',i',n',m',b',e,hk',-,-,hrd⟩
     · simp at e
     · injection e with e e2 _; injection e with e; injection e with e e3 _
       subst e e2 e3
       rw[hk]at hk'; injection hk' with hk'; injection hk' with hk'; subst hk'
       simpa using hrd
   have hadd:=uO.add (L:=⟨L.blk,0,s,L.cap,true⟩) (b:=⟨old++new,E,true,true⟩) (w':=w') ⟨rfl,hs.cells,(splice cs.toList (old.length*s+0) cells.toList).toArray,E,fr,by rw[hw',o7]; simp[hblt],?_,?_⟩ ?_ ?_
   · have hst:=Step.move (b:=⟨old++new,E,true,true⟩) (L':=⟨L.blk,0,s,L.cap,true⟩) hrel hl hown' rfl rfl hw' w1 w2 w3
     refine hkk _ _ _ _ _ ((hf.up hst.up).put d ?_) (by simpa using hadd (by simpa using hrel.vok.step hst)) hst (by simpa[dF]using h)
     refine ak.slice H.length 0 _ 2 ⟨L.blk,0,s,L.cap,true⟩ _ sCap (by simp[aZ]) hfit (by simp) (fun _=>⟨rfl,rfl,ll,?_⟩) (fun _=>⟨?_,fun _=>Nat.le_trans (Nat.le_of_eq (Nat.zero_add _)) (Nat.le_trans hfit ll)⟩)
     · simp[hoff]
     · simp[hoff]
   · intro q e he
     simp only[Nat.zero_add]
     have hup:Up ρ (aZ ρ k none):=(Step.kill (H:=H) (w:=w) hkn).up
     by_cases hq:q<old.length
     · have he':b.elems[q]?=some e:=by
         rw[List.getElem?_append_left hq,←hold]at he
         rwa [List.getElem?_take_of_lt hq]at he
       have:=hel q e he'
       rw[hoff,Nat.zero_add,hsz]at this
       refine⟨this.1,?_⟩
       have xL:q*s+s<=old.length*s:=by rw[←Nat.succ_mul]; exact Nat.mul_le_mul_right _ hq
       rw[mH _ _ _ _ _ (.inl (by omega)) (by simp; omega)]
       exact this.2.up hup
     · have he':new[q-old.length]?=some e:=by rwa [List.getElem?_append_right (by omega)]at he
       have hlt:q-old.length<new.length:=by
         rcases Nat.lt_or_ge (q-old.length) new.length with h|h
         · exact h
         · simp[List.getElem?_eq_none h]at he'
       refine⟨hne2 e (List.mem_of_getElem? he'),?_⟩
       have o8:=ah.elems new cells.toList [] hcells hne2 (q-old.length) e he'
       rw[List.append_nil]at o8
       have hqe:q*s=old.length*s+(q-old.length)*s:=by rw[←Nat.add_mul]; congr 1; omega
       have xL:(q-old.length)*s+s<=new.length*s:=by rw[←Nat.succ_mul]; exact Nat.mul_le_mul_right _ hlt
       have hw1:((splice cs.toList (old.length*s+0) cells.toList).drop (old.length*s)).take cells.toList.length=cells.toList:=by
         rw[mM _ _ _ 0 _ (by omega) (by simp; omega)]
         unfold splice
         simp
       have hw2:((splice cs.toList (old.length*s+0) cells.toList).drop (q*s)).take s=(cells.toList.drop ((q-old.length)*s)).take s:=by
         conv=>rhs; rw[←hw1]
         rw[List.drop_take,List.take_take,List.drop_drop,hqe,Nat.min_eq_left (by rw[oO]; omega)]
       show ah _ _ ((_:List Value).take s)
       rw[hw2]
       exact o8.up hup
   · intro _
     refine⟨rfl,?_,by simp; omega,?_⟩
     · simp only[List.size_toArray,oP]; simpa[hsz]using uu
     · simp only[List.size_toArray,oP]; simpa using hfr
   · intro k' L' hk'
     by_cases e:k'=k
     · subst e; rw[aJ]at hk'; simp at hk'
     · rw[az _ _ e]at hk'
       exact fun hb=>e (hrel.inj k k' L L' hl hk' hown' hb.symm).symm
   · intro k' L' hk'
     by_cases e:k'=k
     · subst e; rw[aJ]at hk'; simp at hk'
     · rw[az _ _ e]at hk'
       have hne:L.blk≠L'.blk:=fun hb=>e (hrel.inj k k' L L' hl hk' hown' hb).symm
       rw[hw',Array.getElem?_setIfInBounds_ne hne]
 · -- a new array
   have hw1:(({w with drawn:=w.drawn+1}:World)).heap=w.heap:=rfl
   have jE:ay P ρ H {w with drawn:=w.drawn+1}:=hrel.of_heap rfl
   obtain⟨b1,c1,hc1,-,-,dY,nQ,nR⟩:=hr.rel hs h0 jE (hx.use hf)
   obtain⟨dZ,tK,nS⟩:∃cells:Array Value,(Builtin.firstCells s new.length (Value.string ⟨ys.toArray⟩)).run P {w with drawn:=w.drawn+1}= .ok cells {w with drawn:=w.drawn+1}/\ah ρ (flat new) cells.toList:=⟨_,pJ _,oN ρ⟩
   have hB:(ByteArray.mk ys.toArray).size=new.length:=by rw[lD]; exact kF ys
   rw[hcx]at nQ
   have hnx:=nextslicecap_le (old.length+new.length) sCap (by omega)
   have hnb:Builtin.nextslicecap (old.length+new.length) sCap*iE.bytes<=2 ^ 48:=by
     rw[hby]; exact Nat.le_trans (Nat.mul_le_mul_right _ hnx) hroom
   obtain⟨newCap,hnew,hcut⟩:∃c,old.length+new.length<=c/\(Question.appendCap (old.length+new.length) sCap E).cut (w.tape w.drawn (.appendCap (old.length+new.length) sCap E))=c:=⟨_,Nat.le_add_right _ _,rfl⟩
   have hex:(execOp a.eval ⟨d,.call ⟨.builtin .append,[x,y].toArray,(T::T2::ts).toArray⟩,T',ps,af,gd⟩).run P w=
       .ok (.value (.slice (some ⟨w.heap.size,0,none⟩) (old.length+new.length) newCap))
         {w with drawn:=w.drawn+1,heap:=w.heap.push (.cells (dY++dZ++Builtin.zeroCells zv.cells (newCap-(old.length+new.length))) E (0,0))}:=by
     have uP:¬ (old.length+new.length<=sCap):=hfit
     have hnb':¬ (2 ^ 48<Builtin.nextslicecap (old.length+new.length) sCap*iE.bytes):=by omega
     have uQ:¬ (9223372036854775807<(old.length:Int)+(new.length:Int)/\iE.bytes=0):=by omega
     have hz2:(zeroValue E).run P {w with drawn:=w.drawn+1}= .ok zv {w with drawn:=w.drawn+1}:=by simp[zeroValue,typeInfo,fu,hzv]
     simp[execOp,resolve,invoke,builtin,Builtin.append_,hcx,hcy,underlying,hu,hu2,SZ.run hs,Builtin.lenOf,hB,uP,typeInfo,fu,hnb']
     all_goals
       rw[if_neg uQ,if_neg (by simp[Question.forced]),hcut]
       have hf1:(Builtin.firstCells s old.length (Value.slice base old.length sCap)).run P w.drew= .ok dY w.drew:=nQ
       have hf2:(Builtin.firstCells s new.length (Value.string ⟨ys.toArray⟩)).run P w.drew= .ok dZ w.drew:=tK
       have hz3:(zeroValue E).run P w.drew= .ok zv w.drew:=hz2
       simp[hf1,hf2,hz3,newRow,newObj,Sem.run]
       rfl
   rw[hex]
   have hzz:zv.cells.size=s:=hzs
   have hl1:dY.toList.length=old.length*s:=by rw[←nR.length,gu _ hoe]
   have hl2:dZ.toList.length=new.length*s:=by rw[←nS.length,gu _ hne2]
   have push:∀(ρ0:ax)(H0:aa),ay P ρ0 H0 {w with drawn:=w.drawn+1}->Up ρ ρ0->H0.length=H.length->Step ρ H w ρ0 H0 {w with drawn:=w.drawn+1}->H0=dF H v->
       K' (a.put d (.slice (some ⟨w.heap.size,0,none⟩) (old.length+new.length) newCap)) {w with drawn:=w.drawn+1,heap:=w.heap.push (.cells (dY++dZ++Builtin.zeroCells zv.cells (newCap-(old.length+new.length))) E (0,0))}:=by
     intro ρ0 H0 hr0 lF uR vY hH0
     have uS:ah ρ0 (flat (old++new)) (dY.toList++dZ.toList):=by
       rw[mD]; exact (nR.up lF).append (nS.up lF)
     have hel:=ah.elems (old++new) (dY.toList++dZ.toList) (Builtin.zeroCells zv.cells (newCap-(old.length+new.length))).toList uS
       (fun e he=>by rcases List.mem_append.1 he with h|h; exact hoe e h; exact hne2 e h)
     have xM:=hr0.push (g:=true) (w':={w with drawn:=w.drawn+1,heap:=w.heap.push (.cells (dY++dZ++Builtin.zeroCells zv.cells (newCap-(old.length+new.length))) E (0,0))})
       (cs:=dY++dZ++Builtin.zeroCells zv.cells (newCap-(old.length+new.length))) (ty:=E) (es:=old++new) (sz:=s) (cap:=newCap) rfl hs.cells
       (fun i e he=>⟨by rcases List.mem_append.1 (List.mem_of_getElem? he)with h|h; exact hoe e h; exact hne2 e h,by have:=hel i e he; simpa using this⟩)
       (by
         simp only[Array.length_toList]at hl1 hl2
         rw[Array.size_append,Array.size_append,qx,hl1,hl2,hzz,←Nat.add_mul,←Nat.add_mul]
         exact Nat.mul_le_mul_right _ (by omega)) (by simpa using hnew)
     have hsp:=Step.push (b:=⟨old++new,E,true,true⟩) (sz:=s) (cap:=newCap) hr0 (w':={w with drawn:=w.drawn+1,heap:=w.heap.push (.cells (dY++dZ++Builtin.zeroCells zv.cells (newCap-(old.length+new.length))) E (0,0))}) rfl rfl rfl rfl
     refine hkk _ _ _ _ _ (((hf.up lF).up hsp.up).put d ?_) xM (vY.trans hsp) (by rw[hH0]; exact h)
     rw[←uR]
     exact ak.slice H0.length 0 _ 2 ⟨w.heap.size,0,s,newCap,true⟩ _ newCap (aJ _ _ _) hnew (by simp) (fun _=>⟨rfl,rfl,Nat.le_refl _,rfl,by omega⟩) (fun _=>⟨by simp,fun _=>Nat.le_trans (Nat.le_of_eq (Nat.zero_add _)) hnew⟩)
   have eY:Step ρ H w ρ H {w with drawn:=w.drawn+1}:=⟨Up.refl ρ,rfl,rfl,rfl,Nat.le_refl _,fun _ _ _=>rfl,fun _ _ h=>.inl h,Nat.le_refl _,fun _ _ h=>⟨h,rfl⟩⟩
   rcases hg with rfl|⟨k,i,m,q,b,rfl,hk,hmode⟩
   · exact push ρ H jE (Up.refl ρ) rfl eY rfl
   · rcases hmode with rfl|⟨rfl,rfl,hown⟩
     · exact push ρ H jE (Up.refl ρ) rfl eY rfl
     · have hv:=hx.use hf
       obtain⟨L,p,cap',hl,-⟩:=hv.slice_inv hrel hk
       have hkn:ρ k≠none:=by rw[hl]; simp
       have hsk:=Step.kill (H:=H) (w:={w with drawn:=w.drawn+1}) hkn
       exact push _ _ (jE.kill hkn) hsk.up (by simp) (eY.trans hsk) rfl
end
section
variable{P:Program} [aj P]{n:Nat}{f:Fr}{d:Option Tmp}{x y:Operand}{T T' T2 E:TypeId}{ps:String}{af:Array Edge}{gd:Option (Nat×Bool)}{by':Nat}{v zv:Value}{ts:List TypeId}
theorem tL{F:List Nat}{xs ys zs:List UInt8}(hT:SL P T E)(hu2:P.underlying T2=some .string)(ht:TY P E 1 by' zv)(hzs:zv.cells.size=1)(hby:Nat.ble by' 16384=true)
   (hx:EV n f x v) (hy:EV n f y (sv ys)) (hz:app xs ys=some zs) (hne:ys≠[]):
   XC P n ⟨d,.call ⟨.builtin .append,[x,y].toArray,(T::T2::ts).toArray⟩,T',ps,af,gd⟩ f [aK (aD E (aR bu)) F v xs] (fun p:Sv×List Nat=>p.1.v) (fun p=>[aK (aD E (aR bu)) p.2 p.1.v zs]):=by
 intro H df
 have h0':0<1:=Nat.one_pos
 have vZ:by'<=16384:=by simpa[Nat.ble_eq]using hby
 obtain⟨rfl,hroom⟩:=ng hz
 obtain⟨iE,fu,h1,h2,h3⟩:=ht.inv
 have ho:=df.hold (aK (aD E (aR bu)) F v xs) (by simp)
 obtain⟨old,G,hor,hold,hgr,hF⟩:=aD.reads (Ro:=aR bu) ho
 have hnd:F.Nodup:=by have:=df.nd; simpa[foot,aK]using this
 have lm:∀k∈F,k<H.length:=fun k hk=>(df.own k (by simpa[foot,aK]using hk)).2
 have hnl:=kK ys
 have hz0:=hne
 refine rH (old:=old) (ys:=ys) hT hu2 ht.sz h0' fu h3 hzs h2 hx hy hor hgr rfl hne ?_ ?_ ?_
 · rw[hold.length,hnl]
   calc (2*(xs.length+ys.length)+1024)*by'<=(2*4294967296+1024)*16384:=Nat.mul_le_mul (by omega) vZ
     _<=2 ^ 48:=by decide
 · rw[hold.length,hnl]; omega
 · have ek:aN H (dF H v++[some ⟨old++bg ys,E,true,true⟩]):=by
     intro k b hk hw
     have hkl:=dz hk
     rw[List.getElem?_append_left (by rw[fI]; exact hkl),kr H v ?_,hk]
     intro e
     rcases hF with⟨-,-,h⟩|⟨k',-,h,b',g1,g2⟩
     · rw[h]at e; simp at e
     · rw[h]at e
       obtain rfl:k'=k:=by simpa using e
       rw[hk]at g1
       injection g1 with g1; injection g1 with g1
       rw[g1]at hw; rw[hw]at g2; simp at g2
   have hget:∀k,k<H.length->k∉F->(dF H v++[some ⟨old++bg ys,E,true,true⟩])[k]?=H[k]?:=by
     intro k hk lV
     rw[List.getElem?_append_left (by rw[fI]; exact hk),kr]
     intro e
     rcases hF with⟨-,-,h⟩|⟨k',rfl,h,-⟩
     · rw[h]at e; simp at e
     · rw[h]at e
       obtain rfl:k'=k:=by simpa using e
       simp at lV
   have jF:G.Sublist F:=by
     rcases hF with⟨rfl,rfl,-⟩|⟨k',rfl,-⟩
     · exact .refl _
     · exact List.sublist_cons_self _ _
   have hGF:∀k∈G,(dF H v++[some ⟨old++bg ys,E,true,true⟩])[k]?=H[k]?:=by
     intro k hk
     rw[List.getElem?_append_left (by rw[fI]; exact lm k (jF.subset hk)),kr]
     intro e
     rcases hF with⟨-,-,h⟩|⟨k',rfl,h,-⟩
     · rw[h]at e; simp at e
     · rw[h]at e
       obtain rfl:k'=k:=by simpa using e
       simp at hnd
       exact hnd.1 hk
   refine⟨(⟨some ⟨H.length,0,none⟩,old.length+(bg ys).length,2⟩,H.length::(G)),rfl,?_⟩
   refine⟨by simp[fI],ek,fun k hk lV=>?_,?_,?_,?_⟩
   · exact hget k hk (fun h=>lV (by simp[foot,aK,h]))
   · intro q hq
     simp at hq; subst hq
     refine .inr ⟨H.length,2,⟨old++bg ys,E,true,true⟩,G,by simp[hold.length,hnl],.inr rfl,?_,rfl,rfl,rfl,by simp; omega,rfl,?_⟩
     · rw[List.getElem?_append_right (by rw[fI]; exact Nat.le_refl _)]; simp[fI]
     · exact (hold.keep ek hGF).append_nilG (nP ys)
   · simp only[foot,List.flatMap_cons,List.flatMap_nil,List.append_nil,aK]
     exact List.nodup_cons.2 ⟨fun hm=>by have:=lm _ (jF.subset hm); omega,hnd.sublist jF⟩
   · intro k hk
     simp only[foot,List.flatMap_cons,List.flatMap_nil,List.append_nil,aK,List.mem_cons]at hk
     have hlen:((dF H v++[some ⟨old++bg ys,E,true,true⟩]:aa)).length=H.length+1:=by simp[fI]
     rw[hlen]
     rcases hk with rfl|hk
     · exact⟨.inr (Nat.le_refl _),by omega⟩
     · have:=jF.subset hk
       refine⟨.inl (by simp[foot,aK,this]),?_⟩
       have:=lm k this; omega
theorem uw{F:List Nat}{xs:List UInt8}{u:Value}{H:aa}(hne:xs≠[])(h:(aK (aD E (aR bu)) F u xs).P H):∃k m,u= .slice (some ⟨k,0,none⟩) xs.length m:=by
 have h:aD E (aR bu) F H u xs:=h
 rcases h with⟨-,e,-⟩|⟨k,m,b,G,e,-⟩
 · exact absurd e hne
 · exact⟨k,m,e⟩
theorem sH{H:aa}{T'' TE:TypeId}{p:Option Addr}(hT:P.underlying T=some (.pointer TE))(hx:EV n f x (.pointer p)):aH P n ⟨d,.binOp .eql T x (.const (.pointer none)) T',T'',ps,af,none⟩ f H (.bool p.isNone):=by
 intro ρ w q hr hf
 have hv:=hx.use hf
 have key:∃p',q.eval x= .pointer p'/\p'.isNone=p.isNone:=by
   generalize q.eval x=cv at hv
   cases hv with
   |nilPtr=>exact⟨none,rfl,rfl⟩
   |ptr k i j L h=>exact⟨_,rfl,rfl⟩
   |ptrDead k i s p h=>exact⟨_,rfl,rfl⟩
 obtain⟨p',he,hi⟩:=key
 refine⟨.bool p'.isNone,?_,by rw[hi]; exact .bool _⟩
 have hc:Act.eval q (.const (.pointer none))= .pointer none:=rfl
 have h:∀d:Nat,(Op.equalIn (d+1) T (.pointer p') (.pointer none)).run P w= .ok p'.isNone w:=fun d=>by
   cases p'<;>simp[Op.equalIn,run_underlying hT]
 simp[execOp,he,hc,eqGuard,binOp,Op.equal,Op.maxDepth,h 9999]
theorem rJ{H:aa}{T'' TE:TypeId}{k s:Nat}{b:aG}(hT:P.underlying T=some (.pointer TE))(hs:SZ P TE s)(hx:EV n f x (.pointer (some ⟨k,0,some 0⟩)))(hy:EV n f y (.pointer (some ⟨k,0,some 0⟩)))(hk:H[k]?=some (some b)):
   aH P n ⟨d,.binOp .neq T x y T',T'',ps,af,none⟩ f H (.bool false):=by
 intro ρ w q hr hf
 obtain⟨L,hl,-,hc⟩:=(hx.use hf).ptr_inv hr hk
 obtain⟨L',hl',-,hc'⟩:=(hy.use hf).ptr_inv hr hk
 rw[hl]at hl'
 obtain rfl:L=L':=by simpa using hl'
 obtain⟨j,hj,-⟩:=hs.inv
 refine⟨.bool false,?_,.bool _⟩
 generalize (⟨L.blk,L.off+0*L.sz+0,none⟩:Addr)=a0 at hc hc'
 have h:∀d:Nat,(Op.equalIn (d+1) T (.pointer (some a0)) (.pointer (some a0))).run P w= .ok true w:=fun d=>by
   simp[Op.equalIn,run_underlying hT,sizeOf,typeInfo,hj,run_sameAddr_same]
 simp[execOp,hc,hc',eqGuard,binOp,Op.equal,Op.maxDepth,h 9999]
theorem q8{H:aa}{D TE:TypeId}{k s:Nat}{e:Value}(hT:P.underlying T=some (.pointer TE))(hD:P.underlying D=some .unsafePointer)(hs:SZ P TE s)(h0:Nat.blt 0 s=true)(hx:EV n f x (.pointer (some ⟨k,0,some 0⟩)))(hk:(dC k TE e).P H):
   aH P n ⟨d,.convert T D x,T',ps,af,none⟩ f H (.pointer (some ⟨k,0,some 0⟩)):=by
 intro ρ w q hr hf
 obtain⟨L,hl,hbr,hc⟩:=(hx.use hf).ptr_inv hr hk.2
 have h0':0<s:=by simpa[Nat.blt_eq]using h0
 obtain⟨j,hj,hjs⟩:=hs.inv
 obtain⟨cs,ct,fr,hh,hel,hown⟩:=hbr.cells
 obtain⟨ho,hcap,lG,-,lH⟩:=hown (by rw[←hbr.own])
 have lI:1<=L.cap:=lG
 have hct:ct=TE:=lH
 rw[hct]at hh
 have hsz:L.sz=s:=by rw[←hbr.sz]; exact hs.cells
 have hcs:s<=cs.size:=by rw[←hsz]; exact Nat.le_trans (by simpa using Nat.mul_le_mul_right L.sz lI) hcap
 have hlt:L.off+0*L.sz+0<cs.size:=by rw[ho]; simp; omega
 refine⟨.pointer (some ⟨L.blk,L.off+0*L.sz+0,none⟩),?_,.ptr k 0 0 L hl⟩
 have:=Lib.run_to_unsafe (P:=P) w (src:=T) (dst:=D) (t:=TE) (e:=TE) (j:=j) (cells:=cs.size) ⟨L.blk,L.off+0*L.sz+0,none⟩ hT hD hj (by omega) (by simp[World.shape?,hh]) hlt
 simp only[execOp,hc,Sem.run_bind,this,Result.andThen,Sem.run_pure]
omit [aj P] in
theorem q9{e:TypeId}{s count:Nat}(hc:P.cellsOf e=s)(h0:0<s)(hn:1<=count):liesAt P P.depth e count 0 e 1=true:=by
 have hd:P.depth=(2*(P.types.size+Made.depth)+1)+1:=rfl
 rw[hd]
 simp only[liesAt,Bool.or_eq_true]
 left
 rw[hd]
 simp[rowAt,hc,hn,sameLayout]
 omega
theorem qJ{H:aa}{D TE:TypeId}{k s:Nat}{e:Value}(hT:P.underlying T=some (.pointer TE))(hD:P.underlying D=some .unsafePointer)(hs:SZ P TE s)(h0:Nat.blt 0 s=true)(hx:EV n f x (.pointer (some ⟨k,0,some 0⟩)))(hk:(dC k TE e).P H):
   aH P n ⟨d,.convert D T x,T',ps,af,none⟩ f H (.pointer (some ⟨k,0,some 0⟩)):=by
 intro ρ w q hr hf
 obtain⟨L,hl,hbr,hc⟩:=(hx.use hf).ptr_inv hr hk.2
 have h0':0<s:=by simpa[Nat.blt_eq]using h0
 obtain⟨j,hj,hjs⟩:=hs.inv
 obtain⟨cs,ct,fr,hh,hel,hown⟩:=hbr.cells
 obtain⟨ho,hcap,lG,-,lH⟩:=hown (by rw[←hbr.own])
 have lI:1<=L.cap:=lG
 have hct:ct=TE:=lH
 rw[hct]at hh
 have hsz:L.sz=s:=by rw[←hbr.sz]; exact hs.cells
 have hcz:P.cellsOf TE=s:=hs.cells
 have hcs:s<=cs.size:=by rw[←hsz]; exact Nat.le_trans (by simpa using Nat.mul_le_mul_right L.sz lI) hcap
 have hcount:1<=cs.size / P.cellsOf TE:=by
   rw[hcz]
   exact (Nat.le_div_iff_mul_le h0').2 (by omega)
 refine⟨.pointer (some ⟨L.blk,L.off+0*L.sz+0,none⟩),?_,.ptr k 0 0 L hl⟩
 have hz:L.off+0*L.sz+0=0:=by rw[ho]; omega
 have:=Lib.run_from_unsafe (P:=P) w (src:=D) (dst:=T) (u:=TE) (e:=TE) (j:=j) (cells:=cs.size) ⟨L.blk,L.off+0*L.sz+0,none⟩ hD hT hj (by simp[World.shape?,hh]) (by show liesAt P P.depth TE _ (L.off+0*L.sz+0) TE 1=true; rw[hz]; exact q9 hcz h0' hcount)
 simp only[execOp,hc,Sem.run_bind,this,Result.andThen,Sem.run_pure]
theorem rf{H:aa}{g:FuncId}(hg:∀(u:Value)(w:World),(callFunc g #[u]).run P w= .ok (.value u) w)(hx:EV n f x v):aH P n ⟨d,.call ⟨.value (.func g),[x].toArray,ts.toArray⟩,T',ps,af,none⟩ f H v:=by
 intro ρ w q hr hf
 refine⟨q.eval x,?_,hx.use hf⟩
 have h:=hg (q.eval x) w
 simp only[Act.eval,Array.getD_eq_getD_getElem?]at h
 simp[execOp,resolve,Deferred.ofValue,Act.eval,invoke,h]
theorem qQ{H:aa}{F:List Nat}{k m:Nat}{xs:List UInt8}(hne:xs≠[])(hx:EV n f x (.slice (some ⟨k,0,none⟩) xs.length m))(hp:(aK (aD E (aR bu)) F (.slice (some ⟨k,0,none⟩) xs.length m) xs).P H):
   aH P n ⟨d,.call ⟨.builtin .unsafeSliceData,[x].toArray,ts.toArray⟩,T',ps,af,none⟩ f H (.pointer (some ⟨k,0,some 0⟩)):=by
 intro ρ w q hr hf
 have ho:aD E (aR bu) F H (.slice (some ⟨k,0,none⟩) xs.length m) xs:=hp
 rcases ho with⟨e,-,-⟩|⟨k',m',b,G,e,hm,h3,h4,h5,h6,h7,rfl,h9⟩
 · cases e
 cases e
 have hn:xs.length≠0:=fun e=>hne (List.length_eq_zero_iff.1 e)
 obtain⟨L,p,cap,hl,hbr,hc,hcap,-,-,hp2⟩:=(hx.use hf).slice_inv hr h3
 obtain⟨rfl,-⟩:=hp2 hn
 refine⟨.pointer (some ⟨L.blk,L.off+0*L.sz,none⟩),?_,.ptr k 0 0 L hl⟩
 have:=Lib.run_unsafeSliceData_row (P:=P) w ts.toArray T' ⟨L.blk,L.off+0*L.sz,none⟩ xs.length cap (by omega)
 simp only[Nat.zero_mul,Nat.add_zero]at this
 simp[execOp,resolve,invoke,builtin,hc,this]
theorem qK{H:aa}(hx:EV n f x (.slice none 0 0)):aH P n ⟨d,.call ⟨.builtin .unsafeSliceData,[x].toArray,ts.toArray⟩,T',ps,af,none⟩ f H (.pointer none):=by
 intro ρ w q hr hf
 have hv:=hx.use hf
 have hc:q.eval x= .slice none 0 0:=by
   generalize q.eval x=cv at hv
   cases hv; rfl
 refine⟨.pointer none,?_,.nilPtr⟩
 have:=Lib.run_unsafeSliceData_nil (P:=P) w ts.toArray T' 0 0
 simp[execOp,resolve,invoke,builtin,hc,this]
theorem qL{H:aa}{IT:TypeId}(hx:EV n f x (.pointer none))(hy:EV n f y (.int .i64 0)):aH P n ⟨d,.call ⟨.builtin .unsafeString,[x,y].toArray,(T::IT::[]).toArray⟩,T',ps,af,none⟩ f H (sv []):=by
 intro ρ w q hr hf
 have hv:=hx.use hf
 have hc:q.eval x= .pointer none:=by
   generalize q.eval x=cv at hv
   cases hv; rfl
 have hc2:=(hy.use hf).int_inv
 refine⟨sv [],?_,.string _⟩
 have:=Lib.run_unsafeString_none (P:=P) w T IT T' none
 simp[execOp,resolve,invoke,builtin,hc,hc2,this]
 rfl
theorem ay.outside{ρ:ax}{H:aa}{w w':World}(h:ay P ρ H w)(hb:∀k L,ρ k=some (some L)->w'.heap[L.blk]?=w.heap[L.blk]?)(hv:eD P ρ w'):ay P ρ H w':=
 ⟨fun k L hk=>by
   obtain⟨b,h1,h2⟩:=h.blk k L hk
   exact⟨b,h1,⟨h2.own,h2.sz,by rw[hb k L hk]; exact h2.cells⟩⟩,h.alive,h.dom,h.inj,hv⟩
theorem qR{F:List Nat}{IT:TypeId}{k m:Nat}{xs:List UInt8}(hT:P.underlying T=some (.pointer E))(hs:SZ P E 1)(hne:xs≠[])(hx:EV n f x (.pointer (some ⟨k,0,some 0⟩)))(hy:EV n f y (.int .i64 (xs.length:Int))):
   XC P n ⟨d,.call ⟨.builtin .unsafeString,[x,y].toArray,(T::IT::[]).toArray⟩,T',ps,af,gd⟩ f [aK (aD E (aR bu)) F (.slice (some ⟨k,0,none⟩) xs.length m) xs] (fun _:Unit=>sv xs) (fun _=>[]):=by
 intro H df
 have ho:aD E (aR bu) F H (.slice (some ⟨k,0,none⟩) xs.length m) xs:=df.hold (aK (aD E (aR bu)) F (.slice (some ⟨k,0,none⟩) xs.length m) xs) (by simp)
 rcases ho with⟨e,-,-⟩|⟨k',m',b,G,e,hm,h3,h4,h5,h6,h7,rfl,h9⟩
 · cases e
 cases e
 have hn:xs.length≠0:=fun e=>hne (List.length_eq_zero_iff.1 e)
 intro ρ w a K' Q' hr hf hkk
 obtain⟨L,hl,hbr,hc⟩:=(hx.use hf).ptr_inv hr h3
 have hc2:=(hy.use hf).int_inv
 obtain⟨cs,ct,fr,pK,hel,hown⟩:=hbr.cells
 obtain⟨hoff,hcap,yz,hfr,rfl⟩:=hown (by rw[←hbr.own,h5])
 have hcz:P.cellsOf b.ty=1:=by rw[h6]; exact hs.cells
 have pM:L.sz=1:=by rw[←hbr.sz,hcz]
 have hlen:xs.length<=b.elems.length:=by rw[h9.length]; omega
 have hcs:xs.length<=cs.size:=by rw[pM]at hcap; omega
 have hat:∀(j:Nat)(u:UInt8),xs[j]?=some u->cs.toList[j]?=some (Value.int .u8 (u.toNat:Int)):=by
   intro j u hj
   obtain⟨e,F1,Fj,F2,g1,-,g3,-⟩:=h9.at hj
   have g4:e= .int .u8 (u.toNat:Int):=g3.2
   subst g4
   have:=(hel j _ g1).2
   rw[pM,Nat.mul_one,hoff,Nat.zero_add]at this
   obtain⟨c0,q1,q2⟩:=this.get 0 _ rfl
   have q3:=q2.int_inv
   subst q3
   rw[List.getElem?_take_of_lt (by omega),List.getElem?_drop,Nat.add_zero]at q1
   exact q1
 have hz:(⟨L.blk,L.off+0*L.sz+0,none⟩:Addr)=⟨L.blk,0,none⟩:=by rw[hoff]; simp
 rw[hz]at hc
 have hrun:=Lib.run_unsafeString_row (P:=P) w T IT T' E hT hs.cells L.blk cs.size (by simp[World.shape?,pK,h6]) xs hne hcs (by omega) (fun j u hj=>by
   have:=hat j u hj
   simp only[Array.getElem?_toList]at this
   have ha:(⟨L.blk,0,none⟩:Addr).add j=⟨L.blk,j,none⟩:=by rw[addr_add]; simp
   rw[ha]
   simp[World.cell?,pK,this])
 have hex:(execOp a.eval ⟨d,.call ⟨.builtin .unsafeString,[x,y].toArray,(T::IT::[]).toArray⟩,T',ps,af,gd⟩).run P w= .ok (.value (sv xs)) (w.freeze ⟨L.blk,0,none⟩ xs.length):=by
   simp[execOp,resolve,invoke,builtin,hc,hc2,hrun]
   rfl
 show Oper.upon P _ a K' Q' _
 rw[hex]
 have hkn:ρ k≠none:=by rw[hl]; simp
 have hLo:L.own=true:=by rw[←hbr.own,h5]
 have hw1:(w.freeze ⟨L.blk,0,none⟩ xs.length).heap.size=w.heap.size:=by simp[World.freeze,hn]
 have hw2:∀j,j≠L.blk->(w.freeze ⟨L.blk,0,none⟩ xs.length).heap[j]?=w.heap[j]?:=fun j hj=>by
   simp only[World.freeze,hn,if_false,Array.getElem?_modify]
   rw[if_neg (fun e=>hj e.symm)]
 have hsk:=Step.kill (H:=H) (w:=w) hkn
 have hst:Step ρ H w (aZ ρ k none) (H.set k none) (w.freeze ⟨L.blk,0,none⟩ xs.length):=
   ⟨hsk.up,by simp[World.freeze,hn],by simp[World.freeze,hn],by simp[World.freeze,hn],Nat.le_of_eq hw1.symm,fun j hj hfree=>hw2 j fun e=>hfree k L hl hLo e.symm,hsk.fresh,hsk.len,hsk.hold⟩
 have xN:=(hr.kill hkn).outside (w':=w.freeze ⟨L.blk,0,none⟩ xs.length) (fun k' L' hk'=>by
   by_cases e:k'=k
   · subst e; rw[aJ]at hk'; simp at hk'
   · rw[az _ _ e]at hk'
     exact hw2 _ fun hb=>e (hr.inj k k' L L' hl hk' hLo hb.symm).symm) (hr.vok.step hst)
 refine hkk _ _ _ _ _ ((hf.up hst.up).put d (.string _)) xN hst ⟨(),rfl,?_⟩
 refine⟨by simp,?_,fun j hj xO=>?_,by simp,by simp[foot],by simp[foot]⟩
 · intro j c hj hcw
   have hne':k≠j:=fun e=>by
     subst e
     rw[h3]at hj
     injection hj with hj; injection hj with hj
     rw[hj]at h4; rw[h4]at hcw; simp at hcw
   rw[List.getElem?_set_ne hne']; exact hj
 · have hne':k≠j:=fun e=>xO (by simp[foot,aK,e])
   rw[List.getElem?_set_ne hne']
end
end Go.Fw
/-
 Drawn regions: elements of an own slice are read and stored.
-/
set_option linter.unusedVariables false
namespace Go.Fw
open Go Go.RowKit
section
variable{P:Program} [aj P]{n:Nat}{l:List Oper}{tb ag:List Nat}{H0:aa}{F0:List Nat}{K:Fr->List ae->Prop}{cs:List ae}{f:Fr}{i:Nat}{r:List Nat}{fl:List (Nat×List Nat)}{d:Option Tmp}{T E T':TypeId}{ps:String}{af:Array Edge}{gd:Option (Nat×Bool)}{v:Value}{x y:Operand}{α:Type}{Ro:List Nat->aa->Value->α->Prop}{xs:List α}{s:Nat}
end
section
variable{P:Program} [aj P]{n:Nat}{f:Fr}{H:aa}{d:Option Tmp}{x:Operand}{T:TypeId}{ps:String}{af:Array Edge}
theorem dV{v:Value}{q:Addr}(hv:v= .pointer (some q))(hx:EV n f x v):aH P n ⟨d,.nilCheck x,T,ps,af,none⟩ f H v:=fun ρ _ a _ hf=>by
 subst hv
 have h:=hx.use hf
 have:∃p,a.eval x= .pointer (some p):=by
   generalize a.eval x=u at h
   cases h<;>exact⟨_,rfl⟩
 obtain⟨p,hp⟩:=this
 exact⟨a.eval x,by simp[execOp,hp],h⟩
end
end Go.Fw
/-
 Rules that look up by themselves what they need: names of temporaries, facts of the context, facts of the program's tables. No conditions.
-/
set_option linter.unusedVariables false
namespace Go.Fw
open Go
class fw(P:Program) [aj P](t i:Nat)(off:outParam Nat):Prop where h:FD P t i off
class bY(P:Program) [aj P](t:Nat)(b:outParam Bool):Prop where h:AG P t b
class bK(P:Program) [aj P](t:Nat)(s b:outParam Nat)(z:outParam Value):Prop where h:TY P t s b z
class eH(P:Program) [aj P](t:Nat)(e:outParam Nat):Prop where h:SL P t e
class bC(P:Program) [aj P](g:Nat):Prop where h:CF P g
section
variable{P:Program} [aj P]{n:Nat}{f:Fr}{H0:aa}{F0:List Nat}{cs pre rest:List ae}{c c':ae}{x y z:Operand}{v:Value}
theorem bF(h:Mem c cs:=by
   first
   |((repeat (first|with_reducible exact Mem.h|with_reducible apply Mem.t)); done)
   |((repeat (first|exact Mem.h|apply Mem.t)); done)):Mem c cs:=h
theorem oQ{r:List ae}(h:cB cs c r:=by
   first
   |((repeat (first|with_reducible exact cB.h|with_reducible apply cB.t)); done)
   |((repeat (first|exact cB.h|apply cB.t)); done)):cB cs c r:=h
theorem uT{α:Type}{R:aa->Value->α->Prop}{_:aP R}{a:α}(h:Mem (aY R v a) cs)(t:aS cs pre rest):aS cs (aY R v a::pre) rest:=.rd h rfl t
theorem uU{k:Nat}{b:aG}(h:Mem (di k b) cs)(t:aS cs pre rest):aS cs (di k b::pre) rest:=.rd h rfl t
theorem eB(h:aS cs pre rest:=by
   first
   |exact aS.nil
   |((with_reducible refine' uT ?hm ?ht); (case hm=>exact bF); (case ht=>exact eB))
   |((with_reducible refine' uU ?hm ?ht); (case hm=>exact bF); (case ht=>exact eB))
   |exact aS.cons oQ eB
   |exact aS.rd bF rfl eB):aS cs pre rest:=h
theorem aA(h:EV n f x v:=by
   first|exact EV.tmp rfl rfl|exact EV.int _ _|exact EV.bool _|exact EV.str _|exact EV.nilSlice|exact EV.nilPtr|exact EV.nilFunc|exact EV.nilIface|exact EV.fn _):EV n f x v:=h
theorem cK(h:EV n f x v:=by
   first
   |exact EV.tmp (v:=.int _ _) rfl rfl|exact EV.tmp (v:=.bool _) rfl rfl|exact EV.tmp (v:=Sv.v _) rfl rfl|exact EV.tmp (v:=.slice _ _ _) rfl rfl
   |exact EV.tmp (v:=.pointer _) rfl rfl|exact EV.tmp (v:=.agg _) rfl rfl|exact EV.tmp (v:=sv _) rfl rfl|exact EV.tmp (v:=.string _) rfl rfl
   |exact EV.tmp (v:=.func _ _ _) rfl rfl|exact EV.tmp (v:=.tuple _) rfl rfl|exact EV.tmp (v:=undef) rfl rfl
   |exact EV.int _ _|exact EV.bool _|exact EV.str _|exact EV.nilSlice|exact EV.nilPtr|exact EV.nilFunc|exact EV.nilIface|exact EV.fn _):EV n f x v:=h
theorem lW{o:Option Value}(h:o=some v:=by
   first
   |exact (rfl:_=some (Value.int _ _))|exact (rfl:_=some (Sv.v _))|exact (rfl:_=some (Value.bool _))|exact (rfl:_=some (Value.slice _ _ _))
   |exact (rfl:_=some (sv _))|exact (rfl:_=some (Value.string _))|exact (rfl:_=some (Value.pointer _))|exact (rfl:_=some (Value.func _ _ _))):o=some v:=h
theorem jK{xs:List Operand}{vs:List Value}(h:bB n f xs vs:=by first|exact bB.nil|exact bB.cons aA jK):bB n f xs vs:=h
theorem bZ{l:List (Nat×Value)}(h:bN f l:=by
   repeat (first|exact bN.nil|refine' bN.cons rfl ?_)):f=dB f l:=h.eq
variable{A:Array Oper}{r:List Oper}{K:Fr->List ae->Prop}{d:Option Tmp}{op:Op}{T T' T'' E:TypeId}{ps:String}{af:Array Edge}
theorem v_(hx:EV n f x v)(h:ai P n H0 F0 A r (put f d v) cs K):ai P n H0 F0 A (⟨d,.move x,T,ps,af,none⟩::r) f cs K:=aC (iJ hx) h
theorem wh(hx:EV n f x v)(h:ai P n H0 F0 A r (put f d v) cs K):ai P n H0 F0 A (⟨d,.assign x,T,ps,af,none⟩::r) f cs K:=aC (dL hx) h
theorem nT{H:aa}{u:Value}(hc:EV n f x (.bool true))(hy:EV n f y u):aH P n ⟨d,.pick x y z,T,ps,af,none⟩ f H u:=
 fun ρ _ a _ hf=>⟨a.eval y,by simp[execOp,(hc.use hf).bool_inv,asBool],hy.use hf⟩
theorem nU{H:aa}{u:Value}(hc:EV n f x (.bool false))(hy:EV n f z u):aH P n ⟨d,.pick x y z,T,ps,af,none⟩ f H u:=
 fun ρ _ a _ hf=>⟨a.eval z,by simp[execOp,(hc.use hf).bool_inv,asBool],hy.use hf⟩
theorem uV(hc:EV n f x (.bool true))(hy:EV n f y v)(h:ai P n H0 F0 A r (put f d v) cs K):ai P n H0 F0 A (⟨d,.pick x y z,T,ps,af,none⟩::r) f cs K:=aC (nT hc hy) h
theorem uW(hc:EV n f x (.bool false))(hy:EV n f z v)(h:ai P n H0 F0 A r (put f d v) cs K):ai P n H0 F0 A (⟨d,.pick x y z,T,ps,af,none⟩::r) f cs K:=aC (nU hc hy) h
theorem wm{k i j fi off:Nat} [hF:fw P T fi off](hx:EV n f x (.pointer (some ⟨k,i,some j⟩)))(h:ai P n H0 F0 A r (put f d (.pointer (some ⟨k,i,some (j+off)⟩))) cs K):
   ai P n H0 F0 A (⟨d,.fieldAddr T x fi,T',ps,af,none⟩::r) f cs K:=aC (dD hF.h hx) h
theorem uX{k j:Nat}{TB:TypeId}{e:Value} [hA:bY P T false](hx:EV n f x (.pointer (some ⟨k,0,some j⟩)))(hm:Mem (di k ⟨[e],TB,true,false⟩) cs)(hv:e.cells.toList[j]?=some v)
   (h:ai P n H0 F0 A r (put f d v) cs K):ai P n H0 F0 A (⟨d,.load T x,T',ps,af,none⟩::r) f cs K:=b_ hm (fun hp=>dE hA.h hx hp.2 rfl hv) h
theorem uY{k j:Nat}{TB:TypeId}{e:Value} [hA:bY P T false](hx:EV n f x (.pointer (some ⟨k,0,some j⟩)))(hm:Mem (bv k ⟨[e],TB,true,true⟩) cs)(hv:e.cells.toList[j]?=some v)
   (h:ai P n H0 F0 A r (put f d v) cs K):ai P n H0 F0 A (⟨d,.load T x,T',ps,af,none⟩::r) f cs K:=b_ hm (fun hp=>dE hA.h hx hp.2 rfl hv) h
theorem uZ{k s b:Nat}{zv:Value}{TB:TypeId}{l:List Value} [hA:bY P T true] [ht:bK P T s b zv](hx:EV n f x (.pointer (some ⟨k,0,some 0⟩)))(hm:Mem (di k ⟨[.agg l.toArray],TB,true,false⟩) cs)(h0:Nat.blt 0 s=true)(hl:l.length=s)
   (h:ai P n H0 F0 A r (put f d (.agg l.toArray)) cs K):ai P n H0 F0 A (⟨d,.load T x,T',ps,af,none⟩::r) f cs K:=b_ hm (fun hp=>jg hA.h ht.h.sz h0 hx hp.2 hl) h
theorem u6{k s b:Nat}{zv:Value}{TB:TypeId}{l:List Value} [hA:bY P T true] [ht:bK P T s b zv](hx:EV n f x (.pointer (some ⟨k,0,some 0⟩)))(hm:Mem (bv k ⟨[.agg l.toArray],TB,true,true⟩) cs)(h0:Nat.blt 0 s=true)(hl:l.length=s)
   (h:ai P n H0 F0 A r (put f d (.agg l.toArray)) cs K):ai P n H0 F0 A (⟨d,.load T x,T',ps,af,none⟩::r) f cs K:=b_ hm (fun hp=>jg hA.h ht.h.sz h0 hx hp.2 hl) h
theorem u7{α:Type}{R:aa->Value->α->Prop}{_:aP R}{xs:List α}{ts:List TypeId} [hT:eH P T E](hx:EV n f x v)(hm:Mem (aY (aO E R) v xs) cs)
   (h:ai P n H0 F0 A r (put f d (.int .i64 xs.length)) cs K):ai P n H0 F0 A (⟨d,.call ⟨.builtin .len,[x].toArray,(T::ts).toArray⟩,T',ps,af,none⟩::r) f cs K:=b_ hm (fun hp=>gG hT.h hx (kI hp)) h
theorem uy{α:Type}{Ro:aQ α}{_:bA Ro}{F:List Nat}{xs:List α}{ts:List TypeId} [hT:eH P T E](hx:EV n f x v)(hm:Mem (aK (aD E Ro) F v xs) cs)
   (h:ai P n H0 F0 A r (put f d (.int .i64 xs.length)) cs K):ai P n H0 F0 A (⟨d,.call ⟨.builtin .len,[x].toArray,(T::ts).toArray⟩,T',ps,af,none⟩::r) f cs K:=b_ hm (fun hp=>gG hT.h hx (rZ hp)) h
theorem wo{j:Nat}{t:Tmp}{b:Bool}(hd:(A[j]?).bind (·.dst)=some t)(hv:f t= .bool b)(ht:Nat.blt t n=true)(h:ai P n H0 F0 A (⟨d,op,T,ps,af,none⟩::r) f cs K):
   ai P n H0 F0 A (⟨d,op,T,ps,af,some (j,b)⟩::r) f cs K:=vU hd hv ht h
theorem wu{j:Nat}{t:Tmp}{b:Bool}(hd:(A[j]?).bind (·.dst)=some t)(hv:f t= .bool (!b))(ht:Nat.blt t n=true)(h:ai P n H0 F0 A r (put f d undef) cs K):
   ai P n H0 F0 A (⟨d,op,T,ps,af,some (j,b)⟩::r) f cs K:=uG hd hv ht h
theorem ww{j:Nat}{t:Tmp}{b:Bool}(hd:(A[j]?).bind (·.dst)=some t)(hv:f t=undef)(ht:Nat.blt t n=true)(h:ai P n H0 F0 A r (put f d undef) cs K):
   ai P n H0 F0 A (⟨d,op,T,ps,af,some (j,b)⟩::r) f cs K:=uj hd hv ht h
theorem u_{kk:IntKind}{q q2:Int}(hx:EV n f x (.int kk q))(hy:EV n f y (.int kk q2))(h:ai P n H0 F0 A r (put f d (.int kk (kk.wrap (q+q2)))) cs K):ai P n H0 F0 A (⟨d,.binOp .add T x y T',T'',ps,af,none⟩::r) f cs K:=aC (kX hx hy) h
theorem ve{kk:IntKind}{q q2:Int}(hx:EV n f x (.int kk q))(hy:EV n f y (.int kk q2))(h:ai P n H0 F0 A r (put f d (.int kk (kk.wrap (q-q2)))) cs K):ai P n H0 F0 A (⟨d,.binOp .sub T x y T',T'',ps,af,none⟩::r) f cs K:=aC (om hx hy) h
theorem vg{kk:IntKind}{q q2:Int}(hx:EV n f x (.int kk q))(hy:EV n f y (.int kk q2))(h:ai P n H0 F0 A r (put f d (.int kk (kk.wrap (q*q2)))) cs K):ai P n H0 F0 A (⟨d,.binOp .mul T x y T',T'',ps,af,none⟩::r) f cs K:=aC (oo hx hy) h
theorem vo{kk:IntKind}{q q2:Int}(hx:EV n f x (.int kk q))(hy:EV n f y (.int kk q2))(h:ai P n H0 F0 A r (put f d (.bool (decide (q<q2)))) cs K):ai P n H0 F0 A (⟨d,.binOp .lss T x y T',T'',ps,af,none⟩::r) f cs K:=aC (jA hx hy) h
theorem vv{kk:IntKind}{q q2:Int}(hx:EV n f x (.int kk q))(hy:EV n f y (.int kk q2))(h:ai P n H0 F0 A r (put f d (.bool (decide (q<=q2)))) cs K):ai P n H0 F0 A (⟨d,.binOp .leq T x y T',T'',ps,af,none⟩::r) f cs K:=aC (oq hx hy) h
theorem vw{kk:IntKind}{q q2:Int}(hx:EV n f x (.int kk q))(hy:EV n f y (.int kk q2))(h:ai P n H0 F0 A r (put f d (.bool (decide (q2<q)))) cs K):ai P n H0 F0 A (⟨d,.binOp .gtr T x y T',T'',ps,af,none⟩::r) f cs K:=aC (ou hx hy) h
theorem vz{kk:IntKind}{q q2:Int}(hx:EV n f x (.int kk q))(hy:EV n f y (.int kk q2))(h:ai P n H0 F0 A r (put f d (.bool (decide (q2<=q)))) cs K):ai P n H0 F0 A (⟨d,.binOp .geq T x y T',T'',ps,af,none⟩::r) f cs K:=aC (oz hx hy) h
theorem vB{kk:IntKind}{q q2:Int}(hx:EV n f x (.int kk q))(hy:EV n f y (.int kk q2))(h:ai P n H0 F0 A r (put f d (.bool (q==q2))) cs K):ai P n H0 F0 A (⟨d,.binOp .eql T x y T',T'',ps,af,none⟩::r) f cs K:=aC (oC hx hy) h
theorem vC{kk:IntKind}{q q2:Int}(hx:EV n f x (.int kk q))(hy:EV n f y (.int kk q2))(h:ai P n H0 F0 A r (put f d (.bool (q !=q2))) cs K):ai P n H0 F0 A (⟨d,.binOp .neq T x y T',T'',ps,af,none⟩::r) f cs K:=aC (oD hx hy) h
theorem vD{b:Bool}(hx:EV n f x (.bool b))(h:ai P n H0 F0 A r (put f d (.bool (!b))) cs K):ai P n H0 F0 A (⟨d,.unOp .not T x,T',ps,af,none⟩::r) f cs K:=aC (oF hx) h
variable{l:List Oper}{tb ag todo:List Nat}{fl:List (Nat×List Nat)}{i:Nat}{gd:Option (Nat×Bool)}
theorem bD(h:Wt n l f gd:=by first|exact Wt.no|exact Wt.on _ rfl rfl rfl):Wt n l f gd:=h
theorem vE{kk:IntKind}{q q2:Int}(ho:l[i]?=some ⟨d,.binOp .add T x y T',T'',ps,af,gd⟩)(hw:Wt n l f gd)(hx:EV n f x (.int kk q))(hn:aM x (aF l ⟨d,.binOp .add T x y T',T'',ps,af,gd⟩)=true)(hy:EV n f y (.int kk q2))(hm:aM y (aF l ⟨d,.binOp .add T x y T',T'',ps,af,gd⟩)=true)
   (h:DC P n l tb ag H0 F0 K todo fl (put f d (.int kk (kk.wrap (q+q2)))) cs):DC P n l tb ag H0 F0 K (i::todo) fl f cs:=aU ho hw (fun ha=>kX (EN ha hx hn) (EN ha hy hm)) h
theorem vF{kk:IntKind}{q q2:Int}(ho:l[i]?=some ⟨d,.binOp .sub T x y T',T'',ps,af,gd⟩)(hw:Wt n l f gd)(hx:EV n f x (.int kk q))(hn:aM x (aF l ⟨d,.binOp .sub T x y T',T'',ps,af,gd⟩)=true)(hy:EV n f y (.int kk q2))(hm:aM y (aF l ⟨d,.binOp .sub T x y T',T'',ps,af,gd⟩)=true)
   (h:DC P n l tb ag H0 F0 K todo fl (put f d (.int kk (kk.wrap (q-q2)))) cs):DC P n l tb ag H0 F0 K (i::todo) fl f cs:=aU ho hw (fun ha=>om (EN ha hx hn) (EN ha hy hm)) h
theorem vG{kk:IntKind}{q q2:Int}(ho:l[i]?=some ⟨d,.binOp .mul T x y T',T'',ps,af,gd⟩)(hw:Wt n l f gd)(hx:EV n f x (.int kk q))(hn:aM x (aF l ⟨d,.binOp .mul T x y T',T'',ps,af,gd⟩)=true)(hy:EV n f y (.int kk q2))(hm:aM y (aF l ⟨d,.binOp .mul T x y T',T'',ps,af,gd⟩)=true)
   (h:DC P n l tb ag H0 F0 K todo fl (put f d (.int kk (kk.wrap (q*q2)))) cs):DC P n l tb ag H0 F0 K (i::todo) fl f cs:=aU ho hw (fun ha=>oo (EN ha hx hn) (EN ha hy hm)) h
theorem vH{kk:IntKind}{q q2:Int}(ho:l[i]?=some ⟨d,.binOp .lss T x y T',T'',ps,af,gd⟩)(hw:Wt n l f gd)(hx:EV n f x (.int kk q))(hn:aM x (aF l ⟨d,.binOp .lss T x y T',T'',ps,af,gd⟩)=true)(hy:EV n f y (.int kk q2))(hm:aM y (aF l ⟨d,.binOp .lss T x y T',T'',ps,af,gd⟩)=true)
   (h:DC P n l tb ag H0 F0 K todo fl (put f d (.bool (decide (q<q2)))) cs):DC P n l tb ag H0 F0 K (i::todo) fl f cs:=aU ho hw (fun ha=>jA (EN ha hx hn) (EN ha hy hm)) h
theorem vI{kk:IntKind}{q q2:Int}(ho:l[i]?=some ⟨d,.binOp .leq T x y T',T'',ps,af,gd⟩)(hw:Wt n l f gd)(hx:EV n f x (.int kk q))(hn:aM x (aF l ⟨d,.binOp .leq T x y T',T'',ps,af,gd⟩)=true)(hy:EV n f y (.int kk q2))(hm:aM y (aF l ⟨d,.binOp .leq T x y T',T'',ps,af,gd⟩)=true)
   (h:DC P n l tb ag H0 F0 K todo fl (put f d (.bool (decide (q<=q2)))) cs):DC P n l tb ag H0 F0 K (i::todo) fl f cs:=aU ho hw (fun ha=>oq (EN ha hx hn) (EN ha hy hm)) h
theorem vJ{kk:IntKind}{q q2:Int}(ho:l[i]?=some ⟨d,.binOp .gtr T x y T',T'',ps,af,gd⟩)(hw:Wt n l f gd)(hx:EV n f x (.int kk q))(hn:aM x (aF l ⟨d,.binOp .gtr T x y T',T'',ps,af,gd⟩)=true)(hy:EV n f y (.int kk q2))(hm:aM y (aF l ⟨d,.binOp .gtr T x y T',T'',ps,af,gd⟩)=true)
   (h:DC P n l tb ag H0 F0 K todo fl (put f d (.bool (decide (q2<q)))) cs):DC P n l tb ag H0 F0 K (i::todo) fl f cs:=aU ho hw (fun ha=>ou (EN ha hx hn) (EN ha hy hm)) h
theorem vK{kk:IntKind}{q q2:Int}(ho:l[i]?=some ⟨d,.binOp .geq T x y T',T'',ps,af,gd⟩)(hw:Wt n l f gd)(hx:EV n f x (.int kk q))(hn:aM x (aF l ⟨d,.binOp .geq T x y T',T'',ps,af,gd⟩)=true)(hy:EV n f y (.int kk q2))(hm:aM y (aF l ⟨d,.binOp .geq T x y T',T'',ps,af,gd⟩)=true)
   (h:DC P n l tb ag H0 F0 K todo fl (put f d (.bool (decide (q2<=q)))) cs):DC P n l tb ag H0 F0 K (i::todo) fl f cs:=aU ho hw (fun ha=>oz (EN ha hx hn) (EN ha hy hm)) h
theorem vL{kk:IntKind}{q q2:Int}(ho:l[i]?=some ⟨d,.binOp .eql T x y T',T'',ps,af,gd⟩)(hw:Wt n l f gd)(hx:EV n f x (.int kk q))(hn:aM x (aF l ⟨d,.binOp .eql T x y T',T'',ps,af,gd⟩)=true)(hy:EV n f y (.int kk q2))(hm:aM y (aF l ⟨d,.binOp .eql T x y T',T'',ps,af,gd⟩)=true)
   (h:DC P n l tb ag H0 F0 K todo fl (put f d (.bool (q==q2))) cs):DC P n l tb ag H0 F0 K (i::todo) fl f cs:=aU ho hw (fun ha=>oC (EN ha hx hn) (EN ha hy hm)) h
theorem vM{kk:IntKind}{q q2:Int}(ho:l[i]?=some ⟨d,.binOp .neq T x y T',T'',ps,af,gd⟩)(hw:Wt n l f gd)(hx:EV n f x (.int kk q))(hn:aM x (aF l ⟨d,.binOp .neq T x y T',T'',ps,af,gd⟩)=true)(hy:EV n f y (.int kk q2))(hm:aM y (aF l ⟨d,.binOp .neq T x y T',T'',ps,af,gd⟩)=true)
   (h:DC P n l tb ag H0 F0 K todo fl (put f d (.bool (q !=q2))) cs):DC P n l tb ag H0 F0 K (i::todo) fl f cs:=aU ho hw (fun ha=>oD (EN ha hx hn) (EN ha hy hm)) h
theorem vN{b:Bool}(ho:l[i]?=some ⟨d,.unOp .not T x,T',ps,af,gd⟩)(hw:Wt n l f gd)(hx:EV n f x (.bool b))(hn:aM x (aF l ⟨d,.unOp .not T x,T',ps,af,gd⟩)=true)
   (h:DC P n l tb ag H0 F0 K todo fl (put f d (.bool (!b))) cs):DC P n l tb ag H0 F0 K (i::todo) fl f cs:=aU ho hw (fun ha=>oF (EN ha hx hn)) h
theorem wy(ho:l[i]?=some ⟨d,.move x,T,ps,af,gd⟩)(hw:Wt n l f gd)
   (hx:EV n f x v) (hn:aM x (aF l ⟨d,.move x,T,ps,af,gd⟩)=true) (h:DC P n l tb ag H0 F0 K todo fl (put f d v) cs):
   DC P n l tb ag H0 F0 K (i::todo) fl f cs:=aU ho hw (fun ha=>iJ (EN ha hx hn)) h
theorem wz(ho:l[i]?=some ⟨d,.assign x,T,ps,af,gd⟩)(hw:Wt n l f gd)
   (hx:EV n f x v) (hn:aM x (aF l ⟨d,.assign x,T,ps,af,gd⟩)=true) (h:DC P n l tb ag H0 F0 K todo fl (put f d v) cs):
   DC P n l tb ag H0 F0 K (i::todo) fl f cs:=aU ho hw (fun ha=>dL (EN ha hx hn)) h
theorem vO(ho:l[i]?=some ⟨d,.pick x y z,T,ps,af,gd⟩)(hw:Wt n l f gd)(hc:EV n f x (.bool true))(hn:aM x (aF l ⟨d,.pick x y z,T,ps,af,gd⟩)=true)
   (hy:EV n f y v) (hm:aM y (aF l ⟨d,.pick x y z,T,ps,af,gd⟩)=true) (h:DC P n l tb ag H0 F0 K todo fl (put f d v) cs):
   DC P n l tb ag H0 F0 K (i::todo) fl f cs:=aU ho hw (fun ha=>nT (EN ha hc hn) (EN ha hy hm)) h
theorem vP(ho:l[i]?=some ⟨d,.pick x y z,T,ps,af,gd⟩)(hw:Wt n l f gd)(hc:EV n f x (.bool false))(hn:aM x (aF l ⟨d,.pick x y z,T,ps,af,gd⟩)=true)
   (hy:EV n f z v) (hm:aM z (aF l ⟨d,.pick x y z,T,ps,af,gd⟩)=true) (h:DC P n l tb ag H0 F0 K todo fl (put f d v) cs):
   DC P n l tb ag H0 F0 K (i::todo) fl f cs:=aU ho hw (fun ha=>nU (EN ha hc hn) (EN ha hy hm)) h
theorem wB{k i0 j fi off:Nat}(ho:l[i]?=some ⟨d,.fieldAddr T x fi,T',ps,af,gd⟩){hF:fw P T fi off}(hw:Wt n l f gd)
   (hx:EV n f x (.pointer (some ⟨k,i0,some j⟩))) (hn:aM x (aF l ⟨d,.fieldAddr T x fi,T',ps,af,gd⟩)=true) (h:DC P n l tb ag H0 F0 K todo fl (put f d (.pointer (some ⟨k,i0,some (j+off)⟩))) cs):
   DC P n l tb ag H0 F0 K (i::todo) fl f cs:=aU ho hw (fun ha=>dD hF.h (EN ha hx hn)) h
theorem vQ{k j:Nat}{TB:TypeId}{e:Value}(ho:l[i]?=some ⟨d,.load T x,T',ps,af,gd⟩){hA:bY P T false}(hw:Wt n l f gd)
   (hx:EV n f x (.pointer (some ⟨k,0,some j⟩))) (hn:aM x (aF l ⟨d,.load T x,T',ps,af,gd⟩)=true) (hm:Mem (di k ⟨[e],TB,true,false⟩) cs) (hv:e.cells.toList[j]?=some v)
   (h:DC P n l tb ag H0 F0 K todo fl (put f d v) cs):DC P n l tb ag H0 F0 K (i::todo) fl f cs:=jH ho hw hm rfl (fun ha hp=>dE hA.h (EN ha hx hn) hp.2 rfl hv) h
theorem vR{k s b:Nat}{zv:Value}{TB:TypeId}{e:List Value}(ho:l[i]?=some ⟨d,.load T x,T',ps,af,gd⟩){hA:bY P T true}{ht:bK P T s b zv}(hw:Wt n l f gd)
   (hx:EV n f x (.pointer (some ⟨k,0,some 0⟩))) (hn:aM x (aF l ⟨d,.load T x,T',ps,af,gd⟩)=true) (hm:Mem (di k ⟨[.agg e.toArray],TB,true,false⟩) cs) (h0:Nat.blt 0 s=true) (hl:e.length=s)
   (h:DC P n l tb ag H0 F0 K todo fl (put f d (.agg e.toArray)) cs):DC P n l tb ag H0 F0 K (i::todo) fl f cs:=jH ho hw hm rfl (fun ha hp=>jg hA.h ht.h.sz h0 (EN ha hx hn) hp.2 hl) h
theorem vS{α:Type}{R:aa->Value->α->Prop}{_:aP R}{xs:List α}{ts:List TypeId}(ho:l[i]?=some ⟨d,.call ⟨.builtin .len,[x].toArray,(T::ts).toArray⟩,T',ps,af,gd⟩){hT:eH P T E}(hw:Wt n l f gd)
   (hx:EV n f x v) (hn:aM x (aF l ⟨d,.call ⟨.builtin .len,[x].toArray,(T::ts).toArray⟩,T',ps,af,gd⟩)=true) (hm:Mem (aY (aO E R) v xs) cs)
   (h:DC P n l tb ag H0 F0 K todo fl (put f d (.int .i64 xs.length)) cs):DC P n l tb ag H0 F0 K (i::todo) fl f cs:=jH ho hw hm rfl (fun ha hp=>gG hT.h (EN ha hx hn) (kI hp)) h
theorem wC{t:Tmp}{j:Nat}{b:Bool}(ho:l[i]?=some ⟨d,op,T,ps,af,some (j,b)⟩)(h1:(l[j]?).bind (·.dst)=some t)(h2:f t= .bool (!b))(h3:Nat.blt t n=true)(h:DC P n l tb ag H0 F0 K todo fl (put f d undef) cs):
   DC P n l tb ag H0 F0 K (i::todo) fl f cs:=uJ t ho h1 h2 h3 h
theorem wD{t:Tmp}{j:Nat}{b:Bool}(ho:l[i]?=some ⟨d,op,T,ps,af,some (j,b)⟩)(h1:(l[j]?).bind (·.dst)=some t)(h2:f t=undef)(h3:Nat.blt t n=true)(h:DC P n l tb ag H0 F0 K todo fl (put f d undef) cs):
   DC P n l tb ag H0 F0 K (i::todo) fl f cs:=uk t ho h1 h2 h3 h
theorem rM{K:Fr->List ae->Prop}{Q:Exit->Fr->List ae->Prop}(h:K f cs):fO K Q .normal f cs:=h
theorem tN{id:Nat}{Q:Exit->Fr->List ae->Prop}(h:Q .normal f cs):eF id Q .normal f cs:=h
theorem au{G N:Prop}(k:N)(h:N->G:=by
   intro k
   repeat (first|with_reducible refine rM ?_|with_reducible refine tN ?_)
   first
   |((with_reducible refine' v_ ?hx k); (case hx=>exact cK))
   |((with_reducible refine' wm ?hx k); (case hx=>exact aA))
   |with_reducible exact bz k
   |((with_reducible refine' wo ?r1 ?r2 ?r3 k); (case r1=>exact rfl); (case r2=>exact rfl); (case r3=>exact rfl))
   |((with_reducible refine' wu ?r1 ?r2 ?r3 k); (case r1=>exact rfl); (case r2=>exact rfl); (case r3=>exact rfl))
   |((with_reducible refine' wh ?hx k); (case hx=>exact cK))
   |((with_reducible refine' uX ?hx ?hm ?hv k); (case hx=>exact aA); (case hm=>exact bF); (case hv=>exact lW))
   |((with_reducible refine' uY ?hx ?hm ?hv k); (case hx=>exact aA); (case hm=>exact bF); (case hv=>exact lW))
   |((with_reducible refine' uZ ?hx ?hm ?r1 ?r2 k); (case hx=>exact aA); (case hm=>exact bF); (case r1=>exact rfl); (case r2=>exact rfl))
   |((with_reducible refine' u6 ?hx ?hm ?r1 ?r2 k); (case hx=>exact aA); (case hm=>exact bF); (case r1=>exact rfl); (case r2=>exact rfl))
   |((with_reducible refine' u7 ?hx ?hm k); (case hx=>exact cK); (case hm=>exact bF); all_goals infer_instance)
   |((with_reducible refine' uy ?hx ?hm k); (case hx=>exact cK); (case hm=>exact bF); all_goals infer_instance)
   |((with_reducible refine' vo ?a ?b k); (case a=>exact aA); (case b=>exact aA))
   |((with_reducible refine' vD ?a k); (case a=>exact aA))
   |((with_reducible refine' uV ?hc ?hy k); (case hc=>exact aA); (case hy=>exact cK))
   |((with_reducible refine' uW ?hc ?hy k); (case hc=>exact aA); (case hy=>exact cK))
   |((with_reducible refine' ww ?r1 ?r2 ?r3 k); (case r1=>exact rfl); (case r2=>exact rfl); (case r3=>exact rfl))
   |((with_reducible refine' u_ ?a ?b k); (case a=>exact aA); (case b=>exact aA))
   |((with_reducible refine' ve ?a ?b k); (case a=>exact aA); (case b=>exact aA))
   |((with_reducible refine' vB ?a ?b k); (case a=>exact aA); (case b=>exact aA))
   |((with_reducible refine' vC ?a ?b k); (case a=>exact aA); (case b=>exact aA))
   |((with_reducible refine' vv ?a ?b k); (case a=>exact aA); (case b=>exact aA))
   |((with_reducible refine' vw ?a ?b k); (case a=>exact aA); (case b=>exact aA))
   |((with_reducible refine' vz ?a ?b k); (case a=>exact aA); (case b=>exact aA))
   |((with_reducible refine' vg ?a ?b k); (case a=>exact aA); (case b=>exact aA))
   |with_reducible exact bL k
   |with_reducible exact iw k
   |with_reducible exact nE k
   |with_reducible exact jo k
   |with_reducible exact eU k
   |with_reducible exact mI k
   |with_reducible exact rC k
   |with_reducible exact m_ k
   |((with_reducible refine' t_ ?a k); (case a=>exact rfl))
   |with_reducible exact sU k
   |with_reducible exact nD k
   |with_reducible exact gF k):G:=h k
theorem du{G N:Prop}(k:N)(h:N->G:=by
   intro k
   first
   |((with_reducible refine' wy ?r1 ?hw ?hx ?r2 k); (case r1=>exact rfl); (case hw=>exact bD); (case hx=>exact cK); (case r2=>exact rfl))
   |((with_reducible refine' wB ?r1 ?hw ?hx ?r2 k); (case r1=>exact rfl); (case hw=>exact bD); (case hx=>exact aA); (case r2=>exact rfl); all_goals infer_instance)
   |((with_reducible refine' vQ ?r1 ?hw ?hx ?r2 ?hm ?hv k); (case r1=>exact rfl); (case hw=>exact bD); (case hx=>exact aA); (case r2=>exact rfl); (case hm=>exact bF); (case hv=>exact lW); all_goals infer_instance)
   |((with_reducible refine' wC ?r1 ?r2 ?r3 ?r4 k); (case r1=>exact rfl); (case r2=>exact rfl); (case r3=>exact rfl); (case r4=>exact rfl))
   |((with_reducible refine' wD ?r1 ?r2 ?r3 ?r4 k); (case r1=>exact rfl); (case r2=>exact rfl); (case r3=>exact rfl); (case r4=>exact rfl))
   |((with_reducible refine' vS ?r1 ?hw ?hx ?r2 ?hm k); (case r1=>exact rfl); (case hw=>exact bD); (case hx=>exact cK); (case r2=>exact rfl); (case hm=>exact bF); all_goals infer_instance)
   |((with_reducible refine' vO ?r1 ?hw ?hc ?r2 ?hy ?r3 k); (case r1=>exact rfl); (case hw=>exact bD); (case hc=>exact aA); (case r2=>exact rfl); (case hy=>exact cK); (case r3=>exact rfl))
   |((with_reducible refine' vP ?r1 ?hw ?hc ?r2 ?hy ?r3 k); (case r1=>exact rfl); (case hw=>exact bD); (case hc=>exact aA); (case r2=>exact rfl); (case hy=>exact cK); (case r3=>exact rfl))
   |((with_reducible refine' vN ?r1 ?hw ?hx ?r2 k); (case r1=>exact rfl); (case hw=>exact bD); (case hx=>exact aA); (case r2=>exact rfl))
   |((with_reducible refine' vH ?r1 ?hw ?hx ?r2 ?hy ?r3 k); (case r1=>exact rfl); (case hw=>exact bD); (case hx=>exact aA); (case r2=>exact rfl); (case hy=>exact aA); (case r3=>exact rfl))
   |((with_reducible refine' vL ?r1 ?hw ?hx ?r2 ?hy ?r3 k); (case r1=>exact rfl); (case hw=>exact bD); (case hx=>exact aA); (case r2=>exact rfl); (case hy=>exact aA); (case r3=>exact rfl))
   |((with_reducible refine' vM ?r1 ?hw ?hx ?r2 ?hy ?r3 k); (case r1=>exact rfl); (case hw=>exact bD); (case hx=>exact aA); (case r2=>exact rfl); (case hy=>exact aA); (case r3=>exact rfl))
   |((with_reducible refine' vE ?r1 ?hw ?hx ?r2 ?hy ?r3 k); (case r1=>exact rfl); (case hw=>exact bD); (case hx=>exact aA); (case r2=>exact rfl); (case hy=>exact aA); (case r3=>exact rfl))
   |((with_reducible refine' vF ?r1 ?hw ?hx ?r2 ?hy ?r3 k); (case r1=>exact rfl); (case hw=>exact bD); (case hx=>exact aA); (case r2=>exact rfl); (case hy=>exact aA); (case r3=>exact rfl))
   |((with_reducible refine' vI ?r1 ?hw ?hx ?r2 ?hy ?r3 k); (case r1=>exact rfl); (case hw=>exact bD); (case hx=>exact aA); (case r2=>exact rfl); (case hy=>exact aA); (case r3=>exact rfl))
   |((with_reducible refine' vJ ?r1 ?hw ?hx ?r2 ?hy ?r3 k); (case r1=>exact rfl); (case hw=>exact bD); (case hx=>exact aA); (case r2=>exact rfl); (case hy=>exact aA); (case r3=>exact rfl))
   |((with_reducible refine' vK ?r1 ?hw ?hx ?r2 ?hy ?r3 k); (case r1=>exact rfl); (case hw=>exact bD); (case hx=>exact aA); (case r2=>exact rfl); (case hy=>exact aA); (case r3=>exact rfl))
   |((with_reducible refine' vG ?r1 ?hw ?hx ?r2 ?hy ?r3 k); (case r1=>exact rfl); (case hw=>exact bD); (case hx=>exact aA); (case r2=>exact rfl); (case hy=>exact aA); (case r3=>exact rfl))
   |((with_reducible refine' wz ?r1 ?hw ?hx ?r2 k); (case r1=>exact rfl); (case hw=>exact bD); (case hx=>exact cK); (case r2=>exact rfl))
   |((with_reducible refine' vR ?r1 ?hw ?hx ?r2 ?hm ?r3 ?r4 k); (case r1=>exact rfl); (case hw=>exact bD); (case hx=>exact aA); (case r2=>exact rfl); (case hm=>exact bF); (all_goals (try infer_instance)); (case r3=>exact rfl); (case r4=>exact rfl))
   |with_reducible exact lg k):G:=h k
theorem xP{fl:List (Nat×List Nat)}(h:bS tb i rest fl:=by
   repeat (first
     |exact bS.nil
     |refine' bS.dep rfl ?_
     |refine' bS.imm (by exact bF) ?_)):bS tb i rest fl:=h
theorem pO{f':Fr}{o:Oper}:∀{xs:List Operand}{vs:List Value},aT l o f f'->bB n f xs vs->xs.all (fun x=>aM x (aF l o))=true->bB n f' xs vs
 |[],[],_,_,_=>.nil
 |x::xs,v::vs,ha,⟨h,t⟩,hn=>by
   simp only[List.all_cons,Bool.and_eq_true]at hn
   exact .cons (EN ha h hn.1) (pO ha t hn.2)
 |[],_::_,_,h,_=>h.elim
 |_::_,[],_,h,_=>h.elim
variable{ι α:Type}{val:ι->Value}{R:aa->Value->α->Prop}{xs:List α}{a:α}{g k j s b off:Nat}{zv e:Value}{kk:IntKind}{q:Int}{TB:TypeId}{Q:Exit->Fr->List ae->Prop}{c1 c2:Code}
theorem xQ{b:Bool}(hb:b=true)(h1:CW P n H0 F0 c1 Q f cs)(hc:EV n f x (.bool b):=by exact aA):CW P n H0 F0 (.cond x c1 c2) Q f cs:=dW hc (fun _=>h1) (fun h=>absurd (hb.symm.trans h) (by decide))
theorem xR{b:Bool}(hb:b=false)(h2:CW P n H0 F0 c2 Q f cs)(hc:EV n f x (.bool b):=by exact aA):CW P n H0 F0 (.cond x c1 c2) Q f cs:=dW hc (fun h=>absurd (hb.symm.trans h) (by decide)) (fun _=>h2)
theorem jW{p:Prop}{_:Decidable p}(h1:CW P n H0 F0 c1 Q f cs)(hc:EV n f x (.bool (decide p)):=by exact aA)(hp:p:=by omega):CW P n H0 F0 (.cond x c1 c2) Q f cs:=xQ (decide_eq_true hp) h1 hc
theorem jX{p:Prop}{_:Decidable p}(h2:CW P n H0 F0 c2 Q f cs)(hc:EV n f x (.bool (decide p)):=by exact aA)(hp:¬ p:=by omega):CW P n H0 F0 (.cond x c1 c2) Q f cs:=xR (decide_eq_false hp) h2 hc
theorem Ai [aP R] [hT:eH P T E] [hs:bK P E s b zv](hi:xs[q.toNat]?=some a)(h:∀k j,ai P n H0 F0 A r (put f d (.pointer (some ⟨k,j,some 0⟩))) (cZ E R k j a::cs) K)
   (hx:EV n f x v:=by exact cK) (hy:EV n f y (.int kk q):=by exact aA) (hm:Mem (aY (aO E R) v xs) cs:=by exact bF) (h0:0<=q:=by first|exact Int.natCast_nonneg _|assumption):
   ai P n H0 F0 A (⟨d,.indexAddr T x y,T',ps,af,none⟩::r) f cs K:=oJ hT.h hs.h.sz hx hy hm h0 hi h
theorem Di [aP R] [hT:eH P T E] [hs:bK P E s b zv](hi:xs[q.toNat]?=some a)(h:∀k j,DC P n l tb ag H0 F0 K todo fl (put f d (.pointer (some ⟨k,j,some 0⟩))) (cZ E R k j a::cs))
   (ho:l[i]?=some ⟨d,.indexAddr T x y,T',ps,af,gd⟩:=by rfl) (hw:Wt n l f gd:=by exact bD)
   (hx:EV n f x v:=by exact cK) (hy:EV n f y (.int kk q):=by exact aA) (eG:aM x (aF l ⟨d,.indexAddr T x y,T',ps,af,gd⟩)=true:=by rfl) (hyn:aM y (aF l ⟨d,.indexAddr T x y,T',ps,af,gd⟩)=true:=by rfl)
   (hm:Mem (aY (aO E R) v xs) cs:=by exact bF) (h0:0<=q:=by first|exact Int.natCast_nonneg _|assumption):
   DC P n l tb ag H0 F0 K (i::todo) fl f cs:=uL hT.h hs.h.sz ho hw hx hy eG hyn hm h0 hi h
theorem g_ [ht:bK P T s b zv](h:∀k,ai P n H0 F0 A r (put f d (.pointer (some ⟨k,0,some 0⟩))) (di k ⟨[v],T,true,false⟩::cs) K)(hx:EV n f x v:=by exact cK)(hv:v.cells.size=s:=by rfl):
   ai P n H0 F0 A (⟨d,.box T x,T',ps,af,none⟩::r) f cs K:=uf rfl (uA ht.h.sz hx hv) h
theorem pQ [ht:bK P T s b zv](h:∀k,ai P n H0 F0 A r (put f d (.pointer (some ⟨k,0,some 0⟩))) (bv k ⟨[zv],T,true,true⟩::cs) K)(hv:zv.cells.size=s:=by rfl)(hc:fK zv=true:=by rfl):
   ai P n H0 F0 A (⟨d,.alloc T,T',ps,af,none⟩::r) f cs K:=gJ rfl (kz ht.h hv hc) h
theorem As [ht:bK P T s b zv](pR:Value)(h:ai P n H0 F0 A r (put f d undef) (dC k TB pR::rest) K)(hx:EV n f x (.pointer (some ⟨k,0,some j⟩)):=by exact aA)(hy:EV n f y v:=by exact cK)(hm:cB cs (dC k TB e) rest:=by exact oQ)
   (hv:v.cells.size=s:=by rfl) (hsc:v.cells.toList.all scal=true:=by rfl) (h0:Nat.blt 0 s=true:=by rfl) (hj:Nat.ble (j+s) e.cells.size=true:=by rfl) (he:dM e j v.cells.toList=pR:=by rfl):
   ai P n H0 F0 A (⟨d,.store T x y,T',ps,af,none⟩::r) f cs K:=dJ (.cons hm .nil) (iG ht.h.sz hx hy hv hsc h0 hj he) (fun _=>h)
theorem wE{rs:List ResultVar}{vs:List Value}(h:bI P n f cs rs vs:=by
   first
   |exact bI.nil|exact .tmp rfl rfl .nil|exact .tmp rfl rfl (.tmp rfl rfl .nil)|exact .tmp rfl rfl (.tmp rfl rfl (.tmp rfl rfl .nil))|exact .tmp rfl rfl (.tmp rfl rfl (.tmp rfl rfl (.tmp rfl rfl .nil)))
   |exact bI.cellA rfl rfl (by exact bF) (by exact rfl) bY.h (TY.sz bK.h) (by exact rfl) (by exact rfl) .nil
   |exact bI.cellS rfl rfl (by exact bF) (by exact rfl) bY.h (by exact rfl) .nil):bI P n f cs rs vs:=h
theorem Er{rs:List ResultVar}{post:ι->List ae}{vs:List Value}(x:ι)(h1:bI P n f cs rs vs:=by exact wE)(h2:bT vs=val x:=by rfl)(h3:aS cs (post x) rest:=by exact eB):gN P n rs val post .ret f cs:=gD x h1 h2 (.sel h3)
theorem bV(h:aS cs pre rest:=by exact eB):bq cs pre:=.sel h
theorem wk(k:Nat)(h:k<9223372036854775807:=by omega):IntKind.i64.wrap ((k:Int)+1)=((k+1:Nat):Int):=by rw[jk (by omega) (by omega)]; rfl
end
end Go.Fw
/-
 The same for calls: with the facts that come of them in a list.  No conditions.
-/
set_option linter.unusedVariables false
namespace Go.Fw
open Go
section
variable{P:Program} [aj P]{n:Nat}{f:Fr}{H0:aa}{F0:List Nat}{cs pre rest:List ae}{x y:Operand}{v:Value}{A:Array Oper}{r:List Oper}{K:Fr->List ae->Prop}{d:Option Tmp}{T E:TypeId}{ps:String}{af:Array Edge}
variable{l:List Oper}{tb ag todo:List Nat}{fl:List (Nat×List Nat)}{i g:Nat}{gd:Option (Nat×Bool)}{ι α:Type}{val:ι->Value}{R:aa->Value->α->Prop}{a:α}{k j s b off:Nat}{zv:Value}{xs:List Operand}{ts:Array TypeId}{vs:List Value}
theorem nt{b:Bool}(h:b=false):¬ b=true:=by rw[h]; exact Bool.false_ne_true
theorem Se{fn:Func}{c:Code}{args:List Value}{post:ι->List ae}(n:Nat)(hf:P.funcs[g]?=some fn)(rs:List ResultVar)(h:∀H0 F0,CW P n H0 F0 c (gN P n rs val post) (kL args) pre)
   (hb:fn.body=some c:=by rfl) (hn:fn.ntmps=n:=by rfl) (hr:fn.results=rs.toArray:=by rfl) (hl:Nat.ble rs.length 6=true:=by rfl) (ha:Nat.ble args.length n=true:=by rfl):Spec P g args pre val post:=iq hf hb hn hr hl ha h
theorem fA [hg:bC P g](hs:Spec P g vs pre val (fun x=>[]))(h:∀x,ai P n H0 F0 A r (put f d (val x)) (rest) K)(he:bB n f xs vs:=by exact jK)(hl:aS cs pre rest:=by exact eB):
   ai P n H0 F0 A (⟨d,.call ⟨.value (.func g),xs.toArray,ts⟩,T,ps,af,none⟩::r) f cs K:=lC hl (dO hg.h he hs) h
theorem xS [hg:bC P g](hs:Spec P g vs pre val (fun x=>[]))(h:∀x,DC P n l tb ag H0 F0 K todo fl (put f d (val x)) (rest))
   (ho:l[i]?=some ⟨d,.call ⟨.value (.func g),xs.toArray,ts⟩,T,ps,af,gd⟩:=by rfl) (hA:ag.any (Nat.beq i)=true:=by rfl) (hw:Wt n l f gd:=by exact bD) (he:bB n f xs vs:=by exact jK)
   (hn:xs.all (fun x=>aM x (aF l ⟨d,.call ⟨.value (.func g),xs.toArray,ts⟩,T,ps,af,gd⟩))=true:=by rfl) (hl:aS cs pre rest:=by exact eB) (hfl:bS tb i rest fl:=by exact xP):
   DC P n l tb ag H0 F0 K (i::todo) fl f cs:=n_ hA ho hw hl hfl (fun ha=>dO hg.h (pO ha he hn) hs) h
theorem jY{c1:ι->ae} [hg:bC P g](hs:Spec P g vs pre val (fun x=>[c1 x]))(h:∀x,ai P n H0 F0 A r (put f d (val x)) (c1 x::rest) K)(he:bB n f xs vs:=by exact jK)(hl:aS cs pre rest:=by exact eB):
   ai P n H0 F0 A (⟨d,.call ⟨.value (.func g),xs.toArray,ts⟩,T,ps,af,none⟩::r) f cs K:=dJ hl (dO hg.h he hs) h
theorem lJ{T2:TypeId} [aP R] [hA:bY P T true] [ht:bK P T s b zv](ul:ι->List Value)(hop:∀H e,R H e a-> ∃i,off+s<=e.cells.size/\(e.cells.toList.drop off).take s=ul i/\ ∀c∈([]:List ae),c.P H/\c.F=[])
   (h:∀i,ai P n H0 F0 A r (put f d (.agg (ul i).toArray)) (cs) K) (hx:EV n f x (.pointer (some ⟨k,j,some off⟩)):=by exact aA) (hm:Mem (cZ E R k j a) cs:=by exact bF) (h0:Nat.blt 0 s=true:=by rfl):
   ai P n H0 F0 A (⟨d,.load T x,T2,ps,af,none⟩::r) f cs K:=og ul hA.h ht.h.sz h0 hx hm hop h
theorem o9{T2:TypeId} [aP R] [hA:bY P T true] [ht:bK P T s b zv](ul:ι->List Value)(hop:∀H e,R H e a-> ∃i,off+s<=e.cells.size/\(e.cells.toList.drop off).take s=ul i/\ ∀c∈([]:List ae),c.P H/\c.F=[])
   (h:∀i,DC P n l tb ag H0 F0 K todo fl (put f d (.agg (ul i).toArray)) (cs)) (ho:l[i]?=some ⟨d,.load T x,T2,ps,af,gd⟩:=by rfl) (hw:Wt n l f gd:=by exact bD)
   (hx:EV n f x (.pointer (some ⟨k,j,some off⟩)):=by exact aA) (eG:aM x (aF l ⟨d,.load T x,T2,ps,af,gd⟩)=true:=by rfl) (hm:Mem (cZ E R k j a) cs:=by exact bF) (h0:Nat.blt 0 s=true:=by rfl):
   DC P n l tb ag H0 F0 K (i::todo) fl f cs:=uh ul hA.h ht.h.sz h0 ho hw hx eG hm hop h
theorem lX{c1:ae}{l:List Oper}(hs:aS cs pre rest)(hv:Conv pre [c1])(h:ai P n H0 F0 A l f (c1::rest) K):ai P n H0 F0 A l f cs K:=nY hs hv bE h
theorem bnd{α β:Type}{G:Prop}{x:Option α}{g:α->Option β}{b:β}(h:x.bind g=some b)(k:∀a,x=some a->g a=some b->G):G:=by
 obtain⟨a,h1,h2⟩:=bind_some h
 exact k a h1 h2
theorem Ci{β:Type}{b:Bool}{p q:Option β}{R0:β}{c1 c2:Code}{Q:Exit->Fr->List ae->Prop}(hF:(if b=true then p else q)=some R0)(h1:b=true->p=some R0->CW P n H0 F0 c1 Q f cs)(h2:b=false->q=some R0->CW P n H0 F0 c2 Q f cs)
   (hc:EV n f x (.bool b):=by exact aA):CW P n H0 F0 (.cond x c1 c2) Q f cs:=
 dW hc (fun e=>h1 e (by rwa [if_pos e]at hF)) (fun e=>h2 e (by rwa [if_neg (nt e)]at hF))
theorem Kb{β:Type}{R':aa->Value->β->Prop} [aP R']{T3:TypeId}{u:Value}{cs':List ae}{c:Code}{Q:Exit->Fr->List ae->Prop}(he:bq cs cs')(ys:List β)(h:ys.length<4611686018427387904->CW P n H0 F0 c Q f cs')(hm:Mem (aY (aO T3 R') u ys) cs':=by exact bF):CW P n H0 F0 c Q f cs:=
 gK he (kN hm mQ h)
abbrev pz(k:Nat):Value:=.pointer (some ⟨k,0,some 0⟩)
theorem dn{α:Type}{k:Nat}{l:List α}(h:List.drop k l=[]):l.length<=k:=List.drop_eq_nil_iff.1 h
end
end Go.Fw
/-
 More plain laws about loops. No conditions.
-/
set_option linter.unusedVariables false
namespace Go.Fw
open Go
end Go.Fw
