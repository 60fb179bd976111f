/-
  A framework: readings, small rules, plain laws. No conditions.
-/
import Derived.Test.YtlnefhbbbikmgabGreatFb
import Derived.Deep.Slices
import Derived.ChangeArms
import Derived.SizedLaws
import Derived.Laws.Small
import Derived.WalkSpells
import Derived.Laws.Slices
import Derived.Below
import Derived.Sort.Grow
import Derived.Lib.LaidTab
import Derived.Lib.ItoaNum
import Derived.Lib.Join
import Derived.Deep.Draws
import Derived.Lib.SlicesCompact
import Derived.Lib.AppendZerosOnto
import Derived.Lib.Overlaps
import Derived.Laws.Externs
/-
 The bridge: what the arguments of a row's function read aO, aO data.
-/
namespace Go.Fw
open Go Go.RowKit Go.WideShapes Go.ChangeShapes Go.ChangeAt
def rG(ρ:dI):Prop:=∀k L,ρ k=some (some L)->L.own=false
def eT{α:Type}(P:Program) [bF P](t:TypeId)(R:aB->Value->α->Prop)(W:α->Prop):Prop:=
 ∀{T:Type}(enc:TypeId×Value->T)(w:World)(fuel:Nat)(cs:List Value)(x:DataW T×List MemPlace),
   DataW.trod enc P w 0 (fun _=>true) true fuel t cs=some x->(∀n∈x.1.weights P t,n<=reachBytes)->
   ∀(ρ:dI)(H:aB),aD P ρ H w->rG ρ-> ∃(ρ':dI)(H':aB)(av:Value)(a:α),aD P ρ' H' w/\rG ρ'/\Up ρ ρ'/\fP H H'/\bn ρ' av.cells.toList cs/\R H' av a/\W a
theorem aD.nil(P:Program) [bF P](w:World)(hV:bF.V P w):aD P (fun _=>none) [] w:=⟨by simp,by simp,by simp,by simp,⟨w,hV,aQT _,fun _ _=>rfl,by simp⟩⟩
theorem rG.nil:rG (fun _=>none):=fun _ _ h=>by simp at h
section
variable{P:Program} [bF P]{ρ:dI}{H:aB}{w:World}
theorem aae{ρ:dI}{H:aB}(h:aD P ρ H w)(o:Option Loc):Up ρ (ny ρ H.length o):=by
 intro k
 by_cases e:k=H.length
 · subst e; exact .inl (h.dom _ (aQT _))
 · exact .inr (.inl (eH _ _ e))
theorem aD.foreign{L:Loc}{b:eO}(h:aD P ρ H w)(hF:rG ρ)(hL:L.own=false)(hb:xm P ρ L b w):aD P (ny ρ H.length (some L)) (H++[some b]) w:=by
 have hu:=aae h (some L)
 constructor
 · intro k L' hk
   by_cases e:k=H.length
   · subst e
     rw[gX]at hk
     obtain rfl:L=L':=by simpa using hk
     exact⟨b,by simp,hb.of_same hu rfl⟩
   · rw[eH _ _ e]at hk
     obtain⟨b',hb',hr⟩:=h.blk k L' hk
     exact⟨b',by rw[aQQ (qh hb')]; exact hb',hr.of_same hu rfl⟩
 · intro k b' hb' hk
   by_cases e:k=H.length
   · subst e; rw[gX]at hk; simp at hk
   · rw[eH _ _ e]at hk
     have hkl:k<H.length:=by
       have:=qh hb'
       simp at this; omega
     rw[aQQ hkl]at hb'
     exact h.alive k b' hb' hk
 · intro k hk
   simp at hk
   rw[eH _ _ (by omega)]
   exact h.dom k (by omega)
 · intro k k' L1 L2 h1 h2 ho _
   exfalso
   by_cases e:k=H.length
   · subst e; rw[gX]at h1
     obtain rfl:L=L1:=by simpa using h1
     rw[hL]at ho; simp at ho
   · rw[eH _ _ e]at h1
     rw[hF k L1 h1]at ho; simp at ho
 · refine h.xU.keep (aQT _) (fun _ _ _=>rfl) fun k L' hk ho=>?_
   by_cases e:k=H.length
   · subst e; rw[gX]at hk
     obtain rfl:L=L':=by simpa using hk
     rw[hL]at ho; simp at ho
   · rw[eH _ _ e]at hk; exact .inl hk
theorem rG.foreign{L:Loc}(hF:rG ρ)(hL:L.own=false)(n:Nat):rG (ny ρ n (some L)):=by
 intro k L' hk
 by_cases e:k=n
 · subst e; rw[gX]at hk
   obtain rfl:L=L':=by simpa using hk
   exact hL
 · rw[eH _ _ e]at hk; exact hF k L' hk
theorem aD.dead(h:aD P ρ H w):aD P (ny ρ H.length none) (H++[none]) w:=by
 have hu:=aae h none
 constructor
 · intro k L' hk
   by_cases e:k=H.length
   · subst e; rw[gX]at hk; simp at hk
   · rw[eH _ _ e]at hk
     obtain⟨b',hb',hr⟩:=h.blk k L' hk
     exact⟨b',by rw[aQQ (qh hb')]; exact hb',hr.of_same hu rfl⟩
 · intro k b' hb' hk
   by_cases e:k=H.length
   · subst e; simp at hb'
   · rw[eH _ _ e]at hk
     have hkl:k<H.length:=by
       have:=qh hb'
       simp at this; omega
     rw[aQQ hkl]at hb'
     exact h.alive k b' hb' hk
 · intro k hk
   simp at hk
   rw[eH _ _ (by omega)]
   exact h.dom k (by omega)
 · intro k k' L1 L2 h1 h2 ho he
   by_cases e:k=H.length
   · subst e; rw[gX]at h1; simp at h1
   · by_cases e':k'=H.length
     · subst e'; rw[gX]at h2; simp at h2
     · rw[eH _ _ e]at h1; rw[eH _ _ e']at h2
       exact h.inj k k' L1 L2 h1 h2 ho he
 · refine h.xU.keep (aQT _) (fun _ _ _=>rfl) fun k L' hk ho=>?_
   by_cases e:k=H.length
   · subst e; rw[gX]at hk; simp at hk
   · rw[eH _ _ e]at hk; exact .inl hk
theorem rG.dead(hF:rG ρ)(n:Nat):rG (ny ρ n none):=by
 intro k L' hk
 by_cases e:k=n
 · subst e; rw[gX]at hk; simp at hk
 · rw[eH _ _ e]at hk; exact hF k L' hk
theorem SV(H:aB)(x:Option eO):fP H (H++[x]):=fun k b hk _=>by rw[aQQ (qh hk)]; exact hk
def l5(a:Int):Prop:=-9223372036854775808<=a/\a<=9223372036854775807
def aFg(_:UInt8):Prop:=True
def aBZ{α:Type}(_:α):Prop:=True
def aB0(a:List UInt8):Prop:=a.length<=140737488351232
def jN{α:Type}(W:α->Prop)(a:List α):Prop:=a.length<=140737488351232/\ ∀x∈a,W x
theorem eT.int{t:TypeId}(ht:P.underlying t=some (.int .i64)):eT P t ax l5:=by
 intro T enc w fuel cs x h _ ρ H hr hF
 obtain⟨n,rfl,rfl,hw⟩:=DataW.trod_int ht h
 refine⟨ρ,H,.int .i64 n,n,hr,hF,Up.refl ρ,fP.refl H,.cons _ _ _ _ (.int _ _) .nil,rfl,?_⟩
 simp only[Lit.wf,IntKind.min,IntKind.max,age]at hw
 unfold l5
 simpa[IntKind.signed,IntKind.bits]using hw
theorem eT.u8{t:TypeId}(ht:P.underlying t=some (.int .u8)):eT P t abf aFg:=by
 intro T enc w fuel cs x h _ ρ H hr hF
 obtain⟨n,rfl,rfl,hw⟩:=DataW.trod_int ht h
 simp only[Lit.wf,IntKind.min,IntKind.max,age]at hw
 have hw':0<=n/\n<=255:=by simpa[IntKind.signed,IntKind.bits]using hw
 refine⟨ρ,H,.int .u8 n,UInt8.ofNat n.toNat,hr,hF,Up.refl ρ,fP.refl H,.cons _ _ _ _ (.int _ _) .nil,?_,aSq⟩
 unfold abf
 have:((UInt8.ofNat n.toNat).toNat:Int)=n:=by
   simp[UInt8.toNat_ofNat']
   omega
 rw[this]
theorem eT.bool{t:TypeId}(ht:P.underlying t=some .bool):eT P t rdBool aBZ:=by
 intro T enc w fuel cs x h _ ρ H hr hF
 obtain⟨b,rfl,rfl⟩:=DataW.trod_bool ht h
 exact⟨ρ,H,.bool b,b,hr,hF,Up.refl ρ,fP.refl H,.cons _ _ _ _ (.bool _) .nil,rfl,aSq⟩
theorem eT.str{t:TypeId}(ht:P.underlying t=some .string):eT P t rdStr aB0:=by
 intro T enc w fuel cs x h hw ρ H hr hF
 obtain⟨s,rfl,rfl,hs⟩:=DataW.trod_string ht h
 refine⟨ρ,H,.string s,s.data.toList,hr,hF,Up.refl ρ,fP.refl H,.cons _ _ _ _ (.string _) .nil,rfl,?_⟩
 have:=hw s.data.toList.length (by simp[DataW.weights])
 exact this
theorem as5{Pg:Program}{T:Type}{e:TypeId}{l:List (DataW T)}{d:DataW T}(hd:d∈l){n:Nat}(hn:n∈d.weights Pg e):n∈DataW.weightsAll Pg e l:=by
 induction l with
 |nil=>simp at hd
 |cons x l ih=>
   simp only[DataW.weightsAll,aQZ]
   rcases List.mem_cons.1 hd with rfl|h
   · exact .inl hn
   · exact .inr (ih h)
theorem al3{α T:Type}{enc:TypeId×Value->T}{E:TypeId}{R:aB->Value->α->Prop}{W:α->Prop} [bz R](hE:eT P E R W){fuel:Nat}{C:Nat->List Value}{D:Nat->DataW T×List MemPlace}:
   ∀(len:Nat),(∀i,i<len->DataW.trod enc P w 0 (fun _=>true) true fuel E (C i)=some (D i)/\ ∀n∈(D i).1.weights P E,n<=reachBytes)-> ∀(ρ:dI)(H:aB),aD P ρ H w->rG ρ->
     ∃(ρ':dI)(H':aB)(es:List Value)(aO:List α),aD P ρ' H' w/\rG ρ'/\Up ρ ρ'/\fP H H'/\es.length=len/\aO.length=len/\(∀(i:Nat) e,es[i]?=some e->bn ρ' e.cells.toList (C i))/\
       (∀(i:Nat) a,aO[i]?=some a-> ∃e,es[i]?=some e/\R H' e a)/\ ∀a∈aO,W a
 |0,_,ρ,H,hr,hF=>⟨ρ,H,[],[],hr,hF,Up.refl ρ,fP.refl H,rfl,rfl,by simp,by simp,by simp⟩
 |len+1,h,ρ,H,hr,hF=>by
   obtain⟨ρ1,H1,es,aO,r1,f1,u1,i1,l1,l2,g1,g2,g3⟩:=al3 hE len (fun i hi=>h i (by omega)) ρ H hr hF
   obtain⟨t,tw⟩:=h len (by omega)
   obtain⟨ρ2,H2,e,a,r2,f2,u2,i2,v2,q2,w2⟩:=hE enc w fuel _ _ t tw ρ1 H1 r1 f1
   refine⟨ρ2,H2,es++[e],aO++[a],r2,f2,u1.trans u2,i1.trans i2,by simp[l1],by simp[l2],?_,?_,?_⟩
   · intro i e' he'
     by_cases hi:i<es.length
     · rw[aQQ hi]at he'
       exact (g1 i e' he').up u2
     · rw[aRq (by omega)]at he'
       have hi':i-es.length=0:=by
         rcases aSM (i-es.length)with h|h
         · exact h
         · rw[aQR (by simp; omega)]at he'; simp at he'
       rw[hi']at he'
       obtain rfl:e=e':=by simpa using he'
       obtain rfl:i=len:=by omega
       exact v2
   · intro i a' ha'
     by_cases hi:i<aO.length
     · rw[aQQ hi]at ha'
       obtain⟨e',he',hq⟩:=g2 i a' ha'
       exact⟨e',by rw[aQQ (by omega)]; exact he',bz.up hq i2⟩
     · rw[aRq (by omega)]at ha'
       have hi':i-aO.length=0:=by
         rcases aSM (i-aO.length)with h|h
         · exact h
         · rw[aQR (by simp; omega)]at ha'; simp at ha'
       rw[hi']at ha'
       obtain rfl:a=a':=by simpa using ha'
       exact⟨e,by rw[aRq (by omega),show i-es.length=0 by omega]; rfl,q2⟩
   · intro a' ha'
     rcases List.mem_append.1 ha' with h|h
     · exact g3 a' h
     · obtain rfl:a'=a:=by simpa using h
       exact w2
theorem eT.slice{α:Type}{t E:TypeId}{R:aB->Value->α->Prop}{W:α->Prop}{s:Nat} [bz R] [Cells R s](ht:P.underlying t=some (.slice E))(hs:P.cellsOf E=s)(h0:0<s)(hb:0<P.bytesOf E)
   (hE:eT P E R W):eT P t (ak E R) (jN W):=by
 intro T enc w fuel cs x h hw ρ H hr hF
 rcases Deep.open_slice ht h with⟨rfl,rfl⟩|⟨a,len,cap,m,n,D,Pl,rfl,-,hlc,hcm,hm,rfl,hx⟩
 · exact⟨ρ,H,.slice none 0 0,[],hr,hF,Up.refl ρ,fP.refl H,.cons _ _ _ _ .oF .nil,.inl ⟨rfl,rfl⟩,by simp[jN]⟩
 have hm':m=cap:=by simpa using hm
 subst hm'
 rcases aSM len with rfl|hpos
 · refine⟨_,_,.slice (some ⟨H.length,0,none⟩) 0 0,[],hr.dead,hF.dead _,aae hr none,SV H none,?_,.inr (.inr ⟨_,_,_,rfl,rfl⟩),by simp[jN]⟩
   exact .cons _ _ _ _ (.ui _ _ _ _ _ _ (gX _ _ _)) .nil
 have hwl:len*P.bytesOf E<=reachBytes:=by
   have:=hw _ (by simp only[DataW.weights,ht]; exact aS5)
   simp only[aRB,List.length_range]at this
   exact aQ6 (aQ4 _ (by omega)) this
 have hlen:len<=140737488351232:=by
   have h1:len*1<=len*P.bytesOf E:=aSF _ hb
   have h2:reachBytes=140737488351232:=rfl
   omega
 have hch:∀i,∃cs',i<len->w.cells? 0 (a.add (i*P.cellsOf E)) (P.cellsOf E)=some cs'/\DataW.trod enc P w 0 (fun _=>true) true n E cs'=some (D i,Pl i):=by
   intro i
   by_cases hi:i<len
   · obtain⟨cs',h1,h2⟩:=hx i (by omega)
     exact⟨cs',fun _=>⟨h1,h2⟩⟩
   · exact⟨[],fun h=>absurd h hi⟩
 obtain⟨C,hC⟩:=Classical.axiomOfChoice hch
 rw[hs]at hC
 obtain⟨ρ1,H1,es,aO,r1,f1,u1,i1,l1,l2,g1,g2,g3⟩:=al3 (enc:=enc) (D:=fun i=>(D i,Pl i)) hE len (fun i hi=>⟨(hC i hi).2,fun k hk=>hw k (by
   simp only[DataW.weights,ht]
   refine List.mem_cons_of_mem _ (List.mem_append_left _ (as5 (d:=D i) (List.mem_map.2 ⟨i,by simpa using hi,rfl⟩) hk)))⟩) ρ H hr hF
 obtain⟨-,hl0,hc0⟩:=World.cells?_some (hC 0 hpos).1
 have hcell:=hc0 0 h0
 rw[apA (by omega)]at hcell
 obtain⟨ab,ao,asp⟩:=a
 have hsp:asp=none:=by simpa[Addr.add]using World.cell?_spot hcell
 subst hsp
 have abg:∃c ct fr,w.heap[ab]?=some (.cells c ct fr):=by
   simp only[World.cell?,Addr.add,aR5,aRr]at hcell
   split at hcell
   · exact⟨_,_,_,by assumption⟩
   · simp at hcell
 obtain⟨c,ct,fr,abg⟩:=abg
 have hadd:∀(o:Nat),Addr.add ⟨ab,ao,none⟩ o=⟨ab,ao+o,none⟩:=by
   intro o
   exact addr_add _ _ _
 have hCi:∀i,i<len->(c.toList.drop (ao+i*s)).take s=C i:=by
   intro i hi
   obtain⟨-,hl,hc⟩:=World.cells?_some (hC i hi).1
   apply aR0
   intro j
   by_cases hj:j<s
   · have:=hc j hj
     rw[hadd,show Addr.add ⟨ab,ao+i*s,none⟩ j=⟨ab,ao+i*s+j,none⟩from addr_add _ _ _,Nv abg]at this
     rw[aRm hj,aRE,←this]
     simp
   · rw[aQR (by rw[aRi]; omega),aQR (by omega)]
 have hbr:xm P ρ1 ⟨ab,ao,s,0,false⟩ ⟨es,E,false,false⟩ w:=by
   refine⟨rfl,hs,c,ct,fr,abg,fun i e he=>?_,by simp⟩
   have hi:i<len:=by
     have:i<es.length:=by
       rcases aQ7 i es.length with h|h
       · exact h
       · simp[aQR h]at he
     omega
   obtain⟨e',he',hq⟩:=g2 i _ (apA (show i<aO.length by omega))
   rw[he]at he'
   obtain rfl:e=e':=by simpa using he'
   exact⟨(Cells.cells hq).1,by rw[hCi i hi]; exact g1 i e he⟩
 refine⟨_,_,.slice (some ⟨H1.length,0,none⟩) len 0,aO,r1.foreign f1 rfl hbr,f1.foreign rfl _,u1.trans (aae r1 _),i1.trans (SV _ _),?_,?_,by omega,g3⟩
 · refine .cons _ _ _ _ (.slice _ _ _ _ _ _ _ (gX _ _ _) hlc (by simp) (by simp) fun _=>⟨?_,by simp⟩) .nil
   simp
 · refine .inr (.inl ⟨H1.length,0,0,⟨es,E,false,false⟩,by rw[l2],by simp,rfl,rfl,by simp[l1,l2],by omega,fun j a ha=>?_⟩)
   obtain⟨e,he,hq⟩:=g2 j a ha
   exact⟨e,by simpa using he,bz.up hq (SV _ _)⟩
def fieldAt(P:Program) [bF P](t:TypeId)(i:Nat):Option (TypeId×Nat×Nat):=
 match P.underlying t with
 |some (.struct fs)=>(fs[i]?).map fun f=>(f.type,f.offset,P.cellsOf f.type)
 |_=>none
theorem akA{t ft:TypeId}{i o s:Nat}(h:fieldAt P t i=some (ft,o,s)):∃fs f,P.underlying t=some (.struct fs)/\fs[i]?=some f/\f.type=ft/\f.offset=o/\P.cellsOf ft=s:=by
 unfold fieldAt at h
 split at h
 · rename_i fs hfs
   obtain⟨f,hf,he⟩:=Option.map_eq_some_iff.1 h
   injection he with e1 e2
   injection e2 with e2 e3
   exact⟨fs,f,hfs,hf,e1,e2,by rw[←e1]; exact e3⟩
 · simp at h
theorem j_{α T:Type}{enc:TypeId×Value->T}{t ft:TypeId}{i o s fuel:Nat}{R:aB->Value->α->Prop}{W:α->Prop}{cs:List Value}{x:DataW T×List MemPlace}
   (hi:fieldAt P t i=some (ft,o,s)) (h:DataW.trod enc P w 0 (fun _=>true) true fuel t cs=some x) (hw:∀n∈x.1.weights P t,n<=reachBytes) (hE:eT P ft R W) (hr:aD P ρ H w) (hF:rG ρ):
   ∃(ρ':dI)(H':aB)(av:Value)(a:α),aD P ρ' H' w/\rG ρ'/\Up ρ ρ'/\fP H H'/\bn ρ' av.cells.toList ((cs.drop o).take s)/\R H' av a/\W a:=by
 obtain⟨fs,f,hfs,hf,rfl,rfl,rfl⟩:=akA hi
 obtain⟨xs,n,rfl,rfl,hl,hxl,hx⟩:=DataW.trod_struct hfs h
 have hlt:i<fs.size:=(Array.getElem?_eq_some_iff.1 hf).1
 have hxi:xs[i]?=some xs[i]:=apA (by omega)
 have ht:=hx i f hf
 rw[hxi]at ht
 refine hE enc w n _ _ ht (fun k hk=>hw k ?_) ρ H hr hF
 simp only[DataW.weights,hfs]
 exact DataW.weights_mem_each (j:=i) (t:=f.type) (d:=(xs[i]).1) (by simp[hf]) (by simp[hxi]) k hk
theorem zU{T:Type}{enc:TypeId×Value->T}{t ft:TypeId}{o s fuel n:Nat}{cs:List Value}{x:DataW T×List MemPlace}
   (hi:fieldAt P t 0=some (ft,o,s)) (h:DataW.trod enc P w 0 (fun _=>true) true fuel t cs=some x) (hn:P.cellsOf t=n):cs.length=n:=by
 obtain⟨fs,f,hfs,-⟩:=akA hi
 obtain⟨xs,n,rfl,rfl,hl,-⟩:=DataW.trod_struct hfs h
 rw[hl,hn]
theorem bn.field{l l' cs:List Value}{o s:Nat}(h:bn ρ l ((cs.drop o).take s))(h':bn ρ l' (cs.drop (o+s))):bn ρ (l++l') (cs.drop o):=by
 have:=h.append h'
 rwa [←aRR,List.take_append_drop]at this
theorem bn.one{v:Value}{l:List Value}(h:bn ρ v.cells.toList l)(hv:Value.cells v= #[v]):bn ρ [v] l:=by rw[hv]at h; exact h
theorem bn.end{cs:List Value}{o:Nat}(h:cs.length=o):bn ρ [] (cs.drop o):=by
 rw[aRj (by omega)]; exact .nil
def yF:Value->Bool
 | .agg _=>true
 |_=>false
def UN(P:Program) [bF P](t:TypeId):Bool:=
 match P.underlying t with
 |some (.struct _)|some (.array _ _)=>true
 |_=>false
theorem avI{r:Reach}{base:Nat}{t:TypeId}{v:Value}(h:Value.okWide P w r base t v):yF v=UN P t:=by
 unfold Value.okWide at h
 unfold UN
 split at h
 · obtain⟨cs,rfl,-⟩:=h; simp_all [yF]
 · obtain⟨cs,rfl,-⟩:=h; simp_all [yF]
 · rename_i h1 h2
   have:yF v=false:=by
     cases v with
     |agg l=>unfold Cell.okWide at h; split at h<;>simp_all [Cell.ok]
     |_=>rfl
   rw[this]
   split<;>simp_all
theorem bW.of_cells{av v:Value}(h:bn ρ av.cells.toList v.cells.toList)(hs:yF v=yF av):bW ρ av v:=by
 cases av with
 |agg l'=>
   cases v with
   |agg l=>have:=bW.agg _ _ h; simpa[Value.cells]using this
   |_=>simp[yF]at hs
 |_=>
   cases v with
   |agg l=>simp[yF]at hs
   |_=>cases h with|cons _ _ _ _ h _=>exact h
theorem amG{α T:Type}{enc:TypeId×Value->T}{t:TypeId}{ts:List TypeId}{R:aB->Value->α->Prop}{W:α->Prop}{vs:List Value}{ds:List (DataW T)}{ps:List MemPlace}
   (h:DataW.TrodAll enc P w 0 (fun _=>true) true (t::ts) vs ds ps) (hw:∀n∈DataW.weightsEach P (t::ts) ds,n<=reachBytes) (hE:eT P t R W) (hsh:∀H v a,R H v a->yF v=UN P t) {r:Reach} {base:Nat} (hok:∀v,vs[0]?=some v->Value.okWide P w r base t v) (hr:aD P ρ H w) (hF:rG ρ):
   ∃(v:Value)(vs':List Value)(d:DataW T)(ds':List (DataW T))(q:List MemPlace)(ρ':dI)(H':aB)(av:Value)(a:α),vs=v::vs'/\ds=d::ds'/\DataW.TrodAll enc P w 0 (fun _=>true) true ts vs' ds' q/\
     (∀n∈DataW.weightsEach P ts ds',n<=reachBytes)/\aD P ρ' H' w/\rG ρ'/\Up ρ ρ'/\fP H H'/\bW ρ' av v/\R H' av a/\W a:=by
 cases vs with
 |nil=>cases ds<;>exact h.elim
 |cons v vs=>
   cases ds with
   |nil=>exact h.elim
   |cons d ds=>
     obtain⟨p,q,⟨fuel,h1⟩,h2,rfl⟩:=h
     obtain⟨ρ',H',av,a,g1,g2,g3,g4,g5,g6,g7⟩:=hE enc w fuel _ _ h1 (fun n hn=>hw n (by simp only[DataW.weightsEach,aQZ]; exact .inl hn)) ρ H hr hF
     exact⟨v,vs,d,ds,q,ρ',H',av,a,rfl,rfl,h2,fun n hn=>hw n (by simp only[DataW.weightsEach,aQZ]; exact .inr hn),g1,g2,g3,g4,.of_cells g5 (by rw[hsh _ _ _ g6,avI (hok v rfl)]),g6,g7⟩
theorem ant{args:Array Value}{i:Nat}{v:Value}(h:args.toList[i]?=some v):args[i]?=some v:=by simpa using h
theorem aw8{Pg:Program}{T:Type}{enc:TypeId×Value->T}{vs:List Value}{ds:List (DataW T)}{ps:List MemPlace}(h:DataW.TrodAll enc Pg w 0 (fun _=>true) true [] vs ds ps):vs=[]/\ds=[]:=by
 cases vs<;>cases ds<;>first|exact⟨rfl,rfl⟩|exact h.elim
end
end Go.Fw
/-
 Small rules for the generator.
-/
set_option linter.unusedVariables false
namespace Go.Fw
open Go
section
variable{P:Program} [bF P]{n:Nat}{f:Fr}{H:aB}{d:Option Tmp}{x y z:Operand}{T T' T'' E:TypeId}{ps:String}{af:Array Edge}{gd:Option (Nat×Bool)}
theorem vW{g:Bool}{s b:Nat}{zv:Value}(ht:TY P T s b zv)(hv:zv.cells.size=s)(hc:um zv=true):uJ P n ⟨d,.alloc T,T',ps,af,gd⟩ f (fun k=>.pointer (some ⟨k,0,some 0⟩)) ⟨[zv],T,true,g⟩:=by
 obtain⟨i,hi,-,-,hz⟩:=ht.inv
 exact axU hi hz ht.sz hv hc
theorem gq{g:Bool}{s b':Nat}{zv:Value}{len:Nat}{parts:List (Nat×Operand)}{vs:List Value}(hT:SL P T E)(ht:TY P E s b' zv)(hxs:fE n f (parts.map (·.2)) vs)
   (hidx:parts.map (·.1)=List.range' 0 parts.length) (hlen:len=parts.length) (hbig:Nat.ble (len*s) (2 ^ 24)=true) (hv:∀v∈vs,v.cells.size=s):
   uJ P n ⟨d,.buildSlice T len parts.toArray,T',ps,af,gd⟩ f (fun k=>.slice (some ⟨k,0,none⟩) len 1) ⟨vs,E,true,g⟩:=by
 obtain⟨iE,xX,h1,h2,h3⟩:=ht.inv
 exact aut hT ht.sz xX h3 hxs hidx hlen hbig hv
theorem an9{a b:Bool}(hT:P.underlying T=some .bool)(hx:EV n f x (.bool a))(hy:EV n f y (.bool b)):fK P n ⟨d,.binOp .eql T x y T',T'',ps,af,none⟩ f H (.bool (a==b)):=
 fun ρ w q _ hf=>⟨.bool (a==b),by simp[execOp,(hx.use hf).bool_inv,(hy.use hf).bool_inv,eqGuard,run_eql_bool w T a b hT],.bool _⟩
theorem TF{a b:Bool}(hT:P.underlying T=some .bool)(hx:EV n f x (.bool a))(hy:EV n f y (.bool b)):fK P n ⟨d,.binOp .neq T x y T',T'',ps,af,none⟩ f H (.bool (!(a==b))):=
 fun ρ w q _ hf=>⟨.bool (!(a==b)),by simp[execOp,(hx.use hf).bool_inv,(hy.use hf).bool_inv,eqGuard,run_neq_bool w T a b hT],.bool _⟩
theorem qR{o:Oper}{base pre rest:List ay}{ι:Type}{val:ι->Value}{post:ι->List ay}(hs:fq base pre rest)(hx:XC P n o f pre val post):XC P n o f base val post:=by
 intro H hc ρ w a K' Q' hr hf hk
 have hc':=hc.take hs
 have hsub:∀k∈foot pre,k∈foot base:=by
   intro k hk
   have:=(hc'.own k (by simp only[foot,aRO,aQZ]; exact .inl hk))
   rcases this.1 with h|h
   · exact h
   · omega
 refine hx H hc'.view ρ w a K' Q' hr hf fun f' ρ' H' a' w' h1 h2 h3 h4=>?_
 obtain⟨x,e,h5⟩:=h4
 refine hk f' ρ' H' a' w' h1 h2 h3 ⟨x,e,h5.len,h5.mg,fun k hk hn=>h5.qI k hk (fun h=>hn (hsub k h)),h5.hold,h5.nd,fun k hk=>⟨?_,(h5.own k hk).2⟩⟩
 exact (h5.own k hk).1.imp (hsub k) id
theorem SX{o:Oper}{base pre:List ay}{ι:Type}{val:ι->Value}{post:ι->List ay}(hp:base.Perm pre)(hx:XC P n o f pre val post):XC P n o f base val post:=by
 intro H hc ρ w a K' Q' hr hf hk
 have hm:∀k,k∈foot pre↔k∈foot base:=fun k=>(hp.flatMap_right ay.F).symm.mem_iff
 have hc2:Ctx H (foot pre) H pre:=by
   have h:=hc.perm hp
   exact⟨h.len,h.mg,fun _ _ _=>rfl,h.hold,h.nd,fun k hk=>⟨.inl hk,(h.own k hk).2⟩⟩
 refine hx H hc2 ρ w a K' Q' hr hf fun f' ρ' H' a' w' h1 h2 h3 h4=>?_
 obtain⟨x,e,h5⟩:=h4
 refine hk f' ρ' H' a' w' h1 h2 h3 ⟨x,e,h5.len,h5.mg,fun k hk hn=>h5.qI k hk (fun h=>hn ((hm k).1 h)),h5.hold,h5.nd,fun k hk=>⟨?_,(h5.own k hk).2⟩⟩
 exact (h5.own k hk).1.imp (hm k).1 id
theorem axZ{o:Oper}{c c':ay}{pre:List ay}{ι:Type}{val:ι->Value}{post:ι->List ay}(hf:xC c c')(hl:∀x,qm (post x))(hx:XC P n o f (pre++[c']) val post):XC P n o f (c::pre) val (fun x=>c::post x):=
 mH hf hl (SX (List.perm_append_singleton c' pre).symm hx)
inductive xD:List ay->List ay->List ay->Prop
 |nil {pre:List ay}:xD [] pre pre
 |cons {c c':ay} {cs pre base:List ay} [JK c] (h:xC c c') (t:xD cs (c'::pre) base):xD (c::cs) pre base
theorem xD.loc{cl pre base post:List ay}(h:xD cl pre base)(hl:qm post):qm (cl++post):=by
 induction h with
 |nil=>exact hl
 |cons _ _ ih=>exact .cons ih
theorem qQ{o:Oper}{cl pre base:List ay}{ι:Type}{val:ι->Value}{post:ι->List ay}(hf:xD cl pre base)(hl:∀x,qm (post x))(hx:XC P n o f base val post):XC P n o f (cl++pre) val (fun x=>cl++post x):=by
 induction hf with
 |nil=>exact hx
 |cons h t ih=>exact mH h (fun x=>t.loc (hl x)) (SX List.perm_middle.symm (ih hx))
end
end Go.Fw
namespace Go.Fw
open Go
theorem Ctx.start(H:aB):Ctx H [] H []:=⟨aQT _,fP.refl _,fun _ _ _=>rfl,fun c hc=>by simp at hc,by simp,fun k hk=>by simp at hk⟩
end Go.Fw
/-
 Plain laws on the helpers that laws use: copies, sizes, comparisons.
-/
namespace Go.Fw
open Go
theorem al4{b:Bool}(h:b=true):j5 b=some ():=by simp[j5,h]
theorem gG{α:Type}(l:List α)(k:Nat):ix l (k:Int)=l[k]?:=by simp[ix]
theorem aem{α:Type}(n:Nat)(z:α)(h:n<4294967296):qL (n:Int) z=some (List.replicate n z):=by
 unfold qL
 rw[atV (by omega)]
 simp
theorem ZR{n:Nat}(h:n<9223372036854775808):IntKind.i64.wrap (n:Int)=n:=di (by omega) (by omega)
theorem M9{α:Type}{l:List α}{k:Nat}{x:α}{r:List α}(h:l.drop k=x::r):l[k]?=some x/\l.drop (k+1)=r:=by
 have hlt:k<l.length:=by
   rcases aQ7 k l.length with h'|h'
   · exact h'
   · rw[aRj h']at h; simp at h
 rw[aQV hlt]at h
 injection h with h1 h2
 exact⟨by rw[apA hlt,h1],h2⟩
theorem amH{α:Type}{L:List α->Nat->List α->Option (List α)}(h0:∀k c,L [] k c=some c){W:α->Prop}(h1:∀x r k c,W x->k<c.length->L (x::r) k c=L r (k+1) (c.set k x)):
   ∀(rest:List α)(k:Nat)(c:List α),(∀x∈rest,W x)->k+rest.length<=c.length->L rest k c=some (c.take k++rest++c.drop (k+rest.length))
 |[],k,c,_,_=>by rw[h0]; simp
 |x::r,k,c,hw,hl=>by
   simp only[agr]at hl
   rw[h1 x r k c (hw x (by simp)) (by omega),amH h0 h1 r (k+1) _ (fun y hy=>hw y (by simp[hy])) (by simp; omega)]
   have hk:k<c.length:=by omega
   congr 1
   rw[aRC (by simpa using hk)]
   simp only[List.getElem_set_self,aS0 (aQT k)]
   rw[aSD (by omega)]
   simp[aSv,aSL 1]
theorem azn{α:Type}{L:List α->Nat->List α->Option (List α)}(h0:∀k c,L [] k c=some c){W:α->Prop}(h1:∀x r k c,W x->k<c.length->L (x::r) k c=L r (k+1) (c.set k x)){a:List α}{z:α}(hw:∀x∈a,W x):
   L a 0 (List.replicate a.length z)=some a:=by
 rw[amH h0 h1 a 0 _ hw (by simp)]
 simp
def Sz{α:Type}(f:α->Int->Option Int)(tot:α->Nat)(W:α->Prop):Prop:=
 ∀a,W a-> ∀left:Int,0<=left->left<=1048576-> ∃n,f a left=some n/\(n=left-tot a/\0<=n\/n<0)
theorem amI{α:Type}{L:List α->Nat->Int->Option Int}{f:α->Int->Option Int}{tot:α->Nat}{W:α->Prop}(hf:Sz f tot W)(h0:∀k c,L [] k c=some c)
   (h1:∀x r k c,L (x::r) k c=(f x c).bind fun n=>if decide ((n:Int)<0)then some (-1)else L r (k+1) n):
   ∀(rest:List α)(k:Nat)(left:Int),(∀x∈rest,W x)->0<=left->left<=1048576-> ∃n,L rest k left=some n/\(n=left-((rest.map tot).sum:Nat)/\0<=n\/n<0)
 |[],k,left,_,hl,_=>⟨left,h0 k left,.inl ⟨by simp,hl⟩⟩
 |x::r,k,left,hw,hl,hm=>by
   obtain⟨n,e,h⟩:=hf x (hw x (by simp)) left hl hm
   rw[h1,e,acs]
   rcases h with⟨rfl,hn⟩|hn
   · rw[aqA (by simp; omega)]
     obtain⟨m,e2,h2⟩:=amI hf h0 h1 r (k+1) _ (fun y hy=>hw y (by simp[hy])) hn (by omega)
     refine⟨m,e2,h2.imp (fun ⟨a,b⟩=>⟨?_,b⟩) id⟩
     rw[a]; simp only[aRG,aS6]; omega
   · rw[atV (by simpa using hn)]
     exact⟨-1,rfl,.inr (by omega)⟩
theorem Fp{α:Type}{S:List α->Int->Option Int}{L:List α->Nat->Int->Option Int}{f:α->Int->Option Int}{tot:α->Nat}{W:α->Prop}(hf:Sz f tot W)(h0:∀k c,L [] k c=some c)
   (h1:∀x r k c,L (x::r) k c=(f x c).bind fun n=>if decide ((n:Int)<0)then some (-1)else L r (k+1) n)
   (hS:∀a left,S a left=if decide ((IntKind.i64.wrap (left-(a.length:Int)):Int)<0)then some (-1)else L a 0 (IntKind.i64.wrap (left-(a.length:Int)))):
   Sz S (fun a=>a.length+(a.map tot).sum) (jN W):=by
 intro a ⟨hlen,hw⟩ left hl hm
 rw[hS,di (by omega) (by omega)]
 by_cases h:left-(a.length:Int)<0
 · rw[atV (by simpa using h)]; exact⟨-1,rfl,.inr (by omega)⟩
 · rw[aqA (by simpa using h)]
   obtain⟨n,e,h2⟩:=amI hf h0 h1 a 0 (left-(a.length:Int)) hw (by omega) (by omega)
   refine⟨n,e,h2.imp (fun ⟨p,q⟩=>⟨?_,q⟩) id⟩
   rw[p]; simp only[aQU]; omega
theorem ax0{α:Type}{S:List α->Int->Option Int}{W:α->Prop}(hS:∀a left,S a left=if decide ((IntKind.i64.wrap (left-(a.length:Int)):Int)<0)then some (-1)else some (IntKind.i64.wrap (left-(a.length:Int)))):
   Sz S (fun a=>a.length) (jN W):=by
 intro a ⟨hlen,_⟩ left hl hm
 rw[hS,di (by omega) (by omega)]
 by_cases h:left-(a.length:Int)<0
 · rw[atV (by simpa using h)]; exact⟨-1,rfl,.inr (by omega)⟩
 · rw[aqA (by simpa using h)]; exact⟨_,rfl,.inl ⟨rfl,by omega⟩⟩
theorem amJ{α:Type}{L:List α->Nat->Option Bool}(b:List α)(h0:∀k,L [] k=some true)(h1:∀x r k,b[k]?=some x->L (x::r) k=L r (k+1)):
   ∀(rest:List α)(k:Nat),b.drop k=rest->L rest k=some true
 |[],k,_=>h0 k
 |x::r,k,h=>by
   obtain⟨e1,e2⟩:=M9 h
   rw[h1 x r k e1]
   exact amJ b h0 h1 r (k+1) e2
abbrev jh{α:Type}(f:α->Nat)(a:List α):Nat:=a.length+(a.map f).sum
def aZ{α:Type}(p:α->Prop)(a:List α):Prop:=a.length<4294967296/\ ∀x∈a,p x
def gz{α:Type}(_:α):Prop:=True
theorem amK{α:Type}{f:α->Nat}{x:α}:∀{a:List α},x∈a->f x<=(a.map f).sum
 |y::a,h=>by
   rcases List.mem_cons.1 h with rfl|h
   · simp
   · have:=amK (f:=f) h; simp only[aRG,aS6]; omega
theorem FH{α:Type}{f:α->Nat}{p:α->Prop}(h:∀x,f x<4294967296->p x)(a:List α)(ha:jh f a<4294967296):aZ p a:=
 ⟨by simp only[jh]at ha; omega,fun x hx=>h x (by have:=amK (f:=f) hx; simp only[jh]at ha; omega)⟩
theorem oG{α:Type}(a:List α)(ha:a.length<4294967296):aZ gz a:=⟨ha,fun _ _=>aSq⟩
theorem ax1{α:Type}{p:α->Prop}:aZ p []:=⟨by simp,by simp⟩
theorem BF{α:Type}{p:α->Prop}{z:α}{S:List α->Option (List α)}{L:List α->Nat->List α->Option (List α)}(hS:∀a,S a=(qL (a.length:Int) z).bind fun z=>L a 0 z)(h0:∀k c,L [] k c=some c)
   (h1:∀x r k c,p x->k<c.length->L (x::r) k c=L r (k+1) (c.set k x)) (a:List α) (h:aZ p a):S a=some a:=by
 rw[hS,aem _ _ h.1,acs]
 exact azn h0 h1 h.2
theorem BG{α:Type}{S:List α->List α->Option Bool}{L:List α->List α->Nat->Option Bool}(hS:∀a b,S a b=if (((a.length:Int):Int)!=(b.length:Int))then some false else L b a 0)(h0:∀b k,L b [] k=some true)
   (h1:∀b x r k,b[k]?=some x->L b (x::r) k=L b r (k+1)) (a:List α):S a a=some true:=by
 rw[hS]
 simp only[aRH,av0,aQ9]
 exact amJ a (h0 a) (h1 a) a 0 rfl
def bq{α:Type}(ms:α->Nat)(l:List α):Nat:=(l.map ms).sum
def gH{α:Type}(mk:α->Int->α)(ms:α->Nat):Int->List α->List α
 |_,[]=>[]
 |k,x::r=>mk x k::gH mk ms (k+ms x) r
theorem IM{α:Type}(ms:α->Nat)(x:α)(l:List α):bq ms (x::l)=ms x+bq ms l:=by simp[bq]
theorem tJ{α:Type}(l:List α):bq (fun _=>1) l=l.length:=by
 induction l with
 |nil=>rfl
 |cons x l ih=>rw[IM,ih,agr]; omega
theorem CS{α:Type}{c:List α}{j:Nat}{y:α}(h:j<c.length):ix (c.set j y) (j:Int)=some y:=by rw[gG,aRo h]
theorem alp{α:Type}{L:Nat->List α->Int->Int->Option (Int×List α)}{mk:α->Int->α}{ms:α->Nat}{p:α->Prop}(h0:∀m c k (j:Nat),c.length<=j->L (m+1) c k j=some (k,c))
   (h1:∀m c k (j:Nat) x,c[j]?=some x->j<c.length->j<4294967296->p x->0<=k->k+(ms x:Int)<4611686018427387904->L (m+1) c k j=L m (c.set j (mk x k)) (k+ms x) ((j+1:Nat):Int)):
   ∀(rest:List α)(m:Nat)(c:List α)(k:Int)(j:Nat),c.drop j=rest->c.length<4294967296->j<=c.length->(∀x∈rest,p x)->0<=k->k+(bq ms rest:Int)<4611686018427387904->rest.length<m->
     L m c k j=some (k+bq ms rest,c.take j++gH mk ms k rest)
 |[],m,c,k,j,hd,hl,hj,_,_,_,hm=>by
   obtain⟨m,rfl⟩:∃q,m=q+1:=⟨m-1,by simp at hm; omega⟩
   have hge:c.length<=j:=List.drop_eq_nil_iff.1 hd
   rw[h0 _ _ _ _ hge]
   simp[bq,gH,aRt hge]
 |x::r,m,c,k,j,hd,hl,hj,hp,hk,hb,hm=>by
   simp only[agr]at hm
   obtain⟨m,rfl⟩:∃q,m=q+1:=⟨m-1,by omega⟩
   obtain⟨e1,e2⟩:=M9 hd
   have hlt:j<c.length:=by
     rcases aQ7 j c.length with h|h
     · exact h
     · simp[aQR h]at e1
   rw[IM]at hb
   rw[h1 m c k j x e1 hlt (by omega) (hp x (by simp)) hk (by omega)]
   have hd2:(c.set j (mk x k)).drop (j+1)=r:=by rw[aSD (by omega)]; exact e2
   rw[alp h0 h1 r m _ _ (j+1) hd2 (by simpa using hl) (by simp; omega) (fun y hy=>hp y (by simp[hy])) (by omega) (by omega) (by omega),IM]
   congr 1
   refine Prod.ext (by simp; omega) ?_
   simp only[gH]
   rw[aRC (by simpa using hlt)]
   simp[aS0]
theorem Bt{α:Type}{S:List α->Int->Option (Int×List α)}{L:Nat->List α->Int->Int->Option (Int×List α)}{mk:α->Int->α}{ms:α->Nat}{p:α->Prop}(hS:∀a k,S a k=L (((a.length:Int)-0).toNat+2) a k 0)
   (h0:∀m c k (j:Nat),c.length<=j->L (m+1) c k j=some (k,c))
   (h1:∀m c k (j:Nat) x,c[j]?=some x->j<c.length->j<4294967296->p x->0<=k->k+(ms x:Int)<4611686018427387904->L (m+1) c k j=L m (c.set j (mk x k)) (k+ms x) ((j+1:Nat):Int))
   (a:List α) (k:Int) (hb:aZ p a) (hk:0<=k) (hm:k+(bq ms a:Int)<4611686018427387904):S a k=some (k+bq ms a,gH mk ms k a):=by
 rw[hS]
 have:=alp h0 h1 a (((a.length:Int)-0).toNat+2) a k 0 rfl hb.1 (by omega) hb.2 hk hm (by omega)
 simpa using this
theorem alq{α:Type}{L:List α->Nat->Int->Option Int}{mk:α->Int->α}{ms:α->Nat}{p:α->Prop}(h0:∀n k,L [] n k=some k)
   (h1:∀x r n k,p x->0<=k->k+(ms x:Int)<4611686018427387904->L (mk x k::r) n k=L r (n+1) (k+ms x)):
   ∀(l:List α)(n:Nat)(k:Int),(∀x∈l,p x)->0<=k->k+(bq ms l:Int)<4611686018427387904->L (gH mk ms k l) n k=some (k+bq ms l)
 |[],n,k,_,_,_=>by simp[gH,h0,bq]
 |x::r,n,k,hp,hk,hb=>by
   rw[IM]at hb
   simp only[gH]
   rw[h1 x _ n k (hp x (by simp)) hk (by omega),alq h0 h1 r (n+1) _ (fun y hy=>hp y (by simp[hy])) (by omega) (by omega),IM]
   congr 1; omega
theorem ES{α:Type}{S:List α->Int->Option Int}{L:List α->Nat->Int->Option Int}{mk:α->Int->α}{ms:α->Nat}{p:α->Prop}(hS:∀a k,S a k=L a 0 k)(h0:∀n k,L [] n k=some k)
   (h1:∀x r n k,p x->0<=k->k+(ms x:Int)<4611686018427387904->L (mk x k::r) n k=L r (n+1) (k+ms x)) (a:List α) (k:Int) (hb:aZ p a) (hk:0<=k) (hm:k+(bq ms a:Int)<4611686018427387904):
   S (gH mk ms k a) k=some (k+bq ms a):=by
 rw[hS]; exact alq h0 h1 a 0 k hb.2 hk hm
theorem qU{α:Type}{k:Int}{x y:α}(h:0<=k):(if decide ((k:Int)<0)=true then x else y)=y:=aqA (by simp; omega)
theorem kK{α:Type}{xs:List α}(h:xs.length<4294967296):app [] xs=some xs:=by unfold app; rw[if_pos (by simpa using h)]; rfl
theorem nZ{α:Type}{xs ys:List α}(h:xs.length+ys.length<4294967296):app xs ys=some (xs++ys):=by unfold app; rw[if_pos h]
def iM{α:Type}(p:α->Bool):List α->Nat->Int
 |[],_=>-1
 |x::r,k=>if p x then (k:Int)else iM p r (k+1)
theorem rW{α:Type}{p:α->Bool}:∀(l:List α)(k:Nat),decide ((0:Int)<=iM p l k)=l.any p
 |[],k=>by simp[iM]
 |x::r,k=>by
   rw[iM,aR_]
   by_cases h:p x=true
   · rw[atV h,h]; simp
   · rw[aqA h,rW r (k+1)]; simp[h]
theorem pM{α:Type}{L:List α->Nat->Option Int}{f:α->Option Bool}{p:α->Bool}(h0:∀k,L [] k=some (-1))(h1:∀x r k,L (x::r) k=(f x).bind fun b=>if b then some (k:Int)else L r (k+1)):
   ∀(l:List α)(k:Nat),(∀x∈l,f x=some (p x))->L l k=some (iM p l k)
 |[],k,_=>h0 k
 |x::r,k,hf=>by
   rw[h1,hf x (by simp),acs,iM]
   split
   · rfl
   · exact pM h0 h1 r (k+1) fun y hy=>hf y (by simp[hy])
theorem BH{α:Type}{L:List α->Nat->Option Bool}{f:α->Option Bool}{p:α->Bool}{e:Bool}(h0:∀k,L [] k=some e)(h1:∀x r k,L (x::r) k=(f x).bind fun b=>if (!b)then some false else L r (k+1)):
   ∀(l:List α)(k:Nat),(∀x∈l,f x=some (p x))->L l k=some (l.all p&&e)
 |[],k,_=>by simp[h0]
 |x::r,k,hf=>by
   rw[h1,hf x (by simp),acs,aRS]
   cases h:p x
   · simp
   · simp[BH h0 h1 r (k+1) fun y hy=>hf y (by simp[hy])]
def uM{α:Type}(p:α->α->Bool):List α->List α->Bool
 |[],[]=>true
 |x::a,y::b=>p x y&&uM p a b
 |_,_=>false
theorem amL{α:Type}{p:α->α->Bool}:∀{a b:List α},a.length≠b.length->uM p a b=false
 |[],[],h=>by simp at h
 |x::a,y::b,h=>by rw[uM,amL (a:=a) (b:=b) (by simpa using h),aS1]
 |[],_::_,_=>rfl
 |_::_,[],_=>rfl
theorem al5{α:Type}{L:List α->Nat->Option Bool}{f:α->α->Option Bool}{p:α->α->Bool}{b:List α}{e:Bool}(h0:∀k,L [] k=some e)(h1:∀x r k y,b[k]?=some y->L (x::r) k=(f x y).bind fun c=>if (!c)then some false else L r (k+1)):
   ∀(l:List α)(k:Nat),l.length=(b.drop k).length->(∀x∈l,∀y∈b,f x y=some (p x y))->L l k=some (uM p l (b.drop k)&&e)
 |[],k,hl,_=>by
   have:b.drop k=[]:=List.length_eq_zero_iff.1 hl.symm
   rw[h0,this]; rfl
 |x::r,k,hl,hf=>by
   cases hd:b.drop k with
   |nil=>rw[hd]at hl; simp at hl
   |cons y t=>
     obtain⟨e1,e2⟩:=M9 hd
     have hy:y∈b:=aRh e1
     rw[h1 x r k y e1,hf x (by simp) y hy,acs,uM]
     cases hp:p x y
     · rfl
     · rw[hd]at hl
       simp only[aQX,av0,aQ9,aQ5]
       rw[al5 h0 h1 r (k+1) (by rw[e2]; simpa using hl) fun x' hx'=>hf x' (by simp[hx']),e2]
theorem amM{α:Type}{S:List α->List α->Option Bool}{L:List α->List α->Nat->Option Bool}{f:α->α->Option Bool}{p:α->α->Bool}(hS:∀a b,S a b=if (((a.length:Int):Int)!=(b.length:Int))then some false else L b a 0)(h0:∀b k,L b [] k=some true)
   (h1:∀b x r k y,b[k]?=some y->L b (x::r) k=(f x y).bind fun c=>if (!c)then some false else L b r (k+1)) (a b:List α) (hf:∀x∈a,∀y∈b,f x y=some (p x y)):S a b=some (uM p a b):=by
 rw[hS]
 by_cases h:a.length=b.length
 · rw[aqA (by simp[h]),al5 (L:=L b) (h0 b) (h1 b) a 0 (by simpa using h) hf]
   simp
 · rw[atV (by simpa[Int.natCast_inj]using h),amL h]
def kw(x y:Int):Int:=if x<y then -1 else if y<x then 1 else 0
def cmpL:List Int->List Int->Int
 |[],[]=>0
 |[],_::_=>-1
 |_::_,[]=>1
 |x::a,y::b=>if kw x y !=0 then kw x y else cmpL a b
theorem akB{α:Type}{P:α->Prop}{p:α->Bool}{L:List α->Nat->List α->Option (List α)}(h0:∀k c,L [] k c=some c)(h1:∀x r k c,P x->c.length+1<4294967296->L (x::r) k c=L r (k+1) (if p x then c++[x]else c)):
   ∀(l:List α)(k:Nat)(c:List α),(∀x∈l,P x)->c.length+l.length<4294967296->L l k c=some (c++l.filter p)
 |[],k,c,_,_=>by simp[h0]
 |x::r,k,c,hp,hl=>by
   simp only[agr]at hl
   rw[h1 x r k c (hp x (by simp)) (by omega),akB h0 h1 r (k+1) _ (fun y hy=>hp y (by simp[hy])) (by split<;>(try simp only[aQW,agr,aQ'])<;>omega),aRu]
   split<;>simp
theorem ad7{α β:Type}{P:α->Prop}{g:α->β}{L:List α->Nat->List β->Option (List β)}(h0:∀k c,L [] k c=some c)(h1:∀x r k c,P x->c.length+1<4294967296->L (x::r) k c=L r (k+1) (c++[g x])):
   ∀(l:List α)(k:Nat)(c:List β),(∀x∈l,P x)->c.length+l.length<4294967296->L l k c=some (c++l.map g)
 |[],k,c,_,_=>by simp[h0]
 |x::r,k,c,hp,hl=>by
   simp only[agr]at hl
   rw[h1 x r k c (hp x (by simp)) (by omega),ad7 h0 h1 r (k+1) _ (fun y hy=>hp y (by simp[hy])) (by simp; omega)]
   simp
theorem IP{α:Type}{P:α->Prop}{L:List α->Nat->List α->Option (List α)}(h0:∀k c,L [] k c=some c)(h1:∀x r k c,P x->c.length+1<4294967296->L (x::r) k c=L r (k+1) (c++[x]))(l:List α)(h:aZ P l):L l 0 []=some l:=by
 have:=ad7 (g:=fun x=>x) h0 h1 l 0 [] h.2 (by simpa using h.1)
 simpa using this
theorem app1{α:Type}{c:List α}{x:α}(h:c.length+1<4294967296):app c [x]=some (c++[x]):=nZ (by simpa using h)
theorem Cz{α:Type}{ms tot:α->Nat}(K:Nat)(h:∀x,ms x<=K*(1+tot x)):∀a:List α,bq ms a<=K*jh tot a
 |[]=>by simp[bq]
 |x::r=>by
   have:=Cz K h r
   have h2:=h x
   rw[IM]
   simp only[jh,agr,aRG,aS6]at this ⊢
   rw[show r.length+1+(tot x+(r.map tot).sum)=(1+tot x)+(r.length+(r.map tot).sum)from by omega,Nat.mul_add]
   omega
theorem ax2(x:Nat):decide ((1+(x:Int))<0)=false:=by simp; omega
theorem aw9{k:Int}(h:0<=k):decide (k<0)=false:=by simp; omega
def gJ{α:Type}(p:α->Bool)(q:α->α->Bool):Option α->List α->Bool
 |_,[]=>true
 |none,x::r=>p x&&gJ p q (some x) r
 |some y,x::r=>p x&&!q y x&&gJ p q (some x) r
theorem Sl{α:Type}(p:α->Bool)(q:α->α->Bool):∀(o:Option α)(l:List α),gJ p q o l=(gJ (fun _=>true) q o l&&l.all p)
 |_,[]=>by simp[gJ]
 |none,x::r=>by
   rw[gJ,gJ,Sl p q (some x) r,aRS]
   cases p x<;>cases gJ (fun _=>true) q (some x) r<;>simp
 |some y,x::r=>by
   rw[gJ,gJ,Sl p q (some x) r,aRS]
   cases p x<;>cases q y x<;>cases gJ (fun _=>true) q (some x) r<;>simp
theorem anu{α:Type}{L:List α->Nat->Option Bool}{P:α->Prop}{p:α->Bool}{q:α->α->Bool}{e:Bool}(l:List α)(hP:∀x∈l,P x)(hl:l.length<4294967296)(h0:∀k,L [] k=some e)
   (h2:∀x r k y,P x->P y->l[k]?=some y->k<4294967296->L (x::r) (k+1)=if p x&&!q y x then L r (k+2)else some false):
   ∀(rest:List α)(k:Nat)(y:α),l.drop (k+1)=rest->l[k]?=some y->L rest (k+1)=some (gJ p q (some y) rest&&e)
 |[],k,y,_,_=>by rw[h0]; simp[gJ]
 |x::r,k,y,hd,hy=>by
   obtain⟨e1,e2⟩:=M9 hd
   have hlt:k<l.length:=by
     rcases aQ7 k l.length with h|h
     · exact h
     · simp[aQR h]at hy
   rw[h2 x r k y (hP x (aRh e1)) (hP y (aRh hy)) hy (by omega),gJ]
   cases hpq:(p x&&!q y x)
   · simp
   · rw[atV rfl,anu l hP hl h0 h2 r (k+1) x e2 e1]; simp
theorem IQ{α:Type}{L:List α->Nat->Option Bool}{P:α->Prop}{p:α->Bool}{q:α->α->Bool}{e:Bool}(l:List α)(hP:∀x∈l,P x)(hl:l.length<4294967296)(h0:∀k,L [] k=some e)
   (h1:∀x r,P x->L (x::r) 0=if p x then L r 1 else some false)
   (h2:∀x r k y,P x->P y->l[k]?=some y->k<4294967296->L (x::r) (k+1)=if p x&&!q y x then L r (k+2)else some false):
   L l 0=some (gJ p q none l&&e):=by
 cases l with
 |nil=>rw[h0]; simp[gJ]
 |cons x r=>
   rw[h1 x r (hP x (by simp)),gJ]
   cases hp:p x
   · simp
   · rw[atV rfl,anu (x::r) hP hl h0 h2 r 0 x rfl rfl]; simp
theorem I6{α:Type}(l:List α)(k:Nat)(h:k<4294967296):ix l (IntKind.i64.wrap ((((k+1:Nat):Int))-1))=l[k]?:=by
 rw[show (((k+1:Nat):Int))-1=(k:Int) by omega,ZR (by omega),gG]
theorem Fq(k:Nat):decide ((0:Int)<((k+1:Nat):Int))=true:=aSb (by omega)
theorem M_:decide ((0:Int)<((0:Nat):Int))=false:=rfl
def aQ(lo hi n:Int):Bool:=decide (lo<=n)&&decide (n<=hi)
theorem Te{α:Type}{l:List α}{m:Int}(h:aQ 0 ((l.length:Int)-1) m=true):∃x,ix l m=some x/\l[m.toNat]?=some x:=by
 simp[aQ]at h
 have hlt:m.toNat<l.length:=by omega
 exact⟨l[m.toNat],by unfold ix; rw[if_pos h.1,List.getElem?_eq_getElem hlt],List.getElem?_eq_getElem hlt⟩
end Go.Fw
/-
 Parts of elements of our own slices: loaded, stored, handed to a callee that turns them.
-/
set_option linter.unusedVariables false
namespace Go.Fw
open Go
theorem awq{ρ:dI}{c:Value}(h:bW ρ undef c):c=undef:=by
 generalize hx:undef=x at h
 cases h with
 |tuple a a' h=>
   have:a=[]:=by
     have e:(undef:Value)= .tuple #[]:=rfl
     rw[e]at hx
     injection hx with hx
     have:=aRJ Array.toList hx
     simpa using this.symm
   subst this
   cases h
   rfl
 |_=>simp[undef]at hx
theorem aka{n:Nat}{A:Array Oper}{f:Fr}{o:Oper}{j:Nat}{want:Bool}{t:Tmp}(h:o.guard=some (j,want))(hd:(A[j]?).bind (·.dst)=some t)(hv:f t=undef)(ht:Nat.blt t n=true):Wanted n A f o false:=by
 intro ρ a hf
 have hlt:t<n:=by simpa[aRg]using ht
 have hr:=hf.get t hlt
 rw[hv]at hr
 have hlt':t<a.tmps.size:=by rw[hf.size]; exact hlt
 have hg:a.tmps[t]?=some (a.tmps.getD t undef):=by
   simp[aRp,hlt']
 rw[awq hr]at hg
 simp[Region.wanted,h,yielded,hd,hg,undef]
theorem avJ{A W B W':List Nat}(h:(A++W++B).Nodup)(hw:W'.Nodup)(hd:∀q∈W',q∉A/\q∉B):(A++W'++B).Nodup:=by
 have n1:=List.nodup_append.1 h
 have n2:=List.nodup_append.1 n1.1
 refine List.nodup_append.2 ⟨List.nodup_append.2 ⟨n2.1,hw,fun a ha b hb e=>(hd b hb).1 (e ▸ ha)⟩,n1.2.1,fun a ha b hb e=>?_⟩
 subst e
 rcases List.mem_append.1 ha with h|h
 · exact n1.2.2 a (by simp[h]) a hb rfl
 · exact (hd a h).2 hb
section
variable{P:Program} [bF P]{n:Nat}{H0:aB}{F0:List Nat}{f:Fr}{cs:List ay}{A:Array Oper}{r:List Oper}{K:Fr->List ay->Prop}{d:Option Tmp}{op:Op}{T T' E:TypeId}{ps:String}{af:Array Edge}{gd:Option (Nat×Bool)}{x y:Operand}
variable{l:List Oper}{tb aO todo:List Nat}{fl:List (Nat×List Nat)}{i:Nat}
theorem azo{j:Nat}{t:Tmp}{b:Bool}(hd:(A[j]?).bind (·.dst)=some t)(hv:f t=undef)(ht:Nat.blt t n=true)(h:aR P n H0 F0 A r (put f d undef) cs K):
   aR P n H0 F0 A (⟨d,op,T,ps,af,some (j,b)⟩::r) f cs K:=fun H hc=>alf (aka rfl hd hv ht) (h H hc)
theorem azp(t:Tmp){j:Nat}{b:Bool}(ho:l[i]?=some ⟨d,op,T,ps,af,some (j,b)⟩)(h1:(l[j]?).bind (·.dst)=some t)(h2:f t=undef)(h3:Nat.blt t n=true)(h:DC P n l tb aO H0 F0 K todo fl (put f d undef) cs):
   DC P n l tb aO H0 F0 K (i::todo) fl f cs:=
 fun H hc=>.qJ (Ks:=[]) ho (.inr ⟨rfl,fun f' ha=>by
   have hv:f' t=undef:=(ha t (adm h1)).trans h2
   exact aka (o:=⟨d,op,T,ps,af,some (j,b)⟩) rfl (by simpa using h1) hv h3⟩) ((h H hc).cov fun p hp=>by
   rcases List.mem_cons.1 hp with h|h
   · exact .inr (by rw[h])
   · exact .inl h)
variable{α β:Type}{Ro:b_ α}{Rf:b_ β}
structure Part(Ro:b_ α)(off:Nat)(Rf:b_ β)(get:α->β)(set:α->β->α):Prop where
 split:∀{F:List Nat}{H:aB}{e:Value}{a:α},Ro F H e a-> ∃(w:Sv)(Fa Fw Fb:List Nat),e.cells.toList[off]?=some w.v/\F=Fa++Fw++Fb/\Rf Fw H w.v (get a)/\
   ∀{H':aB}{Fw':List Nat}{d':β},fP H H'->(∀k,k∈Fa\/k∈Fb->H'[k]?=H[k]?)->Rf Fw' H' w.v d'->Ro (Fa++Fw'++Fb) H' e (set a d')
theorem Part.self [kL Ro 1](h:∀{F:List Nat}{H:aB}{e:Value}{a:α},Ro F H e a-> ∃s:Sv,e=s.v):Part Ro 0 Ro (fun a=>a) (fun _ b=>b):=
 ⟨fun{F H e a} hr=>by
   obtain⟨s,rfl⟩:=h hr
   exact⟨s,[],F,[],rfl,by simp,hr,fun _ _ h'=>by simpa using h'⟩⟩
def JN(E:TypeId)(Ro:b_ α)(i off:Nat)(w:Value):b_ (List α):=fun F H v xs=>aa E Ro F H v xs/\ ∃k b e,F.head?=some k/\jD v=some k/\H[k]?=some (some b)/\b.elems[i]?=some e/\e.cells.toList[off]?=some w
instance{i off:Nat}{w:Value} [bS Ro]:bS (JN E Ro i off w):=⟨fun{F H H' v a} h hi hk=>by
 obtain⟨h1,k,b,e,h0,h2,h3,h4,h5⟩:=h
 refine⟨bS.keep h1 hi hk,k,b,e,h0,h2,(hk k ?_).trans h3,h4,h5⟩
 cases F with
 |nil=>simp at h0
 |cons q F=>simp at h0; subst h0; simp⟩
theorem aa.head{F:List Nat}{H:aB}{v:Value}{xs:List α}{k:Nat}(h:aa E Ro F H v xs)(hk:jD v=some k):F.head?=some k/\ ∃m b G,v= .slice (some ⟨k,0,none⟩) xs.length m/\(m=1\/m=2)/\H[k]?=some (some b)/\b.wr=true/\b.own=true/\b.ty=E/\xs.length<4611686018427387904/\F=k::G/\cZ Ro H b.elems xs G:=by
 rcases h with⟨rfl,-,-⟩|⟨k',m,b,G,rfl,h2,h3,h4,h5,h6,h7,rfl,h9⟩
 · simp[jD]at hk
 · have e:k'=k:=by simpa[jD]using hk
   subst e
   exact⟨rfl,m,b,G,rfl,h2,h3,h4,h5,h6,h7,rfl,h9⟩
theorem CB [bS Ro]{F:List Nat}{k j off:Nat}{a:α}{v:Value}{xs:List α}{rest:List ay}{get:α->β}{set:α->β->α}(hA:AG P T false)(hx:EV n f x (.pointer (some ⟨k,j,some off⟩)))(hs:dU cs (ah (aa E Ro) F v xs) rest)(hk:jD v=some k)(hj:xs[j]?=some a)
   (hp:Part Ro off Rf get set) (h:∀w:Sv,aR P n H0 F0 A r (put f d w.v) (ah (JN E Ro j off w.v) F v xs::rest) K):aR P n H0 F0 A (⟨d,.load T x,T',ps,af,none⟩::r) f cs K:=by
 intro H hc
 have hc':=hc.perm hs.perm
 have ho:aa E Ro F H v xs:=hc'.hold _ aS5
 obtain⟨hh,m,b,G,rfl,h2,h3,h4,h5,h6,h7,rfl,h9⟩:=ho.head hk
 obtain⟨e,F1,Fj,F2,g1,g2,g3,-⟩:=h9.at hj
 obtain⟨w,Fa,Fw,Fb,q1,q2,q3,-⟩:=hp.split g3
 refine vV (gy hA hx h3 g1 q1) (h w H ?_)
 refine Ctx.step (pre:=[ah (aa E Ro) (k::G) _ xs]) (post:=[ah (JN E Ro j off w.v) (k::G) _ xs]) hc' (aQT _) (fP.refl _) (fun _ _ _=>rfl) ?_ ?_ ?_
 · intro c hcm
   simp at hcm; subst hcm
   exact⟨ho,k,b,e,rfl,hk,h3,g1,q1⟩
 · have:=hc'.nd
   simp only[foot,av1]at this ⊢
   simpa[ah]using (List.nodup_append.1 this).1
 · intro q hq
   have hq':q∈foot [ah (aa E Ro) (k::G) (.slice (some ⟨k,0,none⟩) xs.length m) xs]:=by simpa[foot,ah]using hq
   refine⟨.inl hq',(hc'.own q ?_).2⟩
   simp only[foot,av1,aQZ]
   exact .inl (by simpa[foot]using hq')
theorem CE [bS Ro] [bS Rf]{o:Oper}{F:List Nat}{j off:Nat}{a:α}{w v:Value}{xs:List α}{d':β}{get:α->β}{set:α->β->α}{pre:List ay}{ι:Type}{val:ι->Value}{G:ι->List Nat}(hj:xs[j]?=some a)(hp:Part Ro off Rf get set)
   (hx:∀Fw,XC P n o f (ah Rf Fw w (get a)::pre) val (fun y=>[ah Rf (G y) w d'])) (hpre:foot pre=[]):
   XC P n o f (ah (JN E Ro j off w) F v xs::pre) (fun y:ι×List Nat=>val y.1) (fun y=>[ah (aa E Ro) y.2 v (xs.set j (set a d'))]):=by
 intro H dD
 obtain⟨ho,k,b,e0,hhd,hk,hb,he0,hw0⟩:JN E Ro j off w F H v xs:=dD.hold _ aS5
 obtain⟨hh,m,b',G0,rfl,h2,h3,h4,h5,h6,h7,rfl,h9⟩:=ho.head hk
 rw[hb]at h3
 obtain rfl:b=b':=by simpa using h3
 obtain⟨e,F1,Fj,F2,g1,g2,g3,g4⟩:=h9.at hj
 rw[he0]at g1
 obtain rfl:e0=e:=by simpa using g1
 obtain⟨w',Fa,Fw,Fb,q1,q2,q3,q4⟩:=hp.split g3
 rw[hw0]at q1
 obtain rfl:w=w'.v:=by simpa using q1
 subst g2 q2
 have F6:=dD.nd
 have hfp:foot (ah (JN E Ro j off w'.v) (k::(F1++(Fa++Fw++Fb)++F2)) (.slice (some ⟨k,0,none⟩) xs.length m) xs::pre)=k::(F1++(Fa++Fw++Fb)++F2):=by
   have:foot (ah (JN E Ro j off w'.v) (k::(F1++(Fa++Fw++Fb)++F2)) (.slice (some ⟨k,0,none⟩) xs.length m) xs::pre)=(k::(F1++(Fa++Fw++Fb)++F2))++foot pre:=rfl
   rw[this,hpre,aQ_]
 have Ec:foot (ah Rf Fw w'.v (get a)::pre)=Fw:=by
   have:foot (ah Rf Fw w'.v (get a)::pre)=Fw++foot pre:=rfl
   rw[this,hpre,aQ_]
 rw[hfp]at F6
 have hlt:∀q∈k::(F1++(Fa++Fw++Fb)++F2),q<H.length:=fun q hq=>(dD.own q (by rw[hfp]; exact hq)).2
 have hc2:Ctx H (foot (ah Rf Fw w'.v (get a)::pre)) H (ah Rf Fw w'.v (get a)::pre):=by
   refine⟨aQT _,fP.refl _,fun _ _ _=>rfl,fun c hc=>?_,?_,fun q hq=>⟨.inl hq,?_⟩⟩
   · rcases List.mem_cons.1 hc with rfl|hc
     · exact q3
     · exact dD.hold c (by simp[hc])
   · rw[Ec]
     refine F6.sublist ?_
     refine .cons _ ?_
     exact by
       have h1:Fw.Sublist (Fa++Fw++Fb):=(aSd Fa Fw).trans (aSe _ _)
       exact h1.trans ((aSd F1 _).trans (aSe _ _))
   · rw[Ec]at hq
     exact hlt q (by simp[hq])
 intro ρ wd ac K' Q' hr hf hkk
 refine hx Fw H hc2 ρ wd ac K' Q' hr hf fun f2 ρ' H' a' w2 p1 p2 p3 p4=>?_
 obtain⟨y,rfl,p5⟩:=p4
 rw[Ec]at p5
 refine hkk _ ρ' H' a' w2 p1 p2 p3 ⟨(y,k::(F1++(Fa++G y++Fb)++F2)),rfl,?_⟩
 rw[hfp]
 simp only[aTj,aQZ,aS4]at F6
 have hall:=F6.2
 have Au:∀q,q∈F1\/q∈Fa\/q∈Fb\/q∈F2->q∉Fw:=by
   intro q hq hqw
   have n1:=List.nodup_append.1 hall
   have n2:=List.nodup_append.1 n1.1
   have n3:=List.nodup_append.1 n2.2.1
   have n4:=List.nodup_append.1 n3.1
   rcases hq with h|h|h|h
   · exact n2.2.2 q h q (by simp[hqw]) rfl
   · exact n4.2.2 q h q hqw rfl
   · exact n3.2.2 q (by simp[hqw]) q h rfl
   · exact n1.2.2 q (by simp[hqw]) q h rfl
 have hkw:k∉Fw:=F6.1.1.2.1.2
 have hget:∀q,q∈k::(F1++(Fa++Fw++Fb)++F2)->q∉Fw->H'[q]?=H[q]?:=fun q hq hn=>p5.qI q (hlt q hq) hn
 have hsub:=p5.hold (ah Rf (G y) w'.v d') (by simp)
 refine⟨p5.len,p5.mg,fun q hq hn=>p5.qI q hq (fun h=>hn (by simp[h])),?_,?_,?_⟩
 · intro c hc
   simp at hc; subst hc
   have hel:=q4 (H':=H') (Fw':=G y) (d':=d') p5.mg (fun q hq=>hget q (by rcases hq with h|h<;>simp[h]) (Au q (by rcases hq with h|h<;>simp[h]))) hsub
   have hnew:=g4 (H':=H') (e':=e0) (a':=set a d') (Ke:=Fa++G y++Fb) (fun Fi x' y' hr' hm=>bS.keep hr' p5.mg fun q hq=>by
     rcases hm q hq with h|h
     · exact hget q (by simp[h]) (Au q (by simp[h]))
     · exact hget q (by simp[h]) (Au q (by simp[h]))) hel
   have hse:b.elems.set j e0=b.elems:=by
     apply aR0
     intro q
     by_cases hq:j=q
     · subst hq; rw[aRo (Mo he0)]; exact he0.symm
     · rw[aQ8 hq]
   rw[hse]at hnew
   exact .inr ⟨k,m,b,F1++(Fa++G y++Fb)++F2,by rw[aRK],h2,(hget k (by simp) hkw).trans hb,h4,h5,h6,by simpa using h7,by simp,hnew⟩
 · have hf1:foot [ah (aa E Ro) (k::(F1++(Fa++G y++Fb)++F2)) (.slice (some ⟨k,0,none⟩) xs.length m) (xs.set j (set a d'))]=(k::(F1++Fa))++G y++(Fb++F2):=by simp[foot,ah]
   have hnG:(G y).Nodup:=by have:=p5.nd; simpa[foot,ah]using this
   rw[hf1]
   refine avJ (W:=Fw) ?_ hnG fun q hq=>?_
   · have h0:=dD.nd
     rw[hfp]at h0
     simpa using h0
   · have hq1:=(p5.own q (by simpa[foot,ah]using hq)).1
     have hno:∀q',q'∈k::(F1++(Fa++Fw++Fb)++F2)->q'∉Fw->q≠q':=by
       intro q' h1 h2 e
       subst e
       rcases hq1 with h|h
       · exact h2 h
       · have:=hlt q h1; omega
     constructor
     · intro hm
       simp only[aQ1,aQZ]at hm
       rcases hm with rfl|h|h
       · exact hno q (by simp) hkw rfl
       · exact hno q (by simp[h]) (Au q (by simp[h])) rfl
       · exact hno q (by simp[h]) (Au q (by simp[h])) rfl
     · intro hm
       simp only[aQZ]at hm
       rcases hm with h|h
       · exact hno q (by simp[h]) (Au q (by simp[h])) rfl
       · exact hno q (by simp[h]) (Au q (by simp[h])) rfl
 · intro q hq
   have hq':q∈G y\/q∈k::(F1++(Fa++Fw++Fb)++F2):=by
     simp only[foot,ah,av1,aRL,aQ_,aQ1,aQZ]at hq ⊢
     rcases hq with rfl|(h|(h|h)|h)|h<;>simp[*]
   rcases hq' with h|h
   · have hq1:=p5.own q (by simpa[foot,ah]using h)
     refine⟨?_,hq1.2⟩
     rcases hq1.1 with h'|h'
     · exact .inl (by simp[h'])
     · exact .inr h'
   · exact⟨.inl h,aQ2 (hlt q h) p5.len⟩
theorem wZ [bS Ro]{s k off:Nat}{F:List Nat}{i:Int}{a a':α}{u v:Value}{xs:List α}(hs:SZ P T s)(h0:Nat.blt 0 s=true)(hx:EV n f x (.pointer (some ⟨k,i.toNat,some off⟩)))(hy:EV n f y u)(hk:jD v=some k)(hj:xs[i.toNat]?=some a)
   (hu:u.cells.size=s) (hsc:u.cells.toList.all scal=true) (hfit:∀F H e,Ro F H e a->off+s<=e.cells.size) (hset:∀F H e,Ro F H e a->Ro F H (lW e off u.cells.toList) a'):
   XC P n ⟨d,.store T x y,T',ps,af,gd⟩ f [ah (aa E Ro) F v xs] (fun _:Unit=>undef) (fun _=>[ah (aa E Ro) F v (xs.set i.toNat a')]):=by
 intro H dD
 have ho:aa E Ro F H v xs:=dD.hold _ (List.mem_singleton.2 rfl)
 obtain⟨hh,m,b,G,rfl,h2,h3,h4,h5,h6,h7,rfl,h9⟩:=ho.head hk
 obtain⟨e,F1,Fj,F2,g1,rfl,g3,g4⟩:=h9.at hj
 refine aek hs hx hy h3 h5 g1 hu hsc (by simpa[aRg]using h0) (hfit _ _ _ g3) ⟨(),rfl,?_⟩
 have Cx:∀q,q≠k->(H.set k (some ⟨b.elems.set i.toNat (lW e off u.cells.toList),b.ty,true,b.wr⟩))[q]?=H[q]?:=fun q hq=>by rw[aQ8 (fun e=>hq e.symm)]
 have m_:fP H (H.set k (some ⟨b.elems.set i.toNat (lW e off u.cells.toList),b.ty,true,b.wr⟩)):=by
   intro q b2 hq hw2
   rw[Cx q (fun e=>by
     subst e; rw[hq]at h3
     injection h3 with h3; injection h3 with h3
     rw[h3]at hw2; rw[hw2]at h4; simp at h4)]
   exact hq
 have hnd:=dD.nd
 have xY:∀q,q∈F1\/q∈Fj\/q∈F2->q≠k:=by
   intro q hq e
   subst e
   simp only[foot,ah,av1,aRL,aQ_,aTj,aQZ]at hnd
   exact hnd.1 (by rcases hq with h|h|h<;>simp[h])
 refine⟨by simp,m_,fun q hq Ea=>Cx q (fun e=>Ea (by subst e; simp[foot,ah])),?_,by simpa[foot,ah]using hnd,fun q hq=>⟨.inl (by simpa[foot,ah]using hq),?_⟩⟩
 · intro c hc
   simp at hc; subst hc
   refine .inr ⟨k,m,_,F1++Fj++F2,by rw[aRK],h2,aRo (qh h3),h4,rfl,h6,by simpa using h7,by simp,?_⟩
   refine g4 (fun Fi x y hr hm=>bS.keep hr m_ fun q hq=>Cx q (xY q ?_)) (bS.keep (hset _ _ _ g3) m_ fun q hq=>Cx q (xY q (by simp[hq])))
   rcases hm q hq with h|h
   · exact .inl h
   · exact .inr (.inr h)
 · simpa using (dD.own q (by simpa[foot,ah]using hq)).2
theorem lm{H:aB}{k s:Nat}{ow w:Bool}{TB:TypeId}{l:List Value}{f:Fr}(hA:AG P T true)(hs:SZ P T s)(h0:Nat.blt 0 s=true)(hx:EV n f x (.pointer (some ⟨k,0,some 0⟩)))(hk:H[k]?=some (some ⟨[.agg l.toArray],TB,ow,w⟩))(hl:l.length=s):
   fK P n ⟨d,.load T x,T',ps,af,none⟩ f H (.agg l.toArray):=
 pO (e:=.agg l.toArray) hA hs hx hk rfl (by simpa[aRg]using h0) (by simp[Value.cells,hl]) (by subst hl; simp[Value.cells])
theorem au6{E:TypeId}{R:aB->Value->α->Prop}{v:Value}{xs:List α}{H:aB}(h:ak E R H v xs):∃a m,v= .slice a xs.length m/\(a=none->xs=[]):=by
 rcases h with⟨rfl,rfl⟩|⟨k,i,m,b,rfl,-⟩|⟨k,i,m,rfl,rfl⟩
 · exact⟨none,0,rfl,fun _=>rfl⟩
 · exact⟨_,m,rfl,fun h=>by simp at h⟩
 · exact⟨_,m,rfl,fun h=>by simp at h⟩
theorem ad8{E:TypeId}{R:aB->Value->α->Prop} [bz R]{v:Value}{xs:List α}(H:aB)(h:(aI (ak E R) v xs).P H):∃a m,v= .slice a xs.length m/\(a=none->xs=[]):=au6 (R:=R) h
theorem alr{E:TypeId} [bS Ro]{F:List Nat}{v:Value}{xs:List α}(H:aB)(h:(ah (aa E Ro) F v xs).P H):∃a m,v= .slice a xs.length m/\(a=none->xs=[]):=by
 have h:aa E Ro F H v xs:=h
 rcases h with⟨rfl,rfl,-⟩|⟨k,m,b,G,rfl,-⟩
 · exact⟨none,0,rfl,fun _=>rfl⟩
 · exact⟨_,m,rfl,fun h=>by simp at h⟩
variable{T'':TypeId}
theorem ax3{H:aB}{a:Option Addr}{n' m:Nat}{f:Fr}(hT:SL P T E)(hx:EV n f x (.slice a n' m)):fK P n ⟨d,.binOp .eql T x (.const (.slice none 0 0)) T',T'',ps,af,none⟩ f H (.bool a.isNone):=by
 intro ρ w q hr hf
 have hu:P.underlying T=some (.slice E):=hT
 have hv:=hx.use hf
 have key:∃a' c,q.eval x= .slice a' n' c/\a'.isNone=a.isNone:=by
   generalize q.eval x=cv at hv
   cases hv with
   |oF=>exact⟨none,0,rfl,rfl⟩
   |slice k i n m L p cap=>exact⟨some p,cap,rfl,rfl⟩
   |ui k i n m p cap=>exact⟨some p,cap,rfl,rfl⟩
 obtain⟨a',c,he,hi⟩:=key
 refine⟨.bool a'.isNone,?_,by rw[hi]; exact .bool _⟩
 have hc:Act.eval q (.const (.slice none 0 0))= .slice none 0 0:=rfl
 simp[execOp,he,hc,eqGuard,Lib.run_eql_slice_nil w T E a' n' c 0 0 hu]
theorem aen{v:Value}{xs:List α}{c:ay}(hT:SL P T E)(hx:EV n f x v)(hm:Mem c cs)(hc:∀H,c.P H-> ∃a m,v= .slice a xs.length m/\(a=none->xs=[]))(h:∀b:Bool,(b=true->xs=[])->aR P n H0 F0 A r (put f d (.bool b)) cs K):
   aR P n H0 F0 A (⟨d,.binOp .eql T x (.const (.slice none 0 0)) T',T'',ps,af,none⟩::r) f cs K:=by
 intro H dD
 obtain⟨a,m,rfl,ha⟩:=hc H (dD.mem hm)
 exact vV (ax3 hT hx) (h a.isNone (fun e=>ha (by simpa using e)) H dD)
def IK(P:Program) [bF P](t:TypeId)(k:IntKind):Prop:=P.underlying t=some (.int k)
theorem awr{H:aB}{S D:TypeId}{k1 k2:IntKind}{i:Int}(hS:IK P S k1)(hD:IK P D k2)(hx:EV n f x (.int k1 i)):fK P n ⟨d,.convert S D x,T',ps,af,none⟩ f H (.int k2 (k2.wrap i)):=by
 intro ρ w q hr hf
 have hS':P.underlying S=some (.int k1):=hS
 have hD':P.underlying D=some (.int k2):=hD
 exact⟨_,by simp[execOp,(hx.use hf).int_inv,convert,underlying,hS',hD',Conv.intToInt],.int _ _⟩
theorem akb{H:aB}{S D:TypeId}{u:UInt8}(hS:IK P S .u8)(hD:IK P D .i64)(hx:EV n f x (.int .u8 (u.toNat:Int))):fK P n ⟨d,.convert S D x,T',ps,af,none⟩ f H (.int .i64 (u.toNat:Int)):=by
 have:(IntKind.i64.wrap (u.toNat:Int))=u.toNat:=di (by omega) (by have:=u.toNat_lt; omega)
 have h:=awr (H:=H) (n:=n) (f:=f) (d:=d) (T':=T') (ps:=ps) (af:=af) hS hD hx
 rwa [this]at h
end
end Go.Fw
/-
 Slice expressions on our own slices; clear; elements that keep their identity; a function that only moves elements, over deep data.
-/
set_option linter.unusedVariables false
namespace Go.Fw
open Go
theorem aws{z:Value}(hz:um z=true)(h0:z.cells.toList.all scal=true)(n:Nat)(hs:0<z.cells.size):∀u∈(Builtin.zeroCells z.cells n).toList,scal u=true:=by
 intro u hu
 simp only[Builtin.zeroCells,Array.toList_map,List.mem_map,Array.toList_range,List.mem_range]at hu
 obtain⟨i,-,rfl⟩:=hu
 have hlt:i % z.cells.size<z.cells.size:=Nat.mod_lt _ hs
 rw[getElem!_pos z.cells (i % z.cells.size) hlt]
 exact List.all_eq_true.1 h0 _ (by simp)
theorem al6(z:Array Value)(n:Nat):(Builtin.zeroCells z n).toList.length=n*z.size:=by simp[Builtin.zeroCells]
section
variable{P:Program} [bF P]{n:Nat}{f:Fr}{H0:aB}{F0:List Nat}{cs:List ay}{A:Array Oper}{r:List Oper}{K:Fr->List ay->Prop}{d:Option Tmp}{x y z:Operand}{T T' E:TypeId}{ps:String}{af:Array Edge}{gd:Option (Nat×Bool)}
variable{α:Type}{R:aB->Value->α->Prop}{xs:List α}{v:Value}
theorem als{H:aB}{k m l s:Nat}{b:eO}{kk:IntKind}{i:Int}(hT:SL P T E)(hs:SZ P E s)(hx:EV n f x (.slice (some ⟨k,0,none⟩) l m))(hy:EV n f y (.int kk i))(hk:H[k]?=some (some b))(hbt:b.ty=E)(h0:0<=i)(hi:i<=(l:Int)):
   fK P n ⟨d,.slice T x (some y) none none,T',ps,af,none⟩ f H (.slice (some ⟨k,i.toNat,none⟩) (l-i.toNat) 0):=by
 intro ρ w a hr hf
 obtain⟨L,p,cap,hl,hb,hc,hcap,h1,h2,hp⟩:=(hx.use hf).slice_inv hr hk
 have hyv:a.eval y= .int kk i:=(hy.use hf).int_inv
 have hu:P.underlying T=some (.slice E):=hT
 have he:P.elem T=E:=by simp[Program.elem,hu]
 have hu2:P.underlying T=some (.slice (P.elem T)):=by rw[he]; exact hu
 have aFh:L.sz=s:=by rw[←hb.sz,hbt,hs.cells]
 refine⟨sliced (some p) i.toNat l cap s,?_,?_⟩
 · have hrun:=run_slice_l (P:=P) w T (some p) l cap hu2 kk i h0 hi
   rw[he,hs.run,Result.andThen]at hrun
   have h2':=run_sliceAt_slice (P:=P) w T (.slice (some p) l cap) (some (.int kk i)) none none hu2
   simp[execOp,hc,hyv,h2',hrun]
 · have hform:∃q:Addr,sliced (some p) i.toNat l cap s= .slice (some q) (l-i.toNat) (cap-i.toNat)/\(l-i.toNat≠0->q=p.add (i.toNat*s)):=by
     unfold sliced
     by_cases e:cap=i.toNat
     · exact⟨p,by rw[atV e],fun h=>by omega⟩
     · exact⟨p.add (i.toNat*s),by rw[aqA e]; rfl,fun _=>rfl⟩
   obtain⟨q,hq,hqe⟩:=hform
   rw[hq]
   refine bW.slice k i.toNat _ 0 L q _ hl (by omega) (by simp) (by simp) (fun hn=>⟨?_,fun ho=>?_⟩)
   · rw[hqe hn,hp (by omega),addr_add,aFh]
     simp
   · obtain⟨L',hl',hx'⟩:=(hx.use hf).slice_ext hr hk (by omega)
     rw[hl]at hl'
     obtain rfl:L=L':=by simpa using hl'
     have:=hx' ho
     omega
theorem alu{H:aB}{k m l s:Nat}{b:eO}{kk:IntKind}{i:Int}(hT:SL P T E)(hs:SZ P E s)(hx:EV n f x (.slice (some ⟨k,0,none⟩) l m))(hm:m=1\/m=2)(hy:EV n f y (.int kk i))(hk:H[k]?=some (some b))(ho:b.own=true)(h0:0<=i)(hi:i<=(l:Int))(hl0:l≠0):
   fK P n ⟨d,.slice T x none (some y) none,T',ps,af,none⟩ f H (.slice (some ⟨k,0,none⟩) i.toNat 2):=by
 intro ρ w a hr hf
 obtain⟨L,p,cap,hl,hb,hc,hcap,h1,h2,hp⟩:=(hx.use hf).slice_inv hr hk
 have hyv:a.eval y= .int kk i:=(hy.use hf).int_inv
 have hu:P.underlying T=some (.slice E):=hT
 have he:P.elem T=E:=by simp[Program.elem,hu]
 have hu2:P.underlying T=some (.slice (P.elem T)):=by rw[he]; exact hu
 have hown:L.own=true:=by rw[←hb.own]; exact ho
 obtain⟨cs0,ct,fr,-,-,hr2⟩:=hb.cells
 obtain⟨hoff,-⟩:=hr2 hown
 refine⟨sliced (some p) 0 i.toNat cap s,?_,?_⟩
 · have hrun:=run_slice_h (P:=P) w T (some p) l cap hu2 kk i h0 (by omega)
   rw[he,hs.run,Result.andThen]at hrun
   have h2':=run_sliceAt_slice (P:=P) w T (.slice (some p) l cap) none (some (.int kk i)) none hu2
   simp[execOp,hc,hyv,h2',hrun]
 · have hq:sliced (some p) 0 i.toNat cap s= .slice (some p) i.toNat cap:=by
     unfold sliced
     rw[aqA (by omega)]
     simp[Addr.add]
   rw[hq]
   have qd:=hp hl0
   rw[aR5,aRV]at qd
   have Om:cap<=L.cap:=by
     rcases hm with rfl|rfl
     · have:=h1 rfl; omega
     · exact (h2 (aQT _)).2.2.1
   exact bW.slice k 0 _ 2 L p _ hl (by omega) (by simp) (fun _=>⟨rfl,hown,Om,qd,by omega⟩) (fun _=>⟨by rw[qd]; simp,fun _=>by omega⟩)
theorem aw_{R:aB->Value->α->Prop} [bz R]{H H':aB}(hi:fP H H'){es:List Value}{ys:List α}{G:List Nat}(h:cZ (az R) H es ys G):∀i,cZ (az R) H' (es.take i) (ys.take i) []:=by
 induction h with
 |nil=>intro i; simpa using cZ.nil
 |cons h _ ih=>
   intro i
   cases i with
   |zero=>simpa using cZ.nil
   |succ i=>
     have:=cZ.cons (Ro:=az R) (F:=[]) (G:=[]) ⟨rfl,bz.up h.2 hi⟩ (ih i)
     simpa using this
theorem ax4 [bz R]{F:List Nat}{k l m j i s by':Nat}{zv:Value}{ts:List TypeId}(hT:SL P T E)(ht:TY P E s by' zv)(h0s:Nat.blt 0 s=true)(hzs:zv.cells.size=s)(hzc:um zv=true)(hzl:zv.cells.toList.all scal=true)
   (hl:l=xs.length) (hj:i+j=l) (hx:EV n f x (.slice (some ⟨k,i,none⟩) j 0)):
   XC P n ⟨d,.call ⟨.builtin .clear,[x].toArray,(T::ts).toArray⟩,T',ps,af,gd⟩ f [ah (aa E (az R)) F (.slice (some ⟨k,0,none⟩) l m) xs] (fun _:Unit=>undef)
     (fun _=>[ah (aa E (az R)) F (.slice (some ⟨k,0,none⟩) i 2) (xs.take i)]):=by
 intro H dD
 have h0:0<s:=by simpa[aRg]using h0s
 have ho:aa E (az R) F H (.slice (some ⟨k,0,none⟩) l m) xs:=dD.hold _ (List.mem_singleton.2 rfl)
 obtain⟨hh,m',b,G,hv,h2,h3,h4,h5,h6,h7,rfl,h9⟩:=ho.head (k:=k) rfl
 subst hl
 have hlen:=h9.length
 have aFi:P.cellsOf E=s:=ht.sz.cells
 intro ρ w a K' Q' hr hf hkk
 obtain⟨L,p,cap,hl,hbr,hc,hcap,g1,g2,gp⟩:=(hx.use hf).slice_inv hr h3
 have hown:L.own=true:=by rw[←hbr.own]; exact h5
 obtain⟨cs,ct,fr,vP,hel,hr2⟩:=hbr.cells
 obtain⟨hoff,si,hlenL,hfr,rfl⟩:=hr2 hown
 have nG:L.sz=s:=by rw[←hbr.sz,h6,aFi]
 have hu:P.underlying T=some (.slice E):=hT
 obtain⟨it,hit,e1,e2,e3⟩:=ht.inv
 have Tx:∀w:World,(zeroValue E).run P w= .ok zv w:=fun w=>by simp[zeroValue,typeInfo,hit,e3]
 have apS:i*s+j*s<=cs.size:=by
   have h1:(i+j)*s<=L.cap*L.sz:=by rw[nG]; exact aQ4 _ (by omega)
   rw[aRy]at h1; omega
 have hend:∀w':World,(w'.heap=w.heap\/ ∃vs:List Value,vs.length=j*s/\w'.heap=w.heap.setIfInBounds L.blk (.cells (splice cs.toList (i*s) vs).toArray b.ty fr))->w'.os=w.os->w'.output=w.output->w'.tape=w.tape->
     aD P ρ (H.set k (some ⟨b.elems.take i,b.ty,true,b.wr⟩)) w'/\Step ρ H w ρ (H.set k (some ⟨b.elems.take i,b.ty,true,b.wr⟩)) w':=by
   intro w' hw' w1 w2 w3
   have hw'':∃cs':Array Value,w'.heap=w.heap.setIfInBounds L.blk (.cells cs' b.ty fr)/\cs'.size=cs.size/\ ∀q,q+s<=i*s->(cs'.toList.drop q).take s=(cs.toList.drop q).take s:=by
     rcases hw' with hw'|⟨vs,hvl,hw'⟩
     · refine⟨cs,?_,rfl,fun _ _=>rfl⟩
       rw[hw']
       have hlt:=hr.lt hl
       apply aSK
       intro q
       by_cases hq:L.blk=q
       · subst hq; rw[Array.getElem?_setIfInBounds_self_of_lt hlt]; exact vP
       · rw[aRx hq]
     · refine⟨_,hw',?_,fun q hq=>?_⟩
       · simp only[aRP]; rw[Hq _ _ _ (by rw[hvl]; simpa using apS)]; simp
       · exact Zm _ _ _ _ _ (.inl hq) (by rw[hvl]; simpa using apS)
   obtain⟨cs',hh',hsz',hsame⟩:=hw''
   refine⟨hr.write (b':=⟨b.elems.take i,b.ty,true,b.wr⟩) hl hown hh' rfl rfl hbr.sz ?_ ⟨hoff,by rw[hsz']; exact si,by simp only[aRi]; omega,by rw[hsz']; exact hfr⟩,Step.write hl hown hh' w1 w2 w3⟩
   intro q e he
   have hqi:q<i:=by
     rcases aQ7 q i with h|h
     · exact h
     · rw[aQR (by simp; omega)]at he; simp at he
   rw[aRm hqi]at he
   have:=hel q e he
   refine⟨this.1,?_⟩
   rw[hoff,aRf,nG]at this ⊢
   rw[hsame (q*s) (by rw[←aRW]; exact aQ4 _ hqi)]
   exact this.2
 have hpost:Ctx H (foot [ah (aa E (az R)) (k::G) (.slice (some ⟨k,0,none⟩) xs.length m) xs]) (H.set k (some ⟨b.elems.take i,b.ty,true,b.wr⟩)) [ah (aa E (az R)) (k::G) (.slice (some ⟨k,0,none⟩) i 2) (xs.take i)]:=by
   have hnd:=dD.nd
   have hG:G=[]:=by
     have:∀{es:List Value}{ys:List α}{G:List Nat},cZ (az R) H es ys G->G=[]:=by
       intro es ys G h
       induction h with
       |nil=>rfl
       |cons h _ ih=>rw[ih,h.1]; rfl
     exact this h9
   subst hG
   have hne:∀q,q≠k->(H.set k (some ⟨b.elems.take i,b.ty,true,b.wr⟩))[q]?=H[q]?:=fun q hq=>by rw[aQ8 (fun e=>hq e.symm)]
   have m_:fP H (H.set k (some ⟨b.elems.take i,b.ty,true,b.wr⟩)):=by
     intro q b2 hq hw2
     rw[hne q (fun e=>by
       subst e; rw[hq]at h3
       injection h3 with h3; injection h3 with h3
       rw[h3]at hw2; rw[hw2]at h4; simp at h4)]
     exact hq
   refine⟨by simp,m_,fun q hq Ea=>hne q (fun e=>Ea (by subst e; simp[foot,ah])),?_,by simp[foot,ah],fun q hq=>⟨.inl (by simpa[foot,ah]using hq),by simpa[foot,ah]using (dD.own q (by simpa[foot,ah]using hq)).2⟩⟩
   intro c hcm
   simp at hcm; subst hcm
   refine .inr ⟨k,2,_,[],by rw[aRi,aR9 (by omega)],.inr rfl,aRo (qh h3),h4,rfl,h6,by simp only[aRi]; omega,rfl,?_⟩
   exact aw_ m_ h9 i
 by_cases hj0:j=0
 · subst hj0
   have hex:(execOp a.eval ⟨d,.call ⟨.builtin .clear,[x].toArray,(T::ts).toArray⟩,T',ps,af,gd⟩).run P w= .ok (.value undef) w:=by
     simp[execOp,resolve,invoke,builtin,Builtin.clear_,hc,underlying,hu,undef]
   show Oper.upon P _ a K' Q' _
   rw[hex]
   obtain⟨r1,r2⟩:=hend w (.inl rfl) rfl rfl rfl
   exact hkk _ _ _ _ _ (hf.put d (bW.undef ρ)) r1 r2 ⟨(),rfl,hpost⟩
 · have hp:=gp hj0
   have hvl:=al6 zv.cells j
   obtain⟨w',hrun,hw',w1,w2,w3⟩:=Ya P (b:=L.blk) (o:=i*s) (Builtin.zeroCells zv.cells j).toList 0 cs w vP (fun o h=>hfr o (aSJ h)) (aws hzc hzl j (by rw[hzs]; exact h0)) (by rw[hvl,hzs]; omega)
   have hex:(execOp a.eval ⟨d,.call ⟨.builtin .clear,[x].toArray,(T::ts).toArray⟩,T',ps,af,gd⟩).run P w= .ok (.value undef) w':=by
     obtain⟨j',rfl⟩:∃q,j=q+1:=⟨j-1,by omega⟩
     have hp':p=⟨L.blk,i*s,none⟩:=by rw[hp,hoff,aRf,nG]
     simp[execOp,resolve,invoke,builtin,Builtin.clear_,hc,underlying,hu,undef,Tx,hp',hrun]
   show Oper.upon P _ a K' Q' _
   rw[hex]
   obtain⟨r1,r2⟩:=hend w' (.inr ⟨_,by rw[hvl,hzs],by rw[hw',aRV]⟩) w1 w2 w3
   exact hkk _ _ _ _ _ (hf.put d (bW.undef ρ)) r1 r2 ⟨(),rfl,hpost⟩
end
def rq{α:Type}(R:aB->Value->α->Prop)(H:aB)(e:Value)(q:Value×α):Prop:=e=q.1/\R H e q.2
instance{α:Type}{R:aB->Value->α->Prop} [bz R]:bz (rq R):=⟨fun h hi=>⟨h.1,bz.up h.2 hi⟩⟩
instance{α:Type}{R:aB->Value->α->Prop}{s:Nat} [Cells R s]:Cells (rq R) s:=⟨fun h=>Cells.cells h.2⟩
def VZ{α:Type}(_:aB)(e:Value)(q:Value×α):Prop:=e=q.1
instance{α:Type}:Pure (VZ (α:=α)):=⟨fun h=>h⟩
section
variable{α:Type}{R:aB->Value->α->Prop}{Ro:b_ α}{E:TypeId}
theorem cZ.map{β:Type}{R1 R2:b_ β}{H:aB}(hm:∀F e a,R1 F H e a->R2 F H e a){es:List Value}{xs:List β}{G:List Nat}(h:cZ R1 H es xs G):cZ R2 H es xs G:=by
 induction h with
 |nil=>exact .nil
 |cons h _ ih=>exact .cons (hm _ _ _ h) ih
theorem aa.map{β:Type}{R1 R2:b_ β}{F:List Nat}{H:aB}{v:Value}{xs:List β}(hm:∀F e a,R1 F H e a->R2 F H e a)(h:aa E R1 F H v xs):aa E R2 F H v xs:=by
 rcases h with h|⟨k,m,b,G,h1,h2,h3,h4,h5,h6,h7,h8,h9⟩
 · exact .inl h
 · exact .inr ⟨k,m,b,G,h1,h2,h3,h4,h5,h6,h7,h8,h9.map hm⟩
theorem aw'{β:Type}{Q:aB->Value->β->Prop}{H:aB}{es:List Value}{ys:List β}{G:List Nat}(h:cZ (az Q) H es ys G):G=[]:=by
 induction h with
 |nil=>rfl
 |cons h _ ih=>rw[ih,h.1]; rfl
theorem azq{H:aB}{es:List Value}{ys:List (Value×α)}{G:List Nat}(h:cZ (az VZ) H es ys G):es=ys.map Prod.fst:=by
 induction h with
 |nil=>rfl
 |cons h _ ih=>rw[ih,h.2]; rfl
theorem cZ.sub{H:aB}{es:List Value}{xs:List α}{G:List Nat}(h:cZ Ro H es xs G):∀{sel:List (Value×α)},sel.Sublist (es.zip xs)-> ∃G',G'.Sublist G/\cZ Ro H (sel.map Prod.fst) (sel.map Prod.snd) G':=by
 induction h with
 |nil=>intro sel hs; simp at hs; subst hs; exact⟨[],.slnil,.nil⟩
 | @cons e es a xs F G h t ih=>
   intro sel hs
   rw[aSk]at hs
   cases hs with
   |cons _ hs=>
     obtain⟨G',h1,h2⟩:=ih hs
     exact⟨G',h1.trans (aSd _ _),h2⟩
   |cons_cons _ hs=>
     obtain⟨G',h1,h2⟩:=ih hs
     exact⟨F++G',(aSQ _).append h1,.cons h h2⟩
theorem awt [bz R] [j4 Ro] [jS Ro R]{F:List Nat}{H:aB}{v:Value}{xs:List α}(h:aa E Ro F H v xs)(hnd:F.Nodup):
   ∃es F1 G,F=F1++G/\es.length=xs.length/\cZ Ro H es xs G/\aa E (az (rq R)) F1 (cO H G) v (es.zip xs):=by
 rcases h with⟨rfl,rfl,rfl⟩|⟨k,m,b,G,rfl,h2,h3,h4,h5,h6,h7,rfl,h9⟩
 · exact⟨[],[],[],rfl,rfl,.nil,.inl ⟨rfl,rfl,rfl⟩⟩
 · have hk:k∉G:=(List.nodup_cons.1 hnd).1
   have hl:=h9.length
   have hz:(b.elems.zip xs).length=xs.length:=by simp[hl]
   refine⟨b.elems,[k],G,rfl,hl,h9,.inr ⟨k,m,b,[],by rw[hz],h2,by rw[xg _ _ hk]; exact h3,h4,h5,h6,by rw[hz]; exact h7,rfl,?_⟩⟩
   refine aeM (R:=rq R) (by simp[hl]) fun j q hj=>?_
   rw[List.getElem?_zip_eq_some]at hj
   obtain⟨e,he,hr⟩:=h9.cO (fun _ h=>h) j q.2 hj.2
   rw[hj.1]at he
   obtain rfl:q.1=e:=by simpa using he
   exact⟨q.1,hj.1,rfl,hr⟩
theorem axa{F:List Nat}{H:aB}{v:Value}{es:List Value}{xs:List α}{G:List Nat}{sel:List (Value×α)}(h:aa E (az VZ) F H v sel)(hs:sel.Sublist (es.zip xs))(he:cZ Ro H es xs G):
   ∃G',G'.Sublist G/\aa E Ro (F++G') H v (sel.map Prod.snd):=by
 obtain⟨G',h1,h2⟩:=he.sub hs
 rcases h with⟨rfl,rfl,rfl⟩|⟨k,m,b,G0,rfl,g2,g3,g4,g5,g6,g7,rfl,g9⟩
 · cases h2
   exact⟨[],List.nil_sublist _,.inl ⟨rfl,rfl,rfl⟩⟩
 · obtain rfl:=aw' g9
   refine⟨G',h1,.inr ⟨k,m,b,G',by simp,g2,g3,g4,g5,g6,by simpa using g7,rfl,?_⟩⟩
   rw[azq g9]; exact h2
end
theorem awu{P:Program} [bF P]{α:Type}{R:aB->Value->α->Prop}{Ro:b_ α} [bS Ro] [bz R] [Local Ro] [j4 Ro] [jS Ro R]{E:TypeId}{g:FuncId}{args:List Value}{F:List Nat}{v:Value}{xs ys:List α}{cc:List ay}(hcc:foot cc=[])
   (h:∀(es:List Value)(F1:List Nat),es.length=xs.length-> ∃sel:List (Value×α),sel.Sublist (es.zip xs)/\sel.map Prod.snd=ys/\Spec P g args (ah (aa E (az (rq R))) F1 v (es.zip xs)::cc) (fun q:Sv×List Nat=>q.1.v) (fun q=>[ah (aa E (az (rq R))) q.2 q.1.v sel])):
   Spec P g args (ah (aa E Ro) F v xs::cc) (fun q:Sv×List Nat=>q.1.v) (fun q=>[ah (aa E Ro) q.2 q.1.v ys]):=by
 intro H F0 dD ρ w lI hr hargs
 have ho:aa E Ro F H v xs:=dD.hold (ah (aa E Ro) F v xs) (by simp)
 have hfp:foot (ah (aa E Ro) F v xs::cc)=F:=by
   have:foot (ah (aa E Ro) F v xs::cc)=F++foot cc:=rfl
   rw[this,hcc,aQ_]
 have hnd:F.Nodup:=by have:=dD.nd; rwa [hfp]at this
 have hown:∀q∈F,q∈F0/\q<H.length:=fun q hq=>by
   obtain⟨h1,h2⟩:=dD.own q (by rw[hfp]; exact hq)
   exact⟨h1.resolve_right (by omega),h2⟩
 obtain⟨es,F1,G,rfl,hel,apT,hsh⟩:=awt (R:=R) ho hnd
 obtain⟨n1,n2,n3⟩:=List.nodup_append.1 hnd
 have hw:=apT.owns
 obtain⟨sel,hsel,hys,hspec⟩:=h es F1 hel
 have Ec:foot (ah (aa E (az (rq R))) F1 v (es.zip xs)::cc)=F1:=by
   have:foot (ah (aa E (az (rq R))) F1 v (es.zip xs)::cc)=F1++foot cc:=rfl
   rw[this,hcc,aQ_]
 have hc2:Ctx (cO H G) F1 (cO H G) (ah (aa E (az (rq R))) F1 v (es.zip xs)::cc):=by
   refine⟨aQT _,fP.refl _,fun _ _ _=>rfl,fun c hc=>?_,by rw[Ec]; exact n1,fun q hq=>?_⟩
   · rcases List.mem_cons.1 hc with rfl|hc
     · exact hsh
     · refine c.keep (dD.hold c (by simp[hc])) (ve _ _) fun q hq=>?_
       have:q∈foot cc:=List.mem_flatMap.2 ⟨c,hc,hq⟩
       rw[hcc]at this; simp at this
   · rw[Ec]at hq
     exact⟨.inl hq,by rw[jv]; exact (hown q (by simp[hq])).2⟩
 refine (hspec (cO H G) F1 hc2 ρ w lI (hr.recore (jv _ _) (wX _ H)) hargs).mono fun e w' hp=>?_
 obtain⟨v0,r,ρ',H',h1,h2,h3,h4,q,rfl,h5⟩:=hp
 have hG:∀k∈G,H'[k]?=(cO H G)[k]?:=fun k hk=>h5.qI k (by rw[jv]; exact (hown k (by simp[hk])).2) (fun hk1=>n3 k hk1 k hk rfl)
 have aFj:∀k∈G,(mh H' G)[k]?=H[k]?:=fun k hk=>ael hw hG hk
 have hpost:aa E (az (rq R)) q.2 H' q.1.v sel:=h5.hold (ah (aa E (az (rq R))) q.2 q.1.v sel) (by simp)
 have GH:∀k∈q.2,k∉G/\(k∈F1\/H.length<=k)/\k<H'.length:=fun k hk=>by
   obtain⟨g1,g2⟩:=h5.own k (by simpa[foot,ah]using hk)
   rw[jv]at g1
   refine⟨fun Oo=>?_,g1,g2⟩
   rcases g1 with g1|g1
   · exact n3 k g1 k Oo rfl
   · have:=(hown k (by simp[Oo])).2; omega
 have hid:aa E (az VZ) q.2 (mh H' G) q.1.v sel:=
   Local.keep (R:=aa E (az VZ)) (hpost.map fun F e a h=>⟨h.1,h.2.1⟩) fun k hk=>xh _ _ (GH k hk).1
 obtain⟨G',hG',hfin⟩:=axa hid hsel (apT.local aFj)
 rw[hys]at hfin
 have hlen:H.length<=(mh H' G).length:=by rw[tH]; have:=h5.len; rwa [jv]at this
 refine⟨v0,_,ρ',mh H' G,h1,h2,h3.recore (tH _ _) (Fg _ H'),(Step.recore (H:=H) (jv _ _) (wX _ H)).trans (h4.trans (Step.recore (tH _ _) (Fg _ H'))),(q.1,q.2++G'),rfl,hlen,?_,?_,?_,?_,?_⟩
 · intro k b hb hbw
   have Oo:k∉G:=fun hk=>by
     obtain⟨b',hb',hw'⟩:=hw k hk
     rw[hb]at hb'
     injection hb' with hb'; injection hb' with hb'
     rw[hb',hw']at hbw; simp at hbw
   rw[xh _ _ Oo]
   exact h5.mg k b ((ve H G) k b hb hbw) hbw
 · intro k hk xY
   have abh:k∉F1++G:=fun h=>xY (hown k h).1
   simp only[aQZ,aS4]at abh
   rw[xh _ _ abh.2,h5.qI k (by rw[jv]; exact hk) abh.1,xg _ _ abh.2]
 · intro c hc
   simp at hc; subst hc
   exact hfin
 · have hq2:q.2.Nodup:=by have:=h5.nd; simpa[foot,ah]using this
   simp only[foot,ah,av1,aRL,aQ_]
   exact List.nodup_append.2 ⟨hq2,n2.sublist hG',fun a ha b hb e=>(GH a ha).1 (e ▸ hG'.subset hb)⟩
 · intro k hk
   simp only[foot,ah,av1,aRL,aQ_,aQZ]at hk
   rcases hk with hk|hk
   · obtain⟨-,g1,g2⟩:=GH k hk
     exact⟨g1.imp (fun h=>(hown k (by simp[h])).1) id,by rw[tH]; exact g2⟩
   · have:=hown k (by simp[hG'.subset hk])
     exact⟨.inl this.1,aQ2 this.2 hlen⟩
def NU{β:Type}(f:β->Option Bool):List β->Option (List β)
 |[]=>some []
 |x::r=>(f x).bind fun b=>(NU f r).bind fun ys=>some (if b then ys else x::ys)
theorem alv{β:Type}{f:β->Option Bool}:∀{xs ys:List β},NU f xs=some ys->(∀x∈xs,f x=some ((f x).getD false))/\ys=xs.filter (fun a=>!(f a).getD false)
 |[],ys,h=>by simp[NU]at h; subst h; simp
 |x::r,ys,h=>by
   obtain⟨b,hb,h⟩:=bind_some h
   obtain⟨zs,hz,h⟩:=bind_some h
   obtain⟨h1,h2⟩:=alv hz
   obtain rfl:=aQ0 h
   refine⟨fun y hy=>?_,?_⟩
   · rcases List.mem_cons.1 hy with rfl|hy
     · rw[hb]; rfl
     · exact h1 y hy
   · rw[aRu,hb,h2]
     cases b<;>simp
theorem amN{β:Type}{f:β->Option Bool}{p:β->Bool}:∀{xs:List β},(∀x∈xs,f x=some (p x))->NU f xs=some (xs.filter fun a=>!p a)
 |[],_=>rfl
 |x::r,h=>by
   rw[NU,h x (by simp),acs,amN (p:=p) fun y hy=>h y (by simp[hy]),acs,aRu]
   cases p x<;>simp
theorem amO{β γ:Type}(g:β->γ)(p:γ->Bool):∀(l:List β)(k:Nat),iM p (l.map g) k=iM (fun a=>p (g a)) l k
 |[],_=>rfl
 |x::r,k=>by simp only[aRG,iM,amO g p r (k+1)]
structure vL{β:Type}(p:β->Bool)(qs cur:List β)(i j:Nat):Prop where
 len:cur.length=qs.length
 lt:i<j
 le:j<=qs.length
 tk:cur.take i=(qs.take j).filter fun a=>!p a
 dr:cur.drop j=qs.drop j
theorem anv{β:Type}{p:β->Bool}:∀{l:List β}{k i:Nat},iM p l k=(i:Int)-> ∃q,i=k+q/\q<l.length/\(l.take q).filter (fun a=>!p a)=l.take q/\ ∃x,l[q]?=some x/\p x=true
 |[],k,i,h=>by simp[iM]at h
 |x::r,k,i,h=>by
   rw[iM]at h
   by_cases hp:p x=true
   · rw[atV hp]at h
     exact⟨0,by omega,by simp,by simp,x,by simp,hp⟩
   · rw[aqA hp]at h
     obtain⟨q,h1,h2,h3,y,h4,h5⟩:=anv h
     refine⟨q+1,by omega,by simpa using h2,?_,y,by simpa using h4,h5⟩
     rw[List.take_succ_cons,aRu,h3]
     simp[hp]
theorem al7{β:Type}{p:β->Bool}:∀{l:List β}{k:Nat},iM p l k= -1->l.filter (fun a=>!p a)=l
 |[],_,_=>rfl
 |x::r,k,h=>by
   rw[iM]at h
   by_cases hp:p x=true
   · rw[atV hp]at h; omega
   · rw[aqA hp]at h
     rw[aRu,al7 h]; simp[hp]
theorem alx{β:Type}(p:β->Bool):∀(l:List β)(k:Nat),iM p l k= -1\/ ∃i:Nat,iM p l k=(i:Int)/\i<k+l.length
 |[],k=>.inl rfl
 |x::r,k=>by
   rw[iM]
   by_cases hp:p x=true
   · rw[atV hp]; exact .inr ⟨k,rfl,by simp⟩
   · rw[aqA hp]
     rcases alx p r (k+1)with h|⟨i,h,hi⟩
     · exact .inl h
     · exact .inr ⟨i,h,by simp; omega⟩
section
variable{β:Type}{p:β->Bool}{qs cur:List β}{i j:Nat}{x:β}
theorem acD(hx:qs[j]?=some x):(qs.take (j+1)).filter (fun a=>!p a)=(qs.take j).filter (fun a=>!p a)++(if p x then []else [x]):=by
 have hlt:j<qs.length:=by
   rcases aQ7 j qs.length with h|h
   · exact h
   · simp[aQR h]at hx
 rw[aRC hlt,aSl]
 rw[apA hlt]at hx
 obtain rfl:=aQ0 hx
 cases hp:p qs[j]<;>simp[hp]
theorem vL.init(h:iM p qs 0=(i:Int)):vL p qs qs i (i+1):=by
 obtain⟨q,h1,h2,h3,y,h4,h5⟩:=anv h
 obtain rfl:i=q:=by omega
 exact⟨rfl,aST _,h2,by rw[acD h4,h3,h5]; simp,rfl⟩
theorem vL.at(h:vL p qs cur i j)(hj:j<qs.length):∃x,cur[j]?=some x/\qs[j]?=some x:=by
 refine⟨qs[j],?_,apA hj⟩
 have:=aRJ (fun l:List β=>l[0]?) h.dr
 simpa[apA hj]using this
theorem vL.yes(h:vL p qs cur i j)(hx:qs[j]?=some x)(hp:p x=true):vL p qs cur i (j+1):=by
 have hlt:j<qs.length:=Mo hx
 refine⟨h.len,by have:=h.lt; omega,hlt,by rw[acD hx,←h.tk,hp]; simp,?_⟩
 rw[←aRR,h.dr,aRR]
theorem vL.no(h:vL p qs cur i j)(hx:qs[j]?=some x)(hp:p x=false):vL p qs (cur.set i x) (i+1) (j+1):=by
 have hlt:j<qs.length:=Mo hx
 have hi:i<cur.length:=by have:=h.lt; have:=h.len; omega
 refine⟨by simpa using h.len,by have:=h.lt; omega,hlt,?_,?_⟩
 · rw[acD hx,←h.tk,hp,aRC (by simpa using hi)]
   simp[aS0]
 · rw[aSD (by have:=h.lt; omega),←aRR,h.dr,aRR]
theorem vL.fin(h:vL p qs cur i j)(hj:qs.length<=j):cur.take i=qs.filter fun a=>!p a:=by
 rw[h.tk,aRt hj]
end
section
variable{P:Program} [bF P]{n:Nat}{f:Fr}{H0:aB}{F0:List Nat}{cs:List ay}{A:Array Oper}{r:List Oper}{K:Fr->List ay->Prop}{d:Option Tmp}{x y z:Operand}{T T' E:TypeId}{ps:String}{af:Array Edge}{gd:Option (Nat×Bool)}
variable{α:Type}{R:aB->Value->α->Prop}{Ro':b_ α}{xs:List α}{v:Value}
theorem azr [bz R]{ι:Type}{F:List Nat}{k j s:Nat}{a:α}{ul:ι->List Value}{cc:ι->List ay}(hA:AG P T true)(hs:SZ P T s)(h0:Nat.blt 0 s=true)(hx:EV n f x (.pointer (some ⟨k,j,some 0⟩)))(hm:Mem (ah (aa E (az R)) F v xs) cs)(hk:jD v=some k)(hj:xs[j]?=some a)
   (hop:∀H e,R H e a-> ∃i,e= .agg (ul i).toArray/\(ul i).length=s/\ ∀c∈cc i,c.P H/\c.F=[]) (h:∀i,aR P n H0 F0 A r (put f d (.agg (ul i).toArray)) (aI R (.agg (ul i).toArray) a::(cc i++cs)) K):aR P n H0 F0 A (⟨d,.load T x,T',ps,af,none⟩::r) f cs K:=by
 intro H hc
 have ho:aa E (az R) F H v xs:=hc.mem hm
 obtain⟨-,m,b,G,rfl,-,h3,-,-,-,-,rfl,h9⟩:=ho.head hk
 obtain⟨e,F1,Fj,F2,g1,g2,g3,-⟩:=h9.at hj
 obtain⟨i,he,hl,hcc⟩:=hop H e g3.2
 subst he
 refine vV (pO hA hs hx h3 g1 (by simpa[aRg]using h0) (by simp[Value.cells,hl]) (show ((Value.agg (ul i).toArray).cells.toList.drop 0).take s=ul i by subst hl; simp[Value.cells])) (h i H ?_)
 have hb:∀(l:List ay),(∀c∈l,c.P H/\c.F=[])->Ctx H0 F0 H (l++cs):=by
   intro l
   induction l with
   |nil=>intro _; exact hc
   |cons c l ih=>intro hl; exact (ih fun d hd=>hl d (by simp[hd])).dup (hl c (by simp)).1 (hl c (by simp)).2
 exact (hb _ hcc).dup (c:=aI R (.agg (ul i).toArray) a) g3.2 rfl
theorem azs [bz R]{F:List Nat}{v:Value}{qs:List (Value×α)}:xC (ah (aa E (az (rq R))) F v qs) (aI (ak E R) v (qs.map Prod.snd)):=
 ⟨fun H h=>by
   have h2:=(aX (Ro:=aa E (az (rq R))) (R':=ak E (rq R)) (F:=F) (v:=v) (a:=qs)).P H h
   have h3:ak E (rq R) (cO H F) v qs:=h2
   rcases h3 with⟨rfl,rfl⟩|⟨k,i,m,b,rfl,g1,g2,g3,g4,g5,g6⟩|⟨k,i,m,rfl,rfl⟩
   · exact .inl ⟨rfl,rfl⟩
   · refine .inr (.inl ⟨k,i,m,b,by simp,g1,g2,g3,by simpa using g4,by simpa using g5,fun j a hj=>?_⟩)
     rw[aSx]at hj
     cases hq:qs[j]? with
     |none=>rw[hq]at hj; simp at hj
     |some q=>
       rw[hq]at hj
       obtain rfl:q.2=a:=by simpa using hj
       obtain⟨e,he,hr⟩:=g6 j q hq
       exact⟨e,he,hr.2⟩
   · exact .inr (.inr ⟨k,i,m,rfl,rfl⟩),fun H h=>(aX (Ro:=aa E (az (rq R))) (R':=ak E (rq R)) (F:=F) (v:=v) (a:=qs)).w H h,rfl⟩
theorem IR [bS Ro']{F:List Nat}{v:Sv}(hne:xs≠[])(H:aB)(h:(ah (aa E Ro') F v.v xs).P H):∃k m,v=⟨some ⟨k,0,none⟩,xs.length,m⟩/\(m=1\/m=2):=by
 have h:aa E Ro' F H v.v xs:=h
 rcases h with⟨-,h,-⟩|⟨k,m,b,G,h1,h2,-⟩
 · exact absurd h hne
 · obtain⟨va,vn,vm⟩:=v
   injection h1 with e1 e2 e3
   subst e1 e2 e3
   exact⟨k,_,rfl,h2⟩
theorem awv [bz R]{F:List Nat}{k l m s:Nat}{kk:IntKind}{i:Int}(hT:SL P T E)(hs:SZ P E s)(hx:EV n f x (.slice (some ⟨k,0,none⟩) l m))(hy:EV n f y (.int kk i))(hm:Mem (ah (aa E (az R)) F (.slice (some ⟨k,0,none⟩) l m) xs) cs)(h0:0<=i)(hi:i<=(l:Int))
   (h:aR P n H0 F0 A r (put f d (.slice (some ⟨k,i.toNat,none⟩) (l-i.toNat) 0)) cs K):aR P n H0 F0 A (⟨d,.slice T x (some y) none none,T',ps,af,none⟩::r) f cs K:=
 gM hm (fun{H} ho=>by
   have ho:aa E (az R) F H (.slice (some ⟨k,0,none⟩) l m) xs:=ho
   obtain⟨-,m',b,G,-,-,h3,-,-,h6,-⟩:=ho.head (k:=k) rfl
   exact als hT hs hx hy h3 h6 h0 hi) h
theorem aww [bz R]{F:List Nat}{k l m s:Nat}{kk:IntKind}{i:Int}{u:Value}(hT:SL P T E)(hs:SZ P E s)(hx:EV n f x (.slice (some ⟨k,0,none⟩) l m))(hmm:m=1\/m=2)(hy:EV n f y (.int kk i))(hm:Mem (ah (aa E (az R)) F u xs) cs)(hk:jD u=some k)(h0:0<=i)(hi:i<=(l:Int))(hl:l≠0)
   (h:aR P n H0 F0 A r (put f d (.slice (some ⟨k,0,none⟩) i.toNat 2)) cs K):aR P n H0 F0 A (⟨d,.slice T x none (some y) none,T',ps,af,none⟩::r) f cs K:=
 gM hm (fun{H} ho=>by
   have ho:aa E (az R) F H u xs:=ho
   obtain⟨-,m',b,G,rfl,-,h3,-,h5,-⟩:=ho.head hk
   exact alu hT hs hx hmm hy h3 h5 h0 hi hl) h
end
theorem awx{P:Program} [bF P]{g:FuncId}{args:List Value}{ι:Type}{val:ι->Value}{post:ι->List ay}{c:ay}{cc:List ay}{p:Prop}(hp:∀H,c.P H->p)(h:p->Spec P g args (c::cc) val post):Spec P g args (c::cc) val post:=
 fun H F0 hc=>h (hp H (hc.hold c (by simp))) H F0 hc
theorem avK{α:Type}(p:α->Bool)(es:List Value)(xs:List α)(h:es.length=xs.length):((es.zip xs).filter fun a=>!p a.2).map Prod.snd=xs.filter fun a=>!p a:=by
 have:=List.filter_map (f:=Prod.snd) (p:=fun a:α=>!p a) (l:=es.zip xs)
 rw[aSz (aRe h.symm)]at this
 rw[this]; rfl
section
variable{P:Program} [bF P]{n:Nat}{f:Fr}{H0:aB}{F0:List Nat}{cs:List ay}{A:Array Oper}{r:List Oper}{K:Fr->List ay->Prop}{d:Option Tmp}{T:TypeId}{ps:String}{af:Array Edge}{gd:Option (Nat×Bool)}{t:Tmp}
variable{l:List Oper}{tb aO todo:List Nat}{fl:List (Nat×List Nat)}{i:Nat}
theorem Cm(v:Value)(hv:f t=v)(ht:Nat.blt t n=true)(h:aR P n H0 F0 A r (put f d v) cs K):aR P n H0 F0 A (⟨d,.move (.tmp t),T,ps,af,none⟩::r) f cs K:=aP (bE (.tmp hv ht)) h
end
end Go.Fw
/-
 A slice of our own keeps its array, and its elements turn no more. No conditions.
-/
set_option linter.unusedVariables false
namespace Go.Fw
open Go
section
variable{α:Type}{Ro:b_ α}{R':aB->Value->α->Prop}{E:TypeId}{H0:aB}{F0:List Nat}{cs rest cs2:List ay}{F:List Nat}{v:Value}{xs:List α}
variable{P:Program} [bF P]{n:Nat}{f:Fr}{c1:Code}{Q:Exit->Fr->List ay->Prop}
theorem CG{o:Oper}{ι:Type}{val:ι->Value}{pre:List ay}{post post':ι->List ay}(he:∀x,bL (post x) (post' x))(hx:XC P n o f pre val post):XC P n o f pre val post':=by
 intro H hc ρ w a K' Q' hr hf hk
 refine hx H hc ρ w a K' Q' hr hf fun f' ρ' H' a' w' h1 h2 h3 h4=>?_
 obtain⟨x,e,h5⟩:=h4
 obtain⟨H2,l1,l2,l3⟩:=he x H (foot pre) H' h5
 exact hk f' ρ' H2 a' w' h1 (h2.recore l1 l2) (h3.trans (Step.recore l1 l2)) ⟨x,e,l3⟩
end
end Go.Fw
/-
 bV that look up by themselves what they need: names of temporaries, facts of the context, facts of the program's tables. No conditions.
-/
set_option linter.unusedVariables false
namespace Go.Fw
open Go
class dJ(P:Program) [bF P](t i:Nat)(off:outParam Nat):Prop where h:FD P t i off
class d_(P:Program) [bF P](t:Nat)(b:outParam Bool):Prop where h:AG P t b
class dK(P:Program) [bF P](t:Nat)(s b:outParam Nat)(z:outParam Value):Prop where h:TY P t s b z
class iN(P:Program) [bF P](t:Nat)(e:outParam Nat):Prop where h:SL P t e
class bM(P:Program) [bF P](g:Nat):Prop where h:CF P g
section
variable{P:Program} [bF P]{n:Nat}{f:Fr}{H0:aB}{F0:List Nat}{cs pre rest:List ay}{c c':ay}{x y z:Operand}{v:Value}
theorem bQ(h:Mem c cs:=by
   first
   |((repeat (first|with_reducible exact Mem.h|with_reducible apply Mem.t)); done)
   |((repeat (first|exact Mem.h|apply Mem.t)); done)
   |fail):Mem c cs:=h
theorem l6{r:List ay}(h:dU cs c r:=by
   first
   |((repeat (first|with_reducible exact dU.h|with_reducible apply dU.t)); done)
   |((repeat (first|exact dU.h|apply dU.t)); done)
   |fail):dU cs c r:=h
theorem aB1{α:Type}{R:aB->Value->α->Prop}{_:bz R}{a:α}(h:Mem (aI R v a) cs)(t:fq cs pre rest):fq cs (aI R v a::pre) rest:=.rd h rfl t
theorem aB2{k:Nat}{b:eO}(h:Mem (pR k b) cs)(t:fq cs pre rest):fq cs (pR k b::pre) rest:=.rd h rfl t
theorem uC(h:fq cs pre rest:=by
   first
   |exact fq.nil
   |((with_reducible refine' aB1 ?hm ?ht); (case hm=>exact bQ); (case ht=>exact uC))
   |((with_reducible refine' aB2 ?hm ?ht); (case hm=>exact bQ); (case ht=>exact uC))
   |exact fq.cons l6 uC
   |exact fq.rd bQ rfl uC|fail):fq cs pre rest:=h
theorem aY(h:EV n f x v:=by
   first|exact EV.tmp rfl rfl|exact EV.int _ _|exact EV.bool _|exact EV.str _|exact EV.oF|exact EV.nilPtr|exact EV.nilFunc|exact EV.nilIface|exact EV.fn _|fail):EV n f x v:=h
theorem aU(h:EV n f x v:=by
   first
   |exact EV.tmp (v:=.int _ _) rfl rfl|exact EV.tmp (v:=.bool _) rfl rfl|exact EV.tmp (v:=Sv.v _) rfl rfl|exact EV.tmp (v:=.slice _ _ _) rfl rfl
   |exact EV.tmp (v:=.pointer _) rfl rfl|exact EV.tmp (v:=.agg _) rfl rfl|exact EV.tmp (v:=sv _) rfl rfl|exact EV.tmp (v:=.string _) rfl rfl
   |exact EV.tmp (v:=.func _ _ _) rfl rfl|exact EV.tmp (v:=.tuple _) rfl rfl|exact EV.tmp (v:=undef) rfl rfl
   |exact EV.int _ _|exact EV.bool _|exact EV.str _|exact EV.oF|exact EV.nilPtr|exact EV.nilFunc|exact EV.nilIface|exact EV.fn _|fail):EV n f x v:=h
theorem AX{o:Option Value}(h:o=some v:=by
   first
   |exact (rfl:_=some (Value.int _ _))|exact (rfl:_=some (Sv.v _))|exact (rfl:_=some (Value.bool _))|exact (rfl:_=some (Value.slice _ _ _))
   |exact (rfl:_=some (sv _))|exact (rfl:_=some (Value.string _))|exact (rfl:_=some (Value.pointer _))|exact (rfl:_=some (Value.func _ _ _))|fail):o=some v:=h
theorem fG{xs:List Operand}{vs:List Value}(h:fE n f xs vs:=by first|exact fE.nil|exact fE.cons aY fG|fail):fE n f xs vs:=h
theorem df{l:List (Nat×Value)}(h:fB f l:=by
   repeat (first|exact fB.nil|refine' fB.cons rfl ?_)):f=dm f l:=h.eq
variable{A:Array Oper}{r:List Oper}{K:Fr->List ay->Prop}{d:Option Tmp}{op:Op}{T T' T'' E:TypeId}{ps:String}{af:Array Edge}
theorem agI(hx:EV n f x v)(h:aR P n H0 F0 A r (put f d v) cs K):aR P n H0 F0 A (⟨d,.move x,T,ps,af,none⟩::r) f cs K:=aP (bE hx) h
theorem agJ(hx:EV n f x v)(h:aR P n H0 F0 A r (put f d v) cs K):aR P n H0 F0 A (⟨d,.assign x,T,ps,af,none⟩::r) f cs K:=aP (jI hx) h
theorem amP{H:aB}{u:Value}(hc:EV n f x (.bool true))(hy:EV n f y u):fK P n ⟨d,.pick x y z,T,ps,af,none⟩ f H u:=
 fun ρ _ a _ hf=>⟨a.eval y,by simp[execOp,(hc.use hf).bool_inv,asBool],hy.use hf⟩
theorem amQ{H:aB}{u:Value}(hc:EV n f x (.bool false))(hy:EV n f z u):fK P n ⟨d,.pick x y z,T,ps,af,none⟩ f H u:=
 fun ρ _ a _ hf=>⟨a.eval z,by simp[execOp,(hc.use hf).bool_inv,asBool],hy.use hf⟩
theorem afl(hc:EV n f x (.bool true))(hy:EV n f y v)(h:aR P n H0 F0 A r (put f d v) cs K):aR P n H0 F0 A (⟨d,.pick x y z,T,ps,af,none⟩::r) f cs K:=aP (amP hc hy) h
theorem afm(hc:EV n f x (.bool false))(hy:EV n f z v)(h:aR P n H0 F0 A r (put f d v) cs K):aR P n H0 F0 A (⟨d,.pick x y z,T,ps,af,none⟩::r) f cs K:=aP (amQ hc hy) h
theorem abj{k i j fi off:Nat} [hF:dJ P T fi off](hx:EV n f x (.pointer (some ⟨k,i,some j⟩)))(h:aR P n H0 F0 A r (put f d (.pointer (some ⟨k,i,some (j+off)⟩))) cs K):
   aR P n H0 F0 A (⟨d,.fieldAddr T x fi,T',ps,af,none⟩::r) f cs K:=aP (adl hF.h hx) h
theorem afn{k j:Nat}{TB:TypeId}{e:Value} [hA:d_ P T false](hx:EV n f x (.pointer (some ⟨k,0,some j⟩)))(hm:Mem (pR k ⟨[e],TB,true,false⟩) cs)(hv:e.cells.toList[j]?=some v)
   (h:aR P n H0 F0 A r (put f d v) cs K):aR P n H0 F0 A (⟨d,.load T x,T',ps,af,none⟩::r) f cs K:=gM hm (fun hp=>gy hA.h hx hp.2 rfl hv) h
theorem afo{k j:Nat}{TB:TypeId}{e:Value} [hA:d_ P T false](hx:EV n f x (.pointer (some ⟨k,0,some j⟩)))(hm:Mem (fT k ⟨[e],TB,true,true⟩) cs)(hv:e.cells.toList[j]?=some v)
   (h:aR P n H0 F0 A r (put f d v) cs K):aR P n H0 F0 A (⟨d,.load T x,T',ps,af,none⟩::r) f cs K:=gM hm (fun hp=>gy hA.h hx hp.2 rfl hv) h
theorem an_{k s b:Nat}{zv:Value}{TB:TypeId}{l:List Value} [hA:d_ P T true] [ht:dK P T s b zv](hx:EV n f x (.pointer (some ⟨k,0,some 0⟩)))(hm:Mem (pR k ⟨[.agg l.toArray],TB,true,false⟩) cs)(h0:Nat.blt 0 s=true)(hl:l.length=s)
   (h:aR P n H0 F0 A r (put f d (.agg l.toArray)) cs K):aR P n H0 F0 A (⟨d,.load T x,T',ps,af,none⟩::r) f cs K:=gM hm (fun hp=>lm hA.h ht.h.sz h0 hx hp.2 hl) h
theorem an'{k s b:Nat}{zv:Value}{TB:TypeId}{l:List Value} [hA:d_ P T true] [ht:dK P T s b zv](hx:EV n f x (.pointer (some ⟨k,0,some 0⟩)))(hm:Mem (fT k ⟨[.agg l.toArray],TB,true,true⟩) cs)(h0:Nat.blt 0 s=true)(hl:l.length=s)
   (h:aR P n H0 F0 A r (put f d (.agg l.toArray)) cs K):aR P n H0 F0 A (⟨d,.load T x,T',ps,af,none⟩::r) f cs K:=gM hm (fun hp=>lm hA.h ht.h.sz h0 hx hp.2 hl) h
theorem afp{α:Type}{R:aB->Value->α->Prop}{_:bz R}{xs:List α}{ts:List TypeId} [hT:iN P T E](hx:EV n f x v)(hm:Mem (aI (ak E R) v xs) cs)
   (h:aR P n H0 F0 A r (put f d (.int .i64 xs.length)) cs K):aR P n H0 F0 A (⟨d,.call ⟨.builtin .len,[x].toArray,(T::ts).toArray⟩,T',ps,af,none⟩::r) f cs K:=gM hm (fun hp=>tK hT.h hx (amD hp)) h
theorem aeP{α:Type}{Ro:b_ α}{_:bS Ro}{F:List Nat}{xs:List α}{ts:List TypeId} [hT:iN P T E](hx:EV n f x v)(hm:Mem (ah (aa E Ro) F v xs) cs)
   (h:aR P n H0 F0 A r (put f d (.int .i64 xs.length)) cs K):aR P n H0 F0 A (⟨d,.call ⟨.builtin .len,[x].toArray,(T::ts).toArray⟩,T',ps,af,none⟩::r) f cs K:=gM hm (fun hp=>tK hT.h hx (wY hp)) h
theorem agK{j:Nat}{t:Tmp}{b:Bool}(hd:(A[j]?).bind (·.dst)=some t)(hv:f t= .bool b)(ht:Nat.blt t n=true)(h:aR P n H0 F0 A (⟨d,op,T,ps,af,none⟩::r) f cs K):
   aR P n H0 F0 A (⟨d,op,T,ps,af,some (j,b)⟩::r) f cs K:=aFc hd hv ht h
theorem agL{j:Nat}{t:Tmp}{b:Bool}(hd:(A[j]?).bind (·.dst)=some t)(hv:f t= .bool (!b))(ht:Nat.blt t n=true)(h:aR P n H0 F0 A r (put f d undef) cs K):
   aR P n H0 F0 A (⟨d,op,T,ps,af,some (j,b)⟩::r) f cs K:=aBV hd hv ht h
theorem agM{j:Nat}{t:Tmp}{b:Bool}(hd:(A[j]?).bind (·.dst)=some t)(hv:f t=undef)(ht:Nat.blt t n=true)(h:aR P n H0 F0 A r (put f d undef) cs K):
   aR P n H0 F0 A (⟨d,op,T,ps,af,some (j,b)⟩::r) f cs K:=azo hd hv ht h
theorem afq{kk:IntKind}{q q2:Int}(hx:EV n f x (.int kk q))(hy:EV n f y (.int kk q2))(h:aR P n H0 F0 A r (put f d (.int kk (kk.wrap (q+q2)))) cs K):aR P n H0 F0 A (⟨d,.binOp .add T x y T',T'',ps,af,none⟩::r) f cs K:=aP (nO hx hy) h
theorem afr{kk:IntKind}{q q2:Int}(hx:EV n f x (.int kk q))(hy:EV n f y (.int kk q2))(h:aR P n H0 F0 A r (put f d (.int kk (kk.wrap (q-q2)))) cs K):aR P n H0 F0 A (⟨d,.binOp .sub T x y T',T'',ps,af,none⟩::r) f cs K:=aP (Tu hx hy) h
theorem afs{kk:IntKind}{q q2:Int}(hx:EV n f x (.int kk q))(hy:EV n f y (.int kk q2))(h:aR P n H0 F0 A r (put f d (.int kk (kk.wrap (q*q2)))) cs K):aR P n H0 F0 A (⟨d,.binOp .mul T x y T',T'',ps,af,none⟩::r) f cs K:=aP (anV hx hy) h
theorem aft{kk:IntKind}{q q2:Int}(hx:EV n f x (.int kk q))(hy:EV n f y (.int kk q2))(h:aR P n H0 F0 A r (put f d (.bool (decide (q<q2)))) cs K):aR P n H0 F0 A (⟨d,.binOp .lss T x y T',T'',ps,af,none⟩::r) f cs K:=aP (aff hx hy) h
theorem afu{kk:IntKind}{q q2:Int}(hx:EV n f x (.int kk q))(hy:EV n f y (.int kk q2))(h:aR P n H0 F0 A r (put f d (.bool (decide (q<=q2)))) cs K):aR P n H0 F0 A (⟨d,.binOp .leq T x y T',T'',ps,af,none⟩::r) f cs K:=aP (anW hx hy) h
theorem afv{kk:IntKind}{q q2:Int}(hx:EV n f x (.int kk q))(hy:EV n f y (.int kk q2))(h:aR P n H0 F0 A r (put f d (.bool (decide (q2<q)))) cs K):aR P n H0 F0 A (⟨d,.binOp .gtr T x y T',T'',ps,af,none⟩::r) f cs K:=aP (Tv hx hy) h
theorem afw{kk:IntKind}{q q2:Int}(hx:EV n f x (.int kk q))(hy:EV n f y (.int kk q2))(h:aR P n H0 F0 A r (put f d (.bool (decide (q2<=q)))) cs K):aR P n H0 F0 A (⟨d,.binOp .geq T x y T',T'',ps,af,none⟩::r) f cs K:=aP (anX hx hy) h
theorem afx{kk:IntKind}{q q2:Int}(hx:EV n f x (.int kk q))(hy:EV n f y (.int kk q2))(h:aR P n H0 F0 A r (put f d (.bool (q==q2))) cs K):aR P n H0 F0 A (⟨d,.binOp .eql T x y T',T'',ps,af,none⟩::r) f cs K:=aP (CQ hx hy) h
theorem afy{kk:IntKind}{q q2:Int}(hx:EV n f x (.int kk q))(hy:EV n f y (.int kk q2))(h:aR P n H0 F0 A r (put f d (.bool (q !=q2))) cs K):aR P n H0 F0 A (⟨d,.binOp .neq T x y T',T'',ps,af,none⟩::r) f cs K:=aP (anY hx hy) h
theorem afz{b:Bool}(hx:EV n f x (.bool b))(h:aR P n H0 F0 A r (put f d (.bool (!b))) cs K):aR P n H0 F0 A (⟨d,.unOp .not T x,T',ps,af,none⟩::r) f cs K:=aP (NE hx) h
variable{l:List Oper}{tb aO todo:List Nat}{fl:List (Nat×List Nat)}{i:Nat}{gd:Option (Nat×Bool)}
theorem eD(h:Wt n l f gd:=by first|exact Wt.no|exact Wt.on _ rfl rfl rfl|fail):Wt n l f gd:=h
theorem aoa{kk:IntKind}{q q2:Int}(ho:l[i]?=some ⟨d,.binOp .add T x y T',T'',ps,af,gd⟩)(hw:Wt n l f gd)(hx:EV n f x (.int kk q))(hn:dP x (dE l ⟨d,.binOp .add T x y T',T'',ps,af,gd⟩)=true)(hy:EV n f y (.int kk q2))(hm:dP y (dE l ⟨d,.binOp .add T x y T',T'',ps,af,gd⟩)=true)
   (h:DC P n l tb aO H0 F0 K todo fl (put f d (.int kk (kk.wrap (q+q2)))) cs):DC P n l tb aO H0 F0 K (i::todo) fl f cs:=dw ho hw (fun ha=>nO (EN ha hx hn) (EN ha hy hm)) h
theorem aob{kk:IntKind}{q q2:Int}(ho:l[i]?=some ⟨d,.binOp .sub T x y T',T'',ps,af,gd⟩)(hw:Wt n l f gd)(hx:EV n f x (.int kk q))(hn:dP x (dE l ⟨d,.binOp .sub T x y T',T'',ps,af,gd⟩)=true)(hy:EV n f y (.int kk q2))(hm:dP y (dE l ⟨d,.binOp .sub T x y T',T'',ps,af,gd⟩)=true)
   (h:DC P n l tb aO H0 F0 K todo fl (put f d (.int kk (kk.wrap (q-q2)))) cs):DC P n l tb aO H0 F0 K (i::todo) fl f cs:=dw ho hw (fun ha=>Tu (EN ha hx hn) (EN ha hy hm)) h
theorem aoc{kk:IntKind}{q q2:Int}(ho:l[i]?=some ⟨d,.binOp .mul T x y T',T'',ps,af,gd⟩)(hw:Wt n l f gd)(hx:EV n f x (.int kk q))(hn:dP x (dE l ⟨d,.binOp .mul T x y T',T'',ps,af,gd⟩)=true)(hy:EV n f y (.int kk q2))(hm:dP y (dE l ⟨d,.binOp .mul T x y T',T'',ps,af,gd⟩)=true)
   (h:DC P n l tb aO H0 F0 K todo fl (put f d (.int kk (kk.wrap (q*q2)))) cs):DC P n l tb aO H0 F0 K (i::todo) fl f cs:=dw ho hw (fun ha=>anV (EN ha hx hn) (EN ha hy hm)) h
theorem aod{kk:IntKind}{q q2:Int}(ho:l[i]?=some ⟨d,.binOp .lss T x y T',T'',ps,af,gd⟩)(hw:Wt n l f gd)(hx:EV n f x (.int kk q))(hn:dP x (dE l ⟨d,.binOp .lss T x y T',T'',ps,af,gd⟩)=true)(hy:EV n f y (.int kk q2))(hm:dP y (dE l ⟨d,.binOp .lss T x y T',T'',ps,af,gd⟩)=true)
   (h:DC P n l tb aO H0 F0 K todo fl (put f d (.bool (decide (q<q2)))) cs):DC P n l tb aO H0 F0 K (i::todo) fl f cs:=dw ho hw (fun ha=>aff (EN ha hx hn) (EN ha hy hm)) h
theorem aoe{kk:IntKind}{q q2:Int}(ho:l[i]?=some ⟨d,.binOp .leq T x y T',T'',ps,af,gd⟩)(hw:Wt n l f gd)(hx:EV n f x (.int kk q))(hn:dP x (dE l ⟨d,.binOp .leq T x y T',T'',ps,af,gd⟩)=true)(hy:EV n f y (.int kk q2))(hm:dP y (dE l ⟨d,.binOp .leq T x y T',T'',ps,af,gd⟩)=true)
   (h:DC P n l tb aO H0 F0 K todo fl (put f d (.bool (decide (q<=q2)))) cs):DC P n l tb aO H0 F0 K (i::todo) fl f cs:=dw ho hw (fun ha=>anW (EN ha hx hn) (EN ha hy hm)) h
theorem aof{kk:IntKind}{q q2:Int}(ho:l[i]?=some ⟨d,.binOp .gtr T x y T',T'',ps,af,gd⟩)(hw:Wt n l f gd)(hx:EV n f x (.int kk q))(hn:dP x (dE l ⟨d,.binOp .gtr T x y T',T'',ps,af,gd⟩)=true)(hy:EV n f y (.int kk q2))(hm:dP y (dE l ⟨d,.binOp .gtr T x y T',T'',ps,af,gd⟩)=true)
   (h:DC P n l tb aO H0 F0 K todo fl (put f d (.bool (decide (q2<q)))) cs):DC P n l tb aO H0 F0 K (i::todo) fl f cs:=dw ho hw (fun ha=>Tv (EN ha hx hn) (EN ha hy hm)) h
theorem aog{kk:IntKind}{q q2:Int}(ho:l[i]?=some ⟨d,.binOp .geq T x y T',T'',ps,af,gd⟩)(hw:Wt n l f gd)(hx:EV n f x (.int kk q))(hn:dP x (dE l ⟨d,.binOp .geq T x y T',T'',ps,af,gd⟩)=true)(hy:EV n f y (.int kk q2))(hm:dP y (dE l ⟨d,.binOp .geq T x y T',T'',ps,af,gd⟩)=true)
   (h:DC P n l tb aO H0 F0 K todo fl (put f d (.bool (decide (q2<=q)))) cs):DC P n l tb aO H0 F0 K (i::todo) fl f cs:=dw ho hw (fun ha=>anX (EN ha hx hn) (EN ha hy hm)) h
theorem aoh{kk:IntKind}{q q2:Int}(ho:l[i]?=some ⟨d,.binOp .eql T x y T',T'',ps,af,gd⟩)(hw:Wt n l f gd)(hx:EV n f x (.int kk q))(hn:dP x (dE l ⟨d,.binOp .eql T x y T',T'',ps,af,gd⟩)=true)(hy:EV n f y (.int kk q2))(hm:dP y (dE l ⟨d,.binOp .eql T x y T',T'',ps,af,gd⟩)=true)
   (h:DC P n l tb aO H0 F0 K todo fl (put f d (.bool (q==q2))) cs):DC P n l tb aO H0 F0 K (i::todo) fl f cs:=dw ho hw (fun ha=>CQ (EN ha hx hn) (EN ha hy hm)) h
theorem aoi{kk:IntKind}{q q2:Int}(ho:l[i]?=some ⟨d,.binOp .neq T x y T',T'',ps,af,gd⟩)(hw:Wt n l f gd)(hx:EV n f x (.int kk q))(hn:dP x (dE l ⟨d,.binOp .neq T x y T',T'',ps,af,gd⟩)=true)(hy:EV n f y (.int kk q2))(hm:dP y (dE l ⟨d,.binOp .neq T x y T',T'',ps,af,gd⟩)=true)
   (h:DC P n l tb aO H0 F0 K todo fl (put f d (.bool (q !=q2))) cs):DC P n l tb aO H0 F0 K (i::todo) fl f cs:=dw ho hw (fun ha=>anY (EN ha hx hn) (EN ha hy hm)) h
theorem aoj{b:Bool}(ho:l[i]?=some ⟨d,.unOp .not T x,T',ps,af,gd⟩)(hw:Wt n l f gd)(hx:EV n f x (.bool b))(hn:dP x (dE l ⟨d,.unOp .not T x,T',ps,af,gd⟩)=true)
   (h:DC P n l tb aO H0 F0 K todo fl (put f d (.bool (!b))) cs):DC P n l tb aO H0 F0 K (i::todo) fl f cs:=dw ho hw (fun ha=>NE (EN ha hx hn)) h
theorem apU(ho:l[i]?=some ⟨d,.move x,T,ps,af,gd⟩)(hw:Wt n l f gd)
   (hx:EV n f x v) (hn:dP x (dE l ⟨d,.move x,T,ps,af,gd⟩)=true) (h:DC P n l tb aO H0 F0 K todo fl (put f d v) cs):
   DC P n l tb aO H0 F0 K (i::todo) fl f cs:=dw ho hw (fun ha=>bE (EN ha hx hn)) h
theorem apV(ho:l[i]?=some ⟨d,.assign x,T,ps,af,gd⟩)(hw:Wt n l f gd)
   (hx:EV n f x v) (hn:dP x (dE l ⟨d,.assign x,T,ps,af,gd⟩)=true) (h:DC P n l tb aO H0 F0 K todo fl (put f d v) cs):
   DC P n l tb aO H0 F0 K (i::todo) fl f cs:=dw ho hw (fun ha=>jI (EN ha hx hn)) h
theorem aok(ho:l[i]?=some ⟨d,.pick x y z,T,ps,af,gd⟩)(hw:Wt n l f gd)(hc:EV n f x (.bool true))(hn:dP x (dE l ⟨d,.pick x y z,T,ps,af,gd⟩)=true)
   (hy:EV n f y v) (hm:dP y (dE l ⟨d,.pick x y z,T,ps,af,gd⟩)=true) (h:DC P n l tb aO H0 F0 K todo fl (put f d v) cs):
   DC P n l tb aO H0 F0 K (i::todo) fl f cs:=dw ho hw (fun ha=>amP (EN ha hc hn) (EN ha hy hm)) h
theorem aol(ho:l[i]?=some ⟨d,.pick x y z,T,ps,af,gd⟩)(hw:Wt n l f gd)(hc:EV n f x (.bool false))(hn:dP x (dE l ⟨d,.pick x y z,T,ps,af,gd⟩)=true)
   (hy:EV n f z v) (hm:dP z (dE l ⟨d,.pick x y z,T,ps,af,gd⟩)=true) (h:DC P n l tb aO H0 F0 K todo fl (put f d v) cs):
   DC P n l tb aO H0 F0 K (i::todo) fl f cs:=dw ho hw (fun ha=>amQ (EN ha hc hn) (EN ha hy hm)) h
theorem agN{k i0 j fi off:Nat}(ho:l[i]?=some ⟨d,.fieldAddr T x fi,T',ps,af,gd⟩){hF:dJ P T fi off}(hw:Wt n l f gd)
   (hx:EV n f x (.pointer (some ⟨k,i0,some j⟩))) (hn:dP x (dE l ⟨d,.fieldAddr T x fi,T',ps,af,gd⟩)=true) (h:DC P n l tb aO H0 F0 K todo fl (put f d (.pointer (some ⟨k,i0,some (j+off)⟩))) cs):
   DC P n l tb aO H0 F0 K (i::todo) fl f cs:=dw ho hw (fun ha=>adl hF.h (EN ha hx hn)) h
theorem aom{k j:Nat}{TB:TypeId}{e:Value}(ho:l[i]?=some ⟨d,.load T x,T',ps,af,gd⟩){hA:d_ P T false}(hw:Wt n l f gd)
   (hx:EV n f x (.pointer (some ⟨k,0,some j⟩))) (hn:dP x (dE l ⟨d,.load T x,T',ps,af,gd⟩)=true) (hm:Mem (pR k ⟨[e],TB,true,false⟩) cs) (hv:e.cells.toList[j]?=some v)
   (h:DC P n l tb aO H0 F0 K todo fl (put f d v) cs):DC P n l tb aO H0 F0 K (i::todo) fl f cs:=Ar ho hw hm rfl (fun ha hp=>gy hA.h (EN ha hx hn) hp.2 rfl hv) h
theorem aon{k s b:Nat}{zv:Value}{TB:TypeId}{e:List Value}(ho:l[i]?=some ⟨d,.load T x,T',ps,af,gd⟩){hA:d_ P T true}{ht:dK P T s b zv}(hw:Wt n l f gd)
   (hx:EV n f x (.pointer (some ⟨k,0,some 0⟩))) (hn:dP x (dE l ⟨d,.load T x,T',ps,af,gd⟩)=true) (hm:Mem (pR k ⟨[.agg e.toArray],TB,true,false⟩) cs) (h0:Nat.blt 0 s=true) (hl:e.length=s)
   (h:DC P n l tb aO H0 F0 K todo fl (put f d (.agg e.toArray)) cs):DC P n l tb aO H0 F0 K (i::todo) fl f cs:=Ar ho hw hm rfl (fun ha hp=>lm hA.h ht.h.sz h0 (EN ha hx hn) hp.2 hl) h
theorem aoo{α:Type}{R:aB->Value->α->Prop}{_:bz R}{xs:List α}{ts:List TypeId}(ho:l[i]?=some ⟨d,.call ⟨.builtin .len,[x].toArray,(T::ts).toArray⟩,T',ps,af,gd⟩){hT:iN P T E}(hw:Wt n l f gd)
   (hx:EV n f x v) (hn:dP x (dE l ⟨d,.call ⟨.builtin .len,[x].toArray,(T::ts).toArray⟩,T',ps,af,gd⟩)=true) (hm:Mem (aI (ak E R) v xs) cs)
   (h:DC P n l tb aO H0 F0 K todo fl (put f d (.int .i64 xs.length)) cs):DC P n l tb aO H0 F0 K (i::todo) fl f cs:=Ar ho hw hm rfl (fun ha hp=>tK hT.h (EN ha hx hn) (amD hp)) h
theorem apW{t:Tmp}{j:Nat}{b:Bool}(ho:l[i]?=some ⟨d,op,T,ps,af,some (j,b)⟩)(h1:(l[j]?).bind (·.dst)=some t)(h2:f t= .bool (!b))(h3:Nat.blt t n=true)(h:DC P n l tb aO H0 F0 K todo fl (put f d undef) cs):
   DC P n l tb aO H0 F0 K (i::todo) fl f cs:=aBX t ho h1 h2 h3 h
theorem apX{t:Tmp}{j:Nat}{b:Bool}(ho:l[i]?=some ⟨d,op,T,ps,af,some (j,b)⟩)(h1:(l[j]?).bind (·.dst)=some t)(h2:f t=undef)(h3:Nat.blt t n=true)(h:DC P n l tb aO H0 F0 K todo fl (put f d undef) cs):
   DC P n l tb aO H0 F0 K (i::todo) fl f cs:=azp t ho h1 h2 h3 h
theorem aly{K:Fr->List ay->Prop}{Q:Exit->Fr->List ay->Prop}(h:K f cs):jB K Q .normal f cs:=h
theorem amR{id:Nat}{Q:Exit->Fr->List ay->Prop}(h:Q .normal f cs):D_ id Q .normal f cs:=h
theorem au{G N:Prop}(k:N)(h:N->G:=by
   intro k
   repeat (first|with_reducible refine aly ?_|with_reducible refine amR ?_)
   first
   |((with_reducible refine' agI ?hx k); (case hx=>exact aU))
   |((with_reducible refine' abj ?hx k); (case hx=>exact aY))
   |with_reducible exact eQ k
   |((with_reducible refine' agK ?r1 ?r2 ?r3 k); (case r1=>exact rfl); (case r2=>exact rfl); (case r3=>exact rfl))
   |((with_reducible refine' agL ?r1 ?r2 ?r3 k); (case r1=>exact rfl); (case r2=>exact rfl); (case r3=>exact rfl))
   |((with_reducible refine' agJ ?hx k); (case hx=>exact aU))
   |((with_reducible refine' afn ?hx ?hm ?hv k); (case hx=>exact aY); (case hm=>exact bQ); (case hv=>exact AX))
   |((with_reducible refine' afo ?hx ?hm ?hv k); (case hx=>exact aY); (case hm=>exact bQ); (case hv=>exact AX))
   |((with_reducible refine' an_ ?hx ?hm ?r1 ?r2 k); (case hx=>exact aY); (case hm=>exact bQ); (case r1=>exact rfl); (case r2=>exact rfl))
   |((with_reducible refine' an' ?hx ?hm ?r1 ?r2 k); (case hx=>exact aY); (case hm=>exact bQ); (case r1=>exact rfl); (case r2=>exact rfl))
   |((with_reducible refine' afp ?hx ?hm k); (case hx=>exact aU); (case hm=>exact bQ); all_goals infer_instance)
   |((with_reducible refine' aeP ?hx ?hm k); (case hx=>exact aU); (case hm=>exact bQ); all_goals infer_instance)
   |((with_reducible refine' aft ?a ?b k); (case a=>exact aY); (case b=>exact aY))
   |((with_reducible refine' afz ?a k); (case a=>exact aY))
   |((with_reducible refine' afl ?hc ?hy k); (case hc=>exact aY); (case hy=>exact aU))
   |((with_reducible refine' afm ?hc ?hy k); (case hc=>exact aY); (case hy=>exact aU))
   |((with_reducible refine' agM ?r1 ?r2 ?r3 k); (case r1=>exact rfl); (case r2=>exact rfl); (case r3=>exact rfl))
   |((with_reducible refine' afq ?a ?b k); (case a=>exact aY); (case b=>exact aY))
   |((with_reducible refine' afr ?a ?b k); (case a=>exact aY); (case b=>exact aY))
   |((with_reducible refine' afx ?a ?b k); (case a=>exact aY); (case b=>exact aY))
   |((with_reducible refine' afy ?a ?b k); (case a=>exact aY); (case b=>exact aY))
   |((with_reducible refine' afu ?a ?b k); (case a=>exact aY); (case b=>exact aY))
   |((with_reducible refine' afv ?a ?b k); (case a=>exact aY); (case b=>exact aY))
   |((with_reducible refine' afw ?a ?b k); (case a=>exact aY); (case b=>exact aY))
   |((with_reducible refine' afs ?a ?b k); (case a=>exact aY); (case b=>exact aY))
   |with_reducible exact eB k
   |with_reducible exact IC k
   |with_reducible exact qj k
   |with_reducible exact uo k
   |with_reducible exact dZ k
   |with_reducible exact Zn k
   |with_reducible exact alk k
   |with_reducible exact ad5 k
   |((with_reducible refine' anq ?a k); (case a=>exact rfl))
   |with_reducible exact amB k
   |with_reducible exact Z4 k
   |with_reducible exact vz k):G:=h k
theorem du{G N:Prop}(k:N)(h:N->G:=by
   intro k
   first
   |((with_reducible refine' apU ?r1 ?hw ?hx ?r2 k); (case r1=>exact rfl); (case hw=>exact eD); (case hx=>exact aU); (case r2=>exact rfl))
   |((with_reducible refine' agN ?r1 ?hw ?hx ?r2 k); (case r1=>exact rfl); (case hw=>exact eD); (case hx=>exact aY); (case r2=>exact rfl); all_goals infer_instance)
   |((with_reducible refine' aom ?r1 ?hw ?hx ?r2 ?hm ?hv k); (case r1=>exact rfl); (case hw=>exact eD); (case hx=>exact aY); (case r2=>exact rfl); (case hm=>exact bQ); (case hv=>exact AX); all_goals infer_instance)
   |((with_reducible refine' apW ?r1 ?r2 ?r3 ?r4 k); (case r1=>exact rfl); (case r2=>exact rfl); (case r3=>exact rfl); (case r4=>exact rfl))
   |((with_reducible refine' apX ?r1 ?r2 ?r3 ?r4 k); (case r1=>exact rfl); (case r2=>exact rfl); (case r3=>exact rfl); (case r4=>exact rfl))
   |((with_reducible refine' aoo ?r1 ?hw ?hx ?r2 ?hm k); (case r1=>exact rfl); (case hw=>exact eD); (case hx=>exact aU); (case r2=>exact rfl); (case hm=>exact bQ); all_goals infer_instance)
   |((with_reducible refine' aok ?r1 ?hw ?hc ?r2 ?hy ?r3 k); (case r1=>exact rfl); (case hw=>exact eD); (case hc=>exact aY); (case r2=>exact rfl); (case hy=>exact aU); (case r3=>exact rfl))
   |((with_reducible refine' aol ?r1 ?hw ?hc ?r2 ?hy ?r3 k); (case r1=>exact rfl); (case hw=>exact eD); (case hc=>exact aY); (case r2=>exact rfl); (case hy=>exact aU); (case r3=>exact rfl))
   |((with_reducible refine' aoj ?r1 ?hw ?hx ?r2 k); (case r1=>exact rfl); (case hw=>exact eD); (case hx=>exact aY); (case r2=>exact rfl))
   |((with_reducible refine' aod ?r1 ?hw ?hx ?r2 ?hy ?r3 k); (case r1=>exact rfl); (case hw=>exact eD); (case hx=>exact aY); (case r2=>exact rfl); (case hy=>exact aY); (case r3=>exact rfl))
   |((with_reducible refine' aoh ?r1 ?hw ?hx ?r2 ?hy ?r3 k); (case r1=>exact rfl); (case hw=>exact eD); (case hx=>exact aY); (case r2=>exact rfl); (case hy=>exact aY); (case r3=>exact rfl))
   |((with_reducible refine' aoi ?r1 ?hw ?hx ?r2 ?hy ?r3 k); (case r1=>exact rfl); (case hw=>exact eD); (case hx=>exact aY); (case r2=>exact rfl); (case hy=>exact aY); (case r3=>exact rfl))
   |((with_reducible refine' aoa ?r1 ?hw ?hx ?r2 ?hy ?r3 k); (case r1=>exact rfl); (case hw=>exact eD); (case hx=>exact aY); (case r2=>exact rfl); (case hy=>exact aY); (case r3=>exact rfl))
   |((with_reducible refine' aob ?r1 ?hw ?hx ?r2 ?hy ?r3 k); (case r1=>exact rfl); (case hw=>exact eD); (case hx=>exact aY); (case r2=>exact rfl); (case hy=>exact aY); (case r3=>exact rfl))
   |((with_reducible refine' aoe ?r1 ?hw ?hx ?r2 ?hy ?r3 k); (case r1=>exact rfl); (case hw=>exact eD); (case hx=>exact aY); (case r2=>exact rfl); (case hy=>exact aY); (case r3=>exact rfl))
   |((with_reducible refine' aof ?r1 ?hw ?hx ?r2 ?hy ?r3 k); (case r1=>exact rfl); (case hw=>exact eD); (case hx=>exact aY); (case r2=>exact rfl); (case hy=>exact aY); (case r3=>exact rfl))
   |((with_reducible refine' aog ?r1 ?hw ?hx ?r2 ?hy ?r3 k); (case r1=>exact rfl); (case hw=>exact eD); (case hx=>exact aY); (case r2=>exact rfl); (case hy=>exact aY); (case r3=>exact rfl))
   |((with_reducible refine' aoc ?r1 ?hw ?hx ?r2 ?hy ?r3 k); (case r1=>exact rfl); (case hw=>exact eD); (case hx=>exact aY); (case r2=>exact rfl); (case hy=>exact aY); (case r3=>exact rfl))
   |((with_reducible refine' apV ?r1 ?hw ?hx ?r2 k); (case r1=>exact rfl); (case hw=>exact eD); (case hx=>exact aU); (case r2=>exact rfl))
   |((with_reducible refine' aon ?r1 ?hw ?hx ?r2 ?hm ?r3 ?r4 k); (case r1=>exact rfl); (case hw=>exact eD); (case hx=>exact aY); (case r2=>exact rfl); (case hm=>exact bQ); (all_goals (try infer_instance)); (case r3=>exact rfl); (case r4=>exact rfl))
   |with_reducible exact FL k):G:=h k
theorem flA{fl:List (Nat×List Nat)}(h:iF tb i rest fl:=by
   repeat (first
     |exact iF.nil
     |refine' iF.aV rfl ?_
     |refine' iF.mg (by exact bQ) ?_)):iF tb i rest fl:=h
theorem Ki{f':Fr}{o:Oper}:∀{xs:List Operand}{vs:List Value},jf l o f f'->fE n f xs vs->xs.all (fun x=>dP x (dE l o))=true->fE n f' xs vs
 |[],[],_,_,_=>.nil
 |x::xs,v::vs,ha,⟨h,t⟩,hn=>by
   simp only[aRS,age]at hn
   exact .cons (EN ha h hn.1) (Ki ha t hn.2)
 |[],_::_,_,h,_=>h.elim
 |_::_,[],_,h,_=>h.elim
variable{ι α:Type}{val:ι->Value}{R:aB->Value->α->Prop}{xs:List α}{a:α}{g k j s b off:Nat}{zv e:Value}{kk:IntKind}{q:Int}{TB:TypeId}{Q:Exit->Fr->List ay->Prop}{c1 c2:Code}
theorem CcT{b:Bool}(hb:b=true)(h1:CW P n H0 F0 c1 Q f cs)(hc:EV n f x (.bool b):=by exact aY):CW P n H0 F0 (.cond x c1 c2) Q f cs:=nY hc (fun _=>h1) (fun h=>absurd (hb.symm.trans h) (by decide))
theorem CcF{b:Bool}(hb:b=false)(h2:CW P n H0 F0 c2 Q f cs)(hc:EV n f x (.bool b):=by exact aY):CW P n H0 F0 (.cond x c1 c2) Q f cs:=nY hc (fun h=>absurd (hb.symm.trans h) (by decide)) (fun _=>h2)
theorem mP{p:Prop}{_:Decidable p}(h1:CW P n H0 F0 c1 Q f cs)(hc:EV n f x (.bool (decide p)):=by exact aY)(hp:p:=by omega):CW P n H0 F0 (.cond x c1 c2) Q f cs:=CcT (aSb hp) h1 hc
theorem mQ{p:Prop}{_:Decidable p}(h2:CW P n H0 F0 c2 Q f cs)(hc:EV n f x (.bool (decide p)):=by exact aY)(hp:¬ p:=by omega):CW P n H0 F0 (.cond x c1 c2) Q f cs:=CcF (decide_eq_false hp) h2 hc
theorem Ai [bz R] [hT:iN P T E] [hs:dK P E s b zv](hi:xs[q.toNat]?=some a)(h:∀k j,aR P n H0 F0 A r (put f d (.pointer (some ⟨k,j,some 0⟩))) (jM E R k j a::cs) K)
   (hx:EV n f x v:=by exact aU) (hy:EV n f y (.int kk q):=by exact aY) (hm:Mem (aI (ak E R) v xs) cs:=by exact bQ) (h0:0<=q:=by first|exact aRX _|assumption):
   aR P n H0 F0 A (⟨d,.indexAddr T x y,T',ps,af,none⟩::r) f cs K:=Jk hT.h hs.h.sz hx hy hm h0 hi h
theorem Di [bz R] [hT:iN P T E] [hs:dK P E s b zv](hi:xs[q.toNat]?=some a)(h:∀k j,DC P n l tb aO H0 F0 K todo fl (put f d (.pointer (some ⟨k,j,some 0⟩))) (jM E R k j a::cs))
   (ho:l[i]?=some ⟨d,.indexAddr T x y,T',ps,af,gd⟩:=by rfl) (hw:Wt n l f gd:=by exact eD)
   (hx:EV n f x v:=by exact aU) (hy:EV n f y (.int kk q):=by exact aY) (lg:dP x (dE l ⟨d,.indexAddr T x y,T',ps,af,gd⟩)=true:=by rfl) (hyn:dP y (dE l ⟨d,.indexAddr T x y,T',ps,af,gd⟩)=true:=by rfl)
   (hm:Mem (aI (ak E R) v xs) cs:=by exact bQ) (h0:0<=q:=by first|exact aRX _|assumption):
   DC P n l tb aO H0 F0 K (i::todo) fl f cs:=an7 hT.h hs.h.sz ho hw hx hy lg hyn hm h0 hi h
theorem Al [bz R] [hA:d_ P T false](hop:∀H e,R H e a->e.cells.toList[off]?=some v)(h:aR P n H0 F0 A r (put f d v) cs K)(hx:EV n f x (.pointer (some ⟨k,j,some off⟩)):=by exact aY)(hm:Mem (jM E R k j a) cs:=by exact bQ):
   aR P n H0 F0 A (⟨d,.load T x,T',ps,af,none⟩::r) f cs K:=an5 hA.h hx hm hop h
theorem Dl [bz R] [hA:d_ P T false](hop:∀H e,R H e a->e.cells.toList[off]?=some v)(h:DC P n l tb aO H0 F0 K todo fl (put f d v) cs)(ho:l[i]?=some ⟨d,.load T x,T',ps,af,gd⟩:=by rfl)(hw:Wt n l f gd:=by exact eD)
   (hx:EV n f x (.pointer (some ⟨k,j,some off⟩)):=by exact aY) (lg:dP x (dE l ⟨d,.load T x,T',ps,af,gd⟩)=true:=by rfl) (hm:Mem (jM E R k j a) cs:=by exact bQ):
   DC P n l tb aO H0 F0 K (i::todo) fl f cs:=an8 hA.h ho hw hx lg hm hop h
theorem j6 [ht:dK P T s b zv](h:∀k,aR P n H0 F0 A r (put f d (.pointer (some ⟨k,0,some 0⟩))) (pR k ⟨[v],T,true,false⟩::cs) K)(hx:EV n f x v:=by exact aU)(hv:v.cells.size=s:=by rfl):
   aR P n H0 F0 A (⟨d,.box T x,T',ps,af,none⟩::r) f cs K:=aze rfl (anZ ht.h.sz hx hv) h
theorem AbW [ht:dK P T s b zv](h:∀k,aR P n H0 F0 A r (put f d (.pointer (some ⟨k,0,some 0⟩))) (fT k ⟨[v],T,true,true⟩::cs) K)(hx:EV n f x v:=by exact aU)(hv:v.cells.size=s:=by rfl):
   aR P n H0 F0 A (⟨d,.box T x,T',ps,af,none⟩::r) f cs K:=lJ rfl (anZ ht.h.sz hx hv) h
theorem gI [ht:dK P T s b zv](h:∀k,aR P n H0 F0 A r (put f d (.pointer (some ⟨k,0,some 0⟩))) (fT k ⟨[zv],T,true,true⟩::cs) K)(hv:zv.cells.size=s:=by rfl)(hc:um zv=true:=by rfl):
   aR P n H0 F0 A (⟨d,.alloc T,T',ps,af,none⟩::r) f cs K:=lJ rfl (vW ht.h hv hc) h
theorem As [ht:dK P T s b zv](e'':Value)(h:aR P n H0 F0 A r (put f d undef) (aW k TB e''::rest) K)(hx:EV n f x (.pointer (some ⟨k,0,some j⟩)):=by exact aY)(hy:EV n f y v:=by exact aU)(hm:dU cs (aW k TB e) rest:=by exact l6)
   (hv:v.cells.size=s:=by rfl) (hsc:v.cells.toList.all scal=true:=by rfl) (h0:Nat.blt 0 s=true:=by rfl) (hj:Nat.ble (j+s) e.cells.size=true:=by rfl) (he:lW e j v.cells.toList=e'':=by rfl):
   aR P n H0 F0 A (⟨d,.store T x y,T',ps,af,none⟩::r) f cs K:=iZ (.cons hm .nil) (iO ht.h.sz hx hy hv hsc h0 hj he) (fun _=>h)
theorem aFk{rs:List ResultVar}{vs:List Value}(h:mJ P n f cs rs vs:=by
   first
   |exact mJ.nil|exact .tmp rfl rfl .nil|exact .tmp rfl rfl (.tmp rfl rfl .nil)|exact .tmp rfl rfl (.tmp rfl rfl (.tmp rfl rfl .nil))|exact .tmp rfl rfl (.tmp rfl rfl (.tmp rfl rfl (.tmp rfl rfl .nil)))
   |exact mJ.lZ rfl rfl (by exact bQ) (by exact rfl) d_.h (TY.sz dK.h) (by exact rfl) (by exact rfl) .nil
   |exact mJ.cellS rfl rfl (by exact bQ) (by exact rfl) d_.h (by exact rfl) .nil|fail):mJ P n f cs rs vs:=h
theorem Er{rs:List ResultVar}{post:ι->List ay}{vs:List Value}(x:ι)(h1:mJ P n f cs rs vs:=by exact aFk)(h2:qX vs=val x:=by rfl)(h3:fq cs (post x) rest:=by exact uC):Du P n rs val post .ret f cs:=iW x h1 h2 (.sel h3)
theorem bT(h:fq cs pre rest:=by exact uC):bL cs pre:=.sel h
theorem wk(k:Nat)(h:k<9223372036854775807:=by omega):IntKind.i64.wrap ((k:Int)+1)=((k+1:Nat):Int):=by rw[di (by omega) (by omega)]; rfl
end
end Go.Fw
/-
 The same for calls: with the facts that come of them in a list.  No conditions.
-/
set_option linter.unusedVariables false
namespace Go.Fw
open Go
section
variable{P:Program} [bF P]{n:Nat}{f:Fr}{H0:aB}{F0:List Nat}{cs pre rest:List ay}{x y:Operand}{v:Value}{A:Array Oper}{r:List Oper}{K:Fr->List ay->Prop}{d:Option Tmp}{T E:TypeId}{ps:String}{af:Array Edge}
variable{l:List Oper}{tb aO todo:List Nat}{fl:List (Nat×List Nat)}{i g:Nat}{gd:Option (Nat×Bool)}{ι α:Type}{val:ι->Value}{R:aB->Value->α->Prop}{a:α}{k j s b off:Nat}{zv:Value}{xs:List Operand}{ts:Array TypeId}{vs:List Value}
theorem nt{b:Bool}(h:b=false):¬ b=true:=by rw[h]; exact Bool.false_ne_true
theorem Se{fn:Func}{c:Code}{args:List Value}{post:ι->List ay}(n:Nat)(hf:P.funcs[g]?=some fn)(rs:List ResultVar)(h:∀H0 F0,CW P n H0 F0 c (Du P n rs val post) (Z_ args) pre)
   (hb:fn.body=some c:=by rfl) (hn:fn.ntmps=n:=by rfl) (hr:fn.results=rs.toArray:=by rfl) (hl:Nat.ble rs.length 6=true:=by rfl) (ha:Nat.ble args.length n=true:=by rfl):Spec P g args pre val post:=Im hf hb hn hr hl ha h
theorem oO [hg:bM P g](hs:Spec P g vs pre val (fun x=>[]))(h:∀x,aR P n H0 F0 A r (put f d (val x)) (rest) K)(he:fE n f xs vs:=by exact fG)(hl:fq cs pre rest:=by exact uC):
   aR P n H0 F0 A (⟨d,.call ⟨.value (.func g),xs.toArray,ts⟩,T,ps,af,none⟩::r) f cs K:=apP hl (cK hg.h he hs) h
theorem Dx0 [hg:bM P g](hs:Spec P g vs pre val (fun x=>[]))(h:∀x,DC P n l tb aO H0 F0 K todo fl (put f d (val x)) (rest))
   (ho:l[i]?=some ⟨d,.call ⟨.value (.func g),xs.toArray,ts⟩,T,ps,af,gd⟩:=by rfl) (hA:aO.any (Nat.beq i)=true:=by rfl) (hw:Wt n l f gd:=by exact eD) (he:fE n f xs vs:=by exact fG)
   (hn:xs.all (fun x=>dP x (dE l ⟨d,.call ⟨.value (.func g),xs.toArray,ts⟩,T,ps,af,gd⟩))=true:=by rfl) (hl:fq cs pre rest:=by exact uC) (hfl:iF tb i rest fl:=by exact flA):
   DC P n l tb aO H0 F0 K (i::todo) fl f cs:=azg hA ho hw hl hfl (fun ha=>cK hg.h (Ki ha he hn) hs) h
theorem qM{c1:ι->ay} [hg:bM P g](hs:Spec P g vs pre val (fun x=>[c1 x]))(h:∀x,aR P n H0 F0 A r (put f d (val x)) (c1 x::rest) K)(he:fE n f xs vs:=by exact fG)(hl:fq cs pre rest:=by exact uC):
   aR P n H0 F0 A (⟨d,.call ⟨.value (.func g),xs.toArray,ts⟩,T,ps,af,none⟩::r) f cs K:=iZ hl (cK hg.h he hs) h
theorem Dx1{c1:ι->ay} [hg:bM P g](hs:Spec P g vs pre val (fun x=>[c1 x]))(h:∀x,DC P n l tb aO H0 F0 K todo fl (put f d (val x)) (c1 x::rest))
   (ho:l[i]?=some ⟨d,.call ⟨.value (.func g),xs.toArray,ts⟩,T,ps,af,gd⟩:=by rfl) (hA:aO.any (Nat.beq i)=true:=by rfl) (hw:Wt n l f gd:=by exact eD) (he:fE n f xs vs:=by exact fG)
   (hn:xs.all (fun x=>dP x (dE l ⟨d,.call ⟨.value (.func g),xs.toArray,ts⟩,T,ps,af,gd⟩))=true:=by rfl) (hl:fq cs pre rest:=by exact uC) (hfl:iF tb i rest fl:=by exact flA):
   DC P n l tb aO H0 F0 K (i::todo) fl f cs:=dx hA ho hw hl hfl (fun ha=>cK hg.h (Ki ha he hn) hs) h
theorem V3{c1 c2:ι->ay} [hg:bM P g](hs:Spec P g vs pre val (fun x=>[c1 x,c2 x]))(h:∀x,aR P n H0 F0 A r (put f d (val x)) (c1 x::c2 x::rest) K)(he:fE n f xs vs:=by exact fG)(hl:fq cs pre rest:=by exact uC):
   aR P n H0 F0 A (⟨d,.call ⟨.value (.func g),xs.toArray,ts⟩,T,ps,af,none⟩::r) f cs K:=tZ hl (cK hg.h he hs) h
theorem Cx3{c1 c2 c3:ι->ay} [hg:bM P g](hs:Spec P g vs pre val (fun x=>[c1 x,c2 x,c3 x]))(h:∀x,aR P n H0 F0 A r (put f d (val x)) (c1 x::c2 x::c3 x::rest) K)(he:fE n f xs vs:=by exact fG)(hl:fq cs pre rest:=by exact uC):
   aR P n H0 F0 A (⟨d,.call ⟨.value (.func g),xs.toArray,ts⟩,T,ps,af,none⟩::r) f cs K:=apQ hl (cK hg.h he hs) h
theorem Cx4{c1 c2 c3 c4:ι->ay} [hg:bM P g](hs:Spec P g vs pre val (fun x=>[c1 x,c2 x,c3 x,c4 x]))(h:∀x,aR P n H0 F0 A r (put f d (val x)) (c1 x::c2 x::c3 x::c4 x::rest) K)(he:fE n f xs vs:=by exact fG)(hl:fq cs pre rest:=by exact uC):
   aR P n H0 F0 A (⟨d,.call ⟨.value (.func g),xs.toArray,ts⟩,T,ps,af,none⟩::r) f cs K:=aFe hl (cK hg.h he hs) h
theorem Cx6{c1 c2 c3 c4 c5 c6:ι->ay} [hg:bM P g](hs:Spec P g vs pre val (fun x=>[c1 x,c2 x,c3 x,c4 x,c5 x,c6 x]))(h:∀x,aR P n H0 F0 A r (put f d (val x)) (c1 x::c2 x::c3 x::c4 x::c5 x::c6 x::rest) K)(he:fE n f xs vs:=by exact fG)(hl:fq cs pre rest:=by exact uC):
   aR P n H0 F0 A (⟨d,.call ⟨.value (.func g),xs.toArray,ts⟩,T,ps,af,none⟩::r) f cs K:=aFf hl (cK hg.h he hs) h
theorem V4{c1 c2 c3 c4 c5 c6 c7 c8:ι->ay} [hg:bM P g](hs:Spec P g vs pre val (fun x=>[c1 x,c2 x,c3 x,c4 x,c5 x,c6 x,c7 x,c8 x]))(h:∀x,aR P n H0 F0 A r (put f d (val x)) (c1 x::c2 x::c3 x::c4 x::c5 x::c6 x::c7 x::c8 x::rest) K)(he:fE n f xs vs:=by exact fG)(hl:fq cs pre rest:=by exact uC):
   aR P n H0 F0 A (⟨d,.call ⟨.value (.func g),xs.toArray,ts⟩,T,ps,af,none⟩::r) f cs K:=agH hl (cK hg.h he hs) h
theorem aFl{T2:TypeId} [bz R] [hA:d_ P T true] [ht:dK P T s b zv](ul:ι->List Value)(hop:∀H e,R H e a-> ∃i,off+s<=e.cells.size/\(e.cells.toList.drop off).take s=ul i/\ ∀c∈([]:List ay),c.P H/\c.F=[])
   (h:∀i,aR P n H0 F0 A r (put f d (.agg (ul i).toArray)) (cs) K) (hx:EV n f x (.pointer (some ⟨k,j,some off⟩)):=by exact aY) (hm:Mem (jM E R k j a) cs:=by exact bQ) (h0:Nat.blt 0 s=true:=by rfl):
   aR P n H0 F0 A (⟨d,.load T x,T2,ps,af,none⟩::r) f cs K:=azi ul hA.h ht.h.sz h0 hx hm hop h
theorem NV{T2:TypeId} [bz R]{c1:ι->ay} [hA:d_ P T true] [ht:dK P T s b zv](ul:ι->List Value)(hop:∀H e,R H e a-> ∃i,off+s<=e.cells.size/\(e.cells.toList.drop off).take s=ul i/\ ∀c∈([c1 i]:List ay),c.P H/\c.F=[])
   (h:∀i,aR P n H0 F0 A r (put f d (.agg (ul i).toArray)) (c1 i::cs) K) (hx:EV n f x (.pointer (some ⟨k,j,some off⟩)):=by exact aY) (hm:Mem (jM E R k j a) cs:=by exact bQ) (h0:Nat.blt 0 s=true:=by rfl):
   aR P n H0 F0 A (⟨d,.load T x,T2,ps,af,none⟩::r) f cs K:=azj ul hA.h ht.h.sz h0 hx hm hop h
theorem xE{T2:TypeId} [bz R]{c1:ι->ay} [hA:d_ P T true] [ht:dK P T s b zv](ul:ι->List Value)(hop:∀H e,R H e a-> ∃i,off+s<=e.cells.size/\(e.cells.toList.drop off).take s=ul i/\ ∀c∈([c1 i]:List ay),c.P H/\c.F=[])
   (h:∀i,DC P n l tb aO H0 F0 K todo fl (put f d (.agg (ul i).toArray)) (c1 i::cs)) (ho:l[i]?=some ⟨d,.load T x,T2,ps,af,gd⟩:=by rfl) (hw:Wt n l f gd:=by exact eD)
   (hx:EV n f x (.pointer (some ⟨k,j,some off⟩)):=by exact aY) (lg:dP x (dE l ⟨d,.load T x,T2,ps,af,gd⟩)=true:=by rfl) (hm:Mem (jM E R k j a) cs:=by exact bQ) (h0:Nat.blt 0 s=true:=by rfl):
   DC P n l tb aO H0 F0 K (i::todo) fl f cs:=azk ul hA.h ht.h.sz h0 ho hw hx lg hm hop h
theorem abk{T2:TypeId} [bz R]{c1 c2:ι->ay} [hA:d_ P T true] [ht:dK P T s b zv](ul:ι->List Value)(hop:∀H e,R H e a-> ∃i,off+s<=e.cells.size/\(e.cells.toList.drop off).take s=ul i/\ ∀c∈([c1 i,c2 i]:List ay),c.P H/\c.F=[])
   (h:∀i,aR P n H0 F0 A r (put f d (.agg (ul i).toArray)) (c1 i::c2 i::cs) K) (hx:EV n f x (.pointer (some ⟨k,j,some off⟩)):=by exact aY) (hm:Mem (jM E R k j a) cs:=by exact bQ) (h0:Nat.blt 0 s=true:=by rfl):
   aR P n H0 F0 A (⟨d,.load T x,T2,ps,af,none⟩::r) f cs K:=azl ul hA.h ht.h.sz h0 hx hm hop h
theorem UO{T2:TypeId} [bz R]{c1 c2:ι->ay} [hA:d_ P T true] [ht:dK P T s b zv](ul:ι->List Value)(hop:∀H e,R H e a-> ∃i,off+s<=e.cells.size/\(e.cells.toList.drop off).take s=ul i/\ ∀c∈([c1 i,c2 i]:List ay),c.P H/\c.F=[])
   (h:∀i,DC P n l tb aO H0 F0 K todo fl (put f d (.agg (ul i).toArray)) (c1 i::c2 i::cs)) (ho:l[i]?=some ⟨d,.load T x,T2,ps,af,gd⟩:=by rfl) (hw:Wt n l f gd:=by exact eD)
   (hx:EV n f x (.pointer (some ⟨k,j,some off⟩)):=by exact aY) (lg:dP x (dE l ⟨d,.load T x,T2,ps,af,gd⟩)=true:=by rfl) (hm:Mem (jM E R k j a) cs:=by exact bQ) (h0:Nat.blt 0 s=true:=by rfl):
   DC P n l tb aO H0 F0 K (i::todo) fl f cs:=azm ul hA.h ht.h.sz h0 ho hw hx lg hm hop h
theorem mo{c1:ay}{l:List Oper}(hs:fq cs pre rest)(hv:Conv pre [c1])(h:aR P n H0 F0 A l f (c1::rest) K):aR P n H0 F0 A l f cs K:=S_ hs hv dS h
theorem lQ{c1:ay}{r:List Nat}(hs:fq cs pre rest)(hv:Conv pre [c1])(h:DC P n l tb aO H0 F0 K r fl f (c1::rest)):DC P n l tb aO H0 F0 K r fl f cs:=anr hs hv dS h
theorem bnd{α β:Type}{G:Prop}{x:Option α}{g:α->Option β}{b:β}(h:x.bind g=some b)(k:∀a,x=some a->g a=some b->G):G:=by
 obtain⟨a,h1,h2⟩:=bind_some h
 exact k a h1 h2
theorem Ci{β:Type}{b:Bool}{p q:Option β}{R0:β}{c1 c2:Code}{Q:Exit->Fr->List ay->Prop}(hF:(if b=true then p else q)=some R0)(h1:b=true->p=some R0->CW P n H0 F0 c1 Q f cs)(h2:b=false->q=some R0->CW P n H0 F0 c2 Q f cs)
   (hc:EV n f x (.bool b):=by exact aY):CW P n H0 F0 (.cond x c1 c2) Q f cs:=
 nY hc (fun e=>h1 e (by rwa [atV e]at hF)) (fun e=>h2 e (by rwa [aqA (nt e)]at hF))
theorem Kb{β:Type}{R':aB->Value->β->Prop} [bz R']{T3:TypeId}{u:Value}{cs':List ay}{c:Code}{Q:Exit->Fr->List ay->Prop}(he:bL cs cs')(ys:List β)(h:ys.length<4611686018427387904->CW P n H0 F0 c Q f cs')(hm:Mem (aI (ak T3 R') u ys) cs':=by exact bQ):CW P n H0 F0 c Q f cs:=
 gV he (zV hm aln h)
abbrev pz(k:Nat):Value:=.pointer (some ⟨k,0,some 0⟩)
theorem dn{α:Type}{k:Nat}{l:List α}(h:List.drop k l=[]):l.length<=k:=List.drop_eq_nil_iff.1 h
end
end Go.Fw
/-
 Drawn regions: elements of an own slice are read and stored.
-/
set_option linter.unusedVariables false
namespace Go.Fw
open Go Go.RowKit
section
variable{P:Program} [bF P]{n:Nat}{l:List Oper}{tb aO:List Nat}{H0:aB}{F0:List Nat}{K:Fr->List ay->Prop}{cs:List ay}{f:Fr}{i:Nat}{r:List Nat}{fl:List (Nat×List Nat)}{d:Option Tmp}{T E T':TypeId}{ps:String}{af:Array Edge}{gd:Option (Nat×Bool)}{v:Value}{x y:Operand}{α:Type}{Ro:List Nat->aB->Value->α->Prop}{xs:List α}{s:Nat}
theorem azt [bS Ro]{F:List Nat}{kk:IntKind}{q:Int}(hT:SL P T E)(hs:SZ P E s)(ho:l[i]?=some ⟨d,.indexAddr T x y,T',ps,af,gd⟩)(hw:Wt n l f gd)(hx:EV n f x v)(hy:EV n f y (.int kk q))
   (lg:dP x (dE l ⟨d,.indexAddr T x y,T',ps,af,gd⟩)=true) (hyn:dP y (dE l ⟨d,.indexAddr T x y,T',ps,af,gd⟩)=true) (hm:Mem (ah (aa E Ro) F v xs) cs) (hi:(decide (0<=q)&&decide (q<(xs.length:Int)))=true)
   (h:∀k,jD v=some k->DC P n l tb aO H0 F0 K r ((i,F)::fl) (put f d (.pointer (some ⟨k,q.toNat,some 0⟩))) cs):DC P n l tb aO H0 F0 K (i::r) fl f cs:=by
 intro H hc
 simp only[age,ag3]at hi
 have ho':aa E Ro F H v xs:=hc.mem hm
 have hv:∃k m,v= .slice (some ⟨k,0,none⟩) xs.length m:=by
   rcases ho' with⟨rfl,rfl,-⟩|⟨k,m,b,G,rfl,-⟩
   · simp at hi; omega
   · exact⟨k,m,rfl⟩
 obtain⟨k,m,rfl⟩:=hv
 refine dF (c:=ah (aa E Ro) F (.slice (some ⟨k,0,none⟩) xs.length m) xs) ho hw hm (fun ha hp=>?_) (h k rfl) H hc
 have hp:aa E Ro F _ (.slice (some ⟨k,0,none⟩) xs.length m) xs:=hp
 rcases hp with⟨e,e2,-⟩|⟨k',m',b,G,e,h2,h3,h4,h5,h6,h7,-,h9⟩
 · simp at e
 · obtain rfl:k=k':=by simpa using aRJ (fun v=>match v with|Value.slice (some p) _ _=>p.block|_=>0) e
   simpa using Y2 (i0:=0) hT hs (EN ha hx lg) (EN ha hy hyn) h3 h6 hi.1 (by omega)
theorem aB3 [bS Ro]{F:List Nat}{k j off:Nat}{a:α}{w:Value}(hA:AG P T false)(ho:l[i]?=some ⟨d,.load T x,T',ps,af,gd⟩)(hw:Wt n l f gd)(hx:EV n f x (.pointer (some ⟨k,j,some off⟩)))
   (lg:dP x (dE l ⟨d,.load T x,T',ps,af,gd⟩)=true) (hm:Mem (ah (aa E Ro) F v xs) cs) (hk:jD v=some k) (hj:xs[j]?=some a)
   (hop:∀F H e,Ro F H e a->e.cells.toList[off]?=some w) (h:DC P n l tb aO H0 F0 K r ((i,F)::fl) (put f d w) cs):DC P n l tb aO H0 F0 K (i::r) fl f cs:=
 dF (c:=ah (aa E Ro) F v xs) ho hw hm (fun{f' H} ha ho=>by
   have ho:aa E Ro F H v xs:=ho
   rcases ho with⟨rfl,rfl,-⟩|⟨k',m,b,G,rfl,h2,h3,h4,h5,h6,h7,-,h9⟩
   · simp[jD]at hk
   · have e:k'=k:=by simpa[jD]using hk
     subst e
     obtain⟨e,F1,Fj,F2,g1,g2,g3,-⟩:=h9.at hj
     exact gy hA (EN ha hx lg) h3 g1 (hop Fj H e g3)) h
end
section
variable{P:Program} [bF P]{n:Nat}{f:Fr}{H:aB}{d:Option Tmp}{x:Operand}{T:TypeId}{ps:String}{af:Array Edge}
theorem ni{v:Value}{q:Addr}(hv:v= .pointer (some q))(hx:EV n f x v):fK P n ⟨d,.nilCheck x,T,ps,af,none⟩ f H v:=fun ρ _ a _ hf=>by
 subst hv
 have h:=hx.use hf
 have:∃p,a.eval x= .pointer (some p):=by
   generalize a.eval x=u at h
   cases h<;>exact⟨_,rfl⟩
 obtain⟨p,hp⟩:=this
 exact⟨a.eval x,by simp[execOp,hp],h⟩
end
end Go.Fw
/-
 Library functions that hand back strings: what the shelf's contracts say, at the abstract heap.
-/
set_option linter.unusedVariables false
namespace Go.Fw
open Go Go.RowKit
section
variable{P:Program} [bF P]{ρ:dI}{H:aB}{w:World}
end
section
variable{P:Program} [bF P]{n:Nat}{f:Fr}{d:Option Tmp}{x:Operand}{S T D E:TypeId}{ps:String}{af:Array Edge}{H:aB}{F:List Nat}{v:Value}{u:UInt8}
end
end Go.Fw
namespace Go.Fw
open Go
section
variable{P:Program} [bF P]{n:Nat}{f:Fr}{H:aB}{d:Option Tmp}{x:Operand}{T T':TypeId}{ps:String}{af:Array Edge}
end
end Go.Fw
/-
 Shifts and bits of whole numbers. No conditions.
-/
set_option linter.unusedVariables false
namespace Go.Fw
open Go
def UQ(k:IntKind)(i j:Int):Option Int:=if j<0 then none else some (k.wrap (i*2 ^ min j.toNat k.bits))
def NW(k:IntKind)(i j:Int):Option Int:=if j<0 then none else some (i.fdiv (2 ^ min j.toNat k.bits))
def UR(k:IntKind)(i j:Int):Int:=k.wrap ((BitVec.ofInt k.bits i &&& BitVec.ofInt k.bits j).toNat:Int)
section
variable{P:Program} [bF P]{n:Nat}{f:Fr}{H:aB}{d:Option Tmp}{T T' T'':TypeId}{ps:String}{af:Array Edge}{x y:Operand}
theorem aoq{k l:IntKind}{i j q:Int}(hx:EV n f x (.int k i))(hy:EV n f y (.int l j))(h:UQ k i j=some q):
   fK P n ⟨d,.binOp .shl T x y T',T'',ps,af,none⟩ f H (.int k q):=by
 unfold UQ at h
 split at h
 · simp at h
 rename_i hj
 cases h
 exact fun ρ _ a _ hf=>⟨_,by simp[execOp,(hx.use hf).int_inv,(hy.use hf).int_inv,eqGuard,binOp,Op.shift,hj],.int _ _⟩
theorem aor{k l:IntKind}{i j q:Int}(hx:EV n f x (.int k i))(hy:EV n f y (.int l j))(h:NW k i j=some q):
   fK P n ⟨d,.binOp .shr T x y T',T'',ps,af,none⟩ f H (.int k q):=by
 unfold NW at h
 split at h
 · simp at h
 rename_i hj
 cases h
 exact fun ρ _ a _ hf=>⟨_,by simp[execOp,(hx.use hf).int_inv,(hy.use hf).int_inv,eqGuard,binOp,Op.shift,hj],.int _ _⟩
theorem aos{k:IntKind}{i j:Int}(hx:EV n f x (.int k i))(hy:EV n f y (.int k j)):
   fK P n ⟨d,.binOp .and T x y T',T'',ps,af,none⟩ f H (.int k (UR k i j)):=
 fun ρ _ a _ hf=>⟨_,by simp[execOp,(hx.use hf).int_inv,(hy.use hf).int_inv,eqGuard,binOp,Op.intBits,UR],.int _ _⟩
end
end Go.Fw
/-
 Lending several own comps at once.
-/
set_option linter.unusedVariables false
namespace Go.Fw
open Go
section
variable{P:Program} [bF P]{n:Nat}{f:Fr}{ι:Type}{val:ι->Value}{pre:List ay}
inductive Av:List ay->List ay->Prop
 |nil:Av [] []
 |cons {c c':ay} {cl cl':List ay} (h:xC c c') (t:Av cl cl'):Av (c::cl) (c'::cl')
theorem Av.foot{cl cl':List ay}(h:Av cl cl'):foot cl'=[]:=by
 induction h with
 |nil=>rfl
 |cons h _ ih=>show _++Go.Fw.foot _=_; rw[h.F,ih]; rfl
theorem Av.wr{cl cl':List ay}(h:Av cl cl'){H:aB}(hp:∀c∈cl,c.P H):∀k∈Go.Fw.foot cl,∃b,H[k]?=some (some b)/\b.wr=true:=by
 induction h with
 |nil=>intro k hk; simp[Go.Fw.foot]at hk
 |cons h _ ih=>
   intro k hk
   simp only[Go.Fw.foot,av1,aQZ]at hk
   rcases hk with hk|hk
   · exact h.w H (hp _ (by simp)) k hk
   · exact ih (fun c hc=>hp c (by simp[hc])) k hk
theorem ax5(H:aB)(F G:List Nat):cO H (F++G)=cO (cO H F) G:=by unfold cO; rw[List.foldl_append]
theorem Av.hold{cl cl':List ay}(h:Av cl cl'):∀{H:aB},(∀c∈cl,c.P H)->(Go.Fw.foot cl).Nodup-> ∀c∈cl',c.P (cO H (Go.Fw.foot cl)):=by
 induction h with
 |nil=>intro H _ _ c hc; simp at hc
 | @cons c c' cl cl' h t ih=>
   intro H hp hnd d hd
   have e:Go.Fw.foot (c::cl)=c.F++Go.Fw.foot cl:=rfl
   rw[e]at hnd ⊢
   obtain⟨n1,n2,n3⟩:=List.nodup_append.1 hnd
   rw[ax5]
   rcases List.mem_cons.1 hd with rfl|hd
   · exact d.keep (h.P H (hp c (by simp))) (ve _ _) fun k hk=>by rw[h.F]at hk; simp at hk
   · refine ih (H:=cO H c.F) (fun x hx=>x.keep (hp x (by simp[hx])) (ve _ _) fun k hk=>xg _ _ fun hkc=>n3 k hkc k (List.mem_flatMap.2 ⟨x,hx,hk⟩) rfl) n2 d hd
theorem amS{cl cl':List ay}{o:Oper}{post:ι->List ay}(hf:Av cl cl')(hl:∀x,qm (post x))(hx:XC P n o f (cl'++pre) val post):XC P n o f (cl++pre) val (fun x=>cl++post x):=by
 intro H hc
 have hcP:∀c∈cl,c.P H:=fun c h=>hc.hold c (by simp[h])
 have hw:=hf.wr hcP
 have hfo:∀l,foot (cl++l)=foot cl++foot l:=fun l=>by simp[foot]
 have NY:∀l,foot (cl'++l)=foot l:=fun l=>by
   have:foot (cl'++l)=foot cl'++foot l:=by simp[foot]
   rw[this,hf.foot,aRa]
 have hnd:=hc.nd
 rw[hfo]at hnd
 obtain⟨n1,n2,n3⟩:=List.nodup_append.1 hnd
 have hcl:∀k∈foot cl,k<H.length:=fun k hk=>(hc.own k (by rw[hfo]; exact List.mem_append.2 (.inl hk))).2
 have hpo:∀k∈foot pre,k∉foot cl:=fun k hk hkc=>n3 k hkc k hk rfl
 have dD:Ctx (cO H (foot cl)) (foot (cl'++pre)) (cO H (foot cl)) (cl'++pre):=by
   refine⟨aQT _,fP.refl _,fun _ _ _=>rfl,fun d hd=>?_,?_,fun k hk=>⟨.inl hk,?_⟩⟩
   · rcases List.mem_append.1 hd with hd|hd
     · exact hf.hold hcP n1 d hd
     · refine d.keep (hc.hold d (by simp[hd])) (ve _ _) fun k hk=>xg _ _ (hpo k (List.mem_flatMap.2 ⟨d,hd,hk⟩))
   · rw[NY]; exact n2
   · rw[NY]at hk
     rw[jv]
     exact (hc.own k (by rw[hfo]; exact List.mem_append.2 (.inr hk))).2
 intro ρ w a K' Q' hr hF hk
 refine hx (cO H (foot cl)) dD ρ w a K' Q' (hr.recore (jv _ _) (wX _ H)) hF fun f2 ρ' H' a' w' h1 h2 h3 h4=>?_
 obtain⟨x,rfl,h5⟩:=h4
 have hFc:∀k∈foot cl,H'[k]?=(cO H (foot cl))[k]?:=fun k hk=>h5.qI k (by rw[jv]; exact hcl k hk) (by
   rw[NY]; exact fun h=>hpo k h hk)
 have Td:∀k∈foot (post x),k∉foot cl:=by
   intro k hk hkc
   rcases (h5.own k hk).1 with h|h
   · rw[NY]at h; exact hpo k h hkc
   · rw[jv]at h; have:=hcl k hkc; omega
 have hget:∀k,k<H.length->k∉foot pre->(mh H' (foot cl))[k]?=H[k]?:=by
   intro k hkl hkp
   by_cases hkc:k∈foot cl
   · exact ael hw hFc hkc
   · rw[xh _ _ hkc,h5.qI k (by rw[jv]; exact hkl) (by rw[NY]; exact hkp),xg _ _ hkc]
 refine hk _ ρ' (mh H' (foot cl)) a' w' h1 (h2.recore (tH _ _) (Fg _ H')) ((Step.recore (H:=H) (jv _ _) (wX _ H)).trans (h3.trans (Step.recore (tH _ _) (Fg _ H')))) ⟨x,rfl,?_⟩
 have hlen:H.length<=(mh H' (foot cl)).length:=by rw[tH]; have:=h5.len; rwa [jv]at this
 have m_:fP H (mh H' (foot cl)):=by
   intro k b hb hbw
   have hkc:k∉foot cl:=fun h=>by
     obtain⟨b',hb',hw'⟩:=hw k h
     rw[hb]at hb'
     injection hb' with hb'; injection hb' with hb'
     rw[hb',hw']at hbw; simp at hbw
   rw[xh _ _ hkc]
   exact h5.mg k b ((ve H (foot cl)) k b hb hbw) hbw
 refine⟨hlen,m_,fun k hkl hkn=>?_,fun d hd=>?_,?_,fun k hkk=>?_⟩
 · rw[hfo]at hkn
   simp only[aQZ,aS4]at hkn
   exact hget k hkl hkn.2
 · rcases List.mem_append.1 hd with hd|hd
   · exact d.keep (hcP d hd) m_ fun k hk=>hget k (hcl k (List.mem_flatMap.2 ⟨d,hd,hk⟩)) (fun h=>hpo k h (List.mem_flatMap.2 ⟨d,hd,hk⟩))
   · exact (hl x).keep h5.hold (fun k hk=>xh _ _ (Td k hk)) d hd
 · rw[hfo]
   exact List.nodup_append.2 ⟨n1,h5.nd,fun a ha b hb e=>Td b hb (e ▸ ha)⟩
 · rw[hfo]at hkk
   rw[hfo]
   rcases List.mem_append.1 hkk with h|h
   · exact⟨.inl (List.mem_append.2 (.inl h)),aQ2 (hcl k h) hlen⟩
   · refine⟨?_,by rw[tH]; exact (h5.own k h).2⟩
     rcases (h5.own k h).1 with g|g
     · rw[NY]at g; exact .inl (List.mem_append.2 (.inr g))
     · rw[jv]at g; exact .inr g
end
end Go.Fw
/-
 A new row, frozen in the same step.
-/
set_option maxRecDepth 100000
namespace Go.Fw
open Go
variable{P:Program} [bF P]{n:Nat}{f:Fr}{H:aB}{o:Oper}{K:Fr->aB->Prop}
theorem uJ.aop{vk:Nat->Value}{b:eO}(hn:uJ P n o f vk b)(h:K (put f o.dst (vk H.length)) (H++[some b])):AU P n o f H K:=by
 intro ρ w a K' Q' hr hf hk
 obtain⟨ho,hn⟩:=hn
 obtain⟨c,cs,cap,w',hrun,hh,h1,h2,h3,hval,he,hc,hl⟩:=hn ρ H w a hr hf
 show o.upon P a K' Q' _
 rw[hrun]
 obtain⟨es,ty,ow,g⟩:=b
 obtain rfl:ow=true:=ho
 have hrel:=hr.push (g:=g) hh rfl he hc hl
 have hst:=Step.push (b:=⟨es,ty,true,g⟩) (sz:=P.cellsOf ty) (cap:=cap) hr hh h1 h2 h3
 exact hk _ _ _ _ _ ((hf.up hst.up).put o.dst (hval _ _ (gX _ _ _))) hrel hst h
theorem ax6{vk:Nat->Value}{b:eO}{pre:List ay}(hw:b.wr=true)(hn:uJ P n o f vk b):XC P n o f pre vk (fun k=>fT k b::pre):=by
 intro H hc
 refine hn.aop ⟨H.length,rfl,?_⟩
 refine Ctx.step (pre:=[]) (post:=[fT H.length b]) (rest:=pre) hc (by simp) (qc.app _ _).mg (fun k hk _=>by rw[aQQ hk]) ?_ (by simp[fT]) (by simp[fT])
 intro c hcm
 simp at hcm
 subst hcm
 exact⟨hw,by simp⟩
theorem aeQ{α:Type}{R:aB->Value->α->Prop} [bz R]{E:TypeId}{k i m:Nat}:Conv [] [aI (ak E R) (.slice (some ⟨k,i,none⟩) 0 m) []]:=⟨fun H _ c hc=>by
 simp at hc; subst hc; exact .inr (.inr ⟨k,i,m,rfl,rfl⟩),by simp[aI]⟩
end Go.Fw
/-
 Library functions on our own rows of integers: what the shelf's contracts say, at the abstract heap.
-/
set_option linter.unusedVariables false
namespace Go.Fw
open Go Go.Sort
section
variable{P:Program} [bF P]{ρ:dI}{H:aB}{w:World}
theorem aD.grown{w':World}{os:Array Obj}(h:aD P ρ H w)(hw:w'.heap=w.heap++os):aD P ρ H w':=by
 have hs:∀b,b<w.heap.size->w'.heap[b]?=w.heap[b]?:=fun b hb=>by rw[hw,aSB hb]
 constructor
 · intro k L hk
   obtain⟨b,hb,hr⟩:=h.blk k L hk
   exact⟨b,hb,hr.of_same (Up.refl ρ) (hs _ (h.lt hk))⟩
 · exact h.alive
 · exact h.dom
 · exact h.inj
 · exact h.xU.keep (by rw[hw]; simp) (fun b hb _=>hs b hb) fun _ _ hk _=>.inl hk
theorem Step.grown{w':World}{os:Array Obj}(hw:w'.heap=w.heap++os)(h1:w'.os=w.os)(h2:w'.output=w.output)(h3:w'.tape=w.tape):Step ρ H w ρ H w' where
 up:=Up.refl ρ
 os:=h1
 output:=h2
 tape:=h3
 size:=by rw[hw]; simp
 frame b hb _:=by rw[hw,aSB hb]
 fresh _ _ h:=.inl h
 len:=aQT _
 hold k hk hn:=⟨hn,rfl⟩
theorem aD.row{k n:Nat}{L:Loc}{b:eO}{zs ys:List Int}{os:Array Obj}(h:aD P ρ H w)(hk:ρ k=some (some L))(hb:H[k]?=some (some b))(hown:b.own=true)(hsz:P.cellsOf b.ty=1)
   (hl:b.elems.length=zs.length) (hys:∀(i:Nat) y,ys[i]?=some y->zs[i]?=some y):
   aD P ρ (H.set k (some ⟨ys.map (Value.int .i64),b.ty,true,b.wr⟩)) (grow (putRow (Value.int .i64) (Sort.ahead w n) L.blk L.off zs.toArray) os)/\
   Step ρ H w ρ (H.set k (some ⟨ys.map (Value.int .i64),b.ty,true,b.wr⟩)) (grow (putRow (Value.int .i64) (Sort.ahead w n) L.blk L.off zs.toArray) os):=by
 obtain⟨b',hb',hbr⟩:=h.blk k L hk
 rw[hb]at hb'
 obtain rfl:b=b':=by simpa using hb'
 have ho:L.own=true:=by rw[←hbr.own]; exact hown
 have nG:L.sz=1:=by rw[←hbr.sz,hsz]
 obtain⟨cs,ct,fr,vP,hel,hr2⟩:=hbr.cells
 obtain⟨hoff,si,hlenL,hfr,rfl⟩:=hr2 ho
 have hlt:=h.lt hk
 have hyl:ys.length<=zs.length:=by
   rcases aQ7 zs.length ys.length with h'|h'
   · have:=hys zs.length ys[zs.length] (apA h')
     rw[aQR (aQT _)]at this; simp at this
   · exact h'
 have hzc:zs.length<=cs.size:=by rw[nG,aS2]at si; omega
 have hh1:(putRow (Value.int .i64) (Sort.ahead w n) L.blk L.off zs.toArray).heap=w.heap.setIfInBounds L.blk (.cells (putCells (Value.int .i64) L.off zs.toArray cs) b.ty fr):=by
   show w.heap.modify L.blk (onCells (putCells (Value.int .i64) L.off zs.toArray))=_
   apply aSK
   intro q
   rw[Array.getElem?_modify,Array.getElem?_setIfInBounds]
   by_cases e:L.blk=q
   · subst e
     rw[atV rfl,atV rfl,atV hlt,vP]; rfl
   · rw[aqA e,aqA e]
 have hsz':(putCells (Value.int .i64) L.off zs.toArray cs).size=cs.size:=by simp[putCells]
 have R1:aD P ρ (H.set k (some ⟨ys.map (Value.int .i64),b.ty,true,b.wr⟩)) (putRow (Value.int .i64) (Sort.ahead w n) L.blk L.off zs.toArray):=by
   refine h.write (b:=b) (b':=⟨ys.map (Value.int .i64),b.ty,true,b.wr⟩) hk ho hh1 rfl rfl hbr.sz ?_ ⟨hoff,by rw[hsz']; exact si,by simp only[aRB]; omega,by rw[hsz']; exact hfr⟩
   intro i e he
   rw[aSx]at he
   cases hy:ys[i]? with
   |none=>rw[hy]at he; simp at he
   |some y=>
     rw[hy]at he
     obtain rfl:Value.int .i64 y=e:=by simpa using he
     have hz:=hys i y hy
     obtain⟨hi,hz'⟩:=List.getElem?_eq_some_iff.1 hz
     refine⟨nG ▸ rfl,?_⟩
     rw[hoff,nG,aRf,aS2]
     have hc:(putCells (Value.int .i64) 0 zs.toArray cs).toList.drop i=Value.int .i64 y::(putCells (Value.int .i64) 0 zs.toArray cs).toList.drop (i+1):=by
       rw[aQV (by simp[putCells]; omega)]
       congr 1
       simp[putCells,hi,hz']
     rw[hc]
     exact .cons _ _ _ _ (.int _ _) .nil
 have S1:Step ρ H w ρ (H.set k (some ⟨ys.map (Value.int .i64),b.ty,true,b.wr⟩)) (putRow (Value.int .i64) (Sort.ahead w n) L.blk L.off zs.toArray):=
   Step.write hk ho hh1 rfl rfl rfl
 exact⟨R1.grown rfl,S1.trans (Step.grown rfl rfl rfl rfl)⟩
theorem aD.holds{k:Nat}{L:Loc}{b:eO}{zs:List Int}(h:aD P ρ H w)(hk:ρ k=some (some L))(hb:H[k]?=some (some b))(hown:b.own=true)(hsz:P.cellsOf b.ty=1)
   (he:b.elems=zs.map (Value.int .i64)):Holds (Value.int .i64) w L.blk L.off zs.toArray:=by
 obtain⟨b',hb',hbr⟩:=h.blk k L hk
 rw[hb]at hb'
 obtain rfl:b=b':=by simpa using hb'
 have ho:L.own=true:=by rw[←hbr.own]; exact hown
 have nG:L.sz=1:=by rw[←hbr.sz,hsz]
 obtain⟨cs,ct,fr,vP,hel,hr2⟩:=hbr.cells
 obtain⟨hoff,si,hlenL,hfr,rfl⟩:=hr2 ho
 rw[nG,aS2]at si
 rw[he,aRB]at hlenL
 intro j hj
 simp only[aRP]at hj
 have hjc:j<cs.size:=by omega
 rw[hoff,aRf]
 have:=(hel j (Value.int .i64 zs[j]) (by rw[he,aSx,apA hj]; rfl)).2
 rw[hoff,nG,aRf,aS2,aQV (by simpa using hjc)]at this
 have hv:cs[j]=Value.int .i64 zs[j]:=by
   obtain⟨c,h1,h2⟩:=this.get 0 _ rfl
   have h3:=h2.int_inv
   subst h3
   simpa using h1
 constructor
 · rw[Nv vP,aSH hjc,hv]
   simp[hj]
 · have:=hfr j (aSJ hjc)
   simp only[World.frozen?,vP]
   simpa using this
end
section
variable{P:Program} [bF P]{H:aB}{F0:List Nat}{E:TypeId}
theorem ZT{es:List Value}{xs:List Int}{G:List Nat}(h:cZ (az ax) H es xs G):es=xs.map (Value.int .i64)/\G=[]:=by
 induction h with
 |nil=>exact⟨rfl,rfl⟩
 |cons h _ ih=>exact⟨by rw[ih.1,h.2]; rfl,by rw[ih.2,h.1]; rfl⟩
theorem al8:∀(xs:List Int),cZ (az ax) H (xs.map (Value.int .i64)) xs []
 |[]=>.nil
 |x::xs=>by simpa using cZ.cons (Ro:=az ax) (F:=[]) ⟨rfl,rfl⟩ (al8 xs)
theorem Ctx.setrow{k m m':Nat}{b:eO}{xs ys:List Int}(dD:Ctx H F0 H [ah (aa E (az ax)) [k] (.slice (some ⟨k,0,none⟩) xs.length m) xs])(h3:H[k]?=some (some b))(h4:b.wr=true)(h6:b.ty=E)
   (hm:m'=1\/m'=2) (hb:ys.length<4611686018427387904):
   Ctx H F0 (H.set k (some ⟨ys.map (Value.int .i64),b.ty,true,b.wr⟩)) [ah (aa E (az ax)) [k] (.slice (some ⟨k,0,none⟩) ys.length m') ys]:=by
 have hne:∀q,q≠k->(H.set k (some ⟨ys.map (Value.int .i64),b.ty,true,b.wr⟩))[q]?=H[q]?:=fun q hq=>by rw[aQ8 (fun e=>hq e.symm)]
 have hkl:=qh h3
 refine⟨by simp,?_,fun q hq Ea=>hne q (fun e=>Ea ?_),?_,by simp[foot,ah],fun q hq=>?_⟩
 · intro q b2 hq hw2
   rw[hne q (fun e=>by subst e; rw[hq]at h3; injection h3 with h3; injection h3 with h3; rw[h3]at hw2; rw[hw2]at h4; simp at h4)]
   exact hq
 · subst e
   rcases (dD.own q (by simp[foot,ah])).1 with h|h
   · exact h
   · omega
 · intro c hcm
   simp at hcm; subst hcm
   exact .inr ⟨k,m',_,[],rfl,hm,aRo hkl,h4,rfl,h6,hb,rfl,al8 ys⟩
 · have hqk:q=k:=by simpa[foot,ah]using hq
   subst hqk
   exact⟨(dD.own q (by simp[foot,ah])).1,by simpa using hkl⟩
theorem alz{ρ:dI}{v:Value}{lI:Array Value}(h:bn ρ [v] lI.toList):∃c,lI= #[c]/\bW ρ v c:=by
 obtain⟨l⟩:=lI
 cases h with
 |cons _ c _ _ h t=>cases t; exact⟨c,rfl,h⟩
theorem awy{g:FuncId}{F:List Nat}{v:Value}{xs:List Int}(hty:TY P E 1 8 (.int .i64 0))
   (h1:∀(p:Option Addr) cap w,Calls P g #[.slice p 0 cap] w fun e w'=>e= .returned (.tuple #[])/\w'=w)
   (h2:∀blk off cap (zs:List Int) w,Holds (Value.int .i64) w blk off zs.toArray->blk<w.heap.size->zs.length<4611686018427387904->Calls P g #[.slice (some ⟨blk,off,none⟩) zs.length cap] w fun e w'=>
     e= .returned (.tuple #[])/\ ∃n os,w'=grow (putRow (Value.int .i64) (Sort.ahead w n) blk off (zs.mergeSort fun x y=>decide (x<=y)).toArray) os):
   Fw.Spec P g [v] [ah (aa E (az ax)) F v xs] (fun _:List Nat=>.tuple [].toArray) (fun p=>[ah (aa E (az ax)) p v (xs.mergeSort fun x y=>decide (x<=y))]):=by
 intro H F0 dD ρ w lI hr hargs
 obtain⟨c,rfl,hc⟩:=alz hargs
 have ho:aa E (az ax) F H v xs:=dD.hold _ (List.mem_singleton.2 rfl)
 rcases ho with⟨rfl,rfl,rfl⟩|⟨k,m,b,G,rfl,hm,h3,h4,h5,h6,h7,rfl,h9⟩
 · cases hc with
   |oF=>
     refine (h1 none 0 w).mono ?_
     rintro e w' ⟨rfl,rfl⟩
     exact⟨_,_,ρ,H,rfl,.tuple [] [] .nil,hr,Step.refl _ _ _,_,rfl,by simpa using dD⟩
 · obtain⟨-,rfl⟩:b.elems=xs.map (Value.int .i64)/\G=[]:=ZT h9
   have hel:=(ZT h9).1
   obtain⟨L,p,cap,hl,hbr,rfl,hcap,g1,g2,gp⟩:=hc.slice_inv hr h3
   rcases xs with _|⟨x,xs⟩
   · refine (h1 (some p) cap w).mono ?_
     rintro e w' ⟨rfl,rfl⟩
     exact⟨_,_,ρ,H,rfl,.tuple [] [] .nil,hr,Step.refl _ _ _,_,rfl,by simpa using dD⟩
   · have hp:=gp (by simp)
     rw[aR5,aRV]at hp
     subst hp
     have hcz:P.cellsOf b.ty=1:=by rw[h6]; exact hty.sz.cells
     refine (h2 L.blk L.off cap (x::xs) w (hr.holds hl h3 h5 hcz hel) (hr.lt hl) h7).mono ?_
     rintro e w' ⟨rfl,n,os,rfl⟩
     have hlen:((x::xs).mergeSort fun x y=>decide (x<=y)).length=(x::xs).length:=List.length_mergeSort _
     obtain⟨r1,r2⟩:=hr.row (n:=n) (os:=os) (zs:=(x::xs).mergeSort fun x y=>decide (x<=y)) (ys:=(x::xs).mergeSort fun x y=>decide (x<=y)) hl h3 h5 hcz (by rw[hel,aRB,hlen]) (fun _ _ h=>h)
     have:=Ctx.setrow (ys:=(x::xs).mergeSort fun x y=>decide (x<=y)) dD h3 h4 h6 hm (by rw[hlen]; exact h7)
     rw[hlen]at this
     exact⟨_,_,ρ,_,rfl,.tuple [] [] .nil,r1,r2,_,rfl,this⟩
theorem auw{g:FuncId}{F:List Nat}{v:Sv}{xs:List Int}{cm:List Int->List Int}(hty:TY P E 1 8 (.int .i64 0))(hle:∀zs,(cm zs).length<=zs.length)(hnil:cm []=[])
   (h1:∀(p:Option Addr) cap w,Calls P g #[.slice p 0 cap] w fun e w'=>e= .returned (.slice p 0 cap)/\w'=w)
   (h2:∀blk off cap (zs:List Int) w,Holds (Value.int .i64) w blk off zs.toArray->zs.length<=9223372036854775807->zs.length<=cap->Calls P g #[.slice (some ⟨blk,off,none⟩) zs.length cap] w fun e w'=>
     e= .returned (.slice (some ⟨blk,off,none⟩) (cm zs).length cap)/\ ∃q,w'=putRow (Value.int .i64) (Sort.ahead w q) blk off (cm zs++List.replicate (zs.length-(cm zs).length) 0).toArray):
   Fw.Spec P g [v.v] [ah (aa E (az ax)) F v.v xs] (fun p:Sv×List Nat=>p.1.v) (fun p=>[ah (aa E (az ax)) p.2 p.1.v (cm xs)]):=by
 intro H F0 dD ρ w lI hr hargs
 obtain⟨c,rfl,hc⟩:=alz hargs
 have ho:aa E (az ax) F H v.v xs:=dD.hold _ (List.mem_singleton.2 rfl)
 have ho':=ho
 rcases ho with⟨hv,rfl,rfl⟩|⟨k,m,b,G,hv,hm,h3,h4,h5,h6,h7,rfl,h9⟩
 · have hc':=hc
   rw[hv]at hc
   cases hc with
   |oF=>
     refine (h1 none 0 w).mono ?_
     rintro e w' ⟨rfl,rfl⟩
     exact⟨_,_,ρ,H,rfl,hc',hr,Step.refl _ _ _,(v,[]),rfl,by simpa[hnil]using dD⟩
 · obtain⟨-,rfl⟩:b.elems=xs.map (Value.int .i64)/\G=[]:=ZT h9
   have hel:=(ZT h9).1
   have hc':=hc
   rw[hv]at hc
   obtain⟨L,p,cap,hl,hbr,rfl,hcap,g1,g2,gp⟩:=hc.slice_inv hr h3
   rcases xs with _|⟨x,xs⟩
   · refine (h1 (some p) cap w).mono ?_
     rintro e w' ⟨rfl,rfl⟩
     exact⟨_,_,ρ,H,rfl,hc',hr,Step.refl _ _ _,(v,[k]),rfl,by simpa[hnil]using dD⟩
   · have hp:=gp (by simp)
     rw[aR5,aRV]at hp
     subst hp
     have hcz:P.cellsOf b.ty=1:=by rw[h6]; exact hty.sz.cells
     have hown:L.own=true:=by rw[←hbr.own]; exact h5
     refine (h2 L.blk L.off cap (x::xs) w (hr.holds hl h3 h5 hcz hel) (by omega) hcap).mono ?_
     rintro e w' ⟨rfl,n,rfl⟩
     have hlen:=hle (x::xs)
     obtain⟨r1,r2⟩:=hr.row (n:=n) (os:=#[]) (zs:=cm (x::xs)++List.replicate ((x::xs).length-(cm (x::xs)).length) 0) (ys:=cm (x::xs)) hl h3 h5 hcz (by rw[hel,aRB,aQW,aSU]; omega)
       (fun i y h=>by rw[aQQ (List.getElem?_eq_some_iff.1 h).1]; exact h)
     rw[grow_empty]at r1 r2
     have hcc:cap<=L.cap:=by
       rcases hm with rfl|rfl
       · have:=g1 rfl; omega
       · exact (g2 (aQT _)).2.2.1
     rw[hv]at dD
     have:=Ctx.setrow (ys:=cm (x::xs)) (m':=2) dD h3 h4 h6 (.inr rfl) (by omega)
     refine⟨_,.slice (some ⟨k,0,none⟩) (cm (x::xs)).length 2,ρ,_,rfl,.slice _ _ _ _ L _ cap hl (by omega) (by simp) (fun _=>⟨rfl,hown,hcc,rfl,by omega⟩) (fun _=>⟨by simp,fun _=>by omega⟩),r1,r2,(⟨some ⟨k,0,none⟩,(cm (x::xs)).length,2⟩,[k]),rfl,this⟩
end
theorem avL(zs:List Int):(Lib.compact zs).length<=zs.length:=by
 unfold Lib.compact Lib.compactUpTo
 rw[aRB]
 exact aQ6 (aRA _ _) (aRe List.length_range)
end Go.Fw
/-
 Whole structs are read out of shallow slices of our own.
-/
set_option linter.unusedVariables false
namespace Go.Fw
open Go
section
variable{P:Program} [bF P]{n:Nat}{f:Fr}{H0:aB}{F0:List Nat}{cs:List ay}{A:Array Oper}{r:List Oper}{K:Fr->List ay->Prop}{d:Option Tmp}{x:Operand}{T T' E:TypeId}{ps:String}{af:Array Edge}
variable{α ι:Type}{R:aB->Value->α->Prop}{xs:List α}{v:Value}
theorem azu [bz R]{F:List Nat}{k j s:Nat}{a:α}(ul:ι->List Value){cc cs':ι->List ay}(hA:AG P T true)(hs:SZ P T s)(h0:Nat.blt 0 s=true)(hx:EV n f x (.pointer (some ⟨k,j,some 0⟩)))(hm:Mem (ah (aa E (az R)) F v xs) cs)(hk:jD v=some k)(hj:xs[j]?=some a)
   (hop:∀H e,R H e a-> ∃i,0+s<=e.cells.size/\(e.cells.toList.drop 0).take s=ul i/\ ∀c∈cc i,c.P H/\c.F=[]) (ha:∀i,rF (cc i) cs (cs' i))
   (h:∀i,aR P n H0 F0 A r (put f d (.agg (ul i).toArray)) (cs' i) K):aR P n H0 F0 A (⟨d,.load T x,T',ps,af,none⟩::r) f cs K:=by
 intro H hc
 have ho:aa E (az R) F H v xs:=hc.mem hm
 obtain⟨-,m,b,G,rfl,-,h3,-,-,-,-,rfl,h9⟩:=ho.head hk
 obtain⟨e,F1,Fj,F2,g1,g2,g3,-⟩:=h9.at hj
 obtain⟨i,q1,q2,q3⟩:=hop H e g3.2
 refine vV (pO hA hs hx h3 g1 (by simpa[aRg]using h0) q1 q2) (h i H ?_)
 rw[(ha i).eq]
 have hb:∀(l:List ay),(∀c∈l,c.P H/\c.F=[])->Ctx H0 F0 H (l++cs):=by
   intro l
   induction l with
   |nil=>intro _; exact hc
   |cons c l ih=>intro hl; exact (ih fun d hd=>hl d (by simp[hd])).dup (hl c (by simp)).1 (hl c (by simp)).2
 exact hb _ q3
theorem ax7 [bz R]{F:List Nat}{k j s:Nat}{a:α}(ul:ι->List Value){c1:ι->ay}(hA:AG P T true)(hs:SZ P T s)(h0:Nat.blt 0 s=true)(hx:EV n f x (.pointer (some ⟨k,j,some 0⟩)))(hm:Mem (ah (aa E (az R)) F v xs) cs)(hk:jD v=some k)(hj:xs[j]?=some a)
   (hop:∀H e,R H e a-> ∃i,0+s<=e.cells.size/\(e.cells.toList.drop 0).take s=ul i/\ ∀c∈([c1 i]:List ay),c.P H/\c.F=[]) (h:∀i,aR P n H0 F0 A r (put f d (.agg (ul i).toArray)) (c1 i::cs) K):
   aR P n H0 F0 A (⟨d,.load T x,T',ps,af,none⟩::r) f cs K:=azu ul (cc:=fun i=>[c1 i]) hA hs h0 hx hm hk hj hop (fun _=>dS) h
end
end Go.Fw
/-
 slices.Insert at slices of our own: capacities, copy, overlaps, append of a make.
-/
set_option linter.unusedVariables false
namespace Go.Fw
open Go
def fA(s:Nat)(_:aB)(e q:Value):Prop:=e=q/\e.cells.size=s/\e.cells.toList.all scal=true
instance{s:Nat}:Pure (fA s):=⟨fun h=>h⟩
instance{s:Nat}:Cells (fA s) s:=⟨fun h=>h.2⟩
section
variable{H:aB}{s:Nat}
theorem Ti{es xs:List Value}{G:List Nat}(h:cZ (az (fA s)) H es xs G):es=xs/\G=[]/\ ∀e∈es,e.cells.size=s/\e.cells.toList.all scal=true:=by
 induction h with
 |nil=>exact⟨rfl,rfl,by simp⟩
 |cons h _ ih=>
   refine⟨by rw[ih.1,h.2.1],by rw[ih.2.1,h.1]; rfl,fun e he=>?_⟩
   rcases List.mem_cons.1 he with rfl|he
   · exact h.2.2
   · exact ih.2.2 e he
theorem aaf:∀{es:List Value},(∀e∈es,e.cells.size=s/\e.cells.toList.all scal=true)->cZ (az (fA s)) H es es []
 |[],_=>.nil
 |e::es,h=>by simpa using cZ.cons (Ro:=az (fA s)) (F:=[]) ⟨rfl,rfl,h e (by simp)⟩ (aaf fun x hx=>h x (by simp[hx]))
end
theorem kY.relabel{ρ:dI}{n t:Nat}{f:Fr}{a:Act}{v:Value}(h:kY ρ n f a)(hv:bW ρ v (a.tmps.getD t undef)):kY ρ n (upd f t v) a:=
 ⟨h.defers,h.size,fun u hu=>by
   by_cases e:u=t
   · subst e; rw[IL]; exact hv
   · rw[upd_ne _ _ e]; exact h.get u hu⟩
theorem avM{α:Type}(l:List α)(p t m:Nat)(vs:List α)(hp:p<=l.length)(h:t+m<=vs.length):((splice l p vs).drop (p+t)).take m=(vs.drop t).take m:=by
 have hl:(l.take p).length=p:=by simp; omega
 unfold splice
 rw[aQY,←aRR,aRz (by omega),aRj (l:=l.take p) (by omega),aRa,aRz (by omega),aRI (by simp; omega)]
section
variable{P:Program} [bF P]{ρ:dI}{H:aB}{w:World}
theorem aD.copyIn{k a s:Nat}{L:Loc}{b:eO}{S:List Value}{vs:List Value}(h:aD P ρ H w)(hk:ρ k=some (some L))(hb:H[k]?=some (some b))(hown:b.own=true)(hsz:P.cellsOf b.ty=s)
   (hS:∀e∈S,e.cells.size=s/\e.cells.toList.all scal=true) (hv:bn ρ (flat S) vs) (ha:a<=b.elems.length) (hcap:a+S.length<=L.cap):
   ∃w',(storeCells ⟨L.blk,L.off+a*s,none⟩ vs).run P w= .ok () w'/\
     aD P ρ (H.set k (some ⟨b.elems.take a++S++b.elems.drop (a+S.length),b.ty,true,b.wr⟩)) w'/\Step ρ H w ρ (H.set k (some ⟨b.elems.take a++S++b.elems.drop (a+S.length),b.ty,true,b.wr⟩)) w':=by
 obtain⟨b',hb',hbr⟩:=h.blk k L hk
 rw[hb]at hb'
 obtain rfl:b=b':=by simpa using hb'
 have ho:L.own=true:=by rw[←hbr.own]; exact hown
 have nG:L.sz=s:=by rw[←hbr.sz,hsz]
 obtain⟨cs,ct,fr,vP,hel,hr2⟩:=hbr.cells
 obtain⟨hoff,si,hlenL,hfr,rfl⟩:=hr2 ho
 have hvl:vs.length=S.length*s:=by rw[←hv.length,EQ S fun e he=>(hS e he).1]
 have hcs:(a+S.length)*s<=cs.size:=aQ6 (by rw[nG]; exact aQ4 _ hcap) si
 have hbd:a*s+vs.length<=cs.size:=by rw[hvl,←aRy]; exact hcs
 have Tw:∀c∈vs,scal c=true:=by
   intro c hc
   obtain⟨q,hq⟩:=List.mem_iff_getElem?.1 hc
   have Ka:q<(flat S).length:=by rw[hv.length]; exact (List.getElem?_eq_some_iff.1 hq).1
   obtain⟨c',hc',hrc⟩:=hv.get q _ (apA Ka)
   rw[hc']at hq
   obtain rfl:c'=c:=by simpa using hq
   rw[hrc.scal]
   have hm:=aSy Ka
   simp only[flat,List.mem_flatMap]at hm
   obtain⟨e,he,hx⟩:=hm
   exact List.all_eq_true.1 (hS e he).2 _ hx
 obtain⟨w',hrun,hw',w1,w2,w3⟩:=Ya P (b:=L.blk) (o:=L.off+a*s) vs 0 cs w vP (fun o h=>hfr o (aSJ h)) Tw (by rw[hoff]; omega)
 rw[hoff,aRf,aRV]at hw'
 have hsl:(splice cs.toList (a*s) vs).length=cs.size:=by rw[Hq _ _ _ (by simpa using hbd)]; simp
 refine⟨w',hrun,h.write (b':=⟨b.elems.take a++S++b.elems.drop (a+S.length),b.ty,true,b.wr⟩) hk ho hw' rfl rfl hbr.sz ?_ ⟨hoff,by simp only[aRP]; rw[hsl]; exact si,?_,by simp only[aRP]; rw[hsl]; exact hfr⟩,Step.write hk ho hw' w1 w2 w3⟩
 · intro q e he
   rw[hoff,nG,aRf]
   show e.cells.size=s/\bn ρ e.cells.toList (((splice cs.toList (a*s) vs).drop (q*s)).take s)
   have hta:(b.elems.take a).length=a:=by simp; omega
   have hold:b.elems[q]?=some e->(q<a\/a+S.length<=q)->e.cells.size=s/\bn ρ e.cells.toList (((splice cs.toList (a*s) vs).drop (q*s)).take s):=by
     intro h1 h2
     have:=hel q e h1
     rw[hoff,nG,aRf]at this
     refine⟨this.1,?_⟩
     rw[Zm _ _ _ _ _ (h2.imp (fun h=>by rw[←aRW]; exact aQ4 _ h) (fun h=>by rw[hvl,←aRy]; exact aQ4 _ h)) (by simpa using hbd)]
     exact this.2
   rcases aQ7 q a with h1|h1
   · refine hold ?_ (.inl h1)
     rw[aQY,aQQ (by omega),aRm h1]at he
     exact he
   rcases aQ7 q (a+S.length)with h2|h2
   · rw[aQQ (by simp; omega),aRq (by omega),hta]at he
     have:=bn.elems (ρ:=ρ) S vs [] hv (fun e he=>(hS e he).1) (q-a) e he
     rw[aQ_]at this
     refine⟨(hS e (aRh he)).1,?_⟩
     have hw:q*s=a*s+(q-a)*s:=by rw[←aRy]; congr 1; omega
     rw[hw,avM _ _ _ _ _ (by simp; omega) (by rw[hvl,←aRW]; exact aQ4 _ (by omega))]
     exact this
   · refine hold ?_ (.inr h2)
     rw[aRq (by simp; omega),aRE]at he
     simp only[aQW,hta]at he
     rwa [show a+S.length+(q-(a+S.length))=q by omega]at he
 · simp only[aQW,aRi,aRT]; omega
theorem aD.cellsOf{k i m s:Nat}{L:Loc}{b:eO}(h:aD P ρ H w)(hk:ρ k=some (some L))(hb:H[k]?=some (some b))(hsz:P.cellsOf b.ty=s)(hs0:0<s)(him:i+m<=b.elems.length):
   ∃cells:Array Value,(loadCells ⟨L.blk,L.off+i*L.sz,none⟩ (m*s)).run P w= .ok cells w/\bn ρ (flat ((b.elems.drop i).take m)) cells.toList:=by
 obtain⟨b',hb',hbr⟩:=h.blk k L hk
 rw[hb]at hb'
 obtain rfl:b=b':=by simpa using hb'
 have nG:L.sz=s:=by rw[←hbr.sz,hsz]
 obtain⟨cs,ct,fr,vP,hel,hr2⟩:=hbr.cells
 have hlen:((b.elems.drop i).take m).length=m:=by rw[aRi,aRT]; omega
 have hget:∀(q:Nat) e,((b.elems.drop i).take m)[q]?=some e->e.cells.size=s/\bn ρ e.cells.toList ((cs.toList.drop (L.off+i*L.sz+q*L.sz)).take L.sz):=by
   intro q e he
   have hq:q<m:=by
     rcases aQ7 q m with h|h
     · exact h
     · rw[aQR (by omega)]at he; simp at he
   rw[aRm hq,aRE]at he
   have:=hel (i+q) e he
   rw[aRy,←aSv]at this
   exact⟨this.1.trans nG,this.2⟩
 have hrel:bn ρ (flat ((b.elems.drop i).take m)) ((cs.toList.drop (L.off+i*L.sz)).take (m*L.sz)):=by
   have:=bn.window (ρ:=ρ) (cs:=cs.toList) (sz:=L.sz) ((b.elems.drop i).take m) (L.off+i*L.sz) (fun q e he=>⟨(hget q e he).2,(hget q e he).1.trans nG.symm⟩)
   rwa [hlen]at this
 by_cases hm:m=0
 · subst hm
   exact⟨#[],by simp[loadCells,loadCellsFrom],by simpa using hrel⟩
 · have hbd:L.off+i*L.sz+m*s<=cs.size:=by
     obtain⟨e,he⟩:∃e,((b.elems.drop i).take m)[m-1]?=some e:=⟨_,apA (by omega)⟩
     obtain⟨h1,h2⟩:=hget (m-1) e he
     have:=h2.length
     simp only[aR3,aRi,aRT]at this
     have h3:(m-1)*L.sz+L.sz=m*s:=by rw[nG]; rw[←aRW]; congr 1; omega
     omega
   refine⟨_,run_loadCells P vP (m*s) hbd,?_⟩
   rw[nG]at hrel ⊢
   simpa using hrel
end
section
variable{P:Program} [bF P]{n:Nat}{f:Fr}{H0:aB}{F0:List Nat}{cs:List ay}{A:Array Oper}{r:List Oper}{K:Fr->List ay->Prop}{d:Option Tmp}{x y z:Operand}{T T2 T' E:TypeId}{ts:List TypeId}{ps:String}{af:Array Edge}{gd:Option (Nat×Bool)}{s:Nat}{t:Tmp}{c1:Code}{Q:Exit->Fr->List ay->Prop}
theorem afA{α:Type}{Ro:b_ α} [bS Ro]{F:List Nat}{xs:List α}{v:Value}{k l m:Nat}(hv:f t= .slice (some ⟨k,0,none⟩) l m)(ht:Nat.blt t n=true)(hm:m=1\/m=2)(hl:l≠0)(hc:Mem (ah (aa E Ro) F v xs) cs)(hk:jD v=some k)
   (h:∀c,l<=c->CW P n H0 F0 c1 Q (upd f t (.slice (some ⟨k,0,none⟩) l (c+3))) cs):CW P n H0 F0 c1 Q f cs:=by
 intro H dD ρ w a hr hf
 have ho:aa E Ro F H v xs:=dD.mem hc
 obtain⟨-,m',b,G,hv',-,h3,-,h5,-⟩:=ho.head hk
 have hg:=hf.get t (by simpa[aRg]using ht)
 rw[hv]at hg
 obtain⟨L,p,cap,hl',hbr,hc',hcap,g1,g2,gp⟩:=hg.slice_inv hr h3
 obtain⟨L2,hl2,hx⟩:=hg.slice_ext hr h3 hl
 rw[hl']at hl2
 obtain rfl:L=L2:=by simpa using hl2
 have hown:L.own=true:=by rw[←hbr.own]; exact h5
 obtain⟨cs0,ct,fr,-,-,hr2⟩:=hbr.cells
 obtain⟨hoff,-⟩:=hr2 hown
 have qd:=gp hl
 rw[aR5,aRV]at qd
 have Om:cap<=L.cap:=by
   rcases hm with rfl|rfl
   · have:=g1 rfl; omega
   · exact (g2 (aQT _)).2.2.1
 refine h cap hcap H dD ρ w a hr (hf.relabel ?_)
 rw[hc']
 exact .slice k 0 l (cap+3) L p cap hl' hcap (by omega) (fun _=>⟨rfl,hown,Om,qd,fun _=>rfl⟩) (fun _=>⟨by rw[qd]; simp,hx⟩)
theorem aeo{k l c:Nat}(hv:f t= .slice (some ⟨k,0,none⟩) l (c+3))(ht:Nat.blt t n=true)(h:CW P n H0 F0 c1 Q (upd f t (.slice (some ⟨k,0,none⟩) l 2)) cs):CW P n H0 F0 c1 Q f cs:=by
 intro H dD ρ w a hr hf
 refine h H dD ρ w a hr (hf.relabel ?_)
 have hg:=hf.get t (by simpa[aRg]using ht)
 rw[hv]at hg
 generalize a.tmps.getD t undef=u at hg
 cases hg with
 |slice _ _ _ _ L p cap hl hc h1 h2 hp=>
   obtain⟨e1,e2,e3,e4,-⟩:=h2 (by omega)
   exact .slice _ _ _ _ L p cap hl hc (by simp) (fun _=>⟨e1,e2,e3,e4,by omega⟩) hp
 |ui _ _ _ _ p cap hl=>exact .ui _ _ _ _ p cap hl
theorem aB4{H:aB}{k l c:Nat}{b:eO}(hT:SL P T E)(hx:EV n f x (.slice (some ⟨k,0,none⟩) l (c+3)))(hk:H[k]?=some (some b)):
   fK P n ⟨d,.call ⟨.builtin .cap,[x].toArray,(T::ts).toArray⟩,T',ps,af,none⟩ f H (.int .i64 (c:Int)):=by
 intro ρ w a hr hf
 obtain⟨L,p,cap,hl',hbr,hc',hcap,g1,g2,gp⟩:=(hx.use hf).slice_inv hr hk
 have:=(g2 (by omega)).2.2.2.2 (by omega)
 obtain rfl:cap=c:=by omega
 have hu:P.underlying T=some (.slice E):=hT
 exact⟨.int .i64 cap,by simp[execOp,resolve,invoke,builtin,Builtin.cap_,hc',goInt,underlying,hu],.int _ _⟩
theorem avN{H:aB}{k l c:Nat}{b:eO}{kk:IntKind}{j:Nat}(hT:SL P T E)(hs:SZ P E s)(hx:EV n f x (.slice (some ⟨k,0,none⟩) l (c+3)))(hy:EV n f y (.int kk (j:Int)))(hk:H[k]?=some (some b))(hj:j<=c):
   fK P n ⟨d,.slice T x none (some y) none,T',ps,af,none⟩ f H (.slice (some ⟨k,0,none⟩) j (c+3)):=by
 intro ρ w a hr hf
 obtain⟨L,p,cap,hl,hb,hc,hcap,h1,h2,hp⟩:=(hx.use hf).slice_inv hr hk
 obtain⟨-,hown,Om,qd,h5⟩:=h2 (by omega)
 have:=h5 (by omega)
 obtain rfl:cap=c:=by omega
 have hyv:a.eval y= .int kk (j:Int):=(hy.use hf).int_inv
 have hu:P.underlying T=some (.slice E):=hT
 have he:P.elem T=E:=by simp[Program.elem,hu]
 have hu2:P.underlying T=some (.slice (P.elem T)):=by rw[he]; exact hu
 obtain⟨cs0,ct,fr,-,-,hr2⟩:=hb.cells
 obtain⟨hoff,-⟩:=hr2 hown
 refine⟨sliced (some p) 0 j cap s,?_,?_⟩
 · have hrun:=run_slice_h (P:=P) w T (some p) l cap hu2 kk (j:Int) (by omega) (by omega)
   rw[he,hs.run,Result.andThen]at hrun
   have h2':=run_sliceAt_slice (P:=P) w T (.slice (some p) l cap) none (some (.int kk (j:Int))) none hu2
   rw[aRc]at hrun
   simp[execOp,hc,hyv,h2',hrun]
 · have hq:sliced (some p) 0 j cap s= .slice (some p) j cap:=by
     unfold sliced
     by_cases e:cap=0
     · rw[atV (by omega)]; simp
     · rw[aqA (by omega)]
       simp[Addr.add]
   rw[hq]
   exact bW.slice k 0 _ (cap+3) L p _ hl hj (by omega) (fun _=>⟨rfl,hown,Om,qd,fun _=>rfl⟩) (fun _=>⟨by rw[qd]; simp,fun _=>by omega⟩)
end
section
variable{H:aB}{F0:List Nat}{E:TypeId}{s:Nat}
theorem Ctx.setw{rest:List ay}{k m':Nat}{b:eO}{u:Value}{es es':List Value}(dD:Ctx H F0 H (ah (aa E (az (fA s))) [k] u es::rest))(h3:H[k]?=some (some b))(h4:b.wr=true)(h6:b.ty=E)
   (hm:m'=1\/m'=2) (hb:es'.length<4611686018427387904) (hes:∀e∈es',e.cells.size=s/\e.cells.toList.all scal=true):
   Ctx H F0 (H.set k (some ⟨es',b.ty,true,b.wr⟩)) (ah (aa E (az (fA s))) [k] (.slice (some ⟨k,0,none⟩) es'.length m') es'::rest):=by
 have hne:∀q,q≠k->(H.set k (some ⟨es',b.ty,true,b.wr⟩))[q]?=H[q]?:=fun q hq=>by rw[aQ8 (fun e=>hq e.symm)]
 have hkl:=qh h3
 have hf1:foot (ah (aa E (az (fA s))) [k] u es::rest)=k::foot rest:=rfl
 have hf2:foot (ah (aa E (az (fA s))) [k] (.slice (some ⟨k,0,none⟩) es'.length m') es'::rest)=k::foot rest:=rfl
 have m_:fP H (H.set k (some ⟨es',b.ty,true,b.wr⟩)):=by
   intro q b2 hq hw2
   rw[hne q (fun e=>by subst e; rw[hq]at h3; injection h3 with h3; injection h3 with h3; rw[h3]at hw2; rw[hw2]at h4; simp at h4)]
   exact hq
 have hnd:=dD.nd
 rw[hf1]at hnd
 refine⟨by simp,m_,fun q hq Ea=>hne q (fun e=>Ea ?_),?_,by rw[hf2]; exact hnd,fun q hq=>?_⟩
 · subst e
   rcases (dD.own q (by rw[hf1]; simp)).1 with h|h
   · exact h
   · omega
 · intro c hcm
   rcases List.mem_cons.1 hcm with rfl|hcm2
   · exact .inr ⟨k,m',_,[],rfl,hm,aRo hkl,h4,rfl,h6,hb,rfl,aaf hes⟩
   · refine c.keep (dD.hold c (by simp[hcm2])) m_ fun q hq=>hne q (fun e=>?_)
     subst e
     exact (List.nodup_cons.1 hnd).1 (List.mem_flatMap.2 ⟨c,hcm2,hq⟩)
 · rw[hf2,←hf1]at hq
   have:=dD.own q hq
   exact⟨this.1,by simpa using this.2⟩
theorem amT{es S:List Value}{a:Nat}{p:Value->Prop}(h1:∀e∈es,p e)(h2:∀e∈S,p e):∀e∈es.take a++S++es.drop (a+S.length),p e:=by
 intro e he
 rw[aQZ,aQZ]at he
 rcases he with (h|h)|h
 · exact h1 e (aRY h)
 · exact h2 e h
 · exact h1 e (aSA h)
end
section
variable{P:Program} [bF P]{n:Nat}{f:Fr}{d:Option Tmp}{x y:Operand}{T T2 T' E:TypeId}{ts:List TypeId}{ps:String}{af:Array Edge}{gd:Option (Nat×Bool)}{s:Nat}
theorem akc{w:World}{a:Act}{k k2 ia ja ld ls m1 m2:Nat}{ρ:dI}{H:aB}{b b2:eO}(hT:SL P T E)(hs:SZ P E s)(hs0:0<s)(hr:aD P ρ H w)(hf:kY ρ n f a)(hx:EV n f x (.slice (some ⟨k,ia,none⟩) ld m1))(hy:EV n f y (.slice (some ⟨k2,ja,none⟩) ls m2))
   (h3:H[k]?=some (some b)) (h5:b.own=true) (h6:b.ty=E) (g3:H[k2]?=some (some b2)) (g6:b2.ty=E) (hld:ld≠0) (hls:ls≠0) (hj:ja+min ls ld<=b2.elems.length) (ha:ia<=b.elems.length)
   (hS:∀e∈b2.elems,e.cells.size=s/\e.cells.toList.all scal=true):
   ∃w',(execOp a.eval ⟨d,.call ⟨.builtin .copy,[x,y].toArray,(T::T2::ts).toArray⟩,T',ps,af,gd⟩).run P w= .ok (.value (.int .i64 ((min ls ld:Nat):Int))) w'/\
     aD P ρ (H.set k (some ⟨b.elems.take ia++(b2.elems.drop ja).take (min ls ld)++b.elems.drop (ia+((b2.elems.drop ja).take (min ls ld)).length),b.ty,true,b.wr⟩)) w'/\
     Step ρ H w ρ (H.set k (some ⟨b.elems.take ia++(b2.elems.drop ja).take (min ls ld)++b.elems.drop (ia+((b2.elems.drop ja).take (min ls ld)).length),b.ty,true,b.wr⟩)) w':=by
 obtain⟨L,p,cap,hl,hbr,hc,-,-,-,hp⟩:=(hx.use hf).slice_inv hr h3
 obtain⟨L',hl',pY⟩:=(hx.use hf).slice_ext hr h3 hld
 rw[hl]at hl'
 obtain rfl:L=L':=by simpa using hl'
 obtain⟨L2,p2,cap2,hl2,UT,hc2,-,-,-,hp2⟩:=(hy.use hf).slice_inv hr g3
 have hown:L.own=true:=by rw[←hbr.own]; exact h5
 have nG:L.sz=s:=by rw[←hbr.sz,h6,hs.cells]
 have apY:L2.sz=s:=by rw[←UT.sz,g6,hs.cells]
 obtain⟨cells,aB5,Jj⟩:=hr.cellsOf (i:=ja) (m:=min ls ld) hl2 g3 (by rw[g6,hs.cells]) hs0 hj
 have hlen:((b2.elems.drop ja).take (min ls ld)).length=min ls ld:=by rw[aRi,aRT]; omega
 obtain⟨w',aB6,r1,r2⟩:=hr.copyIn (a:=ia) (S:=(b2.elems.drop ja).take (min ls ld)) (vs:=cells.toList) hl h3 h5 (by rw[h6,hs.cells]) (fun e he=>hS e (aSA (aRY he))) Jj ha
   (by rw[hlen]; have:=pY hown; have:=Nat.min_le_right ls ld; omega)
 refine⟨w',?_,r1,r2⟩
 have hu:P.underlying T=some (.slice E):=hT
 have qd:=hp hld
 have abl:=hp2 hls
 rw[nG]at qd
 have azv:(Builtin.firstCells s (min ls ld) (.slice (some p2) ls cap2)).run P w= .ok cells w:=by rw[abl]; exact aB5
 have hmin:Nat.min ls ld=min ls ld:=rfl
 subst qd
 simp[execOp,resolve,invoke,builtin,Builtin.copy_,hc,hc2,underlying,hu,hs.run,Builtin.lenOf,hmin,azv,aB6,goInt]
theorem BU{F F2:List Nat}{u u2:Value}{es es2:List Value}{k k2 ia ja ld ls m1 m2:Nat}(hT:SL P T E)(hs:SZ P E s)(hs0:Nat.blt 0 s=true)(hk:jD u=some k)(hk2:jD u2=some k2)(hx:EV n f x (.slice (some ⟨k,ia,none⟩) ld m1))(hy:EV n f y (.slice (some ⟨k2,ja,none⟩) ls m2))
   (hld:ld≠0) (hls:ls≠0) (hj:ja+min ls ld<=es2.length) (ha:ia<=es.length) {es':List Value} (he:es'=es.take ia++(es2.drop ja).take (min ls ld)++es.drop (ia+min ls ld)) (hb:es'.length<4611686018427387904):
   XC P n ⟨d,.call ⟨.builtin .copy,[x,y].toArray,(T::T2::ts).toArray⟩,T',ps,af,gd⟩ f [ah (aa E (az (fA s))) F u es,ah (aa E (az (fA s))) F2 u2 es2] (fun _:Unit=>.int .i64 ((min ls ld:Nat):Int))
     (fun _=>[ah (aa E (az (fA s))) F (.slice (some ⟨k,0,none⟩) es'.length 2) es',ah (aa E (az (fA s))) F2 u2 es2]):=by
 intro H dD
 have ho:aa E (az (fA s)) F H u es:=dD.hold (ah (aa E (az (fA s))) F u es) (by simp)
 have ho2:aa E (az (fA s)) F2 H u2 es2:=dD.hold (ah (aa E (az (fA s))) F2 u2 es2) (by simp)
 obtain⟨-,m',b,G,-,-,h3,h4,h5,h6,-,rfl,h9⟩:=ho.head hk
 obtain⟨-,m2',b2,G2,-,-,g3,-,-,g6,-,rfl,g9⟩:=ho2.head hk2
 obtain⟨rfl,rfl,hes⟩:=Ti h9
 obtain⟨rfl,rfl,apZ⟩:=Ti g9
 intro ρ w a K' Q' hr hf hkk
 have hlen:((b2.elems.drop ja).take (min ls ld)).length=min ls ld:=by rw[aRi,aRT]; omega
 obtain⟨w',hex,r1,r2⟩:=akc (d:=d) (ts:=ts) (T':=T') (ps:=ps) (af:=af) (gd:=gd) (T2:=T2) hT hs (by simpa[aRg]using hs0) hr hf hx hy h3 h5 h6 g3 g6 hld hls hj ha apZ
 rw[hlen,←he]at r1 r2
 show Oper.upon P _ a K' Q' _
 rw[hex]
 refine hkk _ _ _ _ _ (hf.put d (.int _ _)) r1 r2 ⟨(),rfl,?_⟩
 refine dD.setw h3 h4 h6 (.inr rfl) hb ?_
 have:=amT (a:=ia) (p:=fun e=>e.cells.size=s/\e.cells.toList.all scal=true) hes (S:=(b2.elems.drop ja).take (min ls ld)) (fun e he=>apZ e (aSA (aRY he)))
 rw[hlen,←he]at this
 exact this
theorem aep{F:List Nat}{u:Value}{es:List Value}{k ia ja ld ls m1 m2:Nat}(hT:SL P T E)(hs:SZ P E s)(hs0:Nat.blt 0 s=true)(hk:jD u=some k)(hx:EV n f x (.slice (some ⟨k,ia,none⟩) ld m1))(hy:EV n f y (.slice (some ⟨k,ja,none⟩) ls m2))
   (hld:ld≠0) (hls:ls≠0) (hj:ja+min ls ld<=es.length) (ha:ia<=es.length) {es':List Value} (he:es'=es.take ia++(es.drop ja).take (min ls ld)++es.drop (ia+min ls ld)) (hb:es'.length<4611686018427387904):
   XC P n ⟨d,.call ⟨.builtin .copy,[x,y].toArray,(T::T2::ts).toArray⟩,T',ps,af,gd⟩ f [ah (aa E (az (fA s))) F u es] (fun _:Unit=>.int .i64 ((min ls ld:Nat):Int))
     (fun _=>[ah (aa E (az (fA s))) F (.slice (some ⟨k,0,none⟩) es'.length 2) es']):=by
 intro H dD
 have ho:aa E (az (fA s)) F H u es:=dD.hold (ah (aa E (az (fA s))) F u es) (by simp)
 obtain⟨-,m',b,G,-,-,h3,h4,h5,h6,-,rfl,h9⟩:=ho.head hk
 obtain⟨rfl,rfl,hes⟩:=Ti h9
 intro ρ w a K' Q' hr hf hkk
 have hlen:((b.elems.drop ja).take (min ls ld)).length=min ls ld:=by rw[aRi,aRT]; omega
 obtain⟨w',hex,r1,r2⟩:=akc (d:=d) (ts:=ts) (T':=T') (ps:=ps) (af:=af) (gd:=gd) (T2:=T2) hT hs (by simpa[aRg]using hs0) hr hf hx hy h3 h5 h6 h3 h6 hld hls hj ha hes
 rw[hlen,←he]at r1 r2
 show Oper.upon P _ a K' Q' _
 rw[hex]
 refine hkk _ _ _ _ _ (hf.put d (.int _ _)) r1 r2 ⟨(),rfl,?_⟩
 refine dD.setw h3 h4 h6 (.inr rfl) hb ?_
 have:=amT (a:=ia) (p:=fun e=>e.cells.size=s/\e.cells.toList.all scal=true) hes (S:=(b.elems.drop ja).take (min ls ld)) (fun e he=>hes e (aSA (aRY he)))
 rw[hlen,←he]at this
 exact this
end
section
variable{P:Program} [bF P]{n:Nat}{f:Fr}{d:Option Tmp}{x y:Operand}{T T2 T' E B:TypeId}{ts:List TypeId}{ps:String}{af:Array Edge}{gd:Option (Nat×Bool)}{s:Nat}
theorem adB{g:FuncId}{F F2:List Nat}{u u2:Value}{es es2:List Value}{k k2 ia ib la lb m1 m2:Nat}(hT:SL P T E)(hs:SZ P E s)(hs0:Nat.blt 0 s=true)
   (hov:∀args w,(callFunc g args).run P w=((Extern.SlicesOverlaps.overlaps #[T,T] #[B] args).run P w).andThen fun v w'=>.ok (.value v) w')
   (hk:jD u=some k) (hk2:jD u2=some k2) (hx:EV n f x (.slice (some ⟨k,ia,none⟩) la m1)) (hy:EV n f y (.slice (some ⟨k2,ib,none⟩) lb m2)) (hla:la≠0) (hlb:lb≠0):
   XC P n ⟨d,.call ⟨.value (.func g),[x,y].toArray,ts.toArray⟩,T',ps,af,gd⟩ f [ah (aa E (az (fA s))) F u es,ah (aa E (az (fA s))) F2 u2 es2] (fun _:Unit=>.bool false)
     (fun _=>[ah (aa E (az (fA s))) F u es,ah (aa E (az (fA s))) F2 u2 es2]):=by
 intro H dD
 have ho:aa E (az (fA s)) F H u es:=dD.hold (ah (aa E (az (fA s))) F u es) (by simp)
 have ho2:aa E (az (fA s)) F2 H u2 es2:=dD.hold (ah (aa E (az (fA s))) F2 u2 es2) (by simp)
 obtain⟨-,m',b,G,-,-,h3,h4,h5,h6,-,rfl,h9⟩:=ho.head hk
 obtain⟨-,m2',b2,G2,-,-,g3,-,g5,g6,-,rfl,g9⟩:=ho2.head hk2
 have aFm:k≠k2:=by
   intro e; subst e
   have:=dD.nd
   simp[foot,ah]at this
 intro ρ w a K' Q' hr hf hkk
 have abm:0<s:=by simpa[aRg]using hs0
 obtain⟨L,p,cap,hl,hbr,hc,-,-,-,hp⟩:=(hx.use hf).slice_inv hr h3
 obtain⟨La,ap0,pY⟩:=(hx.use hf).slice_ext hr h3 hla
 rw[hl]at ap0
 obtain rfl:L=La:=by simpa using ap0
 obtain⟨L2,p2,cap2,hl2,UT,hc2,-,-,-,hp2⟩:=(hy.use hf).slice_inv hr g3
 obtain⟨Lb,ap1,aB7⟩:=(hy.use hf).slice_ext hr g3 hlb
 rw[hl2]at ap1
 obtain rfl:L2=Lb:=by simpa using ap1
 have hown:L.own=true:=by rw[←hbr.own]; exact h5
 have hown2:L2.own=true:=by rw[←UT.own]; exact g5
 have nG:L.sz=s:=by rw[←hbr.sz,h6,hs.cells]
 have apY:L2.sz=s:=by rw[←UT.sz,g6,hs.cells]
 obtain⟨cs,ct,fr,vP,-,hr2⟩:=hbr.cells
 obtain⟨hoff,si,-,hfr,-⟩:=hr2 hown
 obtain⟨cs2,ct2,fr2,aFn,-,aFo⟩:=UT.cells
 obtain⟨aMG,azw,-,-,-⟩:=aFo hown2
 have qd:=hp hla
 have abl:=hp2 hlb
 have hne:L.blk≠L2.blk:=fun e=>aFm (hr.inj k k2 L L2 hl hl2 hown e)
 have e1:=pY hown
 have e2:=aB7 hown2
 have q1:(ia+la)*s<=cs.size:=aQ6 (by rw[nG]; exact aQ4 _ e1) si
 have q2:(ib+lb)*s<=cs2.size:=aQ6 (by rw[apY]; exact aQ4 _ e2) azw
 have q3:0<(ib+lb)*s:=Nat.mul_pos (by omega) abm
 have q4:ia*s<=(ia+la)*s:=aQ4 _ (by omega)
 have hfz:∀o,o<=cs.size->w.frozen? ⟨L.blk,o,none⟩=false:=fun o ho=>by
   have:=hfr o ho
   simp only[World.frozen?,vP]
   simpa using this
 have hrun:=Lib.run_overlaps_apart (P:=P) w T B E hT s (fun w=>hs.run w) p p2 la cap lb cap2 (by rw[qd,abl]; exact hne) ct ct2 cs.size cs2.size (by rw[qd]; simp[World.shape?,vP]) (by rw[abl]; simp[World.shape?,aFn]) (by omega)
   (by rw[qd]; exact hfz _ (by rw[hoff,nG]; omega)) (by rw[qd]; exact hfz _ (aQT _))
 have hex:(execOp a.eval ⟨d,.call ⟨.value (.func g),[x,y].toArray,ts.toArray⟩,T',ps,af,gd⟩).run P w= .ok (.value (.bool false)) w:=by
   have h1:=hov #[.slice (some p) la cap,.slice (some p2) lb cap2] w
   rw[hrun]at h1
   simp only[Result.andThen_ok]at h1
   have e0:a.eval (.func g)= .func (.func g) #[] #[]:=rfl
   simp[execOp,resolve,invoke,Deferred.ofValue,e0,hc,hc2,h1]
 show Oper.upon P _ a K' Q' _
 rw[hex]
 exact hkk _ _ _ _ _ (hf.put d (.bool _)) hr (Step.refl _ _ _) ⟨(),rfl,dD⟩
theorem as6(z:Array Value)(q:Nat):Builtin.zeroCells z q=madeCells z (q*z.size):=rfl
theorem ac7{F:List Nat}{u zv:Value}{es:List Value}{k i q c by':Nat}{kq kn:IntKind}(hT:SL P T E)(hTI:P.underlying T2=some (.int kn))(ht:TY P E s by' zv)(hs0:Nat.blt 0 s=true)(hzs:zv.cells.size=s)(hzl:zv.cells.toList.all scal=true)(hzc:um zv=true)(hby:Nat.ble by' 16384=true)
   (hk:jD u=some k) (hx:EV n f x (.slice (some ⟨k,0,none⟩) i (c+3))) (hy:EV n f y (.int kq (q:Int))) (hc:c<i+q) (hi:i<=es.length) (hq:0<q) (hb:i+q<4294967296):
   XC P n ⟨d,.call ⟨.builtin .append,[x,y].toArray,[T,T2].toArray⟩,T',ps,af,gd⟩ f [ah (aa E (az (fA s))) F u es] (fun k':Nat=>.slice (some ⟨k',0,none⟩) (i+q) 2)
     (fun k'=>[ah (aa E (az (fA s))) [k'] (.slice (some ⟨k',0,none⟩) (i+q) 2) (es.take i++List.replicate q zv),ah (aa E (az (fA s))) F u es]):=by
 intro H dD
 have abm:0<s:=by simpa[aRg]using hs0
 have JM:by'<=16384:=by simpa[aSV]using hby
 obtain⟨iE,xX,h1,h2,h3z⟩:=ht.inv
 have ho:aa E (az (fA s)) F H u es:=dD.hold (ah (aa E (az (fA s))) F u es) (by simp)
 obtain⟨-,m',b,G,hu',-,h3,h4,h5,h6,h7,rfl,h9⟩:=ho.head hk
 obtain⟨rfl,rfl,hes⟩:=Ti h9
 intro ρ w a K' Q' hr hf hkk
 obtain⟨L,p,cap,hl,hbr,hcx,hcap,g1,g2,gp⟩:=(hx.use hf).slice_inv hr h3
 obtain⟨-,hown,Om,qd,g5⟩:=g2 (by omega)
 have:=g5 (by omega)
 obtain rfl:cap=c:=by omega
 have hcy:a.eval y= .int kq (q:Int):=(hy.use hf).int_inv
 have hr1:aD P ρ H w.drew:=hr.of_heap rfl
 have hcz:P.cellsOf b.ty=s:=by rw[h6]; exact ht.sz.cells
 have nG:L.sz=s:=by rw[←hbr.sz,hcz]
 obtain⟨cells,hrun,hrel⟩:=hr1.cellsOf (i:=0) (m:=i) hl h3 hcz abm (by omega)
 rw[aRl,aR5,aRV]at*
 obtain⟨newCap,hnew,hnc⟩:∃nc,i+q<=nc/\grownCap w (i+q) cap E=nc:=⟨_,grownCap_ge w (i+q) cap E,rfl⟩
 have happ:=Lib.run_append_grow_zeros (P:=P) w T T2 T' E iE zv kq kn hT hTI xX h3z (some p) i cap cells.toList (by rw[qd,h1]; exact hrun) q hq (by omega) hc (by omega)
   (by rw[h2]; exact aQ6 (aSP (show q<=4294967296 by omega) JM) (by decide))
   (by rw[h2]; exact growslice_fits hc (aQ6 (aSP (show i+q<=4294967296 by omega) JM) (by decide)))
 rw[hnc]at happ
 have hex:(execOp a.eval ⟨d,.call ⟨.builtin .append,[x,y].toArray,[T,T2].toArray⟩,T',ps,af,gd⟩).run P w=
     .ok (.value (.slice (some ⟨w.heap.size,0,none⟩) (i+q) newCap)) (w.drew.alloc (.cells (cells++Builtin.zeroCells zv.cells q++Builtin.zeroCells zv.cells (newCap-(i+q))) E)):=by
   simp[execOp,resolve,invoke,builtin,hcx,hcy,happ]
 show Oper.upon P _ a K' Q' _
 rw[hex]
 have hcl:cells.toList.length=i*s:=by
   rw[←hrel.length,EQ (s:=s) _ (fun e he=>(hes e (aRY he)).1),aRi,aR9 hi]
 have hcsz:cells.size=i*s:=by simpa using hcl
 have hpush:=hr1.push (g:=true) (w':=w.drew.alloc (.cells (cells++Builtin.zeroCells zv.cells q++Builtin.zeroCells zv.cells (newCap-(i+q))) E)) (cs:=cells++Builtin.zeroCells zv.cells q++Builtin.zeroCells zv.cells (newCap-(i+q))) (ty:=E)
   (es:=b.elems.take i++List.replicate q zv) (sz:=s) (cap:=newCap) rfl ht.sz.cells
   (by
     intro j e he
     have htl:(b.elems.take i).length=i:=by simp; omega
     rcases aQ7 j i with hj|hj
     · rw[aQQ (by omega)]at he
       have:=bn.elems (ρ:=ρ) (b.elems.take i) cells.toList ((Builtin.zeroCells zv.cells q).toList++(Builtin.zeroCells zv.cells (newCap-(i+q))).toList) hrel (fun e he=>(hes e (aRY he)).1) j e he
       exact⟨(hes e (aRY (aRh he))).1,by simpa[aQY]using this⟩
     · rw[aRq (by omega),htl]at he
       have hjq:j-i<q:=by
         rcases aQ7 (j-i) q with h|h
         · exact h
         · rw[aQR (by simpa using h)]at he; simp at he
       obtain rfl:zv=e:=by rw[aSu,atV hjq]at he; simpa using he
       refine⟨hzs,?_⟩
       have hz:=ajD zv.cells q s (j-i) hzs hjq
       have hjs:j*s=i*s+(j-i)*s:=by rw[←aRy]; congr 1; omega
       have aMH:(Builtin.zeroCells zv.cells q).toList.length=q*s:=by rw[al6,hzs]
       have hjl:(j-i)*s+s<=q*s:=by rw[←aRW]; exact aQ4 _ hjq
       rw[Array.toList_append,Array.toList_append,aQY,hjs,←hcl,←aRR,aRz (aQT _),aSj,aRa,aRz (by omega),aRI (by rw[aRT]; omega),as6,hzs,hz]
       exact (bW.closed hzc).cells)
   (by
     rw[aSo,aSo,PI,PI,hcsz,hzs,←aRy,←aRy]
     exact aQ4 _ (by omega)) (by simp; omega)
 have xB:Step ρ H w ρ H w.drew:=⟨Up.refl ρ,rfl,rfl,rfl,aQT _,fun _ _ _=>rfl,fun _ _ h=>.inl h,aQT _,fun _ _ h=>⟨h,rfl⟩⟩
 have hsp:=Step.push (b:=⟨b.elems.take i++List.replicate q zv,E,true,true⟩) (sz:=s) (cap:=newCap) hr1 (w':=w.drew.alloc (.cells (cells++Builtin.zeroCells zv.cells q++Builtin.zeroCells zv.cells (newCap-(i+q))) E)) rfl rfl rfl rfl
 refine hkk _ _ _ _ _ ((hf.up hsp.up).put d (bW.slice H.length 0 _ 2 ⟨w.heap.size,0,s,newCap,true⟩ _ newCap (gX _ _ _) hnew (by simp) (fun _=>⟨rfl,rfl,aQT _,rfl,by omega⟩) (fun _=>⟨by simp,fun _=>aQ6 (aRe (aRf _)) hnew⟩))) hpush (xB.trans hsp) ⟨H.length,rfl,?_⟩
 have hkl:=qh h3
 have m_:fP H (H++[some ⟨b.elems.take i++List.replicate q zv,E,true,true⟩]):=SV _ _
 have hlen:(b.elems.take i++List.replicate q zv).length=i+q:=by simp; omega
 refine⟨by simp,m_,fun j hj _=>aQQ hj,?_,?_,?_⟩
 · intro c0 hcm
   rcases List.mem_cons.1 hcm with rfl|hcm2
   · refine .inr ⟨H.length,2,⟨b.elems.take i++List.replicate q zv,E,true,true⟩,[],by rw[hlen],.inr rfl,by simp,rfl,rfl,rfl,by omega,rfl,aaf fun e he=>?_⟩
     rcases List.mem_append.1 he with h|h
     · exact hes e (aRY h)
     · rw[(List.mem_replicate.1 h).2]; exact⟨hzs,hzl⟩
   · obtain rfl:=List.mem_singleton.1 hcm2
     exact ay.keep _ (dD.hold _ (by simp)) m_ fun j hj=>aQQ (dD.own j (by simpa[foot,ah]using hj)).2
 · simp[foot,ah]; omega
 · intro j hj
   simp only[foot,ah,av1,aRL,aQ_,aSt,aRa,aQ1,aRd,aRQ]at hj
   rcases hj with rfl|rfl
   · exact⟨.inr (aQT _),by simp⟩
   · exact⟨.inl (by simp[foot,ah]),by simp; omega⟩
end
section
variable{P:Program} [bF P]{n:Nat}{f:Fr}{d:Option Tmp}{x y:Operand}{T T2 T' E B:TypeId}{ts:List TypeId}{ps:String}{af:Array Edge}{gd:Option (Nat×Bool)}{s:Nat}{α:Type}{Ro:b_ α}{F:List Nat}{u:Value}{xs:List α}{H:aB}
theorem oC [bS Ro]{k m l j:Nat}{kk:IntKind}(hT:SL P T E)(hs:SZ P E s)(hp:(ah (aa E Ro) F u xs).P H)(hk:jD u=some k)(hx:EV n f x (.slice (some ⟨k,0,none⟩) l m))(hy:EV n f y (.int kk (j:Int)))(hj:j<=l):
   fK P n ⟨d,.slice T x (some y) none none,T',ps,af,none⟩ f H (.slice (some ⟨k,j,none⟩) (l-j) 0):=by
 have ho:aa E Ro F H u xs:=hp
 obtain⟨-,m',b,G,-,-,h3,-,-,h6,-⟩:=ho.head hk
 exact als hT hs hx hy h3 h6 (by omega) (by omega)
theorem aeR [bS Ro]{k l c:Nat}(hT:SL P T E)(hp:(ah (aa E Ro) F u xs).P H)(hk:jD u=some k)(hx:EV n f x (.slice (some ⟨k,0,none⟩) l (c+3))):
   fK P n ⟨d,.call ⟨.builtin .cap,[x].toArray,(T::ts).toArray⟩,T',ps,af,none⟩ f H (.int .i64 (c:Int)):=by
 have ho:aa E Ro F H u xs:=hp
 obtain⟨-,m',b,G,-,-,h3,-⟩:=ho.head hk
 exact aB4 hT hx h3
theorem LZ [bS Ro]{k l c j:Nat}{kk:IntKind}(hT:SL P T E)(hs:SZ P E s)(hp:(ah (aa E Ro) F u xs).P H)(hk:jD u=some k)(hx:EV n f x (.slice (some ⟨k,0,none⟩) l (c+3)))(hy:EV n f y (.int kk (j:Int)))(hj:j<=c):
   fK P n ⟨d,.slice T x none (some y) none,T',ps,af,none⟩ f H (.slice (some ⟨k,0,none⟩) j (c+3)):=by
 have ho:aa E Ro F H u xs:=hp
 obtain⟨-,m',b,G,-,-,h3,-⟩:=ho.head hk
 exact avN hT hs hx hy h3 hj
theorem adC{es:List Value}{j:Nat}{kk:IntKind}(hT:SL P T E)(hs:SZ P E s)(hx:EV n f x u)(hy:EV n f y (.int kk (j:Int)))(hj:j<=es.length):
   XC P n ⟨d,.slice T x (some y) none none,T',ps,af,none⟩ f [ah (aa E (az (fA s))) F u es] (fun w:Value=>w) (fun _=>[ah (aa E (az (fA s))) F u es]):=by
 intro H dD
 have ho:aa E (az (fA s)) F H u es:=dD.hold (ah (aa E (az (fA s))) F u es) (by simp)
 have ho':=ho
 rcases ho with⟨rfl,rfl,rfl⟩|⟨k,m,b,G,rfl,-⟩
 · refine Zy (v:=.slice none 0 0) (fun ρ w a hr hf=>?_) ⟨.slice none 0 0,rfl,dD⟩
   have hc:a.eval x= .slice none 0 0:=by have:=hx.use hf; generalize a.eval x=c at this; cases this; rfl
   have hyv:a.eval y= .int kk (j:Int):=(hy.use hf).int_inv
   have hj0:j=0:=by simpa using hj
   subst hj0
   have hu:P.underlying T=some (.slice E):=hT
   have he:P.elem T=E:=by simp[Program.elem,hu]
   have hu2:P.underlying T=some (.slice (P.elem T)):=by rw[he]; exact hu
   refine⟨.slice none 0 0,?_,.oF⟩
   have hrun:=run_slice_l (P:=P) w T none 0 0 hu2 kk 0 (by omega) (by omega)
   rw[he,hs.run,Result.andThen]at hrun
   have h2':=run_sliceAt_slice (P:=P) w T (.slice none 0 0) (some (.int kk 0)) none none hu2
   have aFp:a.eval y= .int kk 0:=hyv
   simp[execOp,hc,aFp,h2',hrun,sliced]
 · refine Zy (v:=.slice (some ⟨k,j,none⟩) (es.length-j) 0) (oC hT hs ho' rfl hx hy hj) ⟨_,rfl,dD⟩
end
end Go.Fw
namespace Go.Fw
section
variable{es:List Value}{e z:Value}{i:Nat}
theorem aeq(hi:i<=es.length):(es.take i++e::es.drop i).length=es.length+1:=by simp; omega
theorem aeS(hi:i<es.length):es.take i++e::List.replicate (es.length-i) z=(es.take i++List.replicate (es.length+1-i) z).take i++([e].drop 0).take (min 1 (es.length+1-i))++(es.take i++List.replicate (es.length+1-i) z).drop (i+min 1 (es.length+1-i)):=by
 have hl:(es.take i).length=i:=by simp; omega
 have hm:min 1 (es.length+1-i)=1:=by omega
 rw[hm,aRI (by omega),aRt (l:=es.take i) (by omega),←aRR,aRz (by omega),aRj (l:=es.take i) (by omega),aRa,List.drop_replicate,show es.length+1-i-1=es.length-i by omega]
 simp
theorem aeT(hi:i<es.length):es.take i++e::es.drop i=(es.take i++e::List.replicate (es.length-i) z).take (i+1)++(es.drop i).take (min (es.length-i) (es.length+1-(i+1)))++(es.take i++e::List.replicate (es.length-i) z).drop (i+1+min (es.length-i) (es.length+1-(i+1))):=by
 have hl:(es.take i).length=i:=by simp; omega
 have hm:min (es.length-i) (es.length+1-(i+1))=es.length-i:=by omega
 rw[hm,aRt (l:=es.drop i) (by simp),aRj (l:=es.take i++e::List.replicate (es.length-i) z) (by simp; omega),aQ_,List.take_append,hl,aRt (l:=es.take i) (by omega),show i+1-i=1 by omega]
 simp
theorem aeU(hi:i<es.length):es.take (i+1)++es.drop i=es.take (i+1)++(es.drop i).take (min (es.length+1-i) (es.length+1-(i+1)))++es.drop (i+1+min (es.length+1-i) (es.length+1-(i+1))):=by
 have hm:min (es.length+1-i) (es.length+1-(i+1))=es.length-i:=by omega
 rw[hm,aRt (l:=es.drop i) (by simp),aRj (l:=es) (i:=i+1+(es.length-i)) (by omega),aQ_]
theorem aeV(hi:i<es.length):es.take i++e::es.drop i=(es.take (i+1)++es.drop i).take i++([e].drop 0).take (min 1 (es.length+1-i))++(es.take (i+1)++es.drop i).drop (i+min 1 (es.length+1-i)):=by
 have hl:(es.take (i+1)).length=i+1:=by simp; omega
 have hm:min 1 (es.length+1-i)=1:=by omega
 rw[hm,aRI (by omega),aTm,aR9 (by omega),aRz (by omega),aRj (l:=es.take (i+1)) (by omega),aRa]
 simp
end
end Go.Fw
namespace Go.Fw
section
variable{P:Program} [bF P]{α:Type}{Ro:b_ α}{E:TypeId}{s:Nat}{H H':aB}{F:List Nat}{u:Value}{xs:List α}
theorem aa.rawD [kL Ro s](h:aa E Ro F H u xs):∃(es:List Value)(Fh G:List Nat),F=Fh++G/\aa E (az (fA s)) Fh H u es/\cZ Ro H es xs G:=by
 rcases h with⟨rfl,rfl,rfl⟩|⟨k,m,b,G,rfl,h2,h3,h4,h5,h6,h7,rfl,h9⟩
 · exact⟨[],[],[],rfl,.inl ⟨rfl,rfl,rfl⟩,.nil⟩
 · exact⟨b.elems,[k],G,rfl,.inr ⟨k,m,b,[],by rw[h9.length],h2,h3,h4,h5,h6,by rw[h9.length]; exact h7,rfl,aaf (h9.cells (s:=s))⟩,h9⟩
theorem aa.unrawD{es:List Value}{G:List Nat}(h:aa E (az (fA s)) F H u es)(hne:es≠[])(hE:cZ Ro H es xs G):aa E Ro (F++G) H u xs:=by
 have hl:=hE.length
 rcases h with⟨rfl,rfl,rfl⟩|⟨k,m,b,G0,rfl,h2,h3,h4,h5,h6,h7,rfl,h9⟩
 · exact absurd rfl hne
 · obtain⟨rfl,rfl,-⟩:=Ti h9
   exact .inr ⟨k,m,b,G,by rw[hl],h2,h3,h4,h5,h6,by rw[←hl]; exact h7,rfl,hE⟩
theorem cZ.cut{es:List Value}{G:List Nat}(h:cZ Ro H es xs G):∀i,∃Ga Gb,G=Ga++Gb/\cZ Ro H (es.take i) (xs.take i) Ga/\cZ Ro H (es.drop i) (xs.drop i) Gb:=by
 induction h with
 |nil=>intro i; exact⟨[],[],rfl,by simpa using cZ.nil,by simpa using cZ.nil⟩
 | @cons e es a xs F G h t ih=>
   intro i
   cases i with
   |zero=>exact⟨[],F++G,rfl,.nil,.cons h t⟩
   |succ i=>
     obtain⟨Ga,Gb,rfl,h1,h2⟩:=ih i
     exact⟨F++Ga,Gb,by rw[aQY],.cons h h1,h2⟩
theorem adO [bS Ro] [Local Ro] [kL Ro s]{g:FuncId}{v iv:Value}{F2:List Nat}{a:α}{i:Nat}
   (hraw:∀(es:List Value)(e:Value)(Fa Fb:List Nat),es.length=xs.length->Fw.Spec P g [v,iv,u] [ah (aa E (az (fA s))) Fa v es,ah (aa E (az (fA s))) Fb u [e]] (fun q:Sv×List Nat=>q.1.v) (fun q=>[ah (aa E (az (fA s))) q.2 q.1.v (es.take i++e::es.drop i)])):
   Fw.Spec P g [v,iv,u] [ah (aa E Ro) F v xs,ah (aa E Ro) F2 u [a]] (fun q:Sv×List Nat=>q.1.v) (fun q=>[ah (aa E Ro) q.2 q.1.v (xs.take i++a::xs.drop i)]):=by
 intro H F0 dD ρ w lI hr hargs
 have ho:aa E Ro F H v xs:=dD.hold (ah (aa E Ro) F v xs) (by simp)
 have ho2:aa E Ro F2 H u [a]:=dD.hold (ah (aa E Ro) F2 u [a]) (by simp)
 obtain⟨es,Fh,G,rfl,h1,h2⟩:=ho.rawD
 obtain⟨es2,vQ,G2,rfl,g1,g2⟩:=ho2.rawD
 have hl2:=g2.length
 obtain⟨e,rfl⟩:∃e,es2=[e]:=by
   rcases es2 with _|⟨e,_|⟨_,_⟩⟩
   · simp at hl2
   · exact⟨e,rfl⟩
   · simp at hl2
 have hfp:foot [ah (aa E Ro) (Fh++G) v xs,ah (aa E Ro) (vQ++G2) u [a]]=(Fh++G)++(vQ++G2):=by simp[foot,ah]
 have hnd:=dD.nd
 rw[hfp]at hnd
 have hown:∀q∈(Fh++G)++(vQ++G2),q∈F0/\q<H.length:=fun q hq=>by
   obtain⟨h1,h2⟩:=dD.own q (by rw[hfp]; exact hq)
   exact⟨h1.resolve_right (by omega),h2⟩
 obtain⟨n1,n2,n3⟩:=List.nodup_append.1 hnd
 obtain⟨n4,n5,n6⟩:=List.nodup_append.1 n1
 obtain⟨n7,n8,n9⟩:=List.nodup_append.1 n2
 have Au:∀k∈G++G2,k∉Fh++vQ:=by
   intro k hk hk2
   rcases List.mem_append.1 hk with hk|hk<;>rcases List.mem_append.1 hk2 with hk2|hk2
   · exact n6 k hk2 k hk rfl
   · exact n3 k (by simp[hk]) k (by simp[hk2]) rfl
   · exact n3 k (by simp[hk2]) k (by simp[hk]) rfl
   · exact n9 k hk2 k hk rfl
 have hin:∀k∈Fh++vQ,k∈(Fh++G)++(vQ++G2):=fun k hk=>by
   rcases List.mem_append.1 hk with hk|hk<;>simp[hk]
 have hin2:∀k∈G++G2,k∈(Fh++G)++(vQ++G2):=fun k hk=>by
   rcases List.mem_append.1 hk with hk|hk<;>simp[hk]
 have Ec:foot [ah (aa E (az (fA s))) Fh v es,ah (aa E (az (fA s))) vQ u [e]]=Fh++vQ:=by simp[foot,ah]
 have hc2:Ctx H (Fh++vQ) H [ah (aa E (az (fA s))) Fh v es,ah (aa E (az (fA s))) vQ u [e]]:=
   ⟨aQT _,fP.refl _,fun _ _ _=>rfl,fun c hc=>by
     rcases List.mem_cons.1 hc with rfl|hc
     · exact h1
     · obtain rfl:=List.mem_singleton.1 hc
       exact g1,by rw[Ec]; exact List.nodup_append.2 ⟨n4,n7,fun x hx y hy e=>n3 x (by simp[hx]) y (by simp[hy]) e⟩,fun q hq=>by
     rw[Ec]at hq
     exact⟨.inl hq,(hown q (hin q hq)).2⟩⟩
 refine (hraw es e Fh vQ h2.length H (Fh++vQ) hc2 ρ w lI hr hargs).mono ?_
 rintro en w' ⟨v0,r,ρ',H',rfl,q1,q2,q3,q,rfl,q4⟩
 have hsame:∀k∈G++G2,H'[k]?=H[k]?:=fun k hk=>q4.qI k (hown k (hin2 k hk)).2 (Au k hk)
 have e1:=h2.local (H':=H') (fun k hk=>hsame k (by simp[hk]))
 have e2:=g2.local (H':=H') (fun k hk=>hsame k (by simp[hk]))
 obtain⟨Ga,Gb,rfl,e3,e4⟩:=e1.cut i
 have aB8:aa E (az (fA s)) q.2 H' q.1.v (es.take i++e::es.drop i):=q4.hold (ah (aa E (az (fA s))) q.2 q.1.v (es.take i++e::es.drop i)) (by simp)
 have hfin:=aB8.unrawD (by simp) (e3.append (e2.append e4))
 have hq:∀k∈q.2,(k∈Fh++vQ\/H.length<=k)/\k<H'.length:=fun k hk=>q4.own k (by simpa[foot,ah]using hk)
 have hmem:∀k∈Ga++(G2++Gb),k∈(Ga++Gb)++G2:=fun k hk=>by
   simp only[aQZ]at hk ⊢
   rcases hk with hk|hk|hk<;>simp[hk]
 have aFq:((Ga++Gb)++G2).Nodup:=List.nodup_append.2 ⟨n5,n8,fun x hx y hy e=>n3 x (List.mem_append_right _ hx) y (List.mem_append_right _ hy) e⟩
 have hperm:(Ga++(G2++Gb)).Perm ((Ga++Gb)++G2):=by
   rw[aQY]
   exact (List.perm_append_comm).append_left Ga
 refine⟨v0,_,ρ',H',rfl,q1,q2,q3,(q.1,q.2++(Ga++(G2++Gb))),rfl,q4.len,q4.mg,fun k hk xY=>q4.qI k hk (fun h=>xY (hown k (hin k h)).1),fun c hc=>?_,?_,fun k hk=>?_⟩
 · obtain rfl:=List.mem_singleton.1 hc
   exact hfin
 · simp only[foot,ah,av1,aRL,aQ_]
   refine List.nodup_append.2 ⟨by have:=q4.nd; simpa[foot,ah]using this,hperm.nodup_iff.2 aFq,fun x hx y hy e=>?_⟩
   subst e
   have hy':=hmem x hy
   rcases (hq x hx).1 with h|h
   · exact Au x hy' h
   · have:=(hown x (hin2 x hy')).2; omega
 · simp only[foot,ah,av1,aRL,aQ_]at hk
   rcases List.mem_append.1 hk with hk|hk
   · exact⟨(hq k hk).1.imp (fun h=>(hown k (hin k h)).1) id,(hq k hk).2⟩
   · have:=hown k (hin2 k (hmem k hk))
     exact⟨.inl this.1,aQ2 this.2 q4.len⟩
end
end Go.Fw
namespace Go.Fw
section
variable{P:Program} [bF P]{n:Nat}{f:Fr}{d:Option Tmp}{x y:Operand}{T T2 T' E:TypeId}{ts:List TypeId}{ps:String}{af:Array Edge}{gd:Option (Nat×Bool)}{s:Nat}{H:aB}
theorem al9(hT:SL P T E)(hx:EV n f x (.slice none 0 0)):fK P n ⟨d,.call ⟨.builtin .cap,[x].toArray,(T::ts).toArray⟩,T',ps,af,none⟩ f H (.int .i64 0):=by
 intro ρ w a hr hf
 have hc:a.eval x= .slice none 0 0:=by have:=hx.use hf; generalize a.eval x=c at this; cases this; rfl
 have hu:P.underlying T=some (.slice E):=hT
 exact⟨.int .i64 0,by simp[execOp,resolve,invoke,builtin,Builtin.cap_,hc,goInt,underlying,hu],.int _ _⟩
theorem aux{kk:IntKind}(hT:SL P T E)(hs:SZ P E s)(hx:EV n f x (.slice none 0 0))(hy:EV n f y (.int kk 0)):fK P n ⟨d,.slice T x none (some y) none,T',ps,af,none⟩ f H (.slice none 0 0):=by
 intro ρ w a hr hf
 have hc:a.eval x= .slice none 0 0:=by have:=hx.use hf; generalize a.eval x=c at this; cases this; rfl
 have hyv:a.eval y= .int kk 0:=(hy.use hf).int_inv
 have hu:P.underlying T=some (.slice E):=hT
 have he:P.elem T=E:=by simp[Program.elem,hu]
 have hu2:P.underlying T=some (.slice (P.elem T)):=by rw[he]; exact hu
 refine⟨.slice none 0 0,?_,.oF⟩
 have hrun:=run_slice_h (P:=P) w T none 0 0 hu2 kk 0 (by omega) (by omega)
 rw[he,hs.run,Result.andThen]at hrun
 have h2':=run_sliceAt_slice (P:=P) w T (.slice none 0 0) none (some (.int kk 0)) none hu2
 simp[execOp,hc,hyv,h2',hrun,sliced]
theorem awz{α:Type}{Ro:b_ α} [bS Ro]{zv:Value}{q by':Nat}{kq kn:IntKind}(hT:SL P T E)(hTI:P.underlying T2=some (.int kn))(ht:TY P E s by' zv)(hs0:Nat.blt 0 s=true)(hzs:zv.cells.size=s)(hby:Nat.ble by' 16384=true)
   (hx:EV n f x (.slice none 0 0)) (hy:EV n f y (.int kq (q:Int))) (hq:0<q) (hb:q<4294967296):
   XC P n ⟨d,.call ⟨.builtin .append,[x,y].toArray,[T,T2].toArray⟩,T',ps,af,gd⟩ f [] (fun k':Nat=>.slice (some ⟨k',0,none⟩) q 2) (fun k'=>[ah (aa E Ro) [k'] (.slice (some ⟨k',0,none⟩) 0 2) []]):=by
 intro H dD
 have abm:0<s:=by simpa[aRg]using hs0
 have JM:by'<=16384:=by simpa[aSV]using hby
 obtain⟨iE,xX,h1,h2,h3z⟩:=ht.inv
 intro ρ w a K' Q' hr hf hkk
 have hcx:a.eval x= .slice none 0 0:=by have:=hx.use hf; generalize a.eval x=c at this; cases this; rfl
 have hcy:a.eval y= .int kq (q:Int):=(hy.use hf).int_inv
 have hr1:aD P ρ H w.drew:=hr.of_heap rfl
 obtain⟨newCap,hnew,hnc⟩:∃nc,0+q<=nc/\grownCap w (0+q) 0 E=nc:=⟨_,grownCap_ge w (0+q) 0 E,rfl⟩
 have happ:=Lib.run_append_grow_zeros (P:=P) w T T2 T' E iE zv kq kn hT hTI xX h3z none 0 0 [] (by simp[Builtin.firstCells]) q hq (by omega) (by omega) (by omega)
   (by rw[h2]; exact aQ6 (aSP (show q<=4294967296 by omega) JM) (by decide))
   (by rw[h2]; exact growslice_fits (by omega) (aQ6 (aSP (show 0+q<=4294967296 by omega) JM) (by decide)))
 rw[hnc]at happ
 simp only[aRf]at happ hnew
 have hex:(execOp a.eval ⟨d,.call ⟨.builtin .append,[x,y].toArray,[T,T2].toArray⟩,T',ps,af,gd⟩).run P w=
     .ok (.value (.slice (some ⟨w.heap.size,0,none⟩) q newCap)) (w.drew.alloc (.cells (#[]++Builtin.zeroCells zv.cells q++Builtin.zeroCells zv.cells (newCap-q)) E)):=by
   simp[execOp,resolve,invoke,builtin,hcx,hcy,happ]
 show Oper.upon P _ a K' Q' _
 rw[hex]
 have hpush:=hr1.push (g:=true) (w':=w.drew.alloc (.cells (#[]++Builtin.zeroCells zv.cells q++Builtin.zeroCells zv.cells (newCap-q)) E)) (cs:=#[]++Builtin.zeroCells zv.cells q++Builtin.zeroCells zv.cells (newCap-q)) (ty:=E)
   (es:=[]) (sz:=s) (cap:=newCap) rfl ht.sz.cells (by simp)
   (by
     rw[aSo,aSo,PI,PI,hzs,Array.size_empty,aRf,←aRy]
     exact aQ4 _ (by omega)) (by simp)
 have xB:Step ρ H w ρ H w.drew:=⟨Up.refl ρ,rfl,rfl,rfl,aQT _,fun _ _ _=>rfl,fun _ _ h=>.inl h,aQT _,fun _ _ h=>⟨h,rfl⟩⟩
 have hsp:=Step.push (b:=⟨[],E,true,true⟩) (sz:=s) (cap:=newCap) hr1 (w':=w.drew.alloc (.cells (#[]++Builtin.zeroCells zv.cells q++Builtin.zeroCells zv.cells (newCap-q)) E)) rfl rfl rfl rfl
 refine hkk _ _ _ _ _ ((hf.up hsp.up).put d (bW.slice H.length 0 _ 2 ⟨w.heap.size,0,s,newCap,true⟩ _ newCap (gX _ _ _) hnew (by simp) (fun _=>⟨rfl,rfl,aQT _,rfl,by omega⟩) (fun _=>⟨by simp,fun _=>aQ6 (aRe (aRf _)) hnew⟩))) hpush (xB.trans hsp) ⟨H.length,rfl,?_⟩
 refine⟨by simp,SV _ _,fun j hj _=>aQQ hj,fun c hc=>?_,by simp[foot,ah],fun j hj=>?_⟩
 · obtain rfl:=List.mem_singleton.1 hc
   exact .inr ⟨H.length,2,⟨[],E,true,true⟩,[],rfl,.inr rfl,by simp,rfl,rfl,rfl,by simp,rfl,.nil⟩
 · have:j=H.length:=by simpa[foot,ah]using hj
   subst this
   exact⟨.inr (aQT _),by simp⟩
end
end Go.Fw
namespace Go.Fw
section
variable{P:Program} [bF P]{n:Nat}{f:Fr}{H0:aB}{F0:List Nat}{cs:List ay}{A:Array Oper}{r:List Oper}{K:Fr->List ay->Prop}{d:Option Tmp}{x y:Operand}{T T' E:TypeId}{ps:String}{af:Array Edge}{α:Type}{Ro:b_ α}{xs:List α}
theorem avO [bS Ro]{F:List Nat}{k l m s:Nat}{kk:IntKind}{i:Int}{u:Value}(hT:SL P T E)(hs:SZ P E s)(hx:EV n f x (.slice (some ⟨k,0,none⟩) l m))(hmm:m=1\/m=2)(hy:EV n f y (.int kk i))(hm:Mem (ah (aa E Ro) F u xs) cs)(hk:jD u=some k)(h0:0<=i)(hi:i<=(l:Int))(hl:l≠0)
   (h:aR P n H0 F0 A r (put f d (.slice (some ⟨k,0,none⟩) i.toNat 2)) cs K):aR P n H0 F0 A (⟨d,.slice T x none (some y) none,T',ps,af,none⟩::r) f cs K:=
 gM hm (fun{H} ho=>by
   have ho:aa E Ro F H u xs:=ho
   obtain⟨-,m',b,G,rfl,-,h3,-,h5,-⟩:=ho.head hk
   exact alu hT hs hx hmm hy h3 h5 h0 hi hl) h
end
end Go.Fw
/-
 Fields of values, and slices of readable slices.
-/
set_option linter.unusedVariables false
namespace Go.Fw
open Go Go.RowKit
section
variable{P:Program} [bF P]{n:Nat}{f:Fr}{H:aB}{d:Option Tmp}{x y:Operand}{T T' E Tf:TypeId}{ps:String}{af:Array Edge}
theorem adD{l m s:Nat}{p:Option Addr}{kk:IntKind}{i:Int}(hT:SL P T E)(hs:SZ P E s)(hx:EV n f x (.slice p l m))(hy:EV n f y (.int kk i))(h0:0<=i)(hi:i<=(l:Int))(hd:l=0\/ ∃(k i0:Nat)(b:eO),p=some ⟨k,i0,none⟩/\H[k]?=some (some b)):
   fK P n ⟨d,.slice T x none (some y) none,T',ps,af,none⟩ f H (.slice p i.toNat 0):=by
 intro ρ w a hr hf
 have hyv:a.eval y= .int kk i:=(hy.use hf).int_inv
 have hu:P.underlying T=some (.slice E):=hT
 have he:P.elem T=E:=by simp[Program.elem,hu]
 have hu2:P.underlying T=some (.slice (P.elem T)):=by rw[he]; exact hu
 have key:∀(q:Option Addr)(cap:Nat),i<=(cap:Int)->a.eval x= .slice q l cap->(execOp a.eval ⟨d,.slice T x none (some y) none,T',ps,af,none⟩).run P w= .ok (.value (sliced q 0 i.toNat cap s)) w:=fun q cap hcap hc=>by
   have hrun:=run_slice_h (P:=P) w T q l cap hu2 kk i h0 (by omega)
   rw[he,hs.run,Result.andThen]at hrun
   have h2':=run_sliceAt_slice (P:=P) w T (.slice q l cap) none (some (.int kk i)) none hu2
   simp[execOp,hc,hyv,h2',hrun]
 have hq:∀(p:Addr)(cap:Nat),sliced (some p) 0 i.toNat cap s= .slice (some p) i.toNat cap:=fun p cap=>by
   unfold sliced
   simp[Addr.add]
 have hrx:=hx.use hf
 generalize hc:a.eval x=c at hrx
 cases hrx with
 |oF=>
   refine⟨_,key none 0 hi hc,?_⟩
   have:i.toNat=0:=by omega
   rw[this]
   simp[sliced]
   exact .oF
 |slice k i0 n m L p cap h hcp h1 h2 hp=>
   refine⟨_,key (some p) cap (by omega) hc,?_⟩
   rw[hq]
   exact bW.slice k i0 _ 0 L p _ h (by omega) (by simp) (by simp) (fun h'=>by
     obtain⟨a1,a2⟩:=hp (by omega)
     exact⟨a1,fun ho=>by have:=a2 ho; omega⟩)
 |ui k i0 n m p cap h=>
   rcases hd with rfl|⟨k',i1,b,e,hk⟩
   · refine⟨_,key (some p) cap (by omega) hc,?_⟩
     rw[hq]
     have:i.toNat=0:=by omega
     rw[this]
     exact bW.ui k i0 _ 0 p _ h
   · obtain⟨rfl,rfl⟩:k=k'/\i0=i1:=by simpa using e
     obtain⟨L,p',cap',hl',-⟩:=(hx.use hf).slice_inv hr hk
     rw[h]at hl'; simp at hl'
end
section
variable{P:Program} [bF P]{n:Nat}{f:Fr}{H0:aB}{F0:List Nat}{cs:List ay}{A:Array Oper}{r:List Oper}{K:Fr->List ay->Prop}{d:Option Tmp}{x y:Operand}{T T' E:TypeId}{ps:String}{af:Array Edge}{α:Type}{R:aB->Value->α->Prop}{xs:List α}{v:Value}
theorem avP [bz R]{s:Nat}{kk:IntKind}{i:Int}(hT:SL P T E)(hs:SZ P E s)(hx:EV n f x v)(hy:EV n f y (.int kk i))(hm:Mem (aI (ak E R) v xs) cs)(h0:0<=i)(hi:i<=(xs.length:Int))
   (h:∀w:Sv,aR P n H0 F0 A r (put f d w.v) (aI (ak E R) w.v (xs.take i.toNat)::cs) K):aR P n H0 F0 A (⟨d,.slice T x none (some y) none,T',ps,af,none⟩::r) f cs K:=by
 intro H hc
 have hr:ak E R H v xs:=hc.mem hm
 have hr':=hr
 rcases hr' with⟨rfl,rfl⟩|⟨k,i0,m,b,rfl,h1,h2,h3,h4,hL,h6⟩|⟨k,i0,m,rfl,rfl⟩
 · have:i.toNat=0:=by simp at hi; omega
   refine vV (adD hT hs hx hy h0 hi (.inl rfl)) (h ⟨none,i.toNat,0⟩ H (hc.dup (c:=aI (ak E R) (.slice none i.toNat 0) _) ?_ rfl))
   exact .inl ⟨by rw[this],by simp⟩
 · refine vV (adD hT hs hx hy h0 hi (.inr ⟨k,i0,b,rfl,h1⟩)) (h ⟨some ⟨k,i0,none⟩,i.toNat,0⟩ H (hc.dup (c:=aI (ak E R) (.slice (some ⟨k,i0,none⟩) i.toNat 0) _) ?_ rfl))
   have e:(xs.take i.toNat).length=i.toNat:=by rw[aRi]; omega
   exact .inr (.inl ⟨k,i0,0,b,by rw[e],h1,h2,h3,by omega,by omega,fun j a hj=>h6 j a (by
     rw[aSa]at hj
     split at hj
     · exact hj
     · simp at hj)⟩)
 · have:i.toNat=0:=by simp at hi; omega
   refine vV (adD hT hs hx hy h0 hi (.inl rfl)) (h ⟨some ⟨k,i0,none⟩,i.toNat,0⟩ H (hc.dup (c:=aI (ak E R) (.slice (some ⟨k,i0,none⟩) i.toNat 0) _) ?_ rfl))
   exact .inr (.inr ⟨k,i0,0,by rw[this],by simp⟩)
end
end Go.Fw
/-
 An own row of which it is known that, if it is empty, it is nil: so a comparison with nil tells whether it is empty.  No conditions.
-/
set_option linter.unusedVariables false
namespace Go.Fw
open Go
def pq{α:Type}(E:TypeId)(Ro:b_ α):b_ (List α):=fun F H v xs=>aa E Ro F H v xs/\(xs=[]->v= .slice none 0 0)
section
variable{α:Type}{E:TypeId}{Ro:b_ α}
instance [bS Ro]:bS (pq E Ro):=⟨fun h hi hk=>⟨bS.keep h.1 hi hk,h.2⟩⟩
instance [Local Ro]:Local (pq E Ro):=⟨fun h hk=>⟨Local.keep h.1 hk,h.2⟩⟩
instance [j4 Ro]:j4 (pq E Ro):=⟨fun h k hk=>j4.owns h.1 k hk⟩
instance:kL (pq E Ro) 1:=⟨fun h=>kL.cells h.1⟩
instance{R':aB->Value->α->Prop} [jS Ro R']:jS (pq E Ro) (ak E R'):=⟨fun h hm=>jS.cO h.1 hm⟩
theorem axb [bS Ro]:Conv [] [ah (pq E Ro) [] (.slice none 0 0) []]:=⟨fun H _ c hc=>by
 simp at hc; subst hc; exact⟨.inl ⟨rfl,rfl,rfl⟩,fun _=>rfl⟩,by simp[ah]⟩
theorem ax8 [bS Ro]{F:List Nat}{v:Value}{xs:List α}(h:xs≠[]):Conv [ah (aa E Ro) F v xs] [ah (pq E Ro) F v xs]:=⟨fun H hp c hc=>by
 have h0:=hp _ (List.mem_singleton.2 rfl)
 obtain rfl:=List.mem_singleton.1 hc
 exact⟨h0,fun e=>absurd e h⟩,by simp[foot,ah]⟩
theorem ax9 [bS Ro]{F:List Nat}{v:Value}{xs:List α}:Conv [ah (pq E Ro) F v xs] [ah (aa E Ro) F v xs]:=⟨fun H hp c hc=>by
 have h0:=hp _ (List.mem_singleton.2 rfl)
 obtain rfl:=List.mem_singleton.1 hc
 exact h0.1,by simp[foot,ah]⟩
theorem azx{u:Unit}{xs:List α}(h:j5 (!xs.isEmpty)=some u):xs≠[]:=by
 have:=tF h
 intro e
 subst e
 simp at this
variable{P:Program} [bF P]{n:Nat}{f:Fr}{H:aB}{d:Option Tmp}{T T' T'':TypeId}{ps:String}{af:Array Edge}{x:Operand}{gd:Option (Nat×Bool)}
theorem axc [bS Ro]{F:List Nat}{u:Value}{xs:List α}(hT:SL P T E)(hx:EV n f x u)(hp:(ah (pq E Ro) F u xs).P H):fK P n ⟨d,.binOp .eql T x (.const (.slice none 0 0)) T',T'',ps,af,gd⟩ f H (.bool xs.isEmpty):=by
 intro ρ w q hr hf
 have hu:P.underlying T=some (.slice E):=hT
 have hv:=hx.use hf
 obtain⟨a,m,rfl,ha⟩:=alr H hp.1
 have key:∃a' c,q.eval x= .slice a' xs.length c/\a'.isNone=a.isNone:=by
   generalize q.eval x=cv at hv
   generalize xs.length=ln at hv
   cases hv with
   |oF=>exact⟨none,0,rfl,rfl⟩
   |slice k i n m L p cap=>exact⟨some p,cap,rfl,rfl⟩
   |ui k i n m p cap=>exact⟨some p,cap,rfl,rfl⟩
 have hb:a.isNone=xs.isEmpty:=by
   rcases a with _|a
   · rw[ha rfl]; rfl
   · cases xs with
     |nil=>have:=hp.2 rfl; simp at this
     |cons z l=>rfl
 obtain⟨a',c,he,hi⟩:=key
 refine⟨.bool a'.isNone,?_,by rw[hi,hb]; exact .bool _⟩
 have hc:Act.eval q (.const (.slice none 0 0))= .slice none 0 0:=rfl
 simp[execOp,he,hc,eqGuard,Lib.run_eql_slice_nil w T E a' xs.length c 0 0 hu]
theorem axd [bS Ro]{F:List Nat}{u:Value}{xs:List α}(hT:SL P T E)(hx:EV n f x u)(hp:(ah (pq E Ro) F u xs).P H):fK P n ⟨d,.binOp .neq T x (.const (.slice none 0 0)) T',T'',ps,af,gd⟩ f H (.bool (!xs.isEmpty)):=by
 intro ρ w q hr hf
 have hu:P.underlying T=some (.slice E):=hT
 have hv:=hx.use hf
 obtain⟨a,m,rfl,ha⟩:=alr H hp.1
 have key:∃a' c,q.eval x= .slice a' xs.length c/\a'.isNone=a.isNone:=by
   generalize q.eval x=cv at hv
   generalize xs.length=ln at hv
   cases hv with
   |oF=>exact⟨none,0,rfl,rfl⟩
   |slice k i n m L p cap=>exact⟨some p,cap,rfl,rfl⟩
   |ui k i n m p cap=>exact⟨some p,cap,rfl,rfl⟩
 have hb:a.isNone=xs.isEmpty:=by
   rcases a with _|a
   · rw[ha rfl]; rfl
   · cases xs with
     |nil=>have:=hp.2 rfl; simp at this
     |cons z l=>rfl
 obtain⟨a',c,he,hi⟩:=key
 refine⟨.bool (!a'.isNone),?_,by rw[hi,hb]; exact .bool _⟩
 have hc:Act.eval q (.const (.slice none 0 0))= .slice none 0 0:=rfl
 simp[execOp,he,hc,eqGuard,run_neq_slice_nil_any w T E a' xs.length c 0 0 hu]
end
end Go.Fw
/-
 l[:j] of a slice of our own: the elements behind are given up, the room stays.  No conditions.
-/
set_option linter.unusedVariables false
namespace Go.Fw
open Go
section
variable{P:Program} [bF P]{n:Nat}{f:Fr}{d:Option Tmp}{x y:Operand}{T T' E:TypeId}{ps:String}{af:Array Edge}{gd:Option (Nat×Bool)}{α:Type}{R:aB->Value->α->Prop}{s:Nat}{v:Value}{xs:List α}
theorem aD.cut{ρ:dI}{H:aB}{w:World}{k m:Nat}{b:eO}(h:aD P ρ H w)(hb:H[k]?=some (some b)):aD P ρ (H.set k (some {b with elems:=b.elems.take m})) w:=by
 have hlt:k<H.length:=qh hb
 refine⟨fun j L hj=>?_,fun j c hc hj=>?_,fun j hj=>h.dom j (by simpa using hj),h.inj,h.xU⟩
 · obtain⟨c,hc,hr⟩:=h.blk j L hj
   by_cases e:k=j
   · subst e
     rw[hb]at hc
     obtain rfl:b=c:=by simpa using hc
     refine⟨_,aRo hlt,hr.own,hr.sz,?_⟩
     obtain⟨cs,ct,fr,h1,h2,h3⟩:=hr.cells
     refine⟨cs,ct,fr,h1,fun i e he=>h2 i e ?_,fun ho=>?_⟩
     · have he:(b.elems.take m)[i]?=some e:=he
       rw[aSa]at he
       split at he
       · exact he
       · simp at he
     · obtain⟨q1,q2,q3,q4,q5⟩:=h3 ho
       refine⟨q1,q2,aQ6 ?_ q3,q4,q5⟩
       show (b.elems.take m).length<=b.elems.length
       simp; omega
   · exact⟨c,by rw[aQ8 e]; exact hc,hr⟩
 · by_cases e:k=j
   · subst e; exact h.alive k b hb hj
   · rw[aQ8 e]at hc; exact h.alive j c hc hj
theorem Step.cut{ρ:dI}{H:aB}{w:World}{k:Nat}{b:Option eO}(hk:ρ k≠none):Step ρ H w ρ (H.set k b) w:=
 ⟨Up.refl ρ,rfl,rfl,rfl,aQT _,fun _ _ _=>rfl,fun _ _ h=>.inl h,by simp,fun j _ hn=>⟨hn,by
   rw[aQ8 (fun e=>hk (by rw[e]; exact hn))]⟩⟩
theorem cZ.take{H:aB}:∀{es:List Value}{xs:List α}{G:List Nat}(j:Nat),cZ (az R) H es xs G->cZ (az R) H (es.take j) (xs.take j) []
 |_,_,_,0,_=>by simpa using cZ.nil
 |_,_,_,j+1,.nil=>by simpa using cZ.nil
 |_,_,_,j+1,.cons h t=>by
   have:=cZ.cons (F:=[]) (G:=[]) ⟨rfl,h.2⟩ (cZ.take j t)
   simpa using this
theorem axe [bz R] [Cells R s]{F:List Nat}{kk:IntKind}{j:Int}(hT:SL P T E)(hs:SZ P E s)(hx:EV n f x v)(hy:EV n f y (.int kk j))(h0:0<=j)(hj:j.toNat<=xs.length)(hne:xs≠[]):
   XC P n ⟨d,.slice T x none (some y) none,T',ps,af,gd⟩ f [ah (aa E (az R)) F v xs] (fun p:Sv×List Nat=>p.1.v) (fun p=>[ah (aa E (az R)) p.2 p.1.v (xs.take j.toNat)]):=by
 intro H dD
 have ho:aa E (az R) F H v xs:=dD.hold (ah (aa E (az R)) F v xs) (by simp)
 rcases ho with⟨-,e,-⟩|⟨k,m,b,G,rfl,hm,h3,h4,h5,h6,h7,rfl,h9⟩
 · exact absurd e hne
 intro ρ w a K' Q' hr hf hkk
 have hn0:xs.length≠0:=fun e=>hne (List.length_eq_zero_iff.1 e)
 obtain⟨L,p,cap,hl,hbr,hc,hcap,g1,g2,g3⟩:=(hx.use hf).slice_inv hr h3
 have hyv:a.eval y= .int kk j:=(hy.use hf).int_inv
 have hu:P.underlying T=some (.slice E):=hT
 have he:P.elem T=E:=by simp[Program.elem,hu]
 have hu2:P.underlying T=some (.slice (P.elem T)):=by rw[he]; exact hu
 have hjl:j<=(cap:Int):=by omega
 have hLo:L.own=true:=by rw[←hbr.own,h5]
 obtain⟨cs,ct,fr,q1,q2,q3⟩:=hbr.cells
 obtain⟨hoff,-,-,-,-⟩:=q3 hLo
 have hp:p=⟨L.blk,L.off,none⟩:=by
   have:=g3 hn0
   simpa using this
 have si:cap<=L.cap:=by
   rcases hm with rfl|rfl
   · obtain⟨a1,a2⟩:=g1 rfl; omega
   · exact (g2 (aQT _)).2.2.1
 have hex:(execOp a.eval ⟨d,.slice T x none (some y) none,T',ps,af,gd⟩).run P w= .ok (.value (.slice (some p) j.toNat cap)) w:=by
   have hrun:=run_slice_h (P:=P) w T (some p) xs.length cap hu2 kk j h0 hjl
   rw[he,hs.run,Result.andThen]at hrun
   have h2':=run_sliceAt_slice (P:=P) w T (.slice (some p) xs.length cap) none (some (.int kk j)) none hu2
   have h3':sliced (some p) 0 j.toNat cap s= .slice (some p) j.toNat cap:=by
     unfold sliced
     by_cases e:cap=0
     · omega
     · simp[e,Addr.add]
   rw[h3']at hrun
   simp[execOp,hc,hyv,h2',hrun]
 show Oper.upon P _ a K' Q' _
 rw[hex]
 have hkn:ρ k≠none:=by rw[hl]; simp
 refine hkk _ _ _ _ _ (hf.put d (bW.slice k 0 j.toNat 2 L p cap hl (by omega) (by simp) (fun _=>⟨rfl,hLo,si,hp,by omega⟩) (fun _=>⟨by rw[hp]; simp,fun _=>by omega⟩))) (hr.cut (m:=j.toNat) h3) (Step.cut hkn) ⟨(⟨some ⟨k,0,none⟩,j.toNat,2⟩,[k]),rfl,?_⟩
 have hlt:k<H.length:=qh h3
 refine⟨by simp,?_,fun i hi hiF=>?_,?_,by simp[foot,ah],?_⟩
 · intro i c hi hcw
   have hne':k≠i:=fun e=>by
     subst e
     rw[h3]at hi
     injection hi with hi; injection hi with hi
     rw[hi]at h4; rw[h4]at hcw; simp at hcw
   rw[aQ8 hne']; exact hi
 · have hne':k≠i:=fun e=>hiF (by simp[foot,ah,e])
   rw[aQ8 hne']
 · intro q hq
   simp at hq; subst hq
   have hE:=cZ.take j.toNat h9
   refine .inr ⟨k,2,{b with elems:=b.elems.take j.toNat},[],?_,.inr rfl,aRo hlt,h4,h5,h6,?_,rfl,?_⟩
   · show Sv.v ⟨some ⟨k,0,none⟩,j.toNat,2⟩=_
     rw[aRi,aR9 hj]
   · simp; omega
   · refine hE.keep (fun i c hi hcw=>?_) (by simp)
     have hne':k≠i:=fun e=>by
       subst e
       rw[h3]at hi
       injection hi with hi; injection hi with hi
       rw[hi]at h4; rw[h4]at hcw; simp at hcw
     rw[aQ8 hne']; exact hi
 · intro i hi
   simp[foot,ah]at hi
   subst hi
   exact⟨.inl (by simp[foot,ah]),by simpa using hlt⟩
theorem axf [bz R] [Cells R s]{F:List Nat}{kk:IntKind}{j:Int}(hT:SL P T E)(hs:SZ P E s)(hx:EV n f x v)(hy:EV n f y (.int kk j))(h0:0<=j)(hj:j<(xs.length:Int)):
   XC P n ⟨d,.slice T x none (some y) none,T',ps,af,gd⟩ f [ah (aa E (az R)) F v xs] (fun p:Sv×List Nat=>p.1.v) (fun p=>[ah (aa E (az R)) p.2 p.1.v (xs.take j.toNat)]):=
 axe hT hs hx hy h0 (by omega) (fun e=>by rw[e]at hj; simp at hj; omega)
end
end Go.Fw
/-
 Flat rows of our own that are read for a while by several holders, and turn again when the call is over.  No conditions.
-/
set_option linter.unusedVariables false
namespace Go.Fw
open Go
def t_(Hn:aB):ay:=⟨[],fun H=>fP Hn H,fun h hi _=>h.trans hi⟩
section
variable{α:Type}{R:aB->Value->α->Prop}
def vM(Hn:aB)(E:TypeId)(R:aB->Value->α->Prop):b_ (List α):=fun F H v xs=>
 (v= .slice none 0 0/\xs=[]/\F=[])\/
 ∃k m b,v= .slice (some ⟨k,0,none⟩) xs.length m/\(m=1\/m=2)/\H[k]?=some (some b)/\b.wr=false/\b.own=true/\b.ty=E/\xs.length<4611686018427387904/\F=[k]/\cZ (az R) H b.elems xs []/\ ∀c,Hn[k]?=some (some c)->c.wr=true
instance{Hn:aB}{E:TypeId} [Pure R]:bS (vM Hn E R):=⟨fun h hi hk=>by
 rcases h with h|⟨k,m,b,h1,h2,h3,h4,h5,h6,h7,rfl,h9,h10⟩
 · exact .inl h
 · exact .inr ⟨k,m,b,h1,h2,(hk k (by simp)).trans h3,h4,h5,h6,h7,rfl,h9.keep hi (fun q hq=>by simp at hq),h10⟩⟩
theorem cZ.roN{H:aB}{es:List Value}{xs:List α}{G:List Nat}(h:cZ (az R) H es xs G):G=[]:=by
 induction h with
 |nil=>rfl
 |cons h _ ih=>rw[h.1,ih]; rfl
instance{Hn:aB}{E:TypeId}:kL (vM Hn E R) 1:=⟨fun h=>by
 rcases h with⟨rfl,-,-⟩|⟨k,m,b,rfl,-⟩
 · exact⟨rfl,rfl⟩
 · exact⟨rfl,rfl⟩⟩
class Ed(RF:aB->b_ α)(Ro:b_ α):Prop where
 mh:∀{Hn:aB}{F G:List Nat}{H:aB}{v:Value}{a:α},RF Hn F H v a->(∀k∈F,k∈G)->Ro F (Fw.mh H G) v a
 V5:∀{Hn:aB}{F:List Nat}{H:aB}{v:Value}{a:α},RF Hn F H v a-> ∀k∈F,∀c,Hn[k]?=some (some c)->c.wr=true
instance{E:TypeId} [Pure R]:Ed (fun Hn=>vM Hn E R) (aa E (az R)):=⟨fun{Hn F G H v a} h hG=>by
   rcases h with h|⟨k,m,b,h1,h2,h3,h4,h5,h6,h7,rfl,h9,h10⟩
   · exact .inl h
   · refine .inr ⟨k,m,{b with wr:=true},[],h1,h2,aeL G H b h3 (.inl (hG k (by simp))),rfl,h5,h6,h7,rfl,?_⟩
     exact h9.local (fun q hq=>by simp at hq),
 fun h k hk=>by
   rcases h with⟨-,-,rfl⟩|⟨k',m,b,h1,h2,h3,h4,h5,h6,h7,rfl,h9,h10⟩
   · simp at hk
   · obtain rfl:=List.mem_singleton.1 hk
     exact h10⟩
theorem cZ.mh{RF:aB->b_ α}{Ro:b_ α} [Ed RF Ro]{Hn H:aB}{G:List Nat}:∀{es:List Value}{xs:List α}{F:List Nat},cZ (RF Hn) H es xs F->(∀k∈F,k∈G)->cZ Ro (Fw.mh H G) es xs F
 |_,_,_,.nil,_=>.nil
 |_,_,_,.cons h t,hG=>.cons (Ed.mh h fun k hk=>hG k (by simp[hk])) (cZ.mh t fun k hk=>hG k (by simp[hk]))
theorem cZ.V5{RF:aB->b_ α}{Ro:b_ α} [Ed RF Ro]{Hn H:aB}:∀{es:List Value}{xs:List α}{F:List Nat},cZ (RF Hn) H es xs F-> ∀k∈F,∀c,Hn[k]?=some (some c)->c.wr=true
 |_,_,_,.nil,k,hk,_,_=>by simp at hk
 |_,_,_,.cons h t,k,hk,c,hc=>by
   rcases List.mem_append.1 hk with hk|hk
   · exact Ed.V5 (Ro:=Ro) h k hk c hc
   · exact cZ.V5 (Ro:=Ro) t k hk c hc
variable{P:Program} [bF P]{n:Nat}{f:Fr}{H0:aB}{F0:List Nat}{cs rest:List ay}{A:Array Oper}{l:List Oper}{K:Fr->List ay->Prop}{E:TypeId}{F:List Nat}{v:Value}{xs:List α}{Hn:aB}
theorem Ctx.tick [Pure R]{H:aB}(h:Ctx H0 F0 H cs)(hs:dU cs (ah (aa E (az R)) F v xs) rest)(hm:Mem (t_ Hn) rest):Ctx H0 F0 (Fw.cO H F) (ah (vM Hn E R) F v xs::aI (ak E R) v xs::rest):=by
 have h':=h.perm hs.perm
 have hp:aa E (az R) F H v xs:=h'.hold (ah (aa E (az R)) F v xs) (by simp)
 have hi:fP Hn H:=h'.hold (t_ Hn) (List.mem_cons_of_mem _ hm.mem)
 refine Ctx.step (pre:=[ah (aa E (az R)) F v xs]) (post:=[ah (vM Hn E R) F v xs,aI (ak E R) v xs]) h' (by rw[jv]; exact aQT _) (ve _ _) (fun k _ hk=>xg _ _ (by simpa[foot,ah]using hk)) ?_ (by have:=h'.nd; simp only[foot,av1]at this; simpa[foot,ah,aI]using (List.nodup_append.1 this).1) (fun k hk=>?_)
 · intro d hd
   rcases List.mem_cons.1 hd with rfl|hd
   · rcases hp with hp|⟨k,m,b,G,h1,h2,h3,h4,h5,h6,h7,rfl,h9⟩
     · exact .inl hp
     · obtain rfl:=h9.roN
       refine .inr ⟨k,m,{b with wr:=false},h1,h2,NC _ H b h3 (.inl (by simp)),rfl,h5,h6,h7,rfl,h9.local (fun q hq=>by simp at hq),fun c hc=>?_⟩
       cases hcw:c.wr with
       |true=>rfl
       |false=>
         have:=hi k c hc hcw
         rw[h3]at this
         injection this with this; injection this with this
         rw[this,hcw]at h4; cases h4
   · obtain rfl:=List.mem_singleton.1 hd
     exact jS.cO (R:=aa E (az R)) hp fun k hk=>hk
 · have hk':k∈F:=by simpa[foot,ah,aI]using hk
   refine⟨.inl (by simpa[foot,ah]using hk'),?_⟩
   rw[jv]
   exact (h'.own k (by simp[foot,ah,hk'])).2
theorem azy [Pure R](hs:dU cs (ah (aa E (az R)) F v xs) rest)(hm:Mem (t_ Hn) rest)(h:aR P n H0 F0 A l f (ah (vM Hn E R) F v xs::aI (ak E R) v xs::rest) K):aR P n H0 F0 A l f cs K:=
 fun H hc=>akx (jv _ _) (wX _ H) (h _ (hc.tick hs hm))
class Oq(Ro:b_ α)(RF:aB->b_ α):Prop where
 V6:∀{F G:List Nat}{H:aB}{v:Value}{a:α},Ro F H v a->(∀k∈F,k∈G)->RF H F (Fw.cO H G) v a
instance{E:TypeId} [Pure R]:Oq (aa E (az R)) (fun Hn=>vM Hn E R):=⟨fun{F G H v a} h hG=>by
 rcases h with h|⟨k,m,b,G',h1,h2,h3,h4,h5,h6,h7,rfl,h9⟩
 · exact .inl h
 · obtain rfl:=h9.roN
   refine .inr ⟨k,m,{b with wr:=false},h1,h2,NC _ H b h3 (.inl (hG k (by simp))),rfl,h5,h6,h7,rfl,h9.local (fun q hq=>by simp at hq),fun c hc=>?_⟩
   rw[h3]at hc
   injection hc with hc; injection hc with hc
   rw[←hc]; exact h4⟩
theorem cZ.V6{RF:aB->b_ α}{Ro:b_ α} [Oq Ro RF]{H:aB}{G:List Nat}:∀{es:List Value}{xs:List α}{F:List Nat},cZ Ro H es xs F->(∀k∈F,k∈G)->cZ (RF H) (Fw.cO H G) es xs F
 |_,_,_,.nil,_=>.nil
 |_,_,_,.cons h t,hG=>.cons (Oq.V6 h fun k hk=>hG k (by simp[hk])) (cZ.V6 t fun k hk=>hG k (by simp[hk]))
theorem awC{β ι:Type}{g:FuncId}{args:List Value}{pre agO:List ay}{val:ι->Value}{RF:aB->b_ β}{Ro:b_ β} [∀H,bS (RF H)] [bS Ro] [Ed RF Ro] [Oq Ro RF]{Fi:List Nat}{vi:Value}{zs:List β}{Fv:ι->List Nat}{vv:ι->Value}{ys:List β}{p0:aB->List ay}{pf:aB->ι->List ay}{post V7 rs1:ι->List ay}
   (h:∀Hn,Fw.Spec P g args (p0 Hn) val (pf Hn)) (hi:dU pre (ah (aa E Ro) Fi vi zs) agO) (hj:∀Hn,dU (p0 Hn) (ah (aa E (RF Hn)) Fi vi zs) (t_ Hn::agO)) (hs:∀Hn x,dU (pf Hn x) (ah (aa E (RF Hn)) (Fv x) (vv x) ys) (rs1 x)) (hu:∀x,(V7 x).Sublist (rs1 x)) (ht:∀x,dU (post x) (ah (aa E Ro) (Fv x) (vv x) ys) (V7 x)) (hl:∀x,qm (V7 x)):Fw.Spec P g args pre val post:=by
 intro H F0 hc ρ w lI hr hargs
 have hcp:=hc.perm hi.perm
 have F6:=hcp.nd
 simp only[foot,av1]at F6
 obtain⟨z1,z2,z3⟩:=List.nodup_append.1 F6
 have hown0:∀k∈Fi,k∈F0/\k<H.length:=fun k hk=>by
   obtain⟨a,b⟩:=hcp.own k (by simp[foot,ah,hk])
   exact⟨a.resolve_right (by omega),b⟩
 obtain⟨G,hG,hfr⟩:∃G:List Nat,(∀k∈G,k∈Fi)/\aa E (RF H) Fi (cO H G) vi zs:=by
   have ho:aa E Ro Fi H vi zs:=hcp.hold (ah (aa E Ro) Fi vi zs) (by simp)
   rcases ho with h|⟨k,m,b,G,h1,h2,h3,h4,h5,h6,h7,h8,h9⟩
   · exact⟨[],by simp,.inl h⟩
   · subst h8
     have hk:k∉G:=(List.nodup_cons.1 z1).1
     exact⟨G,fun q hq=>by simp[hq],.inr ⟨k,m,b,G,h1,h2,(xg _ _ hk).trans h3,h4,h5,h6,h7,rfl,h9.V6 fun q hq=>hq⟩⟩
 have hc1:Ctx (cO H G) F0 (cO H G) (p0 H):=by
   refine Ctx.perm (cs:=ah (aa E (RF H)) Fi vi zs::t_ H::agO) ⟨aQT _,fP.refl _,fun _ _ _=>rfl,fun d hd=>?_,?_,fun k hk=>?_⟩ (hj H).perm.symm
   · rcases List.mem_cons.1 hd with rfl|hd
     · exact hfr
     · rcases List.mem_cons.1 hd with rfl|hd
       · exact ve H G
       · exact d.keep (hcp.hold d (by simp[hd])) (ve _ _) fun k hk=>xg _ _ fun Oo=>z3 k (hG k Oo) k (List.mem_flatMap.2 ⟨d,hd,hk⟩) rfl
   · simpa[foot,ah,t_]using hcp.nd
   · rw[jv]
     exact hcp.own k (by simpa[foot,ah,t_]using hk)
 refine (h H (cO H G) F0 hc1 ρ w lI (hr.recore (jv _ _) (wX _ H)) hargs).mono ?_
 rintro en w' ⟨v0,r,ρ',H',rfl,q1,q2,q3,x,rfl,q4⟩
 have q5:=(q4.perm (hs H x).perm).sublist ((hu x).cons_cons (ah (aa E (RF H)) (Fv x) (vv x) ys))
 have ho:aa E (RF H) (Fv x) H' (vv x) ys:=q5.hold (ah (aa E (RF H)) (Fv x) (vv x) ys) (by simp)
 have hnd:=q5.nd
 simp only[foot,av1]at hnd
 obtain⟨n1,n2,n3⟩:=List.nodup_append.1 hnd
 have hown:∀k∈Fv x,(k∈F0\/H.length<=k)/\k<H'.length:=fun k hk=>by
   have:=q5.own k (by simp[foot,ah,hk])
   rwa [jv]at this
 have hout:∀k∈foot (V7 x),k∉Fv x:=fun k hk hkf=>n3 k hkf k hk rfl
 have aot:fP H H':=(ve H G).trans q4.mg
 have hkey:aa E Ro (Fv x) (mh H' (Fv x)) (vv x) ys/\ ∀k∈Fv x,∀c,H[k]?=some (some c)->c.wr=true:=by
   rcases ho with⟨h1,h2,h3⟩|⟨k,m,b,G,h1,h2,h3,h4,h5,h6,h7,h8,h9⟩
   · exact⟨.inl ⟨h1,h2,h3⟩,by rw[h3]; simp⟩
   · refine⟨.inr ⟨k,m,{b with wr:=true},G,h1,h2,aeL _ H' b h3 (.inl (by rw[h8]; simp)),rfl,h5,h6,h7,h8,h9.mh fun q hq=>by rw[h8]; simp[hq]⟩,fun q hq c hcq=>?_⟩
     rw[h8]at hq
     rcases List.mem_cons.1 hq with rfl|hq
     · cases hcw:c.wr with
       |true=>rfl
       |false=>
         have:=aot q c hcq hcw
         rw[h3]at this
         injection this with this; injection this with this
         rw[this,hcw]at h4; cases h4
     · exact h9.V5 (Ro:=Ro) q hq c hcq
 refine⟨v0,_,ρ',mh H' (Fv x),rfl,q1,q2.recore (tH _ _) (Fg _ H'),(Step.recore (H:=H) (jv _ _) (wX _ H)).trans (q3.trans (Step.recore (tH _ _) (Fg _ H'))),x,rfl,?_⟩
 refine Ctx.perm (cs:=ah (aa E Ro) (Fv x) (vv x) ys::V7 x) ⟨?_,?_,?_,?_,?_,?_⟩ (ht x).perm.symm
 · rw[tH]; have:=q4.len; rwa [jv]at this
 · intro k b hb hbw
   have hk:k∉Fv x:=fun hk=>by
     have:=hkey.2 k hk b hb
     rw[hbw]at this; cases this
   rw[xh _ _ hk]
   exact aot k b hb hbw
 · intro k hk hkn
   have hk2:k∉Fv x:=fun h=>by
     rcases (hown k h).1 with g|g
     · exact hkn g
     · omega
   have hk3:k∉G:=fun h=>hkn (hown0 k (hG k h)).1
   rw[xh _ _ hk2,q4.qI k (by rw[jv]; exact hk) hkn,xg _ _ hk3]
 · intro d hd
   rcases List.mem_cons.1 hd with rfl|hd
   · exact hkey.1
   · exact (hl x).keep (fun c hc=>q5.hold c (by simp[hc])) (fun k hk=>xh _ _ (hout k hk)) d hd
 · simpa[foot,ah]using q5.nd
 · intro k hk
   rw[tH]
   have:=q5.own k (by simpa[foot,ah]using hk)
   rwa [jv]at this
end
end Go.Fw
/-
 Own lists laid open: the list's block with the elements' values, and the elements, each with the blocks it owns. No conditions.
-/
set_option linter.unusedVariables false
namespace Go.Fw
open Go
def sj(s:Nat):aB->Value->Value->Prop:=fun _ e a=>e=a/\e.cells.size=s/\e.cells.toList.all scal=true
instance(s:Nat):Pure (sj s):=⟨fun h=>h⟩
instance(s:Nat):Cells (sj s) s:=⟨fun h=>h.2⟩
section
variable{α:Type}{Ro:b_ α}{H:aB}{E:TypeId}{s:Nat}
theorem al_:∀{es:List Value},(∀e∈es,e.cells.size=s/\e.cells.toList.all scal=true)->cZ (az (sj s)) H es es []
 |[],_=>.nil
 |e::es,h=>.cons (F:=[]) ⟨rfl,rfl,h e (by simp)⟩ (al_ fun x hx=>h x (by simp[hx]))
def JO(Ro:b_ α) [bS Ro](G:List Nat)(es:List Value)(xs:List α):ay:=⟨G,fun H=>cZ Ro H es xs G,fun h hi hk=>cZ.keep h hi hk⟩
instance [bS Ro] [Local Ro](G:List Nat)(es:List Value)(xs:List α):JK (JO Ro G es xs):=⟨fun h hk=>cZ.local h hk⟩
theorem Ctx.exch{H0:aB}{F0:List Nat}{cs pre post rest:List ay}(h:Ctx H0 F0 H cs)(hs:fq cs pre rest)(hh:(∀c∈pre,c.P H)-> ∀c∈post,c.P H)(hf:(foot post).Sublist (foot pre)):Ctx H0 F0 H (post++rest):=by
 have h':=h.take hs
 have hv1:=h'.view
 exact h'.step (aQT _) (fP.refl _) (fun _ _ _=>rfl) (hh hv1.hold) (hv1.nd.sublist hf) (fun k hk=>⟨.inl (hf.subset hk),(hv1.own k (hf.subset hk)).2⟩)
theorem axg [kL Ro s]{F:List Nat}{v:Value}{xs:List α}(h:aa E Ro F H v xs):∃es F' G,es.length=xs.length/\F=F'++G/\aa E (az (sj s)) F' H v es/\cZ Ro H es xs G:=by
 rcases h with⟨rfl,rfl,rfl⟩|⟨k,m,b,G,h1,h2,h3,h4,h5,h6,h7,rfl,h9⟩
 · exact⟨[],[],[],rfl,rfl,.inl ⟨rfl,rfl,rfl⟩,.nil⟩
 · have hl:=h9.length
   exact⟨b.elems,[k],G,hl,rfl,.inr ⟨k,m,b,[],by rw[h1,hl],h2,h3,h4,h5,h6,by omega,rfl,al_ (cZ.cells h9)⟩,h9⟩
theorem alA:∀{es:List Value}{xs:List α}{G:List Nat}{j:Nat}{a:α},cZ Ro H es xs G->xs[j]?=some a-> ∃e G1 F1 G2,es[j]?=some e/\G=G1++(F1++G2)/\cZ Ro H (es.take j) (xs.take j) G1/\Ro F1 H e a/\cZ Ro H (es.drop (j+1)) (xs.drop (j+1)) G2
 |_,_,_,j,a,.nil,hj=>by simp at hj
 |_,_,_,0,a,.cons (e:=e) (F:=F) (G:=G) h t,hj=>by
   obtain rfl:_=a:=by simpa using hj
   exact⟨e,[],F,G,rfl,rfl,.nil,h,by simpa using t⟩
 |_,_,_,j+1,a,.cons (e:=e) (F:=F) (G:=G) h t,hj=>by
   obtain⟨e',G1,F1,G2,h1,h2,h3,h4,h5⟩:=alA (j:=j) t (by simpa using hj)
   exact⟨e',F++G1,F1,G2,by simpa using h1,by rw[h2,aQY],by simpa using cZ.cons h h3,h4,by simpa using h5⟩
end
section
variable{P:Program} [bF P]{n:Nat}{H0:aB}{F0:List Nat}{Q:Exit->Fr->List ay->Prop}{f:Fr}{cs pre rest:List ay}{c1:Code}{A:Array Oper}{l:List Oper}{K:Fr->List ay->Prop}{α ι:Type}{Ro:b_ α}{E:TypeId}{s:Nat}
theorem aFr{p:ι->Prop}{post:ι->List ay}(hs:fq cs pre rest)(hx:∀H,(∀c∈pre,c.P H)-> ∃i,p i/\(∀c∈post i,c.P H)/\(foot (post i)).Sublist (foot pre))(h:∀i,p i->CW P n H0 F0 c1 Q f (post i++rest)):CW P n H0 F0 c1 Q f cs:=fun H hc=>by
 obtain⟨i,h1,h2,h3⟩:=hx H (hc.take hs).view.hold
 exact h i h1 H (hc.exch hs (fun _=>h2) h3)
theorem aFs{p:ι->Prop}{post:ι->List ay}(hs:fq cs pre rest)(hx:∀H,(∀c∈pre,c.P H)-> ∃i,p i/\(∀c∈post i,c.P H)/\(foot (post i)).Sublist (foot pre))(h:∀i,p i->aR P n H0 F0 A l f (post i++rest) K):aR P n H0 F0 A l f cs K:=fun H hc=>by
 obtain⟨i,h1,h2,h3⟩:=hx H (hc.take hs).view.hold
 exact h i h1 H (hc.exch hs (fun _=>h2) h3)
theorem azz [bS Ro] [kL Ro s]{F:List Nat}{v:Value}{xs:List α}:∀H,(∀c∈[ah (aa E Ro) F v xs],c.P H)-> ∃i:List Value×List Nat×List Nat,i.1.length=xs.length/\(∀c∈[ah (aa E (az (sj s))) i.2.1 v i.1,JO Ro i.2.2 i.1 xs],c.P H)/\(foot [ah (aa E (az (sj s))) i.2.1 v i.1,JO Ro i.2.2 i.1 xs]).Sublist (foot [ah (aa E Ro) F v xs]):=fun H h=>by
 obtain⟨es,F',G,h1,h2,h3,h4⟩:=axg (Ro:=Ro) (h (ah (aa E Ro) F v xs) (by simp))
 refine⟨(es,F',G),h1,fun c hc=>?_,by rw[h2]; simp[foot,ah,JO]⟩
 simp only[aQ1,aRd,aRQ]at hc
 rcases hc with rfl|rfl
 · exact h3
 · exact h4
end
end Go.Fw
/-
 Elements of an own list that are moved out one by one, in a range loop. The list's block is frozen and read by values; the elements stay our own. No conditions.
-/
set_option linter.unusedVariables false
namespace Go.Fw
open Go
section
variable{α ι:Type}{Ro:b_ α}{H:aB}{E:TypeId}{s:Nat}
structure Un(Ro:b_ α)(a:α)(val:ι->Value)(post:ι->List ay):Prop where
 un:∀F H e,Ro F H e a-> ∃i,e=val i/\(∀c∈post i,c.P H)/\foot (post i)=F
def uf(E:TypeId)(s:Nat)(Ro:b_ α) [bS Ro](G:List Nat)(v:Value)(es:List Value)(N k:Nat)(rest:List α):ay:=
 ⟨G,fun H=>ak E (sj s) H v es/\es.length=N/\cZ Ro H (es.drop k) rest G,fun h hi hk=>⟨bz.up h.1 hi,h.2.1,cZ.keep h.2.2 hi hk⟩⟩
theorem avQ [bS Ro]{G:List Nat}{v:Value}{es:List Value}{N k:Nat}{rest:List α}(H:aB)(h:(uf E s Ro G v es N k rest).P H):N<4611686018427387904:=by
 have h1:=ak.bound (R:=sj s) h.1
 rw[h.2.1]at h1; exact h1
theorem aB9 [bS Ro] [kL Ro s]{a:α}{G:List Nat}{v:Value}{es:List Value}{N k:Nat}{r:List α}{val:ι->Value}{post:ι->List ay}(hu:Un Ro a val post):
   ∀H,(∀c∈[uf E s Ro G v es N k (a::r)],c.P H)-> ∃i:ι×List Nat,es[k]?=some (val i.1)/\(∀c∈post i.1++[aI (ak E (sj s)) v es,uf E s Ro i.2 v es N (k+1) r],c.P H)/\
     (foot (post i.1++[aI (ak E (sj s)) v es,uf E s Ro i.2 v es N (k+1) r])).Sublist (foot [uf E s Ro G v es N k (a::r)]):=fun H h=>by
 obtain⟨h0,h1,h2⟩:=h (uf E s Ro G v es N k (a::r)) (by simp)
 obtain⟨e,G1,F1,G2,g1,g2,g3,g4,g5⟩:=alA (j:=0) (a:=a) h2 (by simp)
 have hG1:G1=[]:=by
   rw[List.take_zero,List.take_zero]at g3
   cases g3; rfl
 obtain⟨i,rfl,i2,i3⟩:=hu.un _ _ _ g4
 refine⟨(i,G2),by simpa[aRE]using g1,fun c hc=>?_,by rw[show ∀(a b:List ay),foot (a++b)=foot a++foot b from fun a b=>by simp[foot]]; rw[i3]; show (F1++foot [aI (ak E (sj s)) v es,uf E s Ro G2 v es N (k+1) r]).Sublist (foot [uf E s Ro G v es N k (a::r)]); simp[foot,aI,uf,g2,hG1]⟩
 rcases List.mem_append.1 hc with hc|hc
 · exact i2 c hc
 simp only[aQ1,aRd,aRQ]at hc
 rcases hc with rfl|rfl
 · exact h0
 · exact⟨h0,h1,by simpa[aRR,aSL]using g5⟩
theorem azA{es:List Value}{k:Nat}{e:Value}(h:es[k]?=some e):es[(k:Int).toNat]?=some e:=by simpa using h
end
section
variable{P:Program} [bF P]{n:Nat}{H0:aB}{F0:List Nat}{Q:Exit->Fr->List ay->Prop}{f:Fr}{cs pre rest:List ay}{c1:Code}{A:Array Oper}{l r:List Oper}{K:Fr->List ay->Prop}{α ι:Type}{Ro:b_ α}{E T T':TypeId}{s:Nat}{d:Option Tmp}{x:Operand}{ps:String}{af:Array Edge}
theorem aB_ [bS Ro] [kL Ro s]{F:List Nat}{v:Value}{xs:List α}(hs:dU cs (ah (aa E Ro) F v xs) rest)(h:∀(es:List Value)(G:List Nat),CW P n H0 F0 c1 Q f (uf E s Ro G v es xs.length 0 xs::rest)):CW P n H0 F0 c1 Q f cs:=by
 refine aFr (.cons hs .nil) (azz (s:=s)) (fun i hi=>?_)
 refine uq (c':=aI (ak E (sj s)) v i.1) .h aX ?_
 refine azd (pre:=[aI (ak E (sj s)) v i.1,JO Ro i.2.2 i.1 xs]) (post:=[uf E s Ro i.2.2 v i.1 xs.length 0 xs]) (.cons .h (.cons .h .nil)) ⟨fun H hp c hc=>?_,by simp[foot,aI,JO,uf]⟩ dS (h i.1 i.2.2)
 obtain rfl:=List.mem_singleton.1 hc
 exact⟨hp (aI (ak E (sj s)) v i.1) (by simp),hi,hp (JO Ro i.2.2 i.1 xs) (by simp)⟩
theorem ax_ [bS Ro] [kL Ro s]{a:α}{G:List Nat}{v:Value}{es:List Value}{N k:Nat}{r':List α}{val:ι->Value}{p1:ι->ay}(hu:Un Ro a val (fun i=>[p1 i]))(hs:dU cs (uf E s Ro G v es N k (a::r')) rest)
   (h:∀i G',es[k]?=some (val i)->aR P n H0 F0 A l f (p1 i::aI (ak E (sj s)) v es::uf E s Ro G' v es N (k+1) r'::rest) K):aR P n H0 F0 A l f cs K:=
 aFs (.cons hs .nil) (aB9 hu) (fun i hi=>h i.1 i.2 hi)
theorem azB{k j:Nat}{l:List Value}(hA:AG P T true)(hs:SZ P T s)(h0:Nat.blt 0 s=true)(hx:EV n f x (.pointer (some ⟨k,j,some 0⟩)))(hm:Mem (jM E (sj s) k j (.agg l.toArray)) cs)
   (h:aR P n H0 F0 A r (put f d (.agg l.toArray)) cs K):aR P n H0 F0 A (⟨d,.load T x,T',ps,af,none⟩::r) f cs K:=
 gM hm (fun{H} hp=>by
   obtain⟨b,e,h1,h2,h3,h4,h5,h6,h7⟩:=hp
   subst h5
   have h6:l.length=s:=by simpa[Value.cells]using h6
   exact pO hA hs hx h1 h4 (by simpa[aRg]using h0) (by simp[Value.cells,h6]) (by simp[Value.cells,←h6])) h
end
end Go.Fw
/-
 More plain laws about loops. No conditions.
-/
set_option linter.unusedVariables false
namespace Go.Fw
open Go
theorem aer{α β:Type}{P:α->Prop}{p:α->Bool}{g:α->β}{L:List α->Nat->List β->Option (List β)}(h0:∀k c,L [] k c=some c)
   (h1:∀x r k c,P x->c.length+1<4294967296->L (x::r) k c=L r (k+1) (if p x then c++[g x]else c)):
   ∀(l:List α)(k:Nat)(c:List β),(∀x∈l,P x)->c.length+l.length<4294967296->L l k c=some (c++(l.filter p).map g)
 |[],k,c,_,_=>by simp[h0]
 |x::r,k,c,hp,hl=>by
   simp only[agr]at hl
   rw[h1 x r k c (hp x (by simp)) (by omega),aer h0 h1 r (k+1) _ (fun y hy=>hp y (by simp[hy])) (by split<;>(try simp only[aQW,agr,aQ'])<;>omega),aRu]
   split<;>simp
theorem ama{α β γ:Type}{P:α->Prop}{p:α->Bool}{g:α->β}{L:List α->Nat->List β->Option γ}(K:List β->Option γ)(h0:∀k c,L [] k c=K c)
   (h1:∀x r k c,P x->c.length+1<4294967296->L (x::r) k c=L r (k+1) (if p x then c++[g x]else c)):
   ∀(l:List α)(k:Nat)(c:List β),(∀x∈l,P x)->c.length+l.length<4294967296->L l k c=K (c++(l.filter p).map g)
 |[],k,c,_,_=>by simp[h0]
 |x::r,k,c,hp,hl=>by
   simp only[agr]at hl
   rw[h1 x r k c (hp x (by simp)) (by omega),ama K h0 h1 r (k+1) _ (fun y hy=>hp y (by simp[hy])) (by split<;>(try simp only[aQW,agr,aQ'])<;>omega),aRu]
   split<;>simp
theorem Jl{α γ:Type}{P:α->Prop}{L:List α->Nat->List α->Option γ}(K:List α->Option γ)(h0:∀k c,L [] k c=K c)
   (h1:∀x r k c,P x->c.length+1<4294967296->L (x::r) k c=L r (k+1) (c++[x])) (l:List α) (h:aZ P l):L l 0 []=K l:=by
 have:=ama (p:=fun _=>true) (g:=fun x=>x) K h0 (fun x r k c hx hc=>by rw[h1 x r k c hx hc,atV rfl]) l 0 [] h.2 (by simpa using h.1)
 rw[this,List.filter_eq_self.2 (fun _ _=>rfl),List.map_id',aRa]
end Go.Fw
