/-
  A part of the proof.
-/
import Derived.Test.YthepmkjggfijoaaGreatDoorSA
import Derived.Maps.AppendAt
import Derived.Sort.OwnSortedInts
import Derived.Test.YthepmkjggfijoaaGreatDoorS03
import Derived.Test.YthepmkjggfijoaaGreatDoorS04
import Derived.Test.YthepmkjggfijoaaGreatDoorS22
import Derived.Test.YthepmkjggfijoaaGreatDoorS28
set_option linter.all false
set_option maxRecDepth 100000
set_option maxHeartbeats 4000000
open Go.Lib (hid)
namespace Go.Proofs.YthepmkjggfijoaaGreatDoor
open Go.RowKit Go.Shelf Mist
attribute [local go_sem] Oper.semAt_some
def sQ (l:List Nat):List Value:=l.map fun (k:Nat)=>Value.int .i64 (k:Int)
theorem MP (wb N nd:Nat)(P S:List Int)(tv iv:Value)(w:World)(hW:qW w wb tv iv N S P)(hP:xH P)(hN:P.length=N)(hN6:N≤100000)(hnd:nd < N) :
  Calls Tryz.prog 81 #[.pointer (some ⟨wb,0,none⟩),.int .i64 (nd:Int)] w fun e w'=>Below w.heap.size w w'∧∃ g c,e=.returned (.slice (some ⟨g,0,none⟩) (zJ P (N+1) (nd:Int)).length c)∧w.heap.size≤g∧∀ (j k:Nat),(zJ P (N+1) (nd:Int)).reverse[j]? = some k→w'.cell? ⟨g,j,none⟩=some (.int .i64 (k:Int)):=by
 obtain⟨sb,pb,h1,h2,h3,h4⟩:=hW.ex;obtain⟨i0,hi0,hz0,hz1,hz2⟩:=info_parts gN;refine (callsIn_wide (n:=3)).1 ?_;refine callsIn_of_wp_marks Tryz.func81 rfl trivial ?_ rfl;simp only [Tryz.ntmps81,List.size_toArray,List.length_cons,List.length_nil,Nat.reduceAdd,Nat.reduceSub,Array.replicate_succ,Array.replicate_zero,List.push_toArray,List.append_toArray,List.nil_append,List.cons_append]
 gi_wp2_with (refine⟨trivial,?_⟩;gi_at_call 120;refine (up_in Fence.wide _ trivial rfl _ _ _).mono ?_;rintro e w' ⟨rfl,rfl⟩)
 have bO:=((aC.new w 24 #[.slice none 0 0]).alloc (.cells #[.pointer (some ⟨wb,0,none⟩)] 71)).alloc (.cells #[.int .i64 (nd:Int)] 3);have b2:=(dL (W:=w.alloc (.cells #[.slice none 0 0] 24)) (T:=71) (cs:=#[.pointer (some ⟨wb,0,none⟩)]) (k:=w.heap.size+1) (by simp)).alloc (.cells #[.int .i64 (nd:Int)] 3);have b1:=dL (W:=(w.alloc (.cells #[.slice none 0 0] 24)).alloc (.cells #[.pointer (some ⟨wb,0,none⟩)] 71)) (T:=3) (cs:=#[.int .i64 (nd:Int)]) (k:=w.heap.size+1+1) (by simp);have hB0:Below w.heap.size w (((w.alloc (.cells #[.slice none 0 0] 24)).alloc (.cells #[.pointer (some ⟨wb,0,none⟩)] 71)).alloc (.cells #[.int .i64 (nd:Int)] 3)):=ah (ah (ah (Below.refl _ _) (aaJ _)) (by simp)) (by simp;omega);have hsz:(((w.alloc (.cells #[.slice none 0 0] 24)).alloc (.cells #[.pointer (some ⟨wb,0,none⟩)] 71)).alloc (.cells #[.int .i64 (nd:Int)] 3)).heap.size=w.heap.size+3:=by simp
 obtain⟨W0,hW0⟩:∃ W0,((w.alloc (.cells #[.slice none 0 0] 24)).alloc (.cells #[.pointer (some ⟨wb,0,none⟩)] 71)).alloc (.cells #[.int .i64 (nd:Int)] 3)=W0:=⟨_,rfl⟩;rw [hW0] at bO b1 b2 hB0 hsz ⊢
 clear hW0;have h1':=h1.below hB0 h1.lt;have h3':=h3.below hB0 h3.lt;have hl1:=h1.lt;have hl3:=h3.lt;have hKp:∀ {W W':World} {b:Nat} {T:TypeId} {cs:Array Value},(b=w.heap.size+1∨b=wb∨b=pb)→r_ w.heap.size W0.heap.size W W'→aC W b T cs→aC W' b T cs:=fun hb hk h=>(hk _ (by omega) (by omega)).trans h
 refine wpIn_rangeFunc_ownG rfl (by omega) (gf:=178) (lb:=#[.pointer (some ⟨w.heap.size+1+1,0,none⟩),.pointer (some ⟨w.heap.size+1,0,none⟩)]) rfl trivial (enters_of Tryz.func178 (by kernel_rfl) rfl)
  (up_stops Fence.wide _ trivial rfl (by omega) (w.heap.size+1+1) (w.heap.size+1) wb pb N P _ tv iv nd hP hN hN6 hnd (r_ w.heap.size W0.heap.size) hKp W0 b1 b2 h1' h3') R9 (R7 (aaJ _)) (Below.refl _ _) (fun _=>rfl)
  (fun pre W=>((∃ v,Boxed W w.heap.size 24 v∧W.ownsRow W0.heap.size 3 1 v pre.length (sQ pre)∧True)∧Boxed W (w.heap.size+1+1) 3 (.int .i64 (nd:Int)))∧Below w.heap.size w W)
  (fun _ _ _=>False)
  (OwnFrom.and (OwnFrom.and (Own.from (holdsRow_own W0.heap.size w.heap.size 24 3 1 (fun (pre:List Nat)=>pre.length) (fun pre=>sQ pre) (fun _ _=>True)) _) (Own.from (boxed_own _ _ _) _)) (ownFrom_below (aaJ _) (by omega)))
  (fun _ _ _ _ _ hs _ _=>hs)
  ⟨⟨⟨_,bO,World.ownsRow_nil _ _ _ _,trivial⟩,b1⟩,hB0⟩
  (fun x=>{ tmps:=#[.pointer (some ⟨wb,0,none⟩),.int .i64 (nd:Int),undef,undef,.slice none 0 0,.pointer (some ⟨w.heap.size,0,none⟩),.int .i64 (x:Int),.pointer (some ⟨wb,0,none⟩),.int .i64 (nd:Int),.func (.func 178) #[] #[.pointer (some ⟨w.heap.size+1+1,0,none⟩),.pointer (some ⟨w.heap.size+1,0,none⟩)],.int .i64 (x:Int),undef,undef,undef,undef,undef,undef,undef],defers:=[] })
  ?assign ?body ?done ?stop
 case assign =>
  intro l x W K hK
  dsimp only [encN]
  gi_wp2
  exact hK
 case body =>
  rintro l pre x W⟨⟨⟨v,hv,hrow,_⟩,hv2⟩,hB⟩ hlt;have hbl2:=hv2.lt;have hvc:=hv.cell;have hvf:=hv.frozen;have hbl:=hv.lt;obtain⟨Av,cv,rfl⟩:=dh hrow
  gi_wp2_with (gi_at_builtin
               refine wpListIn_append_own _ rfl _ _ 24 rfl W0.heap.size 3 i0 (.int .i64 0) 1 8 Tryz.underlying24 hi0 hz0 hz1 hz2 rfl (by decide) _ _ _ rfl (hrow.alloc _) ⟨W.heap.size,0,none⟩ 1 1 [.int .i64 (x:Int)] rfl rfl (cell_one_new _ _ _) (by simp [Value.oneCell']) (by simp only [maxLen];omega) (by omega) (by simp;omega) ?_;intro v' w1 hown' ZE _;have hgrow:(W.alloc (.cells #[.int .i64 (x:Int)] 3)).grownBy w1 (Value.slice Av pre.length cv).ownBlock:=ZE;clear ZE;obtain⟨g',cap',rfl⟩:=ownsRow_succ hown';have hv1:=(hv.alloc (.cells #[.int .i64 (x:Int)] 3)).kept hgrow (hv.not_row (by decide) hrow);have hc1:=hv1.cell;have hf1:=hv1.frozen)
  have hk:KeepsOthers W (w1.setCell ⟨w.heap.size,0,none⟩ (.slice (some ⟨g',0,none⟩) (pre.length+1) cap')):=by
   refine ((KeepsOthers.alloc W (.cells #[.int .i64 (x:Int)] 3)).trans (KeepsOthers.of_grownBy hgrow fun j o ej hj=>?_)).trans (KeepsOthers.setCell _ _ _);rcases (hrow.alloc (.cells #[.int .i64 (x:Int)] 3)).2 with ⟨hv0,_⟩ | ⟨g,cap,cur,hv0,_,hgb,_⟩
   ·rw [hv0] at ej;simp [Value.ownBlock] at ej
   ·rw [hv0] at ej
    obtain rfl:g=j:=by simpa [Value.ownBlock] using ej
    rw [hgb] at hj;cases hj;rfl
  have hkb:r_ w.heap.size W0.heap.size W (w1.setCell ⟨w.heap.size,0,none⟩ (.slice (some ⟨g',0,none⟩) (pre.length+1) cap')):=fun b hb hne =>
   (Below.heap_setCell w1 ⟨w.heap.size,0,none⟩ _ b hne).trans ((hgrow.block b (by simp;omega) (fun e=>by have:=(hrow.lt b e.symm).1;omega)).trans (Below.heap_alloc W _ b (by omega)))
  have hr':=hown'.kept (grownBy_setCell' w1 w.heap.size (.slice (some ⟨g',0,none⟩) (pre.length+1) cap')) (.inr (hv1.not_row (by decide) hown').symm);have hv2':=((hv2.alloc (.cells #[.int .i64 (x:Int)] 3)).kept hgrow (fun e=>by have:=(hrow.lt _ e.symm).1;omega)).other (B':=w.heap.size) (by omega) (.slice (some ⟨g',0,none⟩) (pre.length+1) cap')
  refine⟨hk.from _,hkb,⟨⟨_,hv1.set _,?_,trivial⟩,hv2'⟩,?_⟩
  ·rw [aaO];have e:sQ (pre ++ [x])=sQ pre ++ [.int .i64 (x:Int)]:=by simp [sQ]
   rw [e];exact hr'
  ·exact dx (hB.trans ((ah (Below.refl w.heap.size W) (by omega) (o:=.cells #[.int .i64 (x:Int)] 3)).grown hgrow (by simp;omega) (fun b hb=>by have:=(hrow.lt b hb).1;omega))) (aaJ _)
 case done =>
  rintro D ys W hD hys⟨⟨⟨v,hv,hrow,_⟩,hv2⟩,hB⟩ hK;have hvc:=hv.cell;have hvf:=hv.frozen;have hbl:=hv.lt
  have hpos:0 < ys.length:=by
   rw [hys,tC];simp
  have hrow2:=hrow.2;have hrow1:=hrow;rcases hrow2 with ⟨_,h0⟩ | ⟨gr,cap,cur,rfl,hbase,hgb,hle,hcap,hcs,htk⟩
  ·omega
  obtain⟨zs,hzs⟩:∃ zs:List Int,zs=ys.map fun (k:Nat)=>(k:Int):=⟨_,rfl⟩
  have hzl:zs.length=ys.length:=by simp [hzs]
  have hnz:sQ ys=zs.map (Value.int .i64):=by simp [hzs,sQ]
  have hH:Go.Sort.Holds (Value.int .i64) W gr 0 zs.toArray:=holds_of_blockI hgb (by rw [hzl,← hnz];simpa using htk)
  gi_wp2_with (refine ⟨trivial, ?_⟩
               rw [← hys];rw [← hzl];refine (callsIn_wide.2 (Tryz.slices_Reverse_int gr 0 cap zs W hH (by rw [hzl];simp only [maxLen] at hcap;omega))).mono ?_;rintro e w' ⟨rfl,n,rfl⟩;have hg2:W.grownBy (Go.Sort.putRow (Value.int .i64) (Go.Sort.ahead W n) gr 0 zs.reverse.toArray) (some gr):=by simpa using grownBy_sortedI (w:=W) (g:=gr) (n:=n) (os:=#[]) zs.reverse.toArray
               have hq:∀ (j k:Nat),ys.reverse[j]? = some k→(Go.Sort.putRow (Value.int .i64) (Go.Sort.ahead W n) gr 0 zs.reverse.toArray).cell? ⟨gr,j,none⟩=some (.int .i64 (k:Int)):=by
                 intro j k hj;have hjl:j < ys.length:=by have:=(aaE.1 hj).1;simpa using this
                 have hHa:Go.Sort.Holds (Value.int .i64) (Go.Sort.ahead W n) gr 0 zs.toArray:=Go.Sort.holds_ahead _ _ _ _ _ _ hH
                 have:=Go.Sort.cell?_putRow (Value.int .i64) (Go.Sort.ahead W n) gr 0 zs.toArray zs.reverse.toArray hHa (by simp) j (by simp [hzl];exact hjl)
                 rw [Nat.zero_add] at this
                 rw [this];have hz:zs.reverse[j]? = some (k:Int):=by rw [hzs,← List.map_reverse,List.getElem?_map,hj];rfl
                 simp only [List.getElem!_toArray];rw [List.getElem!_eq_getElem?_getD,hz];rfl
               have hko:KeepsOthers W (Go.Sort.putRow (Value.int .i64) (Go.Sort.ahead W n) gr 0 zs.reverse.toArray):=KeepsOthers.of_grownBy hg2 fun j o ej hj=>by cases ej;rw [hgb] at hj;cases hj;rfl
               have hv3:=hv.kept hg2 (fun e=>by simp at e;omega);have hB3:=hB.grown hg2 (by omega) (fun k e=>by cases e;omega);have hK':=hko.same D _ hK rfl;have hc3:=hv3.cell;have hf3:=hv3.frozen;obtain⟨W3,hW3⟩:∃ W3,Go.Sort.putRow (Value.int .i64) (Go.Sort.ahead W n) gr 0 zs.reverse.toArray=W3:=⟨_,rfl⟩;rw [hW3] at hg2 hq hko hv3 hB3 hK' hc3 hf3 ⊢
               clear hW3)
  rw [hys] at hq
  refine⟨by simp,.inl ⟨_,_,rfl,run_takeDeferred hK',?_⟩⟩
  refine⟨.slice (some ⟨gr,0,none⟩) (zJ P (N+1) (nd:Int)).length cap,?_,hB3.trans (belowK_b (w:=w) (aaJ _) W3 D _ _ (by omega) hK' rfl rfl),gr,cap,rfl,by omega,fun j k hj=>?_⟩
  ·simp [results,Tryz.f81,go_sem]
  ·exact cell_kept (hq j k hj) (grownBy_putObj' _ D (.deferred none)) (fun r e=>by cases e;exact⟨_,hK',rfl⟩)
 case stop =>
  rintro D c pre W _ _ h _;exact h.elim
end Go.Proofs.YthepmkjggfijoaaGreatDoor
namespace Go.Proofs.YthepmkjggfijoaaGreatDoor
open Go.RowKit Mist
theorem PZ (A B:Option Addr)(c d:Nat)(xs:List NV)(its:List Int)(node:Int)(sz:Nat→Nat)(w:World)(hT:mq w A B xs its)(hR:xO (aA xs))(hE:Env w)(hc:dN ⟨aA xs,its⟩=0)(hn:xs.length≤100000)(hW:Wf (aA xs))(hS:SzIs (aA xs) sz)(hno:Mist.within node 0 ((xs.length:Int) - 1)=true) :
  Calls Tryz.prog 80 #[.agg #[.slice A xs.length c,.slice B its.length d],.int .i64 node] w fun e w'=>Below w.heap.size w w'∧∃ wb S,e=.returned (.tuple #[.pointer (some ⟨wb,0,none⟩),.int .i64 0])∧qW w' wb (.slice A xs.length c) (.slice B its.length d) xs.length S (cZ (aA xs))∧w.heap.size≤wb∧S.length=xs.length∧∀ i,i < xs.length→S.getD i 0=(sz i:Int):=by
 have HC:=hid (jk A B c d xs its (w.alloc (.cells #[.slice A xs.length c,.slice B its.length d] 26)) (hT.below (ah (Below.refl _ _) (aaJ _))) hR (hE.alloc _));rw [hc] at HC
 have Xq:=hid hno;have HWK:=hid (fun (w2:World) (hb:Below w.heap.size w w2)=>EU A B c its.length d xs its sz w2 (hT.below hb) hn hW hS);clear hT hR hE hc hno hW hS;go_in
 go_wp2_with fail;refine HC.out.mono ?_;rintro e w2⟨rfl,hb⟩;have HT2:=hid (gF hb);have t0:=HT2.out.cell 0;have t1:=HT2.out.cell 1;have hbw:Below w.heap.size w w2:=(ah (Below.refl _ _) (aaJ _)).trans (hb.mono (by simp));go_wp2_with fail;refine (dU node 0 _ true Xq.out _).mono ?_;rintro e w3⟨rfl,rfl⟩;go_wp2_with fail;refine (HWK.out _ hbw).mono ?_;rintro e w4⟨hb4,wb,S,rfl,hW4,hwb,hSl,hSs⟩;go_wp2_with fail;go_ret2
 exact⟨hbw.trans (hb4.mono (by have:=hbw.size;omega)),wb,S,rfl,hW4,by have:=hbw.size;omega,hSl,hSs⟩
theorem Dm (A B:Option Addr)(n m c d:Nat)(node r:Int)(w:World)(hr:r ≠ 0)
  (hC:∀ W,Below w.heap.size w W→Calls Tryz.prog 80 #[.agg #[.slice A n c,.slice B m d],.int .i64 node] W fun e w'=>e=.returned (.tuple #[.pointer none,.int .i64 r])∧Below W.heap.size W w') :
  Calls Tryz.prog 36 #[.agg #[.slice A n c,.slice B m d],.int .i64 node] w fun e w'=>e=.returned (.tuple #[.slice none 0 0,.int .i64 r])∧Below w.heap.size w w':=by
 have HC:=hid hC;clear hC;have k0:(r != 0)=true:=by simpa using hr
 go_in
 go_wp2_with fail;refine (HC.out _ (ah (Below.refl _ _) (aaJ _))).mono ?_;rintro e w2⟨rfl,hb0⟩;have hb:Below w.heap.size w w2:=(ah (Below.refl _ _) (aaJ _)).trans (hb0.mono (by simp));go_wp2_with fail;go_ret2
 exact⟨rfl,hb⟩
theorem P8 (A B:Option Addr)(c d N:Nat)(its P:List Int)(uh:Nat)(w:World)(hP:xH P)(hN:P.length=N)(hN6:N≤100000)(hnd:uh < N)
  (hC:∀ W,Below w.heap.size w W→Calls Tryz.prog 80 #[.agg #[.slice A N c,.slice B its.length d],.int .i64 (uh:Int)] W fun e w'=>Below W.heap.size W w'∧∃ wb S,e=.returned (.tuple #[.pointer (some ⟨wb,0,none⟩),.int .i64 0])∧qW w' wb (.slice A N c) (.slice B its.length d) N S P) :
  Calls Tryz.prog 36 #[.agg #[.slice A N c,.slice B its.length d],.int .i64 (uh:Int)] w fun e w'=>Below w.heap.size w w'∧∃ g c,e=.returned (.tuple #[.slice (some ⟨g,0,none⟩) (zJ P (N+1) (uh:Int)).length c,.int .i64 0])∧w.heap.size≤g∧∀ (j k:Nat),(zJ P (N+1) (uh:Int)).reverse[j]? = some k→w'.cell? ⟨g,j,none⟩=some (.int .i64 (k:Int)):=by
 have HC:=hid hC;clear hC;go_in
 go_wp2_with fail;refine (HC.out _ (ah (Below.refl _ _) (aaJ _))).mono ?_;rintro e w2⟨hb0,wb,S,rfl,hW⟩;have hb:Below w.heap.size w w2:=(ah (Below.refl _ _) (aaJ _)).trans (hb0.mono (by simp));go_wp2_with fail;refine (MP wb N uh P S _ _ w2 hW hP hN hN6 hnd).mono ?_;rintro e w3⟨hb3,g,c2,rfl,hg,hcs⟩;go_wp2_with fail;go_ret2
 have:=hb.size
 exact⟨hb.trans (hb3.mono (by omega)),g,c2,rfl,by omega,hcs⟩
theorem cut_bad (A B:Option Addr)(c d:Nat)(xs:List NV)(its:List Int)(item:Int)(w:World)(hT:mq w A B xs its)(hR:xO (aA xs))(hE:Env w)(hc:dN ⟨aA xs,its⟩ ≠ 0) :
  Calls Tryz.prog 24 #[.agg #[.slice A xs.length c,.slice B its.length d],.int .i64 item] w fun e w'=>e=.returned (.tuple #[.agg #[.slice none 0 0,.slice none 0 0],.int .i64 (dN ⟨aA xs,its⟩)])∧Below w.heap.size w w':=by
 have hb0:Below w.heap.size w ((w.alloc (.cells #[.slice A xs.length c,.slice B its.length d] 26)).alloc (.cells #[.slice none 0 0,.slice none 0 0] 26)):=ah (ah (Below.refl _ _) (aaJ _)) (by simp);have HC:=hid (jk A B c d xs its ((w.alloc (.cells #[.slice A xs.length c,.slice B its.length d] 26)).alloc (.cells #[.slice none 0 0,.slice none 0 0] 26)) (hT.below hb0) hR ((hE.alloc _).alloc _));have HB0:=hid hb0;obtain⟨K,hK⟩:∃ K,K=dN ⟨aA xs,its⟩:=⟨_,rfl⟩;rw [← hK] at HC hc ⊢
 have k0:(K != 0)=true:=by simpa using hc
 clear hT hR hE hK hb0;go_in
 go_wp2_with fail;refine HC.out.mono ?_;rintro e w2⟨rfl,hb⟩;have HT3:=hid (show aC w2 (w.heap.size+1) 26 #[.slice none 0 0,.slice none 0 0] by have h9:=gF hb;simpa using h9);have hbw:Below w.heap.size w w2:=HB0.out.trans (hb.mono HB0.out.size);have hs2:=hb.size;have t0:=HT3.out.cell 0;have t1:=HT3.out.cell 1;have f0:=HT3.out.frozen 0;have f1:=HT3.out.frozen 1;go_wp2_with fail;have hbl:w.heap.size≤w.heap.size+1:=by omega
 have zO:=hid (show aC ((w2.setCell ⟨w.heap.size+1,0,none⟩ (.slice none 0 0)).setCell ⟨w.heap.size+1,1,none⟩ (.slice none 0 0)) (w.heap.size+1) 26 #[.slice none 0 0,.slice none 0 0] by have h9:=(HT3.out.d_ 0 (.slice none 0 0)).d_ 1 (.slice none 0 0);simpa using h9);have q0:=zO.out.cell 0;have q1:=zO.out.cell 1;exact bodyPost_ret (v:=.tuple #[.agg #[.slice none 0 0,.slice none 0 0],.int .i64 K]) (by simp [results,Tryz.f24,go_sem,q0,q1]) rfl ⟨rfl,dx (dx hbw hbl) hbl⟩
theorem Zj (A B:Option Addr)(c d:Nat)(xs:List NV)(its:List Int)(item:Int)(w:World)(hT:mq w A B xs its)(hR:xO (aA xs))(hE:Env w)(hc:dN ⟨aA xs,its⟩=0)(hn:its.length≤100000)(hno:Mist.within item 0 ((its.length:Int) - 1)=false) :
  Calls Tryz.prog 24 #[.agg #[.slice A xs.length c,.slice B its.length d],.int .i64 item] w fun e w'=>e=.returned (.tuple #[.agg #[.slice none 0 0,.slice none 0 0],.int .i64 7])∧Below w.heap.size w w':=by
 have hb0:Below w.heap.size w ((w.alloc (.cells #[.slice A xs.length c,.slice B its.length d] 26)).alloc (.cells #[.slice none 0 0,.slice none 0 0] 26)):=ah (ah (Below.refl _ _) (aaJ _)) (by simp);have HC:=hid (jk A B c d xs its ((w.alloc (.cells #[.slice A xs.length c,.slice B its.length d] 26)).alloc (.cells #[.slice none 0 0,.slice none 0 0] 26)) (hT.below hb0) hR ((hE.alloc _).alloc _));have HB0:=hid hb0;have Xq:=hid hno;rw [hc] at HC
 clear hT hR hE hb0 hc hno;go_in
 go_wp2_with fail;refine HC.out.mono ?_;rintro e w2⟨rfl,hb⟩;have HT2:=hid ((dL (W:=w) (T:=26) (cs:=#[.slice A xs.length c,.slice B its.length d]) rfl).alloc (.cells #[.slice none 0 0,.slice none 0 0] 26) |>.below hb (by simp;omega));have HT3:=hid (show aC w2 (w.heap.size+1) 26 #[.slice none 0 0,.slice none 0 0] by have h9:=gF hb;simpa using h9);have hbw:Below w.heap.size w w2:=HB0.out.trans (hb.mono HB0.out.size);have hs2:=hb.size;have u0:=HT2.out.cell 0;have u1:=HT2.out.cell 1;have t0:=HT3.out.cell 0;have t1:=HT3.out.cell 1;have f0:=HT3.out.frozen 0;have f1:=HT3.out.frozen 1;go_wp2_with fail;refine (dU item 0 _ false Xq.out _).mono ?_;rintro e w3⟨rfl,rfl⟩;go_wp2_with fail;have hbl:w.heap.size≤w.heap.size+1:=by omega
 have zO:=hid (show aC ((w2.setCell ⟨w.heap.size+1,0,none⟩ (.slice none 0 0)).setCell ⟨w.heap.size+1,1,none⟩ (.slice none 0 0)) (w.heap.size+1) 26 #[.slice none 0 0,.slice none 0 0] by have h9:=(HT3.out.d_ 0 (.slice none 0 0)).d_ 1 (.slice none 0 0);simpa using h9);have q0:=zO.out.cell 0;have q1:=zO.out.cell 1;exact bodyPost_ret (v:=.tuple #[.agg #[.slice none 0 0,.slice none 0 0],.int .i64 7]) (by simp [results,Tryz.f24,go_sem,q0,q1]) rfl ⟨rfl,dx (dx hbw hbl) hbl⟩
theorem oZ.part {w:World}{b o:Nat}{xs:List NV}(h:oZ w b o xs)(f k:Nat):oZ w b (o+f * 5) ((xs.drop f).take k):=by
 have hx:∀ (i:Nat) x,((xs.drop f).take k)[i]? = some x→xs[f+i]? = some x:=fun i x hx=>by
  rw [List.getElem?_take] at hx
  split at hx
  ·rwa [List.getElem?_drop] at hx
  ·cases hx
 have ho:∀ i,o+f * 5+i * 5=o+(f+i) * 5:=fun i=>by omega
 refine⟨⟨h.kids.lt,fun i x h1=>?_,fun x h1=>h.kids.kids x (List.mem_of_mem_drop (List.mem_of_mem_take h1))⟩,fun i x h1=>?_,fun i x h1=>?_,fun i x h1=>?_,fun i x h1=>?_⟩
 ·rw [ho];exact h.kids.kv _ x (hx i x h1)
 ·rw [ho];exact h.c0 _ x (hx i x h1)
 ·rw [ho];exact h.c1 _ x (hx i x h1)
 ·rw [ho];exact h.c2 _ x (hx i x h1)
 ·rw [ho];exact h.c4 _ x (hx i x h1)
theorem JS.put {g:Nat}{w:World}{tb:Nat}{nv iv:Value}{xs:List NV}{its:List Int}(h:JS g w tb nv iv xs its)(i:Nat)(u:Value)(hcs:(#[nv,iv]:Array Value).setIfInBounds i u=#[nv,iv]):JS g (w.setCell ⟨tb,i,none⟩ u) tb nv iv xs its :=
 ⟨by have:=h.blk.d_ i u;rwa [hcs] at this,h.lo,ownsRow_setCell_other h.own (aT h.own h.blk (by decide)) _,fun y hy=>ownsRow_setCell_other (h.kids y hy) (aT (h.kids y hy) h.blk (by decide)) _,ownsRow_setCell_other h.row (aT h.row h.blk (by decide)) _,h.far⟩
theorem cut_ok (b o:Nat)(B:Option Addr)(c d:Nat)(xs:List NV)(its:List Int)(q la:Nat)(sz:Nat→Nat)(w:World)(hT:mq w (some ⟨b,o,none⟩) B xs its)(hR:xO (aA xs))(hE:Env w)(hc:dN ⟨aA xs,its⟩=0)(hn:xs.length≤10000)(hni:its.length≤10000)(hW:Wf (aA xs))(hS:SzIs (aA xs) sz)
  (hcap:xs.length≤c) (hq:its[q]? = some (la:Int)) (hla:la < xs.length) (hsz:0 < sz la∧sz la≤la+1) :
  Calls Tryz.prog 24 #[.agg #[.slice (some ⟨b,o,none⟩) xs.length c,.slice B its.length d],.int .i64 (q:Int)] w fun e w'=>Below w.heap.size w w'∧∃ g tb nv iv ext,e=.returned (.tuple #[.agg #[nv,iv],.int .i64 0])∧w.heap.size≤g∧JS g w' tb nv iv ext (gJ 0 (aA ((xs.drop (la+1 - sz la)).take (sz la))))∧aA ext=(aA ((xs.drop (la+1 - sz la)).take (sz la))).map (lI (-((la+1 - sz la:Nat):Int))):=by
 have hb0:Below w.heap.size w ((w.alloc (.cells #[.slice (some ⟨b,o,none⟩) xs.length c,.slice B its.length d] 26)).alloc (.cells #[.slice none 0 0,.slice none 0 0] 26)):=ah (ah (Below.refl _ _) (aaJ _)) (by simp);have HC:=hid (jk (some ⟨b,o,none⟩) B c d xs its ((w.alloc (.cells #[.slice (some ⟨b,o,none⟩) xs.length c,.slice B its.length d] 26)).alloc (.cells #[.slice none 0 0,.slice none 0 0] 26)) (hT.below hb0) hR ((hE.alloc _).alloc _));have HB0:=hid hb0;have hql:q < its.length:=(aaE.1 hq).1;have Xq:=hid (show Mist.within (q:Int) 0 ((its.length:Int) - 1)=true by simp [Mist.within];omega);have HWK:=hid (fun (w2:World) (hb:Below w.heap.size w w2)=>EU (some ⟨b,o,none⟩) B c its.length d xs its sz w2 (hT.below hb) (by omega) hW hS);have HT:=hid hT
 have HKB:=hid (show ∀ x ∈ xs,∀ k ∈ x.1.kids,-1000000≤k∧k≤1000000 from fun x hx k hk=>by
  obtain⟨i,hi⟩:=List.mem_iff_getElem?.1 hx;have hil:=(aaE.1 hi).1
  have:=hW i x.1 (by unfold aA;rw [List.getElem?_map,hi];rfl) k hk
  omega)
 obtain⟨ib,io,rfl,hib,hic⟩:=hT.items.ex (by omega);have HI:=hid (hic q la hq);rw [hc] at HC
 clear hT hR hE hb0 hc hW hS hic;go_in
 go_wp2_with fail;refine HC.out.mono ?_;rintro e w2⟨rfl,hb⟩;have HT2:=hid ((dL (W:=w) (T:=26) (cs:=#[.slice (some ⟨b,o,none⟩) xs.length c,.slice (some ⟨ib,io,none⟩) its.length d]) rfl).alloc (.cells #[.slice none 0 0,.slice none 0 0] 26) |>.below hb (by simp;omega));have HT3:=hid (show aC w2 (w.heap.size+1) 26 #[.slice none 0 0,.slice none 0 0] by have h9:=gF hb;simpa using h9);have hbw:Below w.heap.size w w2:=HB0.out.trans (hb.mono HB0.out.size);have hs2:w.heap.size+2≤w2.heap.size:=by have h9:=hb.size;simp at h9;omega
 have u0:=HT2.out.cell 0;have u1:=HT2.out.cell 1;have t0:=HT3.out.cell 0;have t1:=HT3.out.cell 1;have f0:=HT3.out.frozen 0;have f1:=HT3.out.frozen 1;have i0:w2.cell? ⟨ib,io+q,none⟩=some (.int .i64 (la:Int)):=(hbw.cell (by exact hib)).trans HI.out;go_wp2_with fail;refine (dU (q:Int) 0 _ true Xq.out _).mono ?_;rintro e w3⟨rfl,rfl⟩;go_wp2_with fail;have EZ:=hid hbw;clear hbw hb HB0 HC
 go_region_held3 (fun w'=>w'.cell? ⟨w.heap.size,0,none⟩=some (.slice (some ⟨b,o,none⟩) xs.length c)∧w'.cell? ⟨w.heap.size,1,none⟩=some (.slice (some ⟨ib,io,none⟩) its.length d)∧w'.cell? ⟨ib,io+q,none⟩=some (.int .i64 (la:Int)))
  (first | go_keep|(go_split_ands;refine⟨?_,?_,?_⟩ <;> assumption)|(go_split_ands;refine⟨?_,?_,?_⟩ <;> go_keep))
  ((go_at_call 66;refine (HWK.out _ (by repeat (first|(with_reducible exact EZ.out)|(with_reducible refine Below.drew ?_)))).mono ?_;rintro e w4⟨hb4,wb,S,rfl,hW4,hwb,hSl,hSs⟩;have HT2b:=hid (show aC w4 w.heap.size 26 #[.slice (some ⟨b,o,none⟩) xs.length c,.slice (some ⟨ib,io,none⟩) its.length d] from aC.below (by repeat (first|(with_reducible exact HT2.out)|(with_reducible refine aC.drew ?_))) hb4 (by first | omega|(simp;omega)));have U9:=hid (show aC w4 (w.heap.size+1) 26 #[.slice none 0 0,.slice none 0 0] from aC.below (by repeat (first|(with_reducible exact HT3.out)|(with_reducible refine aC.drew ?_))) hb4 (by first | omega|(simp;omega)));have qx:=hid (show Below w.heap.size w w4 from Below.trans (by repeat (first|(with_reducible exact EZ.out)|(with_reducible refine Below.drew ?_))) (hb4.mono (by first | omega|(simp;omega))));have Xt:=hid hW4;have E_:=hid hSs;clear hb4 hW4 hSs;clear u0 u1 t0 t1 f0 f1 i0;have u0:=HT2b.out.cell 0;have u1:=HT2b.out.cell 1;have t0:=U9.out.cell 0;have t1:=U9.out.cell 1;have f0:=U9.out.frozen 0;have f1:=U9.out.frozen 1;have i0:w4.cell? ⟨ib,io+q,none⟩=some (.int .i64 (la:Int)):=(qx.out.cell (by exact hib)).trans HI.out))
 all_goals
  obtain⟨sb,pb,h1,h2,h3,h4⟩:=Xt.out;have x2:=h1.cell 2;have s0:w4.cell? ⟨sb,la,none⟩=some (.int .i64 (sz la:Int)):=(h2.cell la).trans (by rw [nE S la (by omega),E_.out la hla]);have HFR:=hid (show (la:Int) - (sz la:Int)+1=((la+1 - sz la:Nat):Int) by omega);obtain⟨z,hz⟩:∃ z,z=sz la:=⟨_,rfl⟩;rw [← hz] at s0 HFR hsz
  have HZ:=hid hz;clear hz;go_wp2_with fail;obtain⟨fr,hfr⟩:∃ fr,fr=la+1 - z:=⟨_,rfl⟩;have U_:((la:Int) - (z:Int)+1).toNat=fr:=by omega
  have hfz:la+1 - fr=z:=by omega
  obtain⟨ys,hys⟩:∃ ys,ys=(xs.drop fr).take z:=⟨_,rfl⟩;have hyl:ys.length=z:=by rw [hys,List.length_take,List.length_drop];omega
  rw [U_,hfz,← hyl];have hJ:JS (w.heap.size+2) w4 (w.heap.size+1) (.slice none 0 0) (.slice none 0 0) [] []:=⟨U9.out,by omega,World.ownsRow_nil _ _ _ _,fun x hx=>(by cases hx),World.ownsRow_nil _ _ _ _,fun x hx=>(by cases hx)⟩;refine (Z_ (w.heap.size+2) (w.heap.size+1) (.slice none 0 0) (.slice none 0 0) [] [] (some ⟨b,o+fr * 5,none⟩) (c - fr) ys ((la:Int) - (ys.length:Int)+1) w w4 hJ (fun _=>⟨b,o+fr * 5,rfl,?hnd⟩) qx.out (by omega) (by have:=qx.out.size;have:=U9.out.lt;omega) (by simp) (by simp) (by omega) (by omega) (fun y hy=>HKB.out y (List.mem_of_mem_drop (List.mem_of_mem_take (by rw [hys] at hy;exact hy))))).mono ?_
  case hnd =>
   obtain⟨b',o',e1,h9⟩:=HT.out.nodes (by omega);cases e1;rw [hys];exact h9.part fr z
  rintro e w5⟨rfl,hb5,nv,iv,ext,hJ5,hext⟩;obtain⟨An,cn,rfl⟩:=dh hJ5.own;obtain⟨Av,cv,rfl⟩:=dh hJ5.row;clear t0 t1 f0 f1 u0 u1 i0;have t0:=hJ5.blk.cell 0;have t1:=hJ5.blk.cell 1;have f0:=hJ5.blk.frozen 0;have f1:=hJ5.blk.frozen 1;have hbl:w.heap.size≤w.heap.size+1:=by omega
  have HJ5:=hid hJ5;have cu:=hid hb5;have Li:=hid hext;clear hJ5 hb5 hext;go_wp2_with fail
  have HJ6:JS (w.heap.size+2) w5 (w.heap.size+1) (.slice An ext.length cn) (.slice Av (gJ 0 (aA (List.take z (List.drop (la+1 - z) xs)))).length cv) ext (gJ 0 (aA (List.take z (List.drop (la+1 - z) xs)))):=by
   have h9:=HJ5.out;rw [hys,hfr] at h9
   simpa only [List.nil_append,List.length_nil] using h9
  have HJ7:=(HJ6.put 0 (.slice An ext.length cn) rfl).put 1 (.slice Av (gJ 0 (aA (List.take z (List.drop (la+1 - z) xs)))).length cv) rfl;have q0:=HJ7.blk.cell 0;have q1:=HJ7.blk.cell 1;refine bodyPost_ret (v:=.tuple #[.agg #[.slice An ext.length cn,.slice Av (gJ 0 (aA (List.take z (List.drop (la+1 - z) xs)))).length cv],.int .i64 0]) (by simp [results,Tryz.f24,go_sem,q0,q1]) rfl ⟨dx (dx cu.out hbl) hbl,w.heap.size+2,w.heap.size+1,_,_,ext,rfl,by omega,?_,?_⟩
  ·rw [← HZ.out];exact HJ7
  ·have h9:=Li.out;have h8:(((ext.length - ext.length:Nat):Int)) - ((la:Int) - (ys.length:Int)+1)=-((la+1 - z:Nat):Int):=by rw [hyl];omega
   rw [← HZ.out,h9,hys,hfr]
   congr 1
   refine congrArg lI ?_;rw [← hfr,← hys,hyl];simp only [List.length_nil];omega
end Go.Proofs.YthepmkjggfijoaaGreatDoor
namespace Go.Proofs.YthepmkjggfijoaaGreatDoor
open Mist
theorem kX {ns:List Nd}{out:List Int}(h:uQ ns out ns.length):Wf ns:=by
 intro i nd hi c hc;obtain⟨n,m,e,hm,_,hf⟩:=h.2 i (aaE.1 hi).1;rw [hi] at e;cases e
 have:=hf.ids c hc
 omega
theorem fo_sum {ns:List Nd}{out:List Int}(h:uQ ns out ns.length){a b:Nat}{ks:List Int}(hf:Fo ns a b ks):(ks.map fun k=>(out.getD k.toNat 0).toNat).sum=b - a:=by
 induction hf with
 | nil=>simp
 | @snoc a m b ks n h1 k1 e i1 i2 =>
  obtain⟨n',m',e',hm,ho,hf'⟩:=h.2 b (aaE.1 e).1;rw [e] at e';cases e'
  have:=hf'.uniq _ k1
  subst this;have h1:=h1.le;simp only [List.map_append,List.sum_append,List.map_cons,List.map_nil,List.sum_cons,List.sum_nil,aaQ];rw [i1,ho];omega
theorem Nb {ns:List Nd}{out:List Int}(h:uQ ns out ns.length)(hn:ns.length≤100000):SzIs ns (fun i=>(out.getD i 0).toNat):=by
 constructor
 ·intro i x hi;obtain⟨n,m,e,hm,ho,hf⟩:=h.2 i (aaE.1 hi).1;rw [hi] at e;cases e
  have hs:=fo_sum h hf
  show (out.getD i 0).toNat=1+(x.kids.map fun k=>(out.getD k.toNat 0).toNat).sum
  rw [hs,ho];omega
 ·intro i;by_cases hi:i < ns.length
  ·obtain⟨n,m,e,hm,ho,hf⟩:=h.2 i hi
   show (out.getD i 0).toNat≤1000000
   rw [ho];omega
  ·have:out.getD i 0=0:=by rw [aaH,List.getElem?_eq_none (by rw [h.1];omega)];rfl
   show (out.getD i 0).toNat≤1000000
   rw [this];simp
theorem szPos {ns:List Nd}{out:List Int}(h:uQ ns out ns.length){i:Nat}(hi:i < ns.length):0 < (out.getD i 0).toNat∧(out.getD i 0).toNat≤i+1:=by
 obtain⟨n,m,e,hm,ho,hf⟩:=h.2 i hi;rw [ho];omega
def Y1 (n i:Nat)(P:List Int):Prop:=P.length=n∧∀ j,j < i→P.getD j 0=-1∨((j:Int) < P.getD j 0∧P.getD j 0 < (i:Int))
theorem Iy (n i:Nat)(hi:i < n):∀ (ks:List Int) (P:List Int),(∀ k ∈ ks,0≤k∧k < (i:Int))→Y1 n (i+1) P→Y1 n (i+1) (um (i:Int) ks P)
 | [],_,_,h=>h
 | k :: r,P,hk,h=>by
  rw [um];refine Iy n i hi r _ (fun x hx=>hk x (List.mem_cons_of_mem _ hx)) ⟨by rw [List.length_set];exact h.1,fun j hj=>?_⟩;have h0:=hk k (List.mem_cons_self ..);rw [lU];split
  ·rename_i h1
   right;omega
  ·exact h.2 j hj
theorem KI {ns:List Nd}(hW:Wf ns):∀ i,i≤ns.length→Y1 ns.length i (wH ns i)
 | 0,_=>⟨by simp [wH],fun j hj=>by omega⟩
 | i+1,hi=>by
  have ih:=KI hW i (by omega);rw [wH,KJ];refine Iy ns.length i (by omega) _ _ ?_ ⟨by rw [List.length_set];exact ih.1,fun j hj=>?_⟩
  ·intro k hk;obtain⟨x,hx⟩:∃ x,ns[i]? = some x:=⟨_,aaD (by omega)⟩;rw [hx] at hk
   exact hW i x hx k hk
  ·rw [lU];split
   ·exact .inl rfl
   ·rename_i h1
    have hl:=ih.1;rcases ih.2 j (by omega) with h2 | h2
    ·exact .inl h2
    ·right;omega
theorem nL {ns:List Nd}(hW:Wf ns):xH (cZ ns)∧(cZ ns).length=ns.length:=by
 have h:=KI hW ns.length (aaJ _)
 refine⟨fun i hi=>?_,h.1⟩
 unfold cZ at hi ⊢
 rw [h.1] at hi ⊢
 exact h.2 i hi
theorem iF {t:Tr}(h:dN t=0):Mist.large t=false∧qV t∧∃ out,uQ t.nodes out t.nodes.length:=by
 unfold dN at h
 split at h
 ·omega
 rename_i h1
 split at h
 ·omega
 rename_i h2
 split at h
 ·omega
 rename_i h3
 have hf:∀ i,i < t.nodes.length→Mist.formed t i=true:=by
  have h9:(List.range t.nodes.length).all (Mist.formed t)=true:=by simpa using h2
  intro i hi;exact aaR.1 h9 i (List.mem_range.2 hi)
 have hk:∀ (i:Nat) n,t.nodes[i]? = some n→∀ c ∈ n.kids,0≤c∧c≤(i:Int) - 1:=by
  intro i n hi c hc;have h9:=((nW t i).1 (hf i (aaE.1 hi).1)).2.2 c;rw [kH hi] at h9
  exact h9 hc
 have ho:Mist.ordered t=true:=by
  rcases h8:Mist.ordered t with _ | _
  ·exact absurd (Or.inl h8) h3
  ·rfl
 have hR:=Al hk ho;obtain⟨sz,_,hs⟩:=qV.sizes hR.fo;exact⟨by simpa using h1,hR,sz,hs⟩
theorem Um {t:Tr}(h:qV t){q:Nat}{c:Int}(hq:t.items[q]? = some c):∃ la:Nat,c=(la:Int)∧la < t.nodes.length:=by
 have:=h.fo.ids c (aaM hq)
 exact⟨c.toNat,by omega,by omega⟩
end Go.Proofs.YthepmkjggfijoaaGreatDoor
namespace Go.Proofs.YthepmkjggfijoaaGreatDoor
open Go.RowKit Mist
def iC (t:Tr)(n:Nat)(i:Int):Int:=if dN t ≠ 0 then dN t else if Mist.within i 0 ((n:Int) - 1)=false then 7 else 0
theorem jJ (xs:List NV):(aA xs).length=xs.length:=by simp [aA]
theorem Cu {t:Tr}(h:Mist.large t=false):t.nodes.length≤800∧t.items.length≤60:=by
 unfold Mist.large at h
 simp at h
 omega
theorem Dl (A B:Option Addr)(c d:Nat)(xs:List NV)(its:List Int)(node:Int)(w:World)(hT:mq w A B xs its)(hR:xO (aA xs))(hE:∀ W,Below w.heap.size w W→Env W) :
  Calls Tryz.prog 36 #[.agg #[.slice A xs.length c,.slice B its.length d],.int .i64 node] w fun e w'=>Below w.heap.size w w' ∧
   ((iC ⟨aA xs, its⟩ xs.length node ≠ 0 ∧ e = .returned (.tuple #[.slice none 0 0, .int .i64 (iC ⟨aA xs, its⟩ xs.length node)])) ∨
    (iC ⟨aA xs,its⟩ xs.length node=0∧0≤node∧node < (xs.length:Int)∧∃ g c,e=.returned (.tuple #[.slice (some ⟨g,0,none⟩) (zJ (cZ (aA xs)) (xs.length+1) node).length c,.int .i64 0])∧w.heap.size≤g∧∀ (j k:Nat),(zJ (cZ (aA xs)) (xs.length+1) node).reverse[j]? = some k→w'.cell? ⟨g,j,none⟩=some (.int .i64 (k:Int)))):=by
 by_cases hc:dN ⟨aA xs,its⟩=0
 ·obtain⟨hl,hro,out,hs⟩:=iF hc;have hll:=Cu hl;simp only [jJ] at hll hs
  have hs':uQ (aA xs) out (aA xs).length:=by rw [jJ];exact hs
  cases hno:Mist.within node 0 ((xs.length:Int) - 1)
  ·have ha:iC ⟨aA xs,its⟩ xs.length node=7:=by unfold iC;rw [if_neg (by simpa using hc),if_pos hno]
   rw [ha];refine (Dm A B xs.length its.length c d node 7 w (by decide) (fun W hb=>I_ A B c d xs its node W (hT.below hb) hR (hE W hb) hc (by omega) hno)).mono ?_;rintro e w' ⟨rfl,hb⟩;exact⟨hb,.inl ⟨by decide,rfl⟩⟩
  ·have ha:iC ⟨aA xs,its⟩ xs.length node=0:=by unfold iC;rw [if_neg (by simpa using hc),if_neg (by rw [hno];decide)]
   have hin:0≤node∧node≤(xs.length:Int) - 1:=by simpa [Mist.within] using hno
   obtain⟨uh,rfl⟩:∃ k:Nat,node=(k:Int):=⟨node.toNat,by omega⟩;have hW:=kX hs';obtain⟨hG,Fb⟩:=nL hW;rw [jJ] at Fb
   rw [ha];refine (P8 A B c d xs.length its (cZ (aA xs)) uh w hG Fb (by omega) (by omega) (fun W hb=>(PZ A B c d xs its uh _ W (hT.below hb) hR (hE W hb) hc (by omega) hW (Nb hs' (by rw [jJ];omega)) hno).mono ?_)).mono ?_
   ·rintro e w' ⟨h1,wb,S,h2,h3,_⟩;exact⟨h1,wb,S,h2,h3⟩
   ·rintro e w' ⟨h1,g,c2,h2,h3,h4⟩;exact⟨h1,.inr ⟨rfl,by omega,by omega,g,c2,h2,h3,h4⟩⟩
 ·have ha:iC ⟨aA xs,its⟩ xs.length node=dN ⟨aA xs,its⟩:=by unfold iC;rw [if_pos hc]
  rw [ha];refine (Dm A B xs.length its.length c d node _ w hc (fun W hb=>KY A B c d xs its node W (hT.below hb) hR (hE W hb) hc)).mono ?_;rintro e w' ⟨rfl,hb⟩;exact⟨hb,.inl ⟨hc,rfl⟩⟩
theorem cut_any (A B:Option Addr)(c d:Nat)(xs:List NV)(its:List Int)(item:Int)(w:World)(hT:mq w A B xs its)(hR:xO (aA xs))(hE:Env w)(hcap:xs.length≤c) :
  Calls Tryz.prog 24 #[.agg #[.slice A xs.length c,.slice B its.length d],.int .i64 item] w fun e w'=>Below w.heap.size w w' ∧
   ((iC ⟨aA xs, its⟩ its.length item ≠ 0 ∧ e = .returned (.tuple #[.agg #[.slice none 0 0, .slice none 0 0], .int .i64 (iC ⟨aA xs, its⟩ its.length item)])) ∨
    (iC ⟨aA xs,its⟩ its.length item=0∧∃ (q la:Nat) (out:List Int),item=(q:Int)∧its[q]? = some (la:Int)∧la < xs.length∧uQ (aA xs) out xs.length∧∃ g tb nv iv ext,e=.returned (.tuple #[.agg #[nv,iv],.int .i64 0])∧w.heap.size≤g ∧
      JS g w' tb nv iv ext (gJ 0 (aA ((xs.drop (la+1 - (out.getD la 0).toNat)).take (out.getD la 0).toNat)))∧aA ext=(aA ((xs.drop (la+1 - (out.getD la 0).toNat)).take (out.getD la 0).toNat)).map (lI (-((la+1 - (out.getD la 0).toNat:Nat):Int))))):=by
 by_cases hc:dN ⟨aA xs,its⟩=0
 ·obtain⟨hl,hro,out,hs⟩:=iF hc;have hll:=Cu hl;simp only [jJ] at hll hs
  have hs':uQ (aA xs) out (aA xs).length:=by rw [jJ];exact hs
  cases hno:Mist.within item 0 ((its.length:Int) - 1)
  ·have ha:iC ⟨aA xs,its⟩ its.length item=7:=by unfold iC;rw [if_neg (by simpa using hc),if_pos hno]
   rw [ha];refine (Zj A B c d xs its item w hT hR hE hc (by omega) hno).mono ?_;rintro e w' ⟨rfl,hb⟩;exact⟨hb,.inl ⟨by decide,rfl⟩⟩
  ·have ha:iC ⟨aA xs,its⟩ its.length item=0:=by unfold iC;rw [if_neg (by simpa using hc),if_neg (by rw [hno];decide)]
   have hin:0≤item∧item≤(its.length:Int) - 1:=by simpa [Mist.within] using hno
   obtain⟨q,rfl⟩:∃ k:Nat,item=(k:Int):=⟨item.toNat,by omega⟩;obtain⟨v,hv⟩:∃ v,its[q]? = some v:=⟨_,aaD (by omega)⟩;obtain⟨la,rfl,hla⟩:=Um hro hv;simp only [jJ] at hla
   obtain⟨b,o,rfl,_⟩:=hT.nodes (by omega);rw [ha];refine (cut_ok b o B c d xs its q la _ w hT hR hE hc (by omega) (by omega) (kX hs') (Nb hs' (by rw [jJ];omega)) hcap hv hla (szPos hs' (by rw [jJ];omega))).mono ?_;rintro e w' ⟨h1,g,tb,nv,iv,ext,h2,h3,h4,h5⟩;exact⟨h1,.inr ⟨rfl,q,la,out,rfl,hv,hla,hs,g,tb,nv,iv,ext,h2,h3,h4,h5⟩⟩
 ·have ha:iC ⟨aA xs,its⟩ its.length item=dN ⟨aA xs,its⟩:=by unfold iC;rw [if_pos hc]
  rw [ha];refine (cut_bad A B c d xs its item w hT hR hE hc).mono ?_;rintro e w' ⟨rfl,hb⟩;exact⟨hb,.inl ⟨hc,rfl⟩⟩
theorem PW {xs ys:List Int}{k:Nat}(h:xs.take k=ys.take k)(a:xs.length≤k)(b:ys.length≤k):xs=ys:=by rwa [aaN a,aaN b] at h
theorem Z7 (A B:Option Addr)(n c d:Nat)(xs ys:List Int)(w:World)(hx:xs.length=n)(hy:ys.length=n)(hn:n≤1000000)(hA:IntsIn w A xs)(hB:IntsIn w B ys) :
  Calls Tryz.prog 44 #[.slice A n c,.slice B n d] w fun e w'=>e=.returned (.bool (decide (xs=ys)))∧Below w.heap.size w w':=by
 have HA:=hid hA;have HB:=hid hB;have h0:((n:Int) != (n:Int))=false:=by simp
 go_in
 go_wp2_with fail;go_loopw [5] (fun i wr=>∃ k:Nat,k≤n∧i=.int .i64 k∧Hid (Below w.heap.size w wr)∧Hid (xs.take k=ys.take k)) (fun j _=>n - (intOf j).toNat)
 case atStart=>exact⟨0,aaL _,rfl,hid (Below.refl _ _),hid rfl⟩
 case round =>
  obtain⟨k,hk,rfl,hb,ht⟩:=hrel;by_cases hlt:k < n
  ·obtain⟨b1,o1,rfl,hl1,hc1⟩:=HA.out.ex (by omega);obtain⟨b2,o2,rfl,hl2,hc2⟩:=HB.out.ex (by omega);have HX:=hid (aaD (l:=xs) (i:=k) (by omega));have HY:=hid (aaD (l:=ys) (i:=k) (by omega));obtain⟨x,hxk⟩:∃ x,x=xs[k]'(by omega):=⟨_,rfl⟩;obtain⟨y,hyk⟩:∃ y,y=ys[k]'(by omega):=⟨_,rfl⟩;rw [← hxk] at HX
   rw [← hyk] at HY
   have e1:=(hb.out.cell (p:=⟨b1,o1+k,none⟩) (by exact hl1)).trans (hc1 k x HX.out);have e2:=(hb.out.cell (p:=⟨b2,o2+k,none⟩) (by exact hl2)).trans (hc2 k y HY.out);have tK:=hid hxk;have HYK:=hid hyk;clear hc1 hc2 hxk hyk;by_cases hxy:x=y
   ·have hq:(x != y)=false:=by simp [hxy]
    go_wp2_with fail;go_quiet (fail)
    go_wp2_with fail;exact⟨⟨k+1,by omega,by go_num,hid (gU hb.out _),hid (by rw [List.take_add_one,List.take_add_one,ht.out,HX.out,HY.out,hxy])⟩,by simp [intOf];omega⟩
   ·have hq:(x != y)=true:=by simp [hxy]
    go_wp2_with fail;go_quiet (fail)
    go_wp2_with fail;go_ret;have hne:xs ≠ ys:=fun e=>hxy (by have h1:=HX.out;rw [e,HY.out] at h1;exact (aaP h1).symm)
    exact⟨by rw [aaV hne];rfl,gU hb.out _⟩
  ·go_wp2_with fail;go_ret;exact⟨by rw [aaU (PW ht.out (by omega) (by omega))];rfl,hb.out⟩
end Go.Proofs.YthepmkjggfijoaaGreatDoor
