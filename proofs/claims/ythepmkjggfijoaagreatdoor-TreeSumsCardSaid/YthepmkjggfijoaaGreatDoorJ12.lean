/-
  A part of the proof.
-/
import Derived.Test.YthepmkjggfijoaaGreatDoorSA
import Derived.Deep.QuietTactic
import Derived.BigRegion
import Derived.Deep.CutRange
import Derived.Deep.RegionHeld3
import Derived.Test.YthepmkjggfijoaaGreatDoorS32
import Derived.Test.YthepmkjggfijoaaGreatDoorS30
import Derived.Test.YthepmkjggfijoaaGreatDoorS04
import Derived.Test.YthepmkjggfijoaaGreatDoorS21
import Derived.Test.YthepmkjggfijoaaGreatDoorS08
import Derived.Test.YthepmkjggfijoaaGreatDoorS25
import Derived.Test.YthepmkjggfijoaaGreatDoorS29
import Derived.Test.YthepmkjggfijoaaGreatDoorS07
import Derived.Test.YthepmkjggfijoaaGreatDoorS28
import Derived.Test.YthepmkjggfijoaaGreatDoorS31
import Derived.Test.YthepmkjggfijoaaGreatDoorJ09
import Derived.Test.YthepmkjggfijoaaGreatDoorJ10
import Derived.Test.YthepmkjggfijoaaGreatDoorJ11
set_option linter.all false
set_option maxRecDepth 100000
set_option maxHeartbeats 1000000
open Go.Lib (hid)
namespace Go.Proofs.YthepmkjggfijoaaGreatDoor
open Go.RowKit Mist
def ET (T:Tr)(k:Int):Int:=((oN T).getD []).getD k.toNat 0
def wh (T:Tr)(k:Int):Int:=((AZ (cZ T.nodes) k.toNat).length:Int)
def CJ (T:Tr)(k:Int):Int:=(cZ T.nodes).getD k.toNat 0
def Ht (T:Tr)(k:Int):Int:=((T.items.findIdx fun c=>decide (k≤c):Nat):Int)
def vW (V E:Int):Int:=if E=0 then V else 0
theorem Gm (fv:Value)(A B:Option Addr)(n m c d:Nat)(node r:Int)(w:World)(hr:r ≠ 0)
  (hC:∀ W,Below w.heap.size w W→Calls Tryz.prog 80 #[.agg #[.slice A n c,.slice B m d],.int .i64 node] W fun e w'=>e=.returned (.tuple #[.pointer none,.int .i64 r])∧Below W.heap.size W w') :
  Calls Tryz.prog 74 #[.agg #[fv],.agg #[.slice A n c,.slice B m d],.int .i64 node] w fun e w'=>e=.returned (.tuple #[.int .i64 0,.int .i64 r])∧Below w.heap.size w w':=by
 have HC:=hid hC;clear hC;have k0:(r != 0)=true:=by simpa using hr
 have eH:=hid (ah (ah (Below.refl w.heap.size w) (aaJ _) (o:=.cells #[fv] 86)) (by simp) (o:=.cells #[.slice A n c,.slice B m d] 26));go_in
 go_wp2_with fail;refine (HC.out _ eH.out).mono ?_;rintro e w2⟨rfl,hb0⟩;have hb:=eH.out.trans (hb0.mono eH.out.size);go_wp2_with fail;go_ret2
 exact⟨rfl,hb⟩
theorem Gp (A B:Option Addr)(n m c d nd:Nat)(V:Int)(Q:World→Nat→Prop)(w:World)
  (hC:∀ W,Below w.heap.size w W→Calls Tryz.prog 80 #[.agg #[.slice A n c,.slice B m d],.int .i64 (nd:Int)] W fun e w'=>Below W.heap.size W w'∧∃ wb,e=.returned (.tuple #[.pointer (some ⟨wb,0,none⟩),.int .i64 0])∧Q w' wb)
  (hF:∀ W wb,Q W wb→Calls Tryz.prog 78 #[.pointer (some ⟨wb,0,none⟩),.int .i64 (nd:Int)] W fun e w'=>e=.returned (.int .i64 V)∧Below W.heap.size W w') :
  Calls Tryz.prog 74 #[.agg #[.func (.func 78) #[] #[]],.agg #[.slice A n c,.slice B m d],.int .i64 (nd:Int)] w fun e w'=>e=.returned (.tuple #[.int .i64 V,.int .i64 0])∧Below w.heap.size w w':=by
 have HC:=hid hC;clear hC;have HF:=hid hF;clear hF;have HB0:=hid ((aC.new w 86 #[.func (.func 78) #[] #[]]).alloc (.cells #[.slice A n c,.slice B m d] 26));have eH:=hid (ah (ah (Below.refl w.heap.size w) (aaJ _) (o:=.cells #[.func (.func 78) #[] #[]] 86)) (by simp) (o:=.cells #[.slice A n c,.slice B m d] 26));go_in
 go_wp2_with fail;refine (HC.out _ eH.out).mono ?_;rintro e w2⟨hb0,wb,rfl,hq⟩;have HQ:=hid hq;clear hq;have HL:=hid (eH.out.trans (hb0.mono eH.out.size));have HB:=hid (HB0.out.below hb0 HB0.out.lt);have q0:=HB.out.cell 0;clear hb0 HB0 eH;go_wp2_with fail;refine (HF.out _ _ HQ.out).mono ?_;rintro e w3⟨rfl,hb3⟩;go_wp2_with fail;go_ret2
 exact⟨rfl,HL.out.trans (hb3.mono HL.out.size)⟩
theorem P9 (A B:Option Addr)(n m c d:Nat)(node V E:Int)(w:World)
  (hA:∀ W,Below w.heap.size w W→Calls Tryz.prog 74 #[.agg #[.func (.func 78) #[] #[]],.agg #[.slice A n c,.slice B m d],.int .i64 node] W fun e w'=>e=.returned (.tuple #[.int .i64 V,.int .i64 E])∧Below W.heap.size W w') :
  Calls Tryz.prog 34 #[.agg #[.slice A n c,.slice B m d],.int .i64 node] w fun e w'=>e=.returned (.tuple #[.int .i64 V,.int .i64 E])∧Below w.heap.size w w':=by
 have HA:=hid hA;clear hA;have eH:=hid (ah (Below.refl w.heap.size w) (aaJ _) (o:=.cells #[.slice A n c,.slice B m d] 26));go_in
 go_wp2_with fail;refine (HA.out _ eH.out).mono ?_;rintro e w2⟨rfl,hb⟩;go_wp2_with fail;go_ret2
 exact⟨rfl,eH.out.trans (hb.mono eH.out.size)⟩
theorem Fa (A B:Option Addr)(n m c d nd:Nat)(V:Int)(Q:World→Nat→Prop)(w:World)
  (hC:∀ W,Below w.heap.size w W→Calls Tryz.prog 80 #[.agg #[.slice A n c,.slice B m d],.int .i64 (nd:Int)] W fun e w'=>Below W.heap.size W w'∧∃ wb,e=.returned (.tuple #[.pointer (some ⟨wb,0,none⟩),.int .i64 0])∧Q w' wb)
  (hF:∀ W wb,Q W wb→Calls Tryz.prog 73 #[.pointer (some ⟨wb,0,none⟩),.int .i64 (nd:Int)] W fun e w'=>e=.returned (.int .i64 V)∧Below W.heap.size W w') :
  Calls Tryz.prog 74 #[.agg #[.func (.func 73) #[] #[]],.agg #[.slice A n c,.slice B m d],.int .i64 (nd:Int)] w fun e w'=>e=.returned (.tuple #[.int .i64 V,.int .i64 0])∧Below w.heap.size w w':=by
 have HC:=hid hC;clear hC;have HF:=hid hF;clear hF;have HB0:=hid ((aC.new w 86 #[.func (.func 73) #[] #[]]).alloc (.cells #[.slice A n c,.slice B m d] 26));have eH:=hid (ah (ah (Below.refl w.heap.size w) (aaJ _) (o:=.cells #[.func (.func 73) #[] #[]] 86)) (by simp) (o:=.cells #[.slice A n c,.slice B m d] 26));go_in
 go_wp2_with fail;refine (HC.out _ eH.out).mono ?_;rintro e w2⟨hb0,wb,rfl,hq⟩;have HQ:=hid hq;clear hq;have HL:=hid (eH.out.trans (hb0.mono eH.out.size));have HB:=hid (HB0.out.below hb0 HB0.out.lt);have q0:=HB.out.cell 0;clear hb0 HB0 eH;go_wp2_with fail;refine (HF.out _ _ HQ.out).mono ?_;rintro e w3⟨rfl,hb3⟩;go_wp2_with fail;go_ret2
 exact⟨rfl,HL.out.trans (hb3.mono HL.out.size)⟩
theorem Nc (A B:Option Addr)(n m c d:Nat)(node V E:Int)(w:World)
  (hA:∀ W,Below w.heap.size w W→Calls Tryz.prog 74 #[.agg #[.func (.func 73) #[] #[]],.agg #[.slice A n c,.slice B m d],.int .i64 node] W fun e w'=>e=.returned (.tuple #[.int .i64 V,.int .i64 E])∧Below W.heap.size W w') :
  Calls Tryz.prog 30 #[.agg #[.slice A n c,.slice B m d],.int .i64 node] w fun e w'=>e=.returned (.tuple #[.int .i64 V,.int .i64 E])∧Below w.heap.size w w':=by
 have HA:=hid hA;clear hA;have eH:=hid (ah (Below.refl w.heap.size w) (aaJ _) (o:=.cells #[.slice A n c,.slice B m d] 26));go_in
 go_wp2_with fail;refine (HA.out _ eH.out).mono ?_;rintro e w2⟨rfl,hb⟩;go_wp2_with fail;go_ret2
 exact⟨rfl,eH.out.trans (hb.mono eH.out.size)⟩
theorem DK (A B:Option Addr)(n m c d nd:Nat)(V:Int)(Q:World→Nat→Prop)(w:World)
  (hC:∀ W,Below w.heap.size w W→Calls Tryz.prog 80 #[.agg #[.slice A n c,.slice B m d],.int .i64 (nd:Int)] W fun e w'=>Below W.heap.size W w'∧∃ wb,e=.returned (.tuple #[.pointer (some ⟨wb,0,none⟩),.int .i64 0])∧Q w' wb)
  (hF:∀ W wb,Q W wb→Calls Tryz.prog 79 #[.pointer (some ⟨wb,0,none⟩),.int .i64 (nd:Int)] W fun e w'=>e=.returned (.int .i64 V)∧Below W.heap.size W w') :
  Calls Tryz.prog 74 #[.agg #[.func (.func 79) #[] #[]],.agg #[.slice A n c,.slice B m d],.int .i64 (nd:Int)] w fun e w'=>e=.returned (.tuple #[.int .i64 V,.int .i64 0])∧Below w.heap.size w w':=by
 have HC:=hid hC;clear hC;have HF:=hid hF;clear hF;have HB0:=hid ((aC.new w 86 #[.func (.func 79) #[] #[]]).alloc (.cells #[.slice A n c,.slice B m d] 26));have eH:=hid (ah (ah (Below.refl w.heap.size w) (aaJ _) (o:=.cells #[.func (.func 79) #[] #[]] 86)) (by simp) (o:=.cells #[.slice A n c,.slice B m d] 26));go_in
 go_wp2_with fail;refine (HC.out _ eH.out).mono ?_;rintro e w2⟨hb0,wb,rfl,hq⟩;have HQ:=hid hq;clear hq;have HL:=hid (eH.out.trans (hb0.mono eH.out.size));have HB:=hid (HB0.out.below hb0 HB0.out.lt);have q0:=HB.out.cell 0;clear hb0 HB0 eH;go_wp2_with fail;refine (HF.out _ _ HQ.out).mono ?_;rintro e w3⟨rfl,hb3⟩;go_wp2_with fail;go_ret2
 exact⟨rfl,HL.out.trans (hb3.mono HL.out.size)⟩
theorem JL (A B:Option Addr)(n m c d:Nat)(node V E:Int)(w:World)
  (hA:∀ W,Below w.heap.size w W→Calls Tryz.prog 74 #[.agg #[.func (.func 79) #[] #[]],.agg #[.slice A n c,.slice B m d],.int .i64 node] W fun e w'=>e=.returned (.tuple #[.int .i64 V,.int .i64 E])∧Below W.heap.size W w') :
  Calls Tryz.prog 35 #[.agg #[.slice A n c,.slice B m d],.int .i64 node] w fun e w'=>e=.returned (.tuple #[.int .i64 V,.int .i64 E])∧Below w.heap.size w w':=by
 have HA:=hid hA;clear hA;have eH:=hid (ah (Below.refl w.heap.size w) (aaJ _) (o:=.cells #[.slice A n c,.slice B m d] 26));go_in
 go_wp2_with fail;refine (HA.out _ eH.out).mono ?_;rintro e w2⟨rfl,hb⟩;go_wp2_with fail;go_ret2
 exact⟨rfl,eH.out.trans (hb.mono eH.out.size)⟩
theorem Gn (A B:Option Addr)(n m c d nd:Nat)(V:Int)(Q:World→Nat→Prop)(w:World)
  (hC:∀ W,Below w.heap.size w W→Calls Tryz.prog 80 #[.agg #[.slice A n c,.slice B m d],.int .i64 (nd:Int)] W fun e w'=>Below W.heap.size W w'∧∃ wb,e=.returned (.tuple #[.pointer (some ⟨wb,0,none⟩),.int .i64 0])∧Q w' wb)
  (hF:∀ W wb,Q W wb→Calls Tryz.prog 82 #[.pointer (some ⟨wb,0,none⟩),.int .i64 (nd:Int)] W fun e w'=>e=.returned (.int .i64 V)∧Below W.heap.size W w') :
  Calls Tryz.prog 74 #[.agg #[.func (.func 82) #[] #[]],.agg #[.slice A n c,.slice B m d],.int .i64 (nd:Int)] w fun e w'=>e=.returned (.tuple #[.int .i64 V,.int .i64 0])∧Below w.heap.size w w':=by
 have HC:=hid hC;clear hC;have HF:=hid hF;clear hF;have HB0:=hid ((aC.new w 86 #[.func (.func 82) #[] #[]]).alloc (.cells #[.slice A n c,.slice B m d] 26));have eH:=hid (ah (ah (Below.refl w.heap.size w) (aaJ _) (o:=.cells #[.func (.func 82) #[] #[]] 86)) (by simp) (o:=.cells #[.slice A n c,.slice B m d] 26));go_in
 go_wp2_with fail;refine (HC.out _ eH.out).mono ?_;rintro e w2⟨hb0,wb,rfl,hq⟩;have HQ:=hid hq;clear hq;have HL:=hid (eH.out.trans (hb0.mono eH.out.size));have HB:=hid (HB0.out.below hb0 HB0.out.lt);have q0:=HB.out.cell 0;clear hb0 HB0 eH;go_wp2_with fail;refine (HF.out _ _ HQ.out).mono ?_;rintro e w3⟨rfl,hb3⟩;go_wp2_with fail;go_ret2
 exact⟨rfl,HL.out.trans (hb3.mono HL.out.size)⟩
theorem P7 (A B:Option Addr)(n m c d:Nat)(node V E:Int)(w:World)
  (hA:∀ W,Below w.heap.size w W→Calls Tryz.prog 74 #[.agg #[.func (.func 82) #[] #[]],.agg #[.slice A n c,.slice B m d],.int .i64 node] W fun e w'=>e=.returned (.tuple #[.int .i64 V,.int .i64 E])∧Below W.heap.size W w') :
  Calls Tryz.prog 37 #[.agg #[.slice A n c,.slice B m d],.int .i64 node] w fun e w'=>e=.returned (.tuple #[.int .i64 V,.int .i64 E])∧Below w.heap.size w w':=by
 have HA:=hid hA;clear hA;have eH:=hid (ah (Below.refl w.heap.size w) (aaJ _) (o:=.cells #[.slice A n c,.slice B m d] 26));go_in
 go_wp2_with fail;refine (HA.out _ eH.out).mono ?_;rintro e w2⟨rfl,hb⟩;go_wp2_with fail;go_ret2
 exact⟨rfl,eH.out.trans (hb.mono eH.out.size)⟩
def AnsOf (K:Nat)(w:World)(A B:Option Addr)(n m c d:Nat)(node V E:Int):Prop:=Calls Tryz.prog 74 #[.agg #[.func (.func K) #[] #[]],.agg #[.slice A n c,.slice B m d],.int .i64 node] w fun e w'=>e=.returned (.tuple #[.int .i64 V,.int .i64 E])∧Below w.heap.size w w'
def XD (W:World)(wb:Nat)(A B:Option Addr)(c d:Nat)(xs:List NV)(its sz:List Int):Prop:=∃ S,qW W wb (.slice A xs.length c) (.slice B its.length d) xs.length S (cZ (aA xs))∧S.length=xs.length∧(∀ i,i < xs.length→S.getD i 0=((sz.getD i 0).toNat:Int))∧mq W A B xs its
theorem FB (K:Nat)(VV:Tr→Int→Int)(A B:Option Addr)(c d:Nat)(xs:List NV)(its:List Int)(node:Int)(w:World)(hT:mq w A B xs its)(hR:xO (aA xs))(hE:Env w)
  (hok:∀ (uh:Nat) (V:Int) (Q:World→Nat→Prop) (w:World),(∀ W,Below w.heap.size w W→Calls Tryz.prog 80 #[.agg #[.slice A xs.length c,.slice B its.length d],.int .i64 (uh:Int)] W fun e w'=>Below W.heap.size W w'∧∃ wb,e=.returned (.tuple #[.pointer (some ⟨wb,0,none⟩),.int .i64 0])∧Q w' wb) →
   (∀ W wb,Q W wb→Calls Tryz.prog K #[.pointer (some ⟨wb,0,none⟩),.int .i64 (uh:Int)] W fun e w'=>e=.returned (.int .i64 V)∧Below W.heap.size W w')→AnsOf K w A B xs.length its.length c d (uh:Int) V 0)
  (hv:∀ (uh:Nat) (sz:List Int) (W:World) (wb:Nat),uh < xs.length→its.length≤60→xs.length≤800→qV ⟨aA xs,its⟩→oN ⟨aA xs,its⟩=some sz→uQ (aA xs) sz (aA xs).length→XD W wb A B c d xs its sz→Calls Tryz.prog K #[.pointer (some ⟨wb,0,none⟩),.int .i64 (uh:Int)] W fun e w'=>e=.returned (.int .i64 (VV ⟨aA xs,its⟩ (uh:Int)))∧Below W.heap.size W w') :
  ∀ W,Below w.heap.size w W→AnsOf K W A B xs.length its.length c d node (vW (VV ⟨aA xs,its⟩ node) (iC ⟨aA xs,its⟩ xs.length node)) (iC ⟨aA xs,its⟩ xs.length node):=by
 intro W hb;by_cases hc:dN ⟨aA xs,its⟩=0
 ·obtain⟨hl,hro,_⟩:=iF hc;have hll:=Cu hl;simp only [jJ] at hll
  obtain⟨sz,hz,hs⟩:=qV.sizes hro.fo
  cases hno:Mist.within node 0 ((xs.length:Int) - 1)
  ·have ha:iC ⟨aA xs,its⟩ xs.length node=7:=by unfold iC;rw [if_neg (by simpa using hc),if_pos hno]
   rw [ha];exact Gm _ A B xs.length its.length c d node 7 W (by decide) fun W2 hb2=>I_ A B c d xs its node W2 (hT.below (hb.trans (hb2.mono hb.size))) hR (hE.below (hb.trans (hb2.mono hb.size))) hc (by omega) hno
  ·have ha:iC ⟨aA xs,its⟩ xs.length node=0:=by unfold iC;rw [if_neg (by simpa using hc),if_neg (by rw [hno];decide)]
   have hin:0≤node∧node≤(xs.length:Int) - 1:=by simpa [Mist.within] using hno
   obtain⟨uh,rfl⟩:∃ k:Nat,node=(k:Int):=⟨node.toNat,by omega⟩;rw [ha,show ∀ x,vW x 0=x from fun _=>if_pos rfl];refine hok uh _ (fun W wb=>XD W wb A B c d xs its sz) W (fun W2 hb2=>?_) (fun W wb h=>hv uh sz W wb (by omega) hll.2 hll.1 hro hz hs h);have hb3:=hb.trans (hb2.mono hb.size);refine (PZ A B c d xs its uh _ W2 (hT.below hb3) hR (hE.below hb3) hc (by omega) (kX hs) (Nb hs (by show (aA xs).length≤_;rw [jJ];omega)) hno).mono ?_;rintro e w' ⟨h1,wb,S,h2,h3,_,h5,h6⟩;exact⟨h1,wb,h2,S,h3,h5,h6,(hT.below hb3).below h1⟩
 ·have ha:iC ⟨aA xs,its⟩ xs.length node=dN ⟨aA xs,its⟩:=by unfold iC;rw [if_pos hc]
  rw [ha,show ∀ x,vW x (dN ⟨aA xs,its⟩)=0 from fun _=>if_neg hc];exact Gm _ A B xs.length its.length c d node _ W hc fun W2 hb2=>KY A B c d xs its node W2 (hT.below (hb.trans (hb2.mono hb.size))) hR (hE.below (hb.trans (hb2.mono hb.size))) hc
theorem treeSize_any (A B:Option Addr)(c d:Nat)(xs:List NV)(its:List Int)(node:Int)(w:World)(hT:mq w A B xs its)(hR:xO (aA xs))(hE:Env w) :
  Calls Tryz.prog 34 #[.agg #[.slice A xs.length c,.slice B its.length d],.int .i64 node] w fun e w'=>e=.returned (.tuple #[.int .i64 (vW (ET ⟨aA xs,its⟩ node) (iC ⟨aA xs,its⟩ xs.length node)),.int .i64 (iC ⟨aA xs,its⟩ xs.length node)])∧Below w.heap.size w w' :=
 P9 A B xs.length its.length c d node _ _ w (FB _ ET A B c d xs its node w hT hR hE (fun uh V Q w h1 h2=>Gp A B xs.length its.length c d uh V Q w h1 h2) (fun uh sz W wb hn hi hx hro hz hs ⟨S,h1,h2,h3,h4⟩=>by
  refine (Xi wb xs.length uh _ S _ _ W h1 h2 (by omega)).mono ?_;rintro e w' ⟨rfl,hb⟩
  refine⟨?_,hb⟩
  rw [h3 uh (by omega)];have hp:=szPos hs (i:=uh) (by rw [jJ];omega)
  have:ET ⟨aA xs,its⟩ (uh:Int)=sz.getD uh 0:=by unfold ET;rw [hz];rfl
  rw [this]
  congr 2
  omega))
theorem JK (A B:Option Addr)(c d:Nat)(xs:List NV)(its:List Int)(node:Int)(w:World)(hT:mq w A B xs its)(hR:xO (aA xs))(hE:Env w) :
  Calls Tryz.prog 30 #[.agg #[.slice A xs.length c,.slice B its.length d],.int .i64 node] w fun e w'=>e=.returned (.tuple #[.int .i64 (vW (wh ⟨aA xs,its⟩ node) (iC ⟨aA xs,its⟩ xs.length node)),.int .i64 (iC ⟨aA xs,its⟩ xs.length node)])∧Below w.heap.size w w' :=
 Nc A B xs.length its.length c d node _ _ w (FB _ wh A B c d xs its node w hT hR hE (fun uh V Q w h1 h2=>Fa A B xs.length its.length c d uh V Q w h1 h2) (fun uh sz W wb hn hi hx hro hz hs ⟨S,h1,h2,h3,h4⟩=>by
  obtain⟨hG,Fb⟩:=nL (kX hs);rw [jJ] at Fb
  exact Tz wb xs.length uh _ S _ _ W h1 hG Fb (by omega) (by omega)))
theorem treeParent_any (A B:Option Addr)(c d:Nat)(xs:List NV)(its:List Int)(node:Int)(w:World)(hT:mq w A B xs its)(hR:xO (aA xs))(hE:Env w) :
  Calls Tryz.prog 35 #[.agg #[.slice A xs.length c,.slice B its.length d],.int .i64 node] w fun e w'=>e=.returned (.tuple #[.int .i64 (vW (CJ ⟨aA xs,its⟩ node) (iC ⟨aA xs,its⟩ xs.length node)),.int .i64 (iC ⟨aA xs,its⟩ xs.length node)])∧Below w.heap.size w w' :=
 JL A B xs.length its.length c d node _ _ w (FB _ CJ A B c d xs its node w hT hR hE (fun uh V Q w h1 h2=>DK A B xs.length its.length c d uh V Q w h1 h2) (fun uh sz W wb hn hi hx hro hz hs ⟨S,h1,h2,h3,h4⟩=>by
  obtain⟨hG,Fb⟩:=nL (kX hs);rw [jJ] at Fb
  exact Qh wb xs.length uh _ S _ _ W h1 Fb (by omega)))
theorem treeItem_any (A B:Option Addr)(c d:Nat)(xs:List NV)(its:List Int)(node:Int)(w:World)(hT:mq w A B xs its)(hR:xO (aA xs))(hE:Env w) :
  Calls Tryz.prog 37 #[.agg #[.slice A xs.length c,.slice B its.length d],.int .i64 node] w fun e w'=>e=.returned (.tuple #[.int .i64 (vW (Ht ⟨aA xs,its⟩ node) (iC ⟨aA xs,its⟩ xs.length node)),.int .i64 (iC ⟨aA xs,its⟩ xs.length node)])∧Below w.heap.size w w' :=
 P7 A B xs.length its.length c d node _ _ w (FB _ Ht A B c d xs its node w hT hR hE (fun uh V Q w h1 h2=>Gn A B xs.length its.length c d uh V Q w h1 h2) (fun uh sz W wb hn hi hx hro hz hs ⟨S,h1,h2,h3,h4⟩=>by
  obtain⟨hG,Fb⟩:=nL (kX hs);rw [jJ] at Fb
  obtain⟨q,r,hq,hr,hf,hl⟩:=Un (kX hs) hro.fo (i:=uh) (by show uh < (aA xs).length;rw [jJ];omega);refine (Xh wb xs.length uh q r d _ S _ B its W h1 hG Fb (by omega) (by omega) h4.items (by omega) hq hf hr hl).mono ?_;rintro e w' ⟨rfl,hb⟩
  refine⟨?_,hb⟩
  have hqi:(its.findIdx fun c=>decide ((uh:Int)≤c))=q:=zB hq (by omega) hf;unfold Ht;rw [hqi]))
end Go.Proofs.YthepmkjggfijoaaGreatDoor
namespace Go.Proofs.YthepmkjggfijoaaGreatDoor
open Go.RowKit Mist
attribute [local go_sem] aj aH aS aB ak
section
variable {P:Program} {md:Region.Mode} {l:List Oper} {Q:Exit→Act→World→Prop} {S:World→Prop} {oi:Oper} {fuel:Nat} {listed:Array Bool} {a:Act} {w:World}
end
end Go.Proofs.YthepmkjggfijoaaGreatDoor
namespace Go.Proofs.YthepmkjggfijoaaGreatDoor
open Go.RowKit Mist
end Go.Proofs.YthepmkjggfijoaaGreatDoor
namespace Go.Proofs.YthepmkjggfijoaaGreatDoor
open Go.RowKit Mist
attribute [local go_sem] aj aH aS aB ak
theorem rO {T:Tr}{n:Nat}{i:Int}(h:iC T n i=0):dN T=0∧0≤i∧i < (n:Int):=by
 unfold iC at h
 split at h
 ·rename_i h1;exact absurd h h1
 ·rename_i h1
  split at h
  ·cases h
  ·rename_i h2
   refine⟨by simpa using h1,?_⟩
   simp [Mist.within] at h2
   omega
section
variable (A B:Option Addr) (c d:Nat) (xs:List NV) (its:List Int) (node:Int) (w:World) (hT:mq w A B xs its) (hn:xs.length≤10000) (hm:its.length≤10000) (hl:∀ x ∈ xs,x.1.text.length≤100000000) (tL:∀ n ∈ aA xs,jq≤n.n∧n.n≤gq)
include hT hn hm hl tL
end
def pathV (T:Tr)(k:Int):List Int:=(AZ (cZ T.nodes) k.toNat).reverse.map fun (n:Nat)=>(n:Int)
def uq (T:Tr)(n:Nat)(k:Int):List Int:=if iC T n k=0 then pathV T k else []
theorem UN (P:List Int):∀ (f:Nat) (n:Int),(zJ P f n).length≤f
 | 0,_=>by simp [zJ]
 | f+1,n=>by
  rw [zJ];split
  ·simp
  ·rw [List.length_cons];have:=UN P f (P.getD n.toNat 0);omega
theorem aC.on {w w':World}{b:Nat}{T:TypeId}{cs:Array Value}(h:aC w b T cs)(hb:Below w.heap.size w w'):aC w' b T cs:=h.below hb h.lt
theorem btr {a b c:World}(h:Below a.heap.size a b)(k:Below b.heap.size b c):Below a.heap.size a c:=h.trans (k.mono h.size)
theorem OD (w:World)(A:Option Addr):IntsIn w A []:=⟨fun h=>absurd h (by simp)⟩
theorem tpath_any (A B:Option Addr)(c d:Nat)(xs:List NV)(its:List Int)(node:Int)(w:World)(hT:mq w A B xs its)(hR:xO (aA xs))(hE:Env w) :
  Calls Tryz.prog 36 #[.agg #[.slice A xs.length c,.slice B its.length d],.int .i64 node] w fun e w'=>Below w.heap.size w w'∧∃ Ag cap,e=.returned (.tuple #[.slice Ag (uq ⟨aA xs,its⟩ xs.length node).length cap,.int .i64 (iC ⟨aA xs,its⟩ xs.length node)])∧IntsIn w' Ag (uq ⟨aA xs,its⟩ xs.length node):=by
 refine (Dl A B c d xs its node w hT hR (fun W hb=>hE.below hb)).mono ?_;rintro e w' ⟨hb,⟨h1,rfl⟩ | ⟨h1,h2,h3,g,cap,rfl,hg,hc⟩⟩
 ·refine⟨hb,none,0,?_,?_⟩
  ·unfold uq;rw [if_neg h1];rfl
  ·unfold uq;rw [if_neg h1];exact OD _ _
 ·obtain⟨k,rfl⟩:∃ k:Nat,node=(k:Int):=⟨node.toNat,by omega⟩;obtain⟨hz,_,_⟩:=rO h1;obtain⟨_,hro,out,hs⟩:=iF hz;obtain⟨hG,Fb⟩:=nL (kX hs);rw [show (Tr.nodes ⟨aA xs,its⟩).length=xs.length from aD xs] at Fb
  have hu:zJ (cZ (aA xs)) (xs.length+1) (k:Int)=AZ (cZ (aA xs)) k:=by unfold AZ;rw [show (cZ (aA xs)).length=xs.length from Fb]
  rw [hu] at hc ⊢
  have hz:uq ⟨aA xs,its⟩ xs.length (k:Int)=(AZ (cZ (aA xs)) k).reverse.map fun (n:Nat)=>(n:Int):=by unfold uq;rw [if_pos h1];rfl
  refine⟨hb,some ⟨g,0,none⟩,cap,?_,?_⟩
  ·rw [hz,h1,List.length_map,List.length_reverse]
  ·rw [hz]
   refine⟨fun h0=>⟨g,0,rfl,?_,fun j z hj=>?_⟩⟩
   ·rw [List.length_map] at h0
    exact Ug (hc 0 _ (aaD h0))
   ·rw [List.getElem?_map] at hj
    rcases hq:(AZ (cZ (aA xs)) k).reverse[j]? with _ | q
    ·rw [hq] at hj;cases hj
    ·rw [hq] at hj
     injection hj with hj
     rw [Nat.zero_add,← hj];exact hc j q hq
end Go.Proofs.YthepmkjggfijoaaGreatDoor
namespace Go.Proofs.YthepmkjggfijoaaGreatDoor
open Go.RowKit Mist
theorem fo_sorted {ns:List Nd}{a b:Nat}{qs:List Int}(h:Fo ns a b qs):qs.Pairwise (· < ·):=by
 induction h with
 | nil a=>exact .nil
 | @snoc a m b qs0 n h k e i j =>
  rw [List.pairwise_append]
  refine⟨i,by simp,fun c hc d hd=>?_⟩
  rw [List.mem_singleton.1 hd];have h1:=h.ids c hc;have h2:=k.le;omega
def cntN (its:List Int)(i:Nat):Nat:=its.findIdx fun c=>decide ((i:Int)≤c)
theorem cnt_in:∀ {its:List Int} {i:Nat},its.Pairwise (· < ·)→(i:Int) ∈ its→its[cntN its i]? = some (i:Int)∧cntN its (i+1)=cntN its i+1
 | [],_,_,h=>by cases h
 | c :: r,i,hp,hm=>by
  rw [List.pairwise_cons] at hp
  unfold cntN;rcases List.mem_cons.1 hm with rfl | hm
  ·have h1:r.findIdx (fun c=>decide (((i+1:Nat):Int)≤c))=0:=by
    cases r with
    | nil=>rfl
    | cons d r=>rw [List.findIdx_cons,aaU (by have:=hp.1 d (List.mem_cons_self ..);omega)];rfl
   rw [List.findIdx_cons,List.findIdx_cons,aaU (Int.le_refl _),aaV (by omega),h1];exact⟨rfl,rfl⟩
  ·have hlt:=hp.1 _ hm;obtain⟨h1,h2⟩:=cnt_in hp.2 hm;rw [List.findIdx_cons,List.findIdx_cons,aaV (by omega),aaV (by omega)]
   show (c :: r)[cntN r i+1]? = _∧cntN r (i+1)+1=cntN r i+1+1
   exact⟨by rw [List.getElem?_cons_succ];exact h1,by rw [h2]⟩
theorem cnt_out:∀ {its:List Int} {i:Nat},its.Pairwise (· < ·)→(i:Int) ∉ its→cntN its (i+1)=cntN its i
 | [],_,_,_=>rfl
 | c :: r,i,hp,hm=>by
  rw [List.pairwise_cons] at hp
  have ih:=cnt_out (i:=i) hp.2 (fun h=>hm (List.mem_cons_of_mem _ h));have hne:c ≠ (i:Int):=fun h=>hm (by rw [h];exact List.mem_cons_self ..)
  unfold cntN;rw [List.findIdx_cons,List.findIdx_cons];by_cases h1:(i:Int)≤c
  ·rw [aaU h1,aaU (by omega)];rfl
  ·rw [aaV h1,aaV (by omega)]
   show cntN r (i+1)+1=cntN r i+1
   rw [ih]
theorem cnt_zero {its:List Int}(h:∀ c ∈ its,0≤c):cntN its 0=0:=by
 cases its with
 | nil=>rfl
 | cons c r=>unfold cntN;rw [List.findIdx_cons,aaU (by have:=h c (List.mem_cons_self ..);omega)];rfl
theorem cnt_all:∀ {its:List Int} {n:Nat},(∀ c ∈ its,c < (n:Int))→cntN its n=its.length
 | [],_,_=>rfl
 | c :: r,n,h=>by
  unfold cntN;rw [List.findIdx_cons,aaV (by have:=h c (List.mem_cons_self ..);omega)]
  show cntN r n+1=r.length+1
  rw [cnt_all fun d hd=>h d (List.mem_cons_of_mem _ hd)]
theorem cnt_le (its:List Int)(i:Nat):cntN its i≤its.length:=List.findIdx_le_length
def szN (T:Tr)(i:Nat):Nat:=(ET T (i:Int)).toNat
def allN (T:Tr)(q:Nat):Nat:=((T.items.take q).map fun k=>szN T k.toNat).sum
def kidSum (T:Tr)(ks:List Int):Nat:=(ks.map fun k=>szN T k.toNat).sum
structure SumAt (T:Tr) (i:Nat) (x:Nd):Prop where
 size:ET T (i:Int)=(szN T i:Int)
 sum:szN T i=1+kidSum T x.kids
 le:szN T i≤i+1
 kid:∀ k ∈ x.kids,0≤k∧k < (i:Int)
theorem dX.sums {T:Tr}(h:dX T){i:Nat}{x:Nd}(hx:T.nodes[i]? = some x):SumAt T i x:=by
 obtain⟨hc,hR⟩:=h.check;obtain⟨_,hro,_⟩:=iF hc;obtain⟨sz,hz,hs⟩:=qV.sizes hro.fo;have hi:=(aaE.1 hx).1;have e:∀ j:Nat,ET T (j:Int)=sz.getD j 0:=fun j=>by unfold ET;rw [hz];rfl
 have e2:∀ j:Nat,szN T j=(sz.getD j 0).toNat:=fun j=>by unfold szN;rw [e]
 have hp:=szPos hs hi;have hI:=(Nb hs (by have:=h.few;omega)).1 i x hx
 refine⟨by rw [e,e2];omega,?_,by rw [e2];exact hp.2,h.wf i x hx⟩
 rw [e2]
 show (sz.getD i 0).toNat=1+(x.kids.map fun k=>szN T k.toNat).sum
 rw [show (x.kids.map fun k=>szN T k.toNat)=x.kids.map fun k=>(sz.getD k.toNat 0).toNat from List.map_congr_left fun k _=>e2 _];exact hI
theorem dX.all {T:Tr}(h:dX T):allN T T.items.length=T.nodes.length∧cntN T.items T.nodes.length=T.items.length:=by
 obtain⟨hc,hR⟩:=h.check;obtain⟨_,hro,_⟩:=iF hc;obtain⟨sz,hz,hs⟩:=qV.sizes hro.fo;have e2:∀ j:Nat,szN T j=(sz.getD j 0).toNat:=fun j=>by unfold szN ET;rw [hz];rfl
 refine⟨?_,cnt_all fun c hc=>(h.fo.ids c hc).2⟩
 unfold allN;rw [List.take_length,show (T.items.map fun k=>szN T k.toNat)=T.items.map fun k=>(sz.getD k.toNat 0).toNat from List.map_congr_left fun k _=>e2 _,fo_sum hs h.fo,Nat.sub_zero]
theorem dX.ask {T:Tr}(h:dX T){i:Nat}(hi:i < T.nodes.length):iC T T.nodes.length (i:Int)=0:=by
 unfold iC;rw [if_neg (by rw [h.check.1];simp),if_neg];unfold Mist.within;rw [aaU (by omega),aaU (by omega)];simp
inductive WayAt (T:Tr) (i:Nat):Prop
 | root (p:CJ T (i:Int)=-1) (u:AZ (cZ T.nodes) i=[i]) (m:(i:Int) ∈ T.items)
 | kid (m:Nat) (x:Nd) (r:List Nat) (p:CJ T (i:Int)=(m:Int)) (lt:i < m) (hx:T.nodes[m]? = some x) (hk:(i:Int) ∈ x.kids) (u:AZ (cZ T.nodes) i=i :: m :: r) (n:(i:Int) ∉ T.items)
theorem dX.way {T:Tr}(h:dX T){i:Nat}(hi:i < T.nodes.length):WayAt T i:=by
 obtain⟨hP,hPl⟩:=nL h.wf;have hpv:CJ T (i:Int)=(cZ T.nodes).getD i 0:=rfl;rcases hP i (by omega) with hp | ⟨h1,h2⟩
 ·have hu:=Dp hp;obtain⟨q,r,hq,_,_,hg⟩:=Un h.wf h.fo hi;rw [hu] at hg
  obtain rfl:i=r:=by simpa using hg
  exact .root (by rw [hpv,hp]) hu (aaM hq)
 ·obtain⟨m,hm⟩:∃ m:Nat,(cZ T.nodes).getD i 0=(m:Int):=⟨((cZ T.nodes).getD i 0).toNat,by omega⟩;have h1':=h1;rw [hm] at h1 h2
  obtain⟨x,hx,hk⟩:=kid_par h.wf hi hm;have hu:=FQ hP hm (by omega)
  have hmm:∃ r,AZ (cZ T.nodes) m=m :: r:=by
   rcases hP m (by omega) with hp | ⟨g1,g2⟩
   ·exact⟨[],Dp hp⟩
   ·obtain⟨k,hk⟩:∃ k:Nat,(cZ T.nodes).getD m 0=(k:Int):=⟨((cZ T.nodes).getD m 0).toNat,by omega⟩;exact⟨_,FQ hP hk (by omega)⟩
  obtain⟨r,hr⟩:=hmm;refine .kid m x r (by rw [hpv,hm]) (by omega) hx hk (by rw [hu,hr]) fun hin=>?_
  have:=UC h.wf h.fo hin
  rw [hm] at this;omega
theorem dX.path {T:Tr}(h:dX T){i:Nat}(hi:i < T.nodes.length):uq T T.nodes.length (i:Int)=(AZ (cZ T.nodes) i).reverse.map fun (n:Nat)=>(n:Int):=by
 unfold uq;rw [if_pos (h.ask hi)];rfl
theorem all_step {T:Tr}{q:Nat}{c:Int}(h:T.items[q]? = some c):allN T (q+1)=allN T q+szN T c.toNat:=by
 unfold allN;obtain⟨hq,e⟩:=aaE.1 h;rw [List.take_succ,h,List.map_append,List.sum_append]
 show _+(szN T c.toNat+0)=_
 rw [Nat.add_zero]
theorem path_at {l:List Nat}{i:Nat}{r:List Nat}(h:l=i :: r):(l.reverse.map fun (n:Nat)=>(n:Int))[l.length - 1]? = some (i:Int):=by
 subst h;rw [List.getElem?_map,List.reverse_cons,List.getElem?_append_right (by rw [List.length_reverse,List.length_cons];omega),List.length_reverse,List.length_cons,show r.length+1 - 1 - r.length=0 by omega];rfl
theorem path_at2 {l:List Nat}{i m:Nat}{r:List Nat}(h:l=i :: m :: r):(l.reverse.map fun (n:Nat)=>(n:Int))[l.length - 2]? = some (m:Int):=by
 subst h;rw [List.getElem?_map,List.reverse_cons,List.getElem?_append_left (by rw [List.length_reverse,List.length_cons,List.length_cons];omega),List.reverse_cons,List.getElem?_append_right (by rw [List.length_reverse,List.length_cons,List.length_cons];omega),List.length_reverse,List.length_cons,List.length_cons,show r.length+1+1 - 2 - r.length=0 by omega];rfl
theorem rows_tAt {g:Nat}{w:World}{A B:Option Addr}{c d:Nat}{xs:List NV}{its:List Int}(h:RowsIn g w (.slice A xs.length c) (.slice B its.length d) xs its)(hk:∀ x ∈ xs,x.1.kids.length≤1000000):mq w A B xs its:=by
 refine⟨fun h0=>?_,yI h.row rfl⟩
 obtain⟨gb,e,hn⟩:=Ee h.own h0 (fun x hx=>⟨_,h.kids x hx⟩) hk;exact⟨gb,0,e,hn⟩
structure CopyAt (W:World) (A B:Option Addr) (ns:List Nd) (its:List Int):Prop where
 ex:∃ xs,mq W A B xs its∧aA xs=ns
theorem CopyAt.below {W W':World}{A B:Option Addr}{ns:List Nd}{its:List Int}(h:CopyAt W A B ns its)(hb:Below W.heap.size W W'):CopyAt W' A B ns its:=by
 obtain⟨xs,h1,h2⟩:=h.ex;exact⟨xs,h1.below hb,h2⟩
section
variable {T:Tr} (F:dX T) {W:World} {A B:Option Addr} (c d:Nat) (hT:CopyAt W A B T.nodes T.items)
include F hT
theorem own_copy:Calls Tryz.prog 29 #[.agg #[.slice A T.nodes.length c,.slice B T.items.length d]] W fun e w'=>Below W.heap.size W w'∧∃ An Bn cn dn,e=.returned (.agg #[.slice An T.nodes.length cn,.slice Bn T.items.length dn])∧CopyAt w' An Bn T.nodes T.items:=by
 obtain⟨xs,h1,h2⟩:=hT.ex;have hf:=F.few;have hi:=F.itf;have hl:xs.length=T.nodes.length:=by rw [← aD,h2]
 have hw:=F.wf
 have h:=own_any A B c d xs T.items W h1 (by omega) (by omega) (fun x hx k hk=>by
  obtain⟨i,hi,rfl⟩:=List.getElem_of_mem hx
  have:=hw i xs[i].1 (by rw [← h2];exact gP (aaD hi)) k hk
  unfold jq gq;omega)
 rw [hl] at h
 refine h.mono ?_;rintro e w' ⟨hb,nv,iv,ext,rfl,Oz,hex⟩;have hel:ext.length=T.nodes.length:=by rw [← aD,hex,h2]
 obtain⟨An,cn,rfl⟩:=dh Oz.own;obtain⟨Bn,dn,rfl⟩:=dh Oz.row;rw [hel]
 refine⟨hb,An,Bn,cn,dn,rfl,⟨ext,rows_tAt Oz ?_,by rw [hex,h2]⟩⟩
 intro x hx;refine F.good.kids x.1 ?_;rw [← h2,← hex];exact List.mem_map.2 ⟨x,hx,rfl⟩
variable (hE:Env W) {i:Nat} (hi:i < T.nodes.length)
include hE hi
theorem size_copy:Calls Tryz.prog 34 #[.agg #[.slice A T.nodes.length c,.slice B T.items.length d],.int .i64 (i:Int)] W fun e w'=>e=.returned (.tuple #[.int .i64 (szN T i:Int),.int .i64 0])∧Below W.heap.size W w':=by
 obtain⟨xs,h1,h2⟩:=hT.ex;have hl:xs.length=T.nodes.length:=by rw [← aD,h2]
 have hTe:(⟨aA xs,T.items⟩:Tr)=T:=by rw [h2]
 have h:=treeSize_any A B c d xs T.items (i:Int) W h1 (by rw [h2];exact F.check.2) hE;rw [hl,hTe,F.ask hi] at h
 obtain⟨x,hx⟩:∃ x,T.nodes[i]? = some x:=⟨_,aaD hi⟩;rw [show vW (ET T (i:Int)) 0=(szN T i:Int) from (F.sums hx).size] at h
 exact h
theorem parent_copy:Calls Tryz.prog 35 #[.agg #[.slice A T.nodes.length c,.slice B T.items.length d],.int .i64 (i:Int)] W fun e w'=>e=.returned (.tuple #[.int .i64 (CJ T (i:Int)),.int .i64 0])∧Below W.heap.size W w':=by
 obtain⟨xs,h1,h2⟩:=hT.ex;have hl:xs.length=T.nodes.length:=by rw [← aD,h2]
 have hTe:(⟨aA xs,T.items⟩:Tr)=T:=by rw [h2]
 have h:=treeParent_any A B c d xs T.items (i:Int) W h1 (by rw [h2];exact F.check.2) hE;rw [hl,hTe,F.ask hi] at h
 exact h
theorem depth_copy:Calls Tryz.prog 30 #[.agg #[.slice A T.nodes.length c,.slice B T.items.length d],.int .i64 (i:Int)] W fun e w'=>e=.returned (.tuple #[.int .i64 ((AZ (cZ T.nodes) i).length:Int),.int .i64 0])∧Below W.heap.size W w':=by
 obtain⟨xs,h1,h2⟩:=hT.ex;have hl:xs.length=T.nodes.length:=by rw [← aD,h2]
 have hTe:(⟨aA xs,T.items⟩:Tr)=T:=by rw [h2]
 have h:=JK A B c d xs T.items (i:Int) W h1 (by rw [h2];exact F.check.2) hE;rw [hl,hTe,F.ask hi] at h
 exact h
theorem item_copy:Calls Tryz.prog 37 #[.agg #[.slice A T.nodes.length c,.slice B T.items.length d],.int .i64 (i:Int)] W fun e w'=>e=.returned (.tuple #[.int .i64 (cntN T.items i:Int),.int .i64 0])∧Below W.heap.size W w':=by
 obtain⟨xs,h1,h2⟩:=hT.ex;have hl:xs.length=T.nodes.length:=by rw [← aD,h2]
 have hTe:(⟨aA xs,T.items⟩:Tr)=T:=by rw [h2]
 have h:=treeItem_any A B c d xs T.items (i:Int) W h1 (by rw [h2];exact F.check.2) hE;rw [hl,hTe,F.ask hi] at h
 exact h
theorem path_copy:Calls Tryz.prog 36 #[.agg #[.slice A T.nodes.length c,.slice B T.items.length d],.int .i64 (i:Int)] W fun e w'=>Below W.heap.size W w'∧∃ Ag cap,e=.returned (.tuple #[.slice Ag (AZ (cZ T.nodes) i).length cap,.int .i64 0])∧IntsIn w' Ag ((AZ (cZ T.nodes) i).reverse.map fun (n:Nat)=>(n:Int)):=by
 obtain⟨xs,h1,h2⟩:=hT.ex;have hl:xs.length=T.nodes.length:=by rw [← aD,h2]
 have hTe:(⟨aA xs,T.items⟩:Tr)=T:=by rw [h2]
 have h:=tpath_any A B c d xs T.items (i:Int) W h1 (by rw [h2];exact F.check.2) hE;rw [hl,hTe,F.ask hi,F.path hi] at h
 rw [show ((AZ (cZ T.nodes) i).reverse.map fun (n:Nat)=>(n:Int)).length=(AZ (cZ T.nodes) i).length by rw [List.length_map,List.length_reverse]] at h
 exact h
end
theorem sum_take_le:∀ (l:List Nat) (q:Nat),(l.take q).sum≤l.sum:=fun l q=>by
 have h:=congrArg List.sum (List.take_append_drop q l);rw [List.sum_append] at h
 omega
theorem kidSum_take (T:Tr)(ks:List Int)(j:Nat):kidSum T (ks.take j)≤kidSum T ks:=by
 unfold kidSum;rw [List.map_take];exact sum_take_le _ _
theorem kidSum_step (T:Tr){ks:List Int}{j:Nat}{q:Int}(h:ks[j]? = some q):kidSum T (ks.take (j+1))=kidSum T (ks.take j)+szN T q.toNat:=by
 unfold kidSum;rw [List.take_add_one,h,List.map_append,List.sum_append]
 show _+(szN T q.toNat+0)=_
 omega
theorem allN_le (T:Tr)(q:Nat):allN T q≤allN T T.items.length:=by
 unfold allN;rw [List.map_take,List.take_length];exact sum_take_le _ _
theorem IntsIn.cell {w:World}{A:Option Addr}{ks:List Int}(h:IntsIn w A ks){b o j:Nat}{q:Int}(hA:A=some ⟨b,o,none⟩)(hq:ks[j]? = some q):w.cell? ⟨b,o+j,none⟩=some (.int .i64 q):=by
 obtain⟨b',o',e,_,hc⟩:=h.ex (by have:=(aaE.1 hq).1;omega);rw [hA] at e
 cases e;exact hc j q hq
end Go.Proofs.YthepmkjggfijoaaGreatDoor
