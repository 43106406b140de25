/-
  PARTS of the proof: N13, TU, TV3, N14, N18, N19.
-/
import Derived.Laws.EntriesVeiled
import Derived.Deep.QuietTactic
import Derived.RangeFuncNested
import Derived.RangeFuncBound
import Derived.RangeFuncCalls
import Derived.RangeFuncLeaves
import Derived.Shelf.Abstract
import Derived.Shelf.RegionOpen
import Derived.OwnWalkIn
import Derived.TacticsInMore
import Derived.LoopNIn
import Derived.LoopIn
import Derived.Test.YthepmkjggfijoaaGreatDoorShelf
import Derived.Test.YthepmkjggfijoaaGreatDoorB07
import Derived.Test.YthepmkjggfijoaaGreatDoorB21
import Derived.Test.YthepmkjggfijoaaGreatDoorB29
import Derived.Test.YthepmkjggfijoaaGreatDoorB30
set_option linter.all false
set_option maxRecDepth 100000
set_option maxHeartbeats 4000000
open Go.Lib (hid)
namespace Go.Proofs.YthepmkjggfijoaaGreatDoor
open Go.RowKit Mist
attribute [local go_sem] ofL_extract ofL_size ofL_get ofL_bytes ofL_append
def firstN (p:Nd→Bool) (l:List Nd):Int :=
 match l.findIdx? p with
 | some i=>(i:Int)
 | none=>-1
theorem firstN_hit {p:Nd→Bool} {l:List Nd} {k:Nat} {x:Nd} (h:(l.take k).all (fun y=>!p y)=true) (hx:l[k]? = some x) (hp:p x=true):firstN p l=(k:Int):=by
 have:l.findIdx? p=some k:=by
  rw [List.findIdx?_eq_some_iff_getElem]
  obtain⟨hl,rfl⟩:=List.getElem?_eq_some_iff.1 hx
  refine⟨hl,hp,fun j hj=>?_⟩
  have:=List.all_eq_true.1 h l[j] (by rw [List.mem_take_iff_getElem];exact⟨j,by omega,rfl⟩)
  simpa using this
 unfold firstN;rw [this]
theorem firstN_miss {p:Nd→Bool} {l:List Nd} (h:l.all (fun y=>!p y)=true):firstN p l=-1:=by
 have:l.findIdx? p=none:=by
  rw [List.findIdx?_eq_none_iff]
  intro x hx
  have:=List.all_eq_true.1 h x hx
  simpa using this
 unfold firstN;rw [this]
def outT (T:Tr):Int:=firstN (fun x=>!Mist.sized T x) T.nodes
theorem outT_neg (T:Tr):decide (0≤outT T)=!(T.nodes.all (Mist.sized T)):=by
 unfold outT firstN
 rcases h:T.nodes.findIdx? (fun x=>!Mist.sized T x) with _ | i
 ·rw [List.findIdx?_eq_none_iff] at h
  have:T.nodes.all (Mist.sized T)=true:=by
   rw [List.all_eq_true];intro x hx;simpa using h x hx
  rw [this];rfl
 ·rw [List.findIdx?_eq_some_iff_getElem] at h
  obtain⟨hl,hp,_⟩:=h
  have:T.nodes.all (Mist.sized T)=false:=by
   rw [List.all_eq_false];exact⟨_,List.getElem_mem hl,by simpa using hp⟩
  rw [this]
  show decide ((0:Int)≤(i:Int))=true
  exact decide_eq_true (by omega)
section
variable (xs:List NV) (its:List Int) (A:Option Addr) (n c:Nat) (B:Option Addr) (m d:Nat) (w0:World) (hT:TAt w0 A B xs its) (hn:n=xs.length) (hm:m=its.length)
include hT hn
theorem oversize (tb:Nat) (x:Nd) (Ak:Option Addr) (nk ck:Nat) (w:World) (hb:Below w0.heap.size w0 w) (ht:Blk w tb 26 #[.slice A n c,.slice B m d]) (hC:ChooseOk ⟨nds xs,its⟩ x) (hnk:nk=x.kids.length) (hl:nk≤1000000) (hI:IntsIn w0 Ak x.kids) :
  Calls Tryz.prog 96 #[.agg #[.int .u8 x.kind,.string (ofL x.text),.int .i64 x.n,.slice Ak nk ck,.int .i64 x.at_],.pointer (some ⟨tb,0,none⟩)] w fun e w'=>e=.returned (.bool (!Mist.sized ⟨nds xs,its⟩ x))∧Below w.heap.size w w':=by
 have HS:=hid (sized_any xs its A n c B m d x Ak nk ck (w.alloc (.cells #[.int .u8 x.kind,.string (ofL x.text),.int .i64 x.n,.slice Ak nk ck,.int .i64 x.at_] 50)) ((hT.below hb).below (balloc (Below.refl _ _) (Nat.le_refl _))) hn hC hnk hl ((hI.below hb).below (balloc (Below.refl _ _) (Nat.le_refl _))))
 have t0:=ht.cell 0
 have t1:=ht.cell 1
 have htl:=ht.lt
 obtain⟨T,hTT⟩:∃ T:Tr,T=⟨nds xs,its⟩:=⟨_,rfl⟩
 rw [← hTT] at HS ⊢
 clear hT hC hnk hI hb ht hTT hn
 go_enter Tryz.func96,Tryz.ntmps96
 go_wp2_with fail
 refine HS.out.mono ?_
 rintro e w2 ⟨rfl,hb⟩
 go_wp2_with fail
 go_ret
 exact⟨rfl,(balloc (Below.refl _ _) (Nat.le_refl _)).trans (hb.mono (by simp))⟩
theorem index_any (hn6:n≤100000) (tb:Nat) (w:World) (hb:Below w0.heap.size w0 w) (ht:Blk w tb 26 #[.slice A n c,.slice B m d]) (hC:∀ x ∈ nds xs,ChooseOk ⟨nds xs,its⟩ x) :
  Calls Tryz.prog 75 #[.slice A n c,.func (.func 96) #[] #[.pointer (some ⟨tb,0,none⟩)]] w fun e w'=>e=.returned (.int .i64 (outT ⟨nds xs,its⟩))∧Below w.heap.size w w':=by
 have HO:=hid (fun tb x Ak nk ck w hb ht hC hnk hl hI=>oversize xs its A n c B m d w0 hT hn tb x Ak nk ck w hb ht hC hnk hl hI)
 obtain⟨T,hTT⟩:∃ T:Tr,T=⟨nds xs,its⟩:=⟨_,rfl⟩
 have HTL:=hid (show T.nodes=nds xs by rw [hTT])
 rw [← hTT]
 have HTT:=hid hTT;clear hTT
 have HT:=hid hT;clear hT
 have HN:=hid hn;clear hn
 have HC:=hid hC;clear hC
 have HB:=hid hb;clear hb
 have HTB:=hid ht;clear ht
 go_enter Tryz.func75,Tryz.ntmps75
 go_wp2_with fail
 go_loopw [8] (fun i wr=>∃ k:Nat,k≤n∧i=.int .i64 k∧Hid (((nds xs).take k).all (fun y=>!(!Mist.sized T y))=true)∧Hid (Below w.heap.size w wr)) (fun i _=>n - (intOf i).toNat)
 case atStart=>exact⟨0,Nat.zero_le _,rfl,hid rfl,hid (Below.refl _ _)⟩
 case round =>
  obtain⟨wo,rfl⟩:∃ wo:World,wo=wr:=⟨_,rfl⟩
  obtain⟨k,hk,rfl,HA,HL⟩:=hrel
  by_cases hkn:k < n
  ·obtain⟨b,o,rfl,hN⟩:=HT.out.nodes (by rw [← HN.out];omega)
   obtain⟨x,hx⟩:∃ x,xs[k]? = some x:=xs_at (by rw [← HN.out];exact hkn)
   have hb0:=HB.out.trans (HL.out.mono HB.out.size)
   have c0:=(hb0.cell (p:=⟨b,o+k * 5,none⟩) hN.lt).trans (hN.c0 k x hx)
   have c1:=(hb0.cell (p:=⟨b,o+k * 5+1,none⟩) hN.lt).trans (hN.c1 k x hx)
   have c2:=(hb0.cell (p:=⟨b,o+k * 5+2,none⟩) hN.lt).trans (hN.c2 k x hx)
   have c3:=(hb0.cell (p:=⟨b,o+k * 5+3,none⟩) hN.lt).trans (hN.c3 k x hx)
   have c4:=(hb0.cell (p:=⟨b,o+k * 5+4,none⟩) hN.lt).trans (hN.c4 k x hx)
   obtain⟨Ak,ck,hxe,hxl,hxk⟩:=hN.kid hx
   rw [hxe] at c3
   have hmem:x.1 ∈ nds xs:=List.mem_map_of_mem (List.mem_of_getElem? hx)
   have HOO:=hid (HO.out tb x.1 Ak _ ck wo hb0 (HTB.out.below HL.out HTB.out.lt) (HC.out x.1 hmem) rfl hxl hxk)
   rw [← HTT.out] at HOO
   have HX:=hid (nds_get hx)
   clear hN hx hxe hb0 hmem hxk
   have i1:(0:Int)≤(k:Int):=by omega
   have i2:(k:Int) < (n:Int):=by omega
   have i3:decide (k < n)=true:=decide_eq_true hkn
   have HS:=hid (show (nds xs).take (k+1)=(nds xs).take k ++ [x.1] by rw [List.take_add_one,HX.out];rfl)
   cases hs:Mist.sized T x.1
   ·have HSX:=hid hs;clear hs
    have HR:=hid (show outT T=(k:Int) by
     unfold outT
     rw [HTL.out]
     exact firstN_hit HA.out HX.out (by rw [HSX.out];rfl))
    go_wp2_with fail
    refine HOO.out.mono ?_
    rintro e w2 ⟨rfl,hb2⟩
    rw [HSX.out]
    go_wp2_with fail
    go_ret
    exact⟨by rw [HR.out];rfl,HL.out.trans (hb2.mono HL.out.size)⟩
   ·have HSX:=hid hs;clear hs
    go_wp2_with fail
    refine HOO.out.mono ?_
    rintro e w2 ⟨rfl,hb2⟩
    rw [HSX.out]
    have HL2:=hid (HL.out.trans (hb2.mono HL.out.size))
    clear hb2
    go_wp2_with fail
    exact⟨⟨k+1,by omega,by go_num,hid (by rw [HS.out,List.all_append,HA.out];simp [HSX.out]),HL2⟩,by simp [intOf];omega⟩
  ·have HR:=hid (show outT T=-1 by
    have h9:=HA.out
    rw [List.take_of_length_le (by rw [nds_len,← HN.out];omega)] at h9
    unfold outT
    rw [HTL.out]
    exact firstN_miss h9)
   have i3:decide (k < n)=false:=decide_eq_false hkn
   go_wp2_with fail
   go_ret
   exact⟨by rw [HR.out];rfl,HL.out⟩
end
theorem outsized_any (xs:List NV) (its:List Int) (A:Option Addr) (c:Nat) (B:Option Addr) (m d:Nat) (w:World) (hT:TAt w A B xs its) (hn6:xs.length≤100000) (hC:∀ x ∈ nds xs,ChooseOk ⟨nds xs,its⟩ x) :
  Calls Tryz.prog 54 #[.agg #[.slice A xs.length c,.slice B m d]] w fun e w'=>e=.returned (.int .i64 (outT ⟨nds xs,its⟩))∧Below w.heap.size w w':=by
 have HI:=hid (index_any xs its A xs.length c B m d w hT rfl hn6 w.heap.size (w.alloc (.cells #[.slice A xs.length c,.slice B m d] 26)) (balloc (Below.refl _ _) (Nat.le_refl _)) (Blk.new _ _ _) hC)
 clear hT hC
 go_enter Tryz.func54,Tryz.ntmps54
 go_wp2_with fail
 refine HI.out.mono ?_
 rintro e w2 ⟨rfl,hb⟩
 go_wp2_with fail
 go_ret
 exact⟨rfl,(balloc (Below.refl _ _) (Nat.le_refl _)).trans (hb.mono (by simp))⟩
end Go.Proofs.YthepmkjggfijoaaGreatDoor
namespace Go.Proofs.YthepmkjggfijoaaGreatDoor
open Go.RowKit Mist
def largeB (n m:Nat):Bool:=decide (800 < n) || decide (60 < m)
theorem large_any (A B:Option Addr) (n m c d:Nat) (w:World):Calls Tryz.prog 52 #[.agg #[.slice A n c,.slice B m d]] w fun e w'=>e=.returned (.bool (largeB n m))∧Below w.heap.size w w':=by
 by_cases h1:800 < n
 ·have a1:decide ((800:Int) < (n:Int))=true:=decide_eq_true (by omega)
  have HX:=hid (show largeB n m=true by simp [largeB,h1])
  go_enter Tryz.func52,Tryz.ntmps52
  go_wp2
  go_ret
  exact⟨(by rw [HX.out];rfl),balloc (Below.refl _ _) (Nat.le_refl _)⟩
 ·have a1:decide ((800:Int) < (n:Int))=false:=decide_eq_false (by omega)
  by_cases h2:60 < m
  ·have a2:decide ((60:Int) < (m:Int))=true:=decide_eq_true (by omega)
   have HX:=hid (show largeB n m=true by simp [largeB,h2])
   go_enter Tryz.func52,Tryz.ntmps52
   go_wp2
   go_ret
   exact⟨(by rw [HX.out];rfl),balloc (Below.refl _ _) (Nat.le_refl _)⟩
  ·have a2:decide ((60:Int) < (m:Int))=false:=decide_eq_false (by omega)
   have HX:=hid (show largeB n m=false by simp [largeB,h1,h2])
   go_enter Tryz.func52,Tryz.ntmps52
   go_wp2
   go_ret
   exact⟨(by rw [HX.out];rfl),balloc (Below.refl _ _) (Nat.le_refl _)⟩
end Go.Proofs.YthepmkjggfijoaaGreatDoor
namespace Go.Proofs.YthepmkjggfijoaaGreatDoor
open Go.RowKit Mist
def deepestOf (ns:List Nd):Int:=if ns.length=0 then 0 else Lib.maxOf ((depthsOf ns).map fun (d:Nat)=>(d:Int))
theorem deepest_any (b o c m d:Nat) (B:Option Addr) (xs:List NV) (w:World) (hN:KidsAt w b o xs) (hW:Wf (nds xs)) (hn:xs.length≤100000) (h0:0 < xs.length) :
  Calls Tryz.prog 53 #[.agg #[.slice (some ⟨b,o,none⟩) xs.length c,.slice B m d]] w fun e w'=>e=.returned (.int .i64 (deepestOf (nds xs)))∧Below w.heap.size w w':=by
 have HD:=hid (depths_any b o c m d B xs (w.alloc (.cells #[.slice (some ⟨b,o,none⟩) xs.length c,.slice B m d] 26)) (hN.below ((Below.refl _ _).alloc (Nat.le_refl _) _)) hW hn)
 have HX:=hid (show deepestOf (nds xs)=Lib.maxOf ((depthsOf (nds xs)).map fun (d:Nat)=>(d:Int)) by unfold deepestOf;rw [nds_len,if_neg (by omega)])
 have q0:((xs.length:Int) == 0)=false:=by simp;intro e;subst e;simp at h0
 have HL:=hid (show (depthsOf (nds xs)).length=xs.length by unfold depthsOf;rw [dRun_len,List.length_replicate,nds_len])
 clear hN hW
 go_enter Tryz.func53,Tryz.ntmps53
 go_wp2_with fail
 refine HD.out.mono ?_
 rintro e w1 ⟨g,rfl,hg,hb,hl⟩
 have HB:=hid hb;clear hb
 have HLW:=hid hl;clear hl
 go_wp2_with fail
 refine (Tryz.slices_Max_int g 0 xs.length xs.length ((depthsOf (nds xs)).map fun (d:Nat)=>(d:Int)) w1 h0 (by rw [List.length_map,HL.out];exact Nat.le_refl _) (by omega) (fun j hj=>by
  rw [List.length_map] at hj
  rw [Nat.zero_add,HB.out.cell j,iA_get _ j hj]
  simp [List.getD_eq_getElem?_getD,List.getElem?_eq_getElem hj])).mono ?_
 rintro e w2 ⟨rfl,rfl⟩
 go_wp2_with fail
 go_ret
 refine⟨?_,(balloc (Below.refl _ _) (Nat.le_refl _)).trans (HLW.out.mono (by simp))⟩
 rw [HX.out,List.take_of_length_le (by rw [List.length_map,HL.out];exact Nat.le_refl _)]
 rfl
end Go.Proofs.YthepmkjggfijoaaGreatDoor
namespace Go.Proofs.YthepmkjggfijoaaGreatDoor
open Go.RowKit Mist
def deepT (T:Tr):Int:=deepestOf T.nodes
def checkW (T:Tr):Int :=
 if Mist.large T=true then 5
 else if (List.range T.nodes.length).all (Mist.formed T)=false then 4
 else if Mist.ordered T=false∨Mist.signed T=false then 4
 else if 30 < deepT T then 5
 else if 0≤outT T then 3 else 0
theorem large_nm (xs:List NV) (its:List Int):largeB xs.length its.length=Mist.large ⟨nds xs,its⟩:=by
 unfold largeB Mist.large;rw [nds_len]
theorem formed_kids {T:Tr} {i:Nat} (h:Mist.formed T i=true):∀ c ∈ (nd T i).kids,0≤c∧c≤(i:Int) - 1:=((Mist.formed_iff T i).1 h).2.2
theorem all_formed {T:Tr} (h:(List.range T.nodes.length).all (Mist.formed T)=true) (i:Nat) (hi:i < T.nodes.length):Mist.formed T i=true:=List.all_eq_true.1 h i (List.mem_range.2 hi)
theorem choose_ok {T:Tr} (hn:∀ n ∈ T.nodes,lowN≤n.n∧n.n≤highN) (h:(List.range T.nodes.length).all (Mist.formed T)=true):∀ x ∈ T.nodes,ChooseOk T x:=by
 intro x hx h40
 obtain⟨i,hi,rfl⟩:=List.getElem_of_mem hx
 have e:T.nodes[i]? = some T.nodes[i]:=List.getElem?_eq_getElem hi
 have hf:=(Mist.formed_iff T i).1 (all_formed h i hi)
 rw [nd_of e] at hf
 obtain⟨h1,_,h3⟩:=hf
 have hr:=(Mist.shape_ok T.nodes[i] (kinds T T.nodes[i].kids) (by simp [kinds]) (hn _ hx)).1 h1
 have hm:T.nodes[i].kids.length=2:=by
  have:=hr.2.2.2.1
  simpa [manyK,h40] using this
 obtain⟨a,b,hab⟩:∃ a b,T.nodes[i].kids=[a,b]:=by
  match hk:T.nodes[i].kids,hm with
  | [a,b],_=>exact⟨a,b,rfl⟩
 rw [hab] at h3
 have ha:=h3 a (by simp)
 have hb:=h3 b (by simp)
 have hk:=hr.2.2.2.2.2
 rw [hab] at hk
 have hka:=hk 0 (by simp [kinds])
 have hkb:=hk 1 (by simp [kinds])
 simp [kidK,h40,kinds] at hka hkb
 have num:∀ j:Nat,j < T.nodes.length→(nd T j).kind=1→-9999≤(nd T j).n∧(nd T j).n≤9999:=by
  intro j hj hk1
  have hf:=(Mist.formed_iff T j).1 (all_formed h j hj)
  have hrj:=(Mist.shape_ok (nd T j) (kinds T (nd T j).kids) (by simp [kinds]) (hn _ (List.mem_of_getElem? (nd_at hj)))).1 hf.1
  have:=hrj.2.2.2.2.1
  simpa [numberK,hk1,Mist.within] using this
 refine⟨a.toNat,b.toNat,?_,by omega,by omega,num _ (by omega) hka,num _ (by omega) hkb⟩
 rw [hab]
 congr 1
 ·omega
 ·congr 1;omega
theorem items_in {T:Tr} (h:(List.range T.nodes.length).all (Mist.formed T)=true) (ho:Mist.ordered T=true):∀ q ∈ T.items,0≤q∧q < (T.nodes.length:Int):=by
 have hr:=ordered_fo (t:=T) (fun i n e=>by
  have:=formed_kids (all_formed h i (List.getElem?_eq_some_iff.1 e).1)
  rwa [nd_of e] at this) ho
 intro q hq
 have:=hr.fo.ids q hq
 omega
theorem deepest_zero (A B:Option Addr) (c m d:Nat) (w:World):Calls Tryz.prog 53 #[.agg #[.slice A 0 c,.slice B m d]] w fun e w'=>e=.returned (.int .i64 0)∧Below w.heap.size w w':=by
 go_enter Tryz.func53,Tryz.ntmps53
 go_wp2
 go_ret
 exact⟨rfl,balloc (Below.refl _ _) (Nat.le_refl _)⟩
theorem deepest_full (A B:Option Addr) (c m d:Nat) (xs:List NV) (its:List Int) (w:World) (hT:TAt w A B xs its) (hn:xs.length≤100000) (hW:Wf (nds xs)) :
  Calls Tryz.prog 53 #[.agg #[.slice A xs.length c,.slice B m d]] w fun e w'=>e=.returned (.int .i64 (deepestOf (nds xs)))∧Below w.heap.size w w':=by
 rcases Nat.eq_zero_or_pos xs.length with h0 | h0
 ·have hx:xs=[]:=List.eq_nil_of_length_eq_zero h0
  subst hx
  exact deepest_zero A B c m d w
 ·obtain⟨b,o,rfl,hN⟩:=hT.nodes h0
  exact deepest_any b o c m d B xs w hN.kids hW hn h0
theorem formed_wf {T:Tr} (h:(List.range T.nodes.length).all (Mist.formed T)=true):Wf T.nodes:=by
 intro i x hx q hq
 have:=formed_kids (all_formed h i (List.getElem?_eq_some_iff.1 hx).1)
 rw [nd_of hx] at this
 have:=this q hq
 omega
theorem treeCheck_any (A B:Option Addr) (c d:Nat) (xs:List NV) (its:List Int) (w:World) (hT:TAt w A B xs its) (hR:TrR (nds xs)) (hE:Env w) :
  Calls Tryz.prog 22 #[.agg #[.slice A xs.length c,.slice B its.length d]] w fun e w'=>e=.returned (.int .i64 (checkW ⟨nds xs,its⟩))∧Below w.heap.size w w':=by
 obtain⟨n,hnn⟩:∃ n,n=xs.length:=⟨_,rfl⟩
 obtain⟨m,hmm⟩:∃ m,m=its.length:=⟨_,rfl⟩
 obtain⟨T,hTT⟩:∃ T:Tr,T=⟨nds xs,its⟩:=⟨_,rfl⟩
 have HLG:=hid (show largeB n m=Mist.large T by rw [hTT,hnn,hmm];exact large_nm xs its)
 have HTL:=hid (show T.nodes.length=n by rw [hTT,hnn];exact nds_len xs)
 have HFO:=hid (fun i w hT hE hi hn=>formed_any A B c m d xs its i w hT hR hE hi hn)
 have HOR:=hid (fun w hT hn hm hK=>ordered_any A B c d xs its w hT hR hn hm hK)
 have HSI:=hid (fun w hT hn hm hI=>signed_any A B c d xs its w hT hR hn hm hI)
 have HDE:=hid (fun w hT hn hW=>deepest_full A B c m d xs its w hT hn hW)
 have HOU:=hid (fun w hT hn hC=>outsized_any xs its A c B m d w hT hn hC)
 rw [← hTT,← hnn] at HFO
 rw [← hTT,← hnn,← hmm] at HOR HSI
 rw [← hTT,← hnn] at HOU
 rw [← hnn] at HDE
 rw [← hTT,← hnn,← hmm]
 have HTT:=hid hTT;clear hTT
 have HNN:=hid hnn;clear hnn
 have HMM:=hid hmm;clear hmm
 have HT:=hid hT;clear hT
 have HE:=hid hE;clear hE
 have HNR:=hid (show ∀ x ∈ T.nodes,lowN≤x.n∧x.n≤highN from fun x hx=>by rw [HTT.out] at hx;exact (hR x hx).num)
 clear hR
 go_enter Tryz.func22,Tryz.ntmps22
 go_wp2_with fail
 refine (large_any A B n m c d _).mono ?_
 rintro e w2 ⟨rfl,hb2⟩
 rw [HLG.out]
 have HT2:=hid (blk_made hb2)
 have HL2:=hid ((balloc (Below.refl w.heap.size w) (Nat.le_refl _) (o:=.cells #[.slice A n c,.slice B m d] 26)).trans (hb2.mono (by simp)))
 clear hb2
 have t0:=HT2.out.cell 0
 have t1:=HT2.out.cell 1
 cases hlg:Mist.large T
 case true =>
  have HX:=hid (show checkW T=5 by unfold checkW;rw [if_pos hlg])
  clear hlg
  go_wp2_with fail
  go_ret
  exact⟨by rw [HX.out];rfl,HL2.out⟩
 have hsz:n≤800∧m≤60:=by
  have h9:=HLG.out
  rw [hlg] at h9
  unfold largeB at h9
  simp at h9
  omega
 have HLX:=hid hlg;clear hlg
 obtain⟨hn8,hm6⟩:=hsz
 go_wp2_with fail
 go_loopw [9] (fun i wr=>∃ k:Nat,k≤n∧i=.int .i64 k∧Hid ((List.range k).all (Mist.formed T)=true)∧Hid (Below w2.heap.size w2 wr)) (fun i _=>n - (intOf i).toNat)
 case atStart=>exact⟨0,Nat.zero_le _,rfl,hid rfl,hid (Below.refl _ _)⟩
 case round =>
  obtain⟨wo,rfl⟩:∃ wo:World,wo=wr:=⟨_,rfl⟩
  obtain⟨k,hk,rfl,HA,HL⟩:=hrel
  have HTo:=hid (HT2.out.below HL.out HT2.out.lt)
  have HLo:=hid (HL2.out.trans (HL.out.mono HL2.out.size))
  have t0:=HTo.out.cell 0
  have t1:=HTo.out.cell 1
  by_cases hkn:k < n
  ·have i3:decide (k < n)=true:=decide_eq_true hkn
   have HF:=hid (HFO.out k wo (HT.out.below HLo.out) (HE.out.below HLo.out) hkn (by omega))
   cases hf:Mist.formed T k
   ·have HFX:=hid hf;clear hf
    have HX:=hid (show checkW T=4 by
     unfold checkW
     rw [if_neg (by rw [HLX.out];simp),if_pos]
     rw [List.all_eq_false]
     exact⟨k,List.mem_range.2 (by rw [HTL.out];exact hkn),by rw [HFX.out];simp⟩)
    go_wp2_with fail
    refine HF.out.mono ?_
    rintro e w3 ⟨rfl,hb3⟩
    rw [HFX.out]
    go_wp2_with fail
    go_ret
    exact⟨by rw [HX.out];rfl,HLo.out.trans (hb3.mono HLo.out.size)⟩
   ·have HFX:=hid hf;clear hf
    go_wp2_with fail
    refine HF.out.mono ?_
    rintro e w3 ⟨rfl,hb3⟩
    rw [HFX.out]
    have HL3:=hid (HL.out.trans (hb3.mono HL.out.size))
    clear hb3
    go_wp2_with fail
    exact⟨⟨k+1,by omega,by go_num,hid (by rw [List.range_succ,List.all_append,HA.out];simp [HFX.out]),HL3⟩,by simp [intOf];omega⟩
  ·have i3:decide (k < n)=false:=decide_eq_false hkn
   have HALL:=hid (show (List.range T.nodes.length).all (Mist.formed T)=true by
    have h9:=HA.out
    rwa [show k=T.nodes.length by rw [HTL.out];omega] at h9)
   have HKK:=hid (show ∀ (i:Nat) x,xs[i]? = some x→∀ k ∈ x.1.kids,0≤k∧k≤(i:Int) - 1 from fun i x hx=>by
    have h9:=formed_kids (all_formed HALL.out i (by rw [HTL.out,HNN.out];exact (List.getElem?_eq_some_iff.1 hx).1))
    rwa [HTT.out,nd_nds its hx] at h9)
   have HORD:=hid (HOR.out wo (HT.out.below HLo.out) (by omega) (by omega) HKK.out)
   cases hor:Mist.ordered T
   ·have HOX:=hid hor;clear hor
    have HX:=hid (show checkW T=4 by
     unfold checkW
     rw [if_neg (by rw [HLX.out];simp),if_neg (by rw [HALL.out];simp),if_pos (Or.inl HOX.out)])
    go_wp2_with fail
    refine HORD.out.mono ?_
    rintro e w3 ⟨rfl,hb3⟩
    rw [HOX.out]
    go_wp2_with fail
    go_ret
    exact⟨by rw [HX.out];rfl,HLo.out.trans (hb3.mono HLo.out.size)⟩
   ·have HOX:=hid hor;clear hor
    have HII:=hid (show ∀ q ∈ its,0≤q∧q < (n:Int) by
     have h9:=items_in HALL.out HOX.out
     rw [HTL.out] at h9
     rwa [show T.items=its by rw [HTT.out]] at h9)
    go_wp2_with fail
    refine HORD.out.mono ?_
    rintro e w3 ⟨rfl,hb3⟩
    rw [HOX.out]
    have HT3:=hid (HTo.out.below hb3 HTo.out.lt)
    have HL3:=hid (HLo.out.trans (hb3.mono HLo.out.size))
    clear hb3 t0 t1
    have t0:=HT3.out.cell 0
    have t1:=HT3.out.cell 1
    have HSG:=hid (HSI.out w3 (HT.out.below HL3.out) (by omega) (by omega) HII.out)
    cases hsg:Mist.signed T
    ·have HSX:=hid hsg;clear hsg
     have HX:=hid (show checkW T=4 by
      unfold checkW
      rw [if_neg (by rw [HLX.out];simp),if_neg (by rw [HALL.out];simp),if_pos (Or.inr HSX.out)])
     go_wp2_with fail
     refine HSG.out.mono ?_
     rintro e w4 ⟨rfl,hb4⟩
     rw [HSX.out]
     go_wp2_with fail
     go_ret
     exact⟨by rw [HX.out];rfl,HL3.out.trans (hb4.mono HL3.out.size)⟩
    ·have HSX:=hid hsg;clear hsg
     go_wp2_with fail
     refine HSG.out.mono ?_
     rintro e w4 ⟨rfl,hb4⟩
     rw [HSX.out]
     have HT4:=hid (HT3.out.below hb4 HT3.out.lt)
     have HL4:=hid (HL3.out.trans (hb4.mono HL3.out.size))
     clear hb4 t0 t1
     have t0:=HT4.out.cell 0
     have t1:=HT4.out.cell 1
     have HDP:=hid (HDE.out w4 (HT.out.below HL4.out) (by omega) (by have h9:=formed_wf HALL.out;rwa [show T.nodes=nds xs by rw [HTT.out]] at h9))
     have HDT:=hid (show deepestOf (nds xs)=deepT T by unfold deepT;rw [HTT.out])
     rw [HDT.out] at HDP
     obtain⟨D,hD⟩:∃ D,D=deepT T:=⟨_,rfl⟩
     rw [← hD] at HDP
     have HDD:=hid hD;clear hD
     by_cases h30:30 < D
     ·have e30:decide (30 < D)=true:=decide_eq_true h30
      have HX:=hid (show checkW T=5 by
       unfold checkW
       rw [if_neg (by rw [HLX.out];simp),if_neg (by rw [HALL.out];simp),if_neg (by rw [HOX.out,HSX.out];simp),if_pos (by rw [← HDD.out];exact h30)])
      go_wp2_with fail
      refine HDP.out.mono ?_
      rintro e w5 ⟨rfl,hb5⟩
      go_wp2_with fail
      go_ret
      exact⟨by rw [HX.out];rfl,HL4.out.trans (hb5.mono HL4.out.size)⟩
     ·have e30:decide (30 < D)=false:=decide_eq_false h30
      have H30:=hid (show ¬ 30 < deepT T by rw [← HDD.out];exact h30)
      clear h30
      go_wp2_with fail
      refine HDP.out.mono ?_
      rintro e w5 ⟨rfl,hb5⟩
      have HT5:=hid (HT4.out.below hb5 HT4.out.lt)
      have HL5:=hid (HL4.out.trans (hb5.mono HL4.out.size))
      clear hb5 t0 t1
      have t0:=HT5.out.cell 0
      have t1:=HT5.out.cell 1
      have HOS:=hid (HOU.out w5 (HT.out.below HL5.out) (by omega) (by have h9:=choose_ok HNR.out HALL.out;rwa [show T.nodes=nds xs by rw [HTT.out]] at h9))
      obtain⟨O,hO⟩:∃ O,O=outT T:=⟨_,rfl⟩
      rw [← hO] at HOS
      have HOO:=hid hO;clear hO
      have HX:=hid (show checkW T=if 0≤O then 3 else 0 by
       unfold checkW
       rw [if_neg (by rw [HLX.out];simp),if_neg (by rw [HALL.out];simp),if_neg (by rw [HOX.out,HSX.out];simp),if_neg (by have h9:=H30.out;omega),← HOO.out])
      by_cases h0:0≤O
      ·have e0:decide (0≤O)=true:=decide_eq_true h0
       have HX2:=hid (show checkW T=3 by rw [HX.out,if_pos h0])
       go_wp2_with fail
       refine HOS.out.mono ?_
       rintro e w6 ⟨rfl,hb6⟩
       go_wp2_with fail
       go_ret
       exact⟨by rw [HX2.out];rfl,HL5.out.trans (hb6.mono HL5.out.size)⟩
      ·have e0:decide (0≤O)=false:=decide_eq_false h0
       have HX2:=hid (show checkW T=0 by rw [HX.out,if_neg h0])
       go_wp2_with fail
       refine HOS.out.mono ?_
       rintro e w6 ⟨rfl,hb6⟩
       go_wp2_with fail
       go_ret
       exact⟨by rw [HX2.out];rfl,HL5.out.trans (hb6.mono HL5.out.size)⟩
end Go.Proofs.YthepmkjggfijoaaGreatDoor
namespace Go.Proofs.YthepmkjggfijoaaGreatDoor
open Go.RowKit Mist
theorem there_bad (A B:Option Addr) (c d:Nat) (xs:List NV) (its:List Int) (node:Int) (w:World) (hT:TAt w A B xs its) (hR:TrR (nds xs)) (hE:Env w) (hc:checkW ⟨nds xs,its⟩ ≠ 0) :
  Calls Tryz.prog 80 #[.agg #[.slice A xs.length c,.slice B its.length d],.int .i64 node] w fun e w'=>e=.returned (.tuple #[.pointer none,.int .i64 (checkW ⟨nds xs,its⟩)])∧Below w.heap.size w w':=by
 have HC:=hid (treeCheck_any A B c d xs its (w.alloc (.cells #[.slice A xs.length c,.slice B its.length d] 26)) (hT.below (balloc (Below.refl _ _) (Nat.le_refl _))) hR (hE.alloc _))
 obtain⟨K,hK⟩:∃ K,K=checkW ⟨nds xs,its⟩:=⟨_,rfl⟩
 rw [← hK] at HC hc ⊢
 have k0:(K != 0)=true:=by simpa using hc
 clear hT hR hE hK
 go_enter Tryz.func80,Tryz.ntmps80
 go_wp2_with fail
 refine HC.out.mono ?_
 rintro e w2 ⟨rfl,hb⟩
 go_wp2_with fail
 go_ret2
 exact⟨rfl,(balloc (Below.refl _ _) (Nat.le_refl _)).trans (hb.mono (by simp))⟩
theorem there_none (A B:Option Addr) (c d:Nat) (xs:List NV) (its:List Int) (node:Int) (w:World) (hT:TAt w A B xs its) (hR:TrR (nds xs)) (hE:Env w) (hc:checkW ⟨nds xs,its⟩=0) (hn:xs.length≤100000) (hno:Mist.within node 0 ((xs.length:Int) - 1)=false) :
  Calls Tryz.prog 80 #[.agg #[.slice A xs.length c,.slice B its.length d],.int .i64 node] w fun e w'=>e=.returned (.tuple #[.pointer none,.int .i64 7])∧Below w.heap.size w w':=by
 have HC:=hid (treeCheck_any A B c d xs its (w.alloc (.cells #[.slice A xs.length c,.slice B its.length d] 26)) (hT.below (balloc (Below.refl _ _) (Nat.le_refl _))) hR (hE.alloc _))
 rw [hc] at HC
 have HNO:=hid hno
 clear hT hR hE hc hno
 go_enter Tryz.func80,Tryz.ntmps80
 go_wp2_with fail
 refine HC.out.mono ?_
 rintro e w2 ⟨rfl,hb⟩
 have HT2:=hid (blk_made hb)
 have t0:=HT2.out.cell 0
 go_wp2_with fail
 refine (within_any node 0 _ false HNO.out _).mono ?_
 rintro e w3 ⟨rfl,rfl⟩
 go_wp2_with fail
 go_ret2
 exact⟨rfl,(balloc (Below.refl _ _) (Nat.le_refl _)).trans (hb.mono (by simp))⟩
end Go.Proofs.YthepmkjggfijoaaGreatDoor
namespace Go.Proofs.YthepmkjggfijoaaGreatDoor
open Go.RowKit Go.Shelf Mist
attribute [local go_sem] Oper.semAt_some
def upL (P:List Int):Nat→Int→List Nat
 | 0,_=>[]
 | f+1,n=>if n=-1 then [] else n.toNat :: upL P f (P.getD n.toNat 0)
def GoodP (P:List Int):Prop:=∀ i,i < P.length→P.getD i 0=-1∨((i:Int) < P.getD i 0∧P.getD i 0 < (P.length:Int))
theorem upL_step {P:List Int} {f:Nat} {n:Nat}:upL P (f+1) (n:Int)=n :: upL P f (P.getD n 0):=by
 rw [upL,if_neg (by omega),Int.toNat_natCast]
theorem upL_stop {P:List Int} (f:Nat):upL P f (-1)=[]:=by
 cases f with
 | zero=>rfl
 | succ f=>rw [upL,if_pos rfl]
theorem up_in (F:Fence) (n:Nat) (hf:F.fn 120) (hro:F.round=none) (wb:Nat) (nd:Int) (w:World) :
  CallsIn F n Tryz.prog 120 #[.pointer (some ⟨wb,0,none⟩),.int .i64 nd] w fun e w'=>e=.returned (.func (.func 178) #[] #[.pointer (some ⟨w.heap.size+1,0,none⟩),.pointer (some ⟨w.heap.size,0,none⟩)])∧w'=(w.alloc (.cells #[.pointer (some ⟨wb,0,none⟩)] 71)).alloc (.cells #[.int .i64 nd] 3):=by
 refine callsIn_of_wp Tryz.func120 rfl hf ?_ hro
 simp only [Tryz.ntmps120,List.size_toArray,List.length_cons,List.length_nil,Nat.reduceAdd,Nat.reduceSub,Array.replicate_succ,Array.replicate_zero,List.push_toArray,List.append_toArray,List.nil_append,List.cons_append]
 gi_wp2
 go_ret
 exact⟨rfl,rfl⟩
def encN (x:Nat):Array Value:=#[.int .i64 (x:Int)]
theorem up1_in (F:Fence) (n:Nat) (h63:F.fn 178) (hro:F.round=none) (hn:1≤n) (l B1 B2 wb pb N:Nat) (P:List Int) (ws:Value) (tv iv:Value) (nd:Nat) (hP:GoodP P) (hN:P.length=N) (hN6:N≤100000) (hnd:nd < N) (Kp:World→World→Prop) (hKp:∀ {W W':World} {b:Nat} {T:TypeId} {cs:Array Value},(b=B2∨b=wb∨b=pb)→Kp W W'→Blk W b T cs→Blk W' b T cs) (J Jx:List Nat→World→Prop)
  (hY:∀ pre x W,J pre W→pre.length < N+1→YieldAt F (n - 1) Tryz.prog l (encN x) W fun e W' =>
   (e=.returned (.bool true)∧J (pre ++ [x]) W'∧Kp W W')∨(e=.returned (.bool false)∧Jx (pre ++ [x]) W'))
  (W:World) (h1:Blk W B1 3 #[.int .i64 (nd:Int)]) (h2:Blk W B2 71 #[.pointer (some ⟨wb,0,none⟩)]) (h3:Blk W wb 74 #[tv,iv,ws,.slice (some ⟨pb,0,none⟩) N N]) (h4:Blk W pb 3 (iZ P)) (h0:J [] W) :
  CallsIn F n Tryz.prog 178 #[.func (.yield l) #[] #[],.pointer (some ⟨B1,0,none⟩),.pointer (some ⟨B2,0,none⟩)] W fun e W'=>(∃ v,e=.returned v) ∧
   ((∃ ys:List Nat,ys=upL P (N+1) (nd:Int)∧J ys W')∨(∃ pre:List Nat,pre <+: upL P (N+1) (nd:Int)∧Jx pre W')):=by
 have HP:=hid hP;clear hP
 have HN:=hid hN;clear hN
 have b0:=h1.cell 0
 have HB2:=hid h2
 have HB3:=hid h3
 have HB4:=hid h4
 clear h1 h2 h3 h4
 refine callsIn_of_wp Tryz.func178 rfl h63 ?_ hro
 simp only [Tryz.ntmps178,List.size_toArray,List.length_cons,List.length_nil,Nat.reduceAdd,Nat.reduceSub,Array.replicate_succ,Array.replicate_zero,List.push_toArray,List.append_toArray,List.nil_append,List.cons_append]
 gi_wp2
 gi_loopw [4] (fun i wr=>∃ (cur:Int) (f:Nat) (pre:List Nat),i=.int .i64 cur∧(cur=-1∨(0≤cur∧cur < (N:Int)∧(N:Int) < f+cur+1∧pre.length≤cur.toNat))∧Hid (pre ++ upL P f cur=upL P (N+1) (nd:Int))∧J pre wr∧Hid (Blk wr B2 71 #[.pointer (some ⟨wb,0,none⟩)])∧Hid (Blk wr wb 74 #[tv,iv,ws,.slice (some ⟨pb,0,none⟩) N N])∧Hid (Blk wr pb 3 (iZ P)))
  (fun i _=>if intOf i=-1 then 0 else N+1 - (intOf i).toNat)
 case atStart=>exact⟨(nd:Int),N+1,[],rfl,.inr ⟨by omega,by omega,by omega,by simp⟩,hid rfl,h0,HB2,HB3,HB4⟩
 case round =>
  clear HB2 HB3 HB4
  obtain⟨cur,f,pre,rfl,hcur,HU,hJ,HB2,HB3,HB4⟩:=hrel
  by_cases hc:cur=-1
  ·subst hc
   have e1:((-1:Int) != -1)=false:=rfl
   have HE:=hid (show pre=upL P (N+1) (nd:Int) by have h9:=HU.out;rwa [upL_stop,List.append_nil] at h9)
   gi_wp2
   go_end0
   exact⟨⟨_,rfl⟩,.inl (HE.out ▸ hJ)⟩
  ·have e1:(cur != -1)=true:=by simpa using hc
   rcases hcur with hcur | ⟨hc0,hc1,hc2,hc3⟩
   ·exact absurd hcur hc
   obtain⟨cn,rfl⟩:∃ cn:Nat,cur=(cn:Int):=⟨cur.toNat,by omega⟩
   obtain⟨f,rfl⟩:∃ f0,f=f0+1:=⟨f - 1,by omega⟩
   obtain⟨fn,tmps,assign,body,hy,hR⟩:=hY pre cn wr hJ (by simp at hc3;omega)
   dsimp only [encN] at hy
   have HU2:=hid (show (pre ++ [cn]) ++ upL P f (P.getD cn 0)=upL P (N+1) (nd:Int) by have h9:=HU.out;rw [upL_step] at h9;rw [← h9];simp)
   clear hc
   gi_wp2
   refine hR.mono ?_
   rintro e W3 (⟨rfl,hJ3,hk3⟩ | ⟨rfl,hJx3⟩)
   ·have HC2:=hid (hKp (.inl rfl) hk3 HB2.out)
    have HC3:=hid (hKp (.inr (.inl rfl)) hk3 HB3.out)
    have HC4:=hid (hKp (.inr (.inr rfl)) hk3 HB4.out)
    have d0:=HC2.out.cell 0
    have d3:=HC3.out.cell 3
    have p0:W3.cell? ⟨pb,cn,none⟩=some (.int .i64 (P.getD cn 0)):=by rw [HC4.out.cell cn];exact iZ_get P cn (by rw [HN.out];omega)
    have hg:=HP.out cn (by rw [HN.out];omega)
    rw [HN.out] at hg
    obtain⟨nx,hnx⟩:∃ x,x=P.getD cn 0:=⟨_,rfl⟩
    rw [← hnx] at p0 hg
    have HNX:=hid hnx;clear hnx
    have i1:(0:Int)≤(cn:Int):=by omega
    gi_wp2
    refine⟨⟨nx,f,pre ++ [cn],rfl,?_,hid (by rw [HNX.out];exact HU2.out),hJ3,HC2,HC3,HC4⟩,?_⟩
    ·rcases hg with h | h
     ·exact .inl h
     ·refine .inr ⟨by omega,h.2,by omega,?_⟩
      simp at hc3 ⊢
      omega
    ·have hcn1:¬ (cn:Int)=-1:=by omega
     rcases hg with h | h
     ·simp [intOf,h,hcn1];omega
     ·have hnx1:¬ nx=-1:=by omega
      simp [intOf,hnx1,hcn1];omega
   ·gi_wp2
    refine bodyPost_ret (results_none rfl _ _ _) rfl ?_
    exact⟨⟨_,rfl⟩,.inr ⟨pre ++ [cn],by rw [← HU2.out];exact⟨_,rfl⟩,hJx3⟩⟩
theorem up_stops (F:Fence) (n:Nat) (h63:F.fn 178) (hro:F.round=none) (hn:1≤n) (B1 B2 wb pb N:Nat) (P:List Int) (ws:Value) (tv iv:Value) (nd:Nat) (hP:GoodP P) (hN:P.length=N) (hN6:N≤100000) (hnd:nd < N) (Kp:World→World→Prop) (hKp:∀ {W W':World} {b:Nat} {T:TypeId} {cs:Array Value},(b=B2∨b=wb∨b=pb)→Kp W W'→Blk W b T cs→Blk W' b T cs) (w:World)
  (h1:Blk w B1 3 #[.int .i64 (nd:Int)]) (h2:Blk w B2 71 #[.pointer (some ⟨wb,0,none⟩)]) (h3:Blk w wb 74 #[tv,iv,ws,.slice (some ⟨pb,0,none⟩) N N]) (h4:Blk w pb 3 (iZ P)) :
  SeqStopsK F n Tryz.prog 178 #[.pointer (some ⟨B1,0,none⟩),.pointer (some ⟨B2,0,none⟩)] encN Kp (fun ys=>ys=upL P (N+1) (nd:Int)) (fun pre=>pre <+: upL P (N+1) (nd:Int)) (N+1) w:=fun l J Jx W hW _ _ hY h0 =>
 up1_in F n h63 hro hn l B1 B2 wb pb N P ws tv iv nd hP hN hN6 hnd Kp hKp J Jx hY W (h1.below hW h1.lt) (h2.below hW h2.lt) (h3.below hW h3.lt) (h4.below hW h4.lt) h0
def KeepsBut (ob N0:Nat) (W W':World):Prop:=∀ b,b < N0→b ≠ ob→W'.heap[b]? = W.heap[b]?
theorem keepsBut_t {ob N0:Nat} {A C D:World} (h:KeepsBut ob N0 A C) (k:KeepsBut ob N0 C D):KeepsBut ob N0 A D:=fun b hb hn=>(k b hb hn).trans (h b hb hn)
theorem keepsBut_b {ob N0 n:Nat} (hn:N0≤n) (W:World) (l:Nat) (o o':Obj) (hl:n≤l) (ho:W.heap[l]? = some o) (_:o.isCells=false) (_:o.isWalk=false):KeepsBut ob N0 W (W.putObj l o'):=fun b hb _=>(grownBy_putObj' W l o').block b (by have:=(Array.getElem?_eq_some_iff.1 ho).1;omega) (by intro e;injection e with e;omega)
end Go.Proofs.YthepmkjggfijoaaGreatDoor
