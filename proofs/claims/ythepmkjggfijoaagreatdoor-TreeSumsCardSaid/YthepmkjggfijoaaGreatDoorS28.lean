/-
  A part of the proof.
-/
import Derived.Test.YthepmkjggfijoaaGreatDoorSA
import Derived.Laws.EntriesVeiled
import Derived.Deep.QuietTactic
import Derived.RangeFuncNested
import Derived.RangeFuncBound
import Derived.RangeFuncCalls
import Derived.RangeFuncLeaves
import Derived.Shelf.Abstract
import Derived.Shelf.RegionOpen
import Derived.OwnWalkIn
import Derived.TacticsInMore
import Derived.LoopNIn
import Derived.LoopIn
import Derived.Test.YthepmkjggfijoaaGreatDoorShelf
import Derived.Test.YthepmkjggfijoaaGreatDoorS07
import Derived.Test.YthepmkjggfijoaaGreatDoorS21
import Derived.Test.YthepmkjggfijoaaGreatDoorS26
import Derived.Test.YthepmkjggfijoaaGreatDoorS27
set_option linter.all false
set_option maxRecDepth 100000
set_option maxHeartbeats 4000000
open Go.Lib (hid)
namespace Go.Proofs.YthepmkjggfijoaaGreatDoor
open Go.RowKit Mist
attribute [local go_sem] aj aH aS aB ak
def wm (p:Nd→Bool)(l:List Nd):Int :=
 match l.findIdx? p with
 | some i=>(i:Int)
 | none=>-1
theorem zT {p:Nd→Bool}{l:List Nd}{k:Nat}{x:Nd}(h:(l.take k).all (fun y=>!p y)=true)(hx:l[k]? = some x)(hp:p x=true):wm p l=(k:Int):=by
 have:l.findIdx? p=some k:=by
  rw [List.findIdx?_eq_some_iff_getElem];obtain⟨hl,rfl⟩:=aaE.1 hx
  refine⟨hl,hp,fun j hj=>?_⟩
  have:=aaR.1 h l[j] (by rw [List.mem_take_iff_getElem];exact⟨j,by omega,rfl⟩)
  simpa using this
 unfold wm;rw [this]
theorem xZ {p:Nd→Bool}{l:List Nd}(h:l.all (fun y=>!p y)=true):wm p l=-1:=by
 have:l.findIdx? p=none:=by
  rw [List.findIdx?_eq_none_iff];intro x hx
  have:=aaR.1 h x hx
  simpa using this
 unfold wm;rw [this]
def outT (T:Tr):Int:=wm (fun x=>!Mist.sized T x) T.nodes
theorem Io (T:Tr):decide (0≤outT T)=!(T.nodes.all (Mist.sized T)):=by
 unfold outT wm;rcases h:T.nodes.findIdx? (fun x=>!Mist.sized T x) with _ | i
 ·rw [List.findIdx?_eq_none_iff] at h
  have:T.nodes.all (Mist.sized T)=true:=by
   rw [aaR];intro x hx;simpa using h x hx
  rw [this];rfl
 ·rw [List.findIdx?_eq_some_iff_getElem] at h
  obtain⟨hl,hp,_⟩:=h
  have:T.nodes.all (Mist.sized T)=false:=by
   rw [List.all_eq_false];exact⟨_,List.getElem_mem hl,by simpa using hp⟩
  rw [this]
  show decide ((0:Int)≤(i:Int))=true
  exact aaU (by omega)
section
variable (xs:List NV) (its:List Int) (A:Option Addr) (n c:Nat) (B:Option Addr) (m d:Nat) (w0:World) (hT:mq w0 A B xs its) (hn:n=xs.length) (hm:m=its.length)
include hT hn
theorem aay (tb:Nat)(x:Nd)(Ak:Option Addr)(nk ck:Nat)(w:World)(hb:Below w0.heap.size w0 w)(ht:aC w tb 26 #[.slice A n c,.slice B m d])(hC:nJ ⟨aA xs,its⟩ x)(hnk:nk=x.kids.length)(hl:nk≤1000000)(hI:IntsIn w0 Ak x.kids) :
  Calls Tryz.prog 96 #[.agg #[.int .u8 x.kind,.string (aM x.text),.int .i64 x.n,.slice Ak nk ck,.int .i64 x.at_],.pointer (some ⟨tb,0,none⟩)] w fun e w'=>e=.returned (.bool (!Mist.sized ⟨aA xs,its⟩ x))∧Below w.heap.size w w':=by
 have HS:=hid (Xa xs its A n c B m d x Ak nk ck (w.alloc (.cells #[.int .u8 x.kind,.string (aM x.text),.int .i64 x.n,.slice Ak nk ck,.int .i64 x.at_] 50)) ((hT.below hb).below (ah (Below.refl _ _) (aaJ _))) hn hC hnk hl ((hI.below hb).below (ah (Below.refl _ _) (aaJ _))));have t0:=ht.cell 0;have t1:=ht.cell 1;have htl:=ht.lt;obtain⟨T,ni⟩:∃ T:Tr,T=⟨aA xs,its⟩:=⟨_,rfl⟩;rw [← ni] at HS ⊢
 clear hT hC hnk hI hb ht ni hn;go_in
 go_wp2_with fail;refine HS.out.mono ?_;rintro e w2⟨rfl,hb⟩;go_wp2_with fail;go_ret;exact⟨rfl,(ah (Below.refl _ _) (aaJ _)).trans (hb.mono (by simp))⟩
theorem VQ (hn6:n≤100000)(tb:Nat)(w:World)(hb:Below w0.heap.size w0 w)(ht:aC w tb 26 #[.slice A n c,.slice B m d])(hC:∀ x ∈ aA xs,nJ ⟨aA xs,its⟩ x) :
  Calls Tryz.prog 75 #[.slice A n c,.func (.func 96) #[] #[.pointer (some ⟨tb,0,none⟩)]] w fun e w'=>e=.returned (.int .i64 (outT ⟨aA xs,its⟩))∧Below w.heap.size w w':=by
 have HO:=hid (fun tb x Ak nk ck w hb ht hC hnk hl hI=>aay xs its A n c B m d w0 hT hn tb x Ak nk ck w hb ht hC hnk hl hI);obtain⟨T,ni⟩:∃ T:Tr,T=⟨aA xs,its⟩:=⟨_,rfl⟩;have Nh:=hid (show T.nodes=aA xs by rw [ni]);rw [← ni];have F9:=hid ni;clear ni;have HT:=hid hT;clear hT;have HN:=hid hn;clear hn;have HC:=hid hC;clear hC;have HB:=hid hb;clear hb;have rE:=hid ht;clear ht;go_in
 go_wp2_with fail;go_loopw [8] (fun i wr=>∃ k:Nat,k≤n∧i=.int .i64 k∧Hid (((aA xs).take k).all (fun y=>!(!Mist.sized T y))=true)∧Hid (Below w.heap.size w wr)) (fun i _=>n - (intOf i).toNat)
 case atStart=>exact⟨0,aaL _,rfl,hid rfl,hid (Below.refl _ _)⟩
 case round =>
  obtain⟨wo,rfl⟩:∃ wo:World,wo=wr:=⟨_,rfl⟩;obtain⟨k,hk,rfl,HA,HL⟩:=hrel;by_cases hkn:k < n
  ·obtain⟨b,o,rfl,hN⟩:=HT.out.nodes (by rw [← HN.out];omega);obtain⟨x,hx⟩:∃ x,xs[k]? = some x:=jD (by rw [← HN.out];exact hkn);have hb0:=HB.out.trans (HL.out.mono HB.out.size);have c0:=(hb0.cell (p:=⟨b,o+k * 5,none⟩) hN.lt).trans (hN.c0 k x hx);have c1:=(hb0.cell (p:=⟨b,o+k * 5+1,none⟩) hN.lt).trans (hN.c1 k x hx);have c2:=(hb0.cell (p:=⟨b,o+k * 5+2,none⟩) hN.lt).trans (hN.c2 k x hx);have c3:=(hb0.cell (p:=⟨b,o+k * 5+3,none⟩) hN.lt).trans (hN.c3 k x hx);have c4:=(hb0.cell (p:=⟨b,o+k * 5+4,none⟩) hN.lt).trans (hN.c4 k x hx);obtain⟨Ak,ck,hxe,hxl,hxk⟩:=hN.kid hx;rw [hxe] at c3
   have hmem:x.1 ∈ aA xs:=List.mem_map_of_mem (aaM hx);have HOO:=hid (HO.out tb x.1 Ak _ ck wo hb0 (rE.out.below HL.out rE.out.lt) (HC.out x.1 hmem) rfl hxl hxk);rw [← F9.out] at HOO
   have HX:=hid (gP hx);clear hN hx hxe hb0 hmem hxk;have i1:(0:Int)≤(k:Int):=by omega
   have i2:(k:Int) < (n:Int):=by omega
   have i3:decide (k < n)=true:=aaU hkn;have HS:=hid (show (aA xs).take (k+1)=(aA xs).take k ++ [x.1] by rw [List.take_add_one,HX.out];rfl)
   cases hs:Mist.sized T x.1
   ·have JV:=hid hs;clear hs
    have HR:=hid (show outT T=(k:Int) by
     unfold outT;rw [Nh.out];exact zT HA.out HX.out (by rw [JV.out];rfl))
    go_wp2_with fail;refine HOO.out.mono ?_;rintro e w2⟨rfl,hb2⟩;rw [JV.out];go_wp2_with fail;go_ret;exact⟨by rw [HR.out];rfl,HL.out.trans (hb2.mono HL.out.size)⟩
   ·have JV:=hid hs;clear hs;go_wp2_with fail;refine HOO.out.mono ?_;rintro e w2⟨rfl,hb2⟩;rw [JV.out];have HL2:=hid (HL.out.trans (hb2.mono HL.out.size));clear hb2;go_wp2_with fail;exact⟨⟨k+1,by omega,by go_num,hid (by rw [HS.out,List.all_append,HA.out];simp [JV.out]),HL2⟩,by simp [intOf];omega⟩
  ·have HR:=hid (show outT T=-1 by
    have h9:=HA.out;rw [aaN (by rw [aD,← HN.out];omega)] at h9
    unfold outT;rw [Nh.out];exact xZ h9)
   have i3:decide (k < n)=false:=aaV hkn;go_wp2_with fail;go_ret;exact⟨by rw [HR.out];rfl,HL.out⟩
end
theorem Cy (xs:List NV)(its:List Int)(A:Option Addr)(c:Nat)(B:Option Addr)(m d:Nat)(w:World)(hT:mq w A B xs its)(hn6:xs.length≤100000)(hC:∀ x ∈ aA xs,nJ ⟨aA xs,its⟩ x) :
  Calls Tryz.prog 54 #[.agg #[.slice A xs.length c,.slice B m d]] w fun e w'=>e=.returned (.int .i64 (outT ⟨aA xs,its⟩))∧Below w.heap.size w w':=by
 have HI:=hid (VQ xs its A xs.length c B m d w hT rfl hn6 w.heap.size (w.alloc (.cells #[.slice A xs.length c,.slice B m d] 26)) (ah (Below.refl _ _) (aaJ _)) (aC.new _ _ _) hC);clear hT hC;go_in
 go_wp2_with fail;refine HI.out.mono ?_;rintro e w2⟨rfl,hb⟩;go_wp2_with fail;go_ret;exact⟨rfl,(ah (Below.refl _ _) (aaJ _)).trans (hb.mono (by simp))⟩
end Go.Proofs.YthepmkjggfijoaaGreatDoor
namespace Go.Proofs.YthepmkjggfijoaaGreatDoor
open Go.RowKit Mist
def kP (n m:Nat):Bool:=decide (800 < n) || decide (60 < m)
theorem Eb (A B:Option Addr)(n m c d:Nat)(w:World):Calls Tryz.prog 52 #[.agg #[.slice A n c,.slice B m d]] w fun e w'=>e=.returned (.bool (kP n m))∧Below w.heap.size w w':=by
 by_cases h1:800 < n
 ·have a1:decide ((800:Int) < (n:Int))=true:=aaU (by omega);have HX:=hid (show kP n m=true by simp [kP,h1]);go_in
  go_wp2;go_ret;exact⟨(by rw [HX.out];rfl),ah (Below.refl _ _) (aaJ _)⟩
 ·have a1:decide ((800:Int) < (n:Int))=false:=aaV (by omega);by_cases h2:60 < m
  ·have a2:decide ((60:Int) < (m:Int))=true:=aaU (by omega);have HX:=hid (show kP n m=true by simp [kP,h2]);go_in
   go_wp2;go_ret;exact⟨(by rw [HX.out];rfl),ah (Below.refl _ _) (aaJ _)⟩
  ·have a2:decide ((60:Int) < (m:Int))=false:=aaV (by omega);have HX:=hid (show kP n m=false by simp [kP,h1,h2]);go_in
   go_wp2;go_ret;exact⟨(by rw [HX.out];rfl),ah (Below.refl _ _) (aaJ _)⟩
def jB (ns:List Nd):Int:=if ns.length=0 then 0 else Lib.maxOf ((f_ ns).map fun (d:Nat)=>(d:Int))
theorem NW (b o c m d:Nat)(B:Option Addr)(xs:List NV)(w:World)(hN:DI w b o xs)(hW:Wf (aA xs))(hn:xs.length≤100000)(h0:0 < xs.length) :
  Calls Tryz.prog 53 #[.agg #[.slice (some ⟨b,o,none⟩) xs.length c,.slice B m d]] w fun e w'=>e=.returned (.int .i64 (jB (aA xs)))∧Below w.heap.size w w':=by
 have HD:=hid (Rv b o c m d B xs (w.alloc (.cells #[.slice (some ⟨b,o,none⟩) xs.length c,.slice B m d] 26)) (hN.below ((Below.refl _ _).alloc (aaJ _) _)) hW hn);have HX:=hid (show jB (aA xs)=Lib.maxOf ((f_ (aA xs)).map fun (d:Nat)=>(d:Int)) by unfold jB;rw [aD,if_neg (by omega)]);have q0:((xs.length:Int) == 0)=false:=by simp;intro e;subst e;simp at h0
 have HL:=hid (show (f_ (aA xs)).length=xs.length by unfold f_;rw [uV,List.length_replicate,aD]);clear hN hW;go_in
 go_wp2_with fail;refine HD.out.mono ?_;rintro e w1⟨g,rfl,hg,hb,hl⟩;have HB:=hid hb;clear hb;have Ql:=hid hl;clear hl;go_wp2_with fail
 refine (Tryz.slices_Max_int g 0 xs.length xs.length ((f_ (aA xs)).map fun (d:Nat)=>(d:Int)) w1 h0 (by rw [List.length_map,HL.out];exact aaJ _) (by omega) (fun j hj=>by
  rw [List.length_map] at hj
  rw [Nat.zero_add,HB.out.cell j,sM _ j hj];simp [aaH,aaD hj])).mono ?_
 rintro e w2⟨rfl,rfl⟩;go_wp2_with fail;go_ret
 refine⟨?_,(ah (Below.refl _ _) (aaJ _)).trans (Ql.out.mono (by simp))⟩
 rw [HX.out,aaN (by rw [List.length_map,HL.out];exact aaJ _)];rfl
def om (T:Tr):Int:=jB T.nodes
def dN (T:Tr):Int :=
 if Mist.large T=true then 5
 else if (List.range T.nodes.length).all (Mist.formed T)=false then 4
 else if Mist.ordered T=false∨Mist.signed T=false then 4
 else if 30 < om T then 5
 else if 0≤outT T then 3 else 0
theorem aal (xs:List NV)(its:List Int):kP xs.length its.length=Mist.large ⟨aA xs,its⟩:=by
 unfold kP Mist.large;rw [aD]
theorem x9 {T:Tr}{i:Nat}(h:Mist.formed T i=true):∀ c ∈ (nd T i).kids,0≤c∧c≤(i:Int) - 1:=((Mist.nW T i).1 h).2.2
theorem su {T:Tr}(h:(List.range T.nodes.length).all (Mist.formed T)=true)(i:Nat)(hi:i < T.nodes.length):Mist.formed T i=true:=aaR.1 h i (List.mem_range.2 hi)
theorem Vl {T:Tr}(hn:∀ n ∈ T.nodes,jq≤n.n∧n.n≤gq)(h:(List.range T.nodes.length).all (Mist.formed T)=true):∀ x ∈ T.nodes,nJ T x:=by
 intro x hx rT;obtain⟨i,hi,rfl⟩:=List.getElem_of_mem hx;have e:T.nodes[i]? = some T.nodes[i]:=aaD hi;have hf:=(Mist.nW T i).1 (su h i hi);rw [kH e] at hf
 obtain⟨h1,_,h3⟩:=hf;have hr:=(Mist.Dg T.nodes[i] (kinds T T.nodes[i].kids) (by simp [kinds]) (hn _ hx)).1 h1
 have hm:T.nodes[i].kids.length=2:=by
  have:=hr.2.2.2.1
  simpa [jC,rT] using this
 obtain⟨a,b,hab⟩:∃ a b,T.nodes[i].kids=[a,b]:=by
  match hk:T.nodes[i].kids,hm with
  | [a,b],_=>exact⟨a,b,rfl⟩
 rw [hab] at h3
 have ha:=h3 a (by simp);have hb:=h3 b (by simp);have hk:=hr.2.2.2.2.2;rw [hab] at hk
 have hka:=hk 0 (by simp [kinds]);have hkb:=hk 1 (by simp [kinds]);simp [mJ,rT,kinds] at hka hkb
 have num:∀ j:Nat,j < T.nodes.length→(nd T j).kind=1→-9999≤(nd T j).n∧(nd T j).n≤9999:=by
  intro j hj hk1;have hf:=(Mist.nW T j).1 (su h j hj);have hrj:=(Mist.Dg (nd T j) (kinds T (nd T j).kids) (by simp [kinds]) (hn _ (aaM (Cw hj)))).1 hf.1
  have:=hrj.2.2.2.2.1
  simpa [gu,hk1,Mist.within] using this
 refine⟨a.toNat,b.toNat,?_,by omega,by omega,num _ (by omega) hka,num _ (by omega) hkb⟩
 rw [hab]
 congr 1
 ·omega
 ·congr 1;omega
theorem Z9 {T:Tr}(h:(List.range T.nodes.length).all (Mist.formed T)=true)(ho:Mist.ordered T=true):∀ q ∈ T.items,0≤q∧q < (T.nodes.length:Int):=by
 have hr:=Al (t:=T) (fun i n e=>by
  have:=x9 (su h i (aaE.1 e).1)
  rwa [kH e] at this) ho
 intro q hq
 have:=hr.fo.ids q hq
 omega
theorem Ma (A B:Option Addr)(c m d:Nat)(w:World):Calls Tryz.prog 53 #[.agg #[.slice A 0 c,.slice B m d]] w fun e w'=>e=.returned (.int .i64 0)∧Below w.heap.size w w':=by
 go_in
 go_wp2;go_ret;exact⟨rfl,ah (Below.refl _ _) (aaJ _)⟩
theorem BZ (A B:Option Addr)(c m d:Nat)(xs:List NV)(its:List Int)(w:World)(hT:mq w A B xs its)(hn:xs.length≤100000)(hW:Wf (aA xs)) :
  Calls Tryz.prog 53 #[.agg #[.slice A xs.length c,.slice B m d]] w fun e w'=>e=.returned (.int .i64 (jB (aA xs)))∧Below w.heap.size w w':=by
 rcases Nat.eq_zero_or_pos xs.length with h0 | h0
 ·have hx:xs=[]:=List.eq_nil_of_length_eq_zero h0;subst hx;exact Ma A B c m d w
 ·obtain⟨b,o,rfl,hN⟩:=hT.nodes h0;exact NW b o c m d B xs w hN.kids hW hn h0
theorem Vr {T:Tr}(h:(List.range T.nodes.length).all (Mist.formed T)=true):Wf T.nodes:=by
 intro i x hx q hq
 have:=x9 (su h i (aaE.1 hx).1)
 rw [kH hx] at this
 have:=this q hq
 omega
theorem jk (A B:Option Addr)(c d:Nat)(xs:List NV)(its:List Int)(w:World)(hT:mq w A B xs its)(hR:xO (aA xs))(hE:Env w) :
  Calls Tryz.prog 22 #[.agg #[.slice A xs.length c,.slice B its.length d]] w fun e w'=>e=.returned (.int .i64 (dN ⟨aA xs,its⟩))∧Below w.heap.size w w':=by
 obtain⟨n,hnn⟩:∃ n,n=xs.length:=⟨_,rfl⟩;obtain⟨m,hmm⟩:∃ m,m=its.length:=⟨_,rfl⟩;obtain⟨T,ni⟩:∃ T:Tr,T=⟨aA xs,its⟩:=⟨_,rfl⟩;have TL:=hid (show kP n m=Mist.large T by rw [ni,hnn,hmm];exact aal xs its);have Nh:=hid (show T.nodes.length=n by rw [ni,hnn];exact aD xs);have Xm:=hid (fun i w hT hE hi hn=>RJ A B c m d xs its i w hT hR hE hi hn);have HOR:=hid (fun w hT hn hm hK=>OW A B c d xs its w hT hR hn hm hK);have HSI:=hid (fun w hT hn hm hI=>S_ A B c d xs its w hT hR hn hm hI);have JU:=hid (fun w hT hn hW=>BZ A B c m d xs its w hT hn hW);have HOU:=hid (fun w hT hn hC=>Cy xs its A c B m d w hT hn hC);rw [← ni,← hnn] at Xm
 rw [← ni,← hnn,← hmm] at HOR HSI
 rw [← ni,← hnn] at HOU
 rw [← hnn] at JU
 rw [← ni,← hnn,← hmm];have F9:=hid ni;clear ni;have pF:=hid hnn;clear hnn;have U1:=hid hmm;clear hmm;have HT:=hid hT;clear hT;have HE:=hid hE;clear hE;have HNR:=hid (show ∀ x ∈ T.nodes,jq≤x.n∧x.n≤gq from fun x hx=>by rw [F9.out] at hx;exact (hR x hx).num);clear hR;go_in
 go_wp2_with fail;refine (Eb A B n m c d _).mono ?_;rintro e w2⟨rfl,hb2⟩;rw [TL.out];have HT2:=hid (gF hb2);have HL2:=hid ((ah (Below.refl w.heap.size w) (aaJ _) (o:=.cells #[.slice A n c,.slice B m d] 26)).trans (hb2.mono (by simp)));clear hb2;have t0:=HT2.out.cell 0;have t1:=HT2.out.cell 1
 cases hlg:Mist.large T
 case true =>
  have HX:=hid (show dN T=5 by unfold dN;rw [if_pos hlg]);clear hlg;go_wp2_with fail;go_ret;exact⟨by rw [HX.out];rfl,HL2.out⟩
 have hsz:n≤800∧m≤60:=by
  have h9:=TL.out;rw [hlg] at h9
  unfold kP at h9
  simp at h9
  omega
 have Nt:=hid hlg;clear hlg;obtain⟨hn8,hm6⟩:=hsz;go_wp2_with fail;go_loopw [9] (fun i wr=>∃ k:Nat,k≤n∧i=.int .i64 k∧Hid ((List.range k).all (Mist.formed T)=true)∧Hid (Below w2.heap.size w2 wr)) (fun i _=>n - (intOf i).toNat)
 case atStart=>exact⟨0,aaL _,rfl,hid rfl,hid (Below.refl _ _)⟩
 case round =>
  obtain⟨wo,rfl⟩:∃ wo:World,wo=wr:=⟨_,rfl⟩;obtain⟨k,hk,rfl,HA,HL⟩:=hrel;have Dx:=hid (HT2.out.below HL.out HT2.out.lt);have HLo:=hid (HL2.out.trans (HL.out.mono HL2.out.size));have t0:=Dx.out.cell 0;have t1:=Dx.out.cell 1;by_cases hkn:k < n
  ·have i3:decide (k < n)=true:=aaU hkn;have HF:=hid (Xm.out k wo (HT.out.below HLo.out) (HE.out.below HLo.out) hkn (by omega))
   cases hf:Mist.formed T k
   ·have HFX:=hid hf;clear hf
    have HX:=hid (show dN T=4 by
     unfold dN;rw [if_neg (by rw [Nt.out];simp),if_pos];rw [List.all_eq_false];exact⟨k,List.mem_range.2 (by rw [Nh.out];exact hkn),by rw [HFX.out];simp⟩)
    go_wp2_with fail;refine HF.out.mono ?_;rintro e w3⟨rfl,hb3⟩;rw [HFX.out];go_wp2_with fail;go_ret;exact⟨by rw [HX.out];rfl,HLo.out.trans (hb3.mono HLo.out.size)⟩
   ·have HFX:=hid hf;clear hf;go_wp2_with fail;refine HF.out.mono ?_;rintro e w3⟨rfl,hb3⟩;rw [HFX.out];have lS:=hid (HL.out.trans (hb3.mono HL.out.size));clear hb3;go_wp2_with fail;exact⟨⟨k+1,by omega,by go_num,hid (by rw [List.range_succ,List.all_append,HA.out];simp [HFX.out]),lS⟩,by simp [intOf];omega⟩
  ·have i3:decide (k < n)=false:=aaV hkn
   have zk:=hid (show (List.range T.nodes.length).all (Mist.formed T)=true by
    have h9:=HA.out
    rwa [show k=T.nodes.length by rw [Nh.out];omega] at h9)
   have HKK:=hid (show ∀ (i:Nat) x,xs[i]? = some x→∀ k ∈ x.1.kids,0≤k∧k≤(i:Int) - 1 from fun i x hx=>by
    have h9:=x9 (su zk.out i (by rw [Nh.out,pF.out];exact (aaE.1 hx).1))
    rwa [F9.out,l7 its hx] at h9)
   have HORD:=hid (HOR.out wo (HT.out.below HLo.out) (by omega) (by omega) HKK.out)
   cases hor:Mist.ordered T
   ·have TQ:=hid hor;clear hor
    have HX:=hid (show dN T=4 by
     unfold dN;rw [if_neg (by rw [Nt.out];simp),if_neg (by rw [zk.out];simp),if_pos (Or.inl TQ.out)])
    go_wp2_with fail;refine HORD.out.mono ?_;rintro e w3⟨rfl,hb3⟩;rw [TQ.out];go_wp2_with fail;go_ret;exact⟨by rw [HX.out];rfl,HLo.out.trans (hb3.mono HLo.out.size)⟩
   ·have TQ:=hid hor;clear hor
    have HII:=hid (show ∀ q ∈ its,0≤q∧q < (n:Int) by
     have h9:=Z9 zk.out TQ.out;rw [Nh.out] at h9
     rwa [show T.items=its by rw [F9.out]] at h9)
    go_wp2_with fail;refine HORD.out.mono ?_;rintro e w3⟨rfl,hb3⟩;rw [TQ.out];have HT3:=hid (Dx.out.below hb3 Dx.out.lt);have lS:=hid (HLo.out.trans (hb3.mono HLo.out.size));clear hb3 t0 t1;have t0:=HT3.out.cell 0;have t1:=HT3.out.cell 1;have HSG:=hid (HSI.out w3 (HT.out.below lS.out) (by omega) (by omega) HII.out)
    cases hsg:Mist.signed T
    ·have JV:=hid hsg;clear hsg
     have HX:=hid (show dN T=4 by
      unfold dN;rw [if_neg (by rw [Nt.out];simp),if_neg (by rw [zk.out];simp),if_pos (Or.inr JV.out)])
     go_wp2_with fail;refine HSG.out.mono ?_;rintro e w4⟨rfl,hb4⟩;rw [JV.out];go_wp2_with fail;go_ret;exact⟨by rw [HX.out];rfl,lS.out.trans (hb4.mono lS.out.size)⟩
    ·have JV:=hid hsg;clear hsg;go_wp2_with fail;refine HSG.out.mono ?_;rintro e w4⟨rfl,hb4⟩;rw [JV.out];have Ji:=hid (HT3.out.below hb4 HT3.out.lt);have qx:=hid (lS.out.trans (hb4.mono lS.out.size));clear hb4 t0 t1;have t0:=Ji.out.cell 0;have t1:=Ji.out.cell 1;have HDP:=hid (JU.out w4 (HT.out.below qx.out) (by omega) (by have h9:=Vr zk.out;rwa [show T.nodes=aA xs by rw [F9.out]] at h9));have HDT:=hid (show jB (aA xs)=om T by unfold om;rw [F9.out]);rw [HDT.out] at HDP
     obtain⟨D,hD⟩:∃ D,D=om T:=⟨_,rfl⟩;rw [← hD] at HDP
     have HDD:=hid hD;clear hD;by_cases Du:30 < D
     ·have e30:decide (30 < D)=true:=aaU Du
      have HX:=hid (show dN T=5 by
       unfold dN;rw [if_neg (by rw [Nt.out];simp),if_neg (by rw [zk.out];simp),if_neg (by rw [TQ.out,JV.out];simp),if_pos (by rw [← HDD.out];exact Du)])
      go_wp2_with fail;refine HDP.out.mono ?_;rintro e w5⟨rfl,hb5⟩;go_wp2_with fail;go_ret;exact⟨by rw [HX.out];rfl,qx.out.trans (hb5.mono qx.out.size)⟩
     ·have e30:decide (30 < D)=false:=aaV Du;have H30:=hid (show ¬ 30 < om T by rw [← HDD.out];exact Du);clear Du;go_wp2_with fail;refine HDP.out.mono ?_;rintro e w5⟨rfl,hb5⟩;have zO:=hid (Ji.out.below hb5 Ji.out.lt);have jO:=hid (qx.out.trans (hb5.mono qx.out.size));clear hb5 t0 t1;have t0:=zO.out.cell 0;have t1:=zO.out.cell 1;have HOS:=hid (HOU.out w5 (HT.out.below jO.out) (by omega) (by have h9:=Vl HNR.out zk.out;rwa [show T.nodes=aA xs by rw [F9.out]] at h9));obtain⟨O,hO⟩:∃ O,O=outT T:=⟨_,rfl⟩;rw [← hO] at HOS
      have HOO:=hid hO;clear hO
      have HX:=hid (show dN T=if 0≤O then 3 else 0 by
       unfold dN;rw [if_neg (by rw [Nt.out];simp),if_neg (by rw [zk.out];simp),if_neg (by rw [TQ.out,JV.out];simp),if_neg (by have h9:=H30.out;omega),← HOO.out])
      by_cases h0:0≤O
      ·have e0:decide (0≤O)=true:=aaU h0;have HX2:=hid (show dN T=3 by rw [HX.out,if_pos h0]);go_wp2_with fail;refine HOS.out.mono ?_;rintro e w6⟨rfl,hb6⟩;go_wp2_with fail;go_ret;exact⟨by rw [HX2.out];rfl,jO.out.trans (hb6.mono jO.out.size)⟩
      ·have e0:decide (0≤O)=false:=aaV h0;have HX2:=hid (show dN T=0 by rw [HX.out,if_neg h0]);go_wp2_with fail;refine HOS.out.mono ?_;rintro e w6⟨rfl,hb6⟩;go_wp2_with fail;go_ret;exact⟨by rw [HX2.out];rfl,jO.out.trans (hb6.mono jO.out.size)⟩
theorem KY (A B:Option Addr)(c d:Nat)(xs:List NV)(its:List Int)(node:Int)(w:World)(hT:mq w A B xs its)(hR:xO (aA xs))(hE:Env w)(hc:dN ⟨aA xs,its⟩ ≠ 0) :
  Calls Tryz.prog 80 #[.agg #[.slice A xs.length c,.slice B its.length d],.int .i64 node] w fun e w'=>e=.returned (.tuple #[.pointer none,.int .i64 (dN ⟨aA xs,its⟩)])∧Below w.heap.size w w':=by
 have HC:=hid (jk A B c d xs its (w.alloc (.cells #[.slice A xs.length c,.slice B its.length d] 26)) (hT.below (ah (Below.refl _ _) (aaJ _))) hR (hE.alloc _));obtain⟨K,hK⟩:∃ K,K=dN ⟨aA xs,its⟩:=⟨_,rfl⟩;rw [← hK] at HC hc ⊢
 have k0:(K != 0)=true:=by simpa using hc
 clear hT hR hE hK;go_in
 go_wp2_with fail;refine HC.out.mono ?_;rintro e w2⟨rfl,hb⟩;go_wp2_with fail;go_ret2
 exact⟨rfl,(ah (Below.refl _ _) (aaJ _)).trans (hb.mono (by simp))⟩
theorem I_ (A B:Option Addr)(c d:Nat)(xs:List NV)(its:List Int)(node:Int)(w:World)(hT:mq w A B xs its)(hR:xO (aA xs))(hE:Env w)(hc:dN ⟨aA xs,its⟩=0)(hn:xs.length≤100000)(hno:Mist.within node 0 ((xs.length:Int) - 1)=false) :
  Calls Tryz.prog 80 #[.agg #[.slice A xs.length c,.slice B its.length d],.int .i64 node] w fun e w'=>e=.returned (.tuple #[.pointer none,.int .i64 7])∧Below w.heap.size w w':=by
 have HC:=hid (jk A B c d xs its (w.alloc (.cells #[.slice A xs.length c,.slice B its.length d] 26)) (hT.below (ah (Below.refl _ _) (aaJ _))) hR (hE.alloc _));rw [hc] at HC
 have Xq:=hid hno;clear hT hR hE hc hno;go_in
 go_wp2_with fail;refine HC.out.mono ?_;rintro e w2⟨rfl,hb⟩;have HT2:=hid (gF hb);have t0:=HT2.out.cell 0;go_wp2_with fail;refine (dU node 0 _ false Xq.out _).mono ?_;rintro e w3⟨rfl,rfl⟩;go_wp2_with fail;go_ret2
 exact⟨rfl,(ah (Below.refl _ _) (aaJ _)).trans (hb.mono (by simp))⟩
end Go.Proofs.YthepmkjggfijoaaGreatDoor
namespace Go.Proofs.YthepmkjggfijoaaGreatDoor
open Go.RowKit Go.Shelf Mist
attribute [local go_sem] Oper.semAt_some
def zJ (P:List Int):Nat→Int→List Nat
 | 0,_=>[]
 | f+1,n=>if n=-1 then [] else n.toNat :: zJ P f (P.getD n.toNat 0)
def xH (P:List Int):Prop:=∀ i,i < P.length→P.getD i 0=-1∨((i:Int) < P.getD i 0∧P.getD i 0 < (P.length:Int))
theorem tC {P:List Int}{f:Nat}{n:Nat}:zJ P (f+1) (n:Int)=n :: zJ P f (P.getD n 0):=by
 rw [zJ,if_neg (by omega),aaQ]
theorem Dn {P:List Int}(f:Nat):zJ P f (-1)=[]:=by
 cases f with
 | zero=>rfl
 | succ f=>rw [zJ,if_pos rfl]
theorem up_in (F:Fence)(n:Nat)(hf:F.fn 120)(hro:F.round=none)(wb:Nat)(nd:Int)(w:World) :
  CallsIn F n Tryz.prog 120 #[.pointer (some ⟨wb,0,none⟩),.int .i64 nd] w fun e w'=>e=.returned (.func (.func 178) #[] #[.pointer (some ⟨w.heap.size+1,0,none⟩),.pointer (some ⟨w.heap.size,0,none⟩)])∧w'=(w.alloc (.cells #[.pointer (some ⟨wb,0,none⟩)] 71)).alloc (.cells #[.int .i64 nd] 3):=by
 refine callsIn_of_wp Tryz.func120 rfl hf ?_ hro;simp only [Tryz.ntmps120,List.size_toArray,List.length_cons,List.length_nil,Nat.reduceAdd,Nat.reduceSub,Array.replicate_succ,Array.replicate_zero,List.push_toArray,List.append_toArray,List.nil_append,List.cons_append]
 gi_wp2
 go_ret;exact⟨rfl,rfl⟩
def encN (x:Nat):Array Value:=#[.int .i64 (x:Int)]
theorem up1_in (F:Fence)(n:Nat)(h63:F.fn 178)(hro:F.round=none)(hn:1≤n)(l B1 B2 wb pb N:Nat)(P:List Int)(ws:Value)(tv iv:Value)(nd:Nat)(hP:xH P)(hN:P.length=N)(hN6:N≤100000)(hnd:nd < N)(Kp:World→World→Prop)(hKp:∀ {W W':World} {b:Nat} {T:TypeId} {cs:Array Value},(b=B2∨b=wb∨b=pb)→Kp W W'→aC W b T cs→aC W' b T cs)(J Jx:List Nat→World→Prop)
  (hY:∀ pre x W,J pre W→pre.length < N+1→YieldAt F (n - 1) Tryz.prog l (encN x) W fun e W' =>
   (e=.returned (.bool true)∧J (pre ++ [x]) W'∧Kp W W')∨(e=.returned (.bool false)∧Jx (pre ++ [x]) W'))
  (W:World) (h1:aC W B1 3 #[.int .i64 (nd:Int)]) (h2:aC W B2 71 #[.pointer (some ⟨wb,0,none⟩)]) (h3:aC W wb 74 #[tv,iv,ws,.slice (some ⟨pb,0,none⟩) N N]) (h4:aC W pb 3 (iZ P)) (h0:J [] W) :
  CallsIn F n Tryz.prog 178 #[.func (.yield l) #[] #[],.pointer (some ⟨B1,0,none⟩),.pointer (some ⟨B2,0,none⟩)] W fun e W'=>(∃ v,e=.returned v) ∧
   ((∃ ys:List Nat,ys=zJ P (N+1) (nd:Int)∧J ys W')∨(∃ pre:List Nat,pre <+: zJ P (N+1) (nd:Int)∧Jx pre W')):=by
 have HP:=hid hP;clear hP;have HN:=hid hN;clear hN;have b0:=h1.cell 0;have HB2:=hid h2;have HB3:=hid h3;have tO:=hid h4;clear h1 h2 h3 h4;refine callsIn_of_wp Tryz.func178 rfl h63 ?_ hro;simp only [Tryz.ntmps178,List.size_toArray,List.length_cons,List.length_nil,Nat.reduceAdd,Nat.reduceSub,Array.replicate_succ,Array.replicate_zero,List.push_toArray,List.append_toArray,List.nil_append,List.cons_append]
 gi_wp2
 gi_loopw [4] (fun i wr=>∃ (cur:Int) (f:Nat) (pre:List Nat),i=.int .i64 cur∧(cur=-1∨(0≤cur∧cur < (N:Int)∧(N:Int) < f+cur+1∧pre.length≤cur.toNat))∧Hid (pre ++ zJ P f cur=zJ P (N+1) (nd:Int))∧J pre wr∧Hid (aC wr B2 71 #[.pointer (some ⟨wb,0,none⟩)])∧Hid (aC wr wb 74 #[tv,iv,ws,.slice (some ⟨pb,0,none⟩) N N])∧Hid (aC wr pb 3 (iZ P)))
  (fun i _=>if intOf i=-1 then 0 else N+1 - (intOf i).toNat)
 case atStart=>exact⟨(nd:Int),N+1,[],rfl,.inr ⟨by omega,by omega,by omega,by simp⟩,hid rfl,h0,HB2,HB3,tO⟩
 case round =>
  clear HB2 HB3 tO;obtain⟨cur,f,pre,rfl,hcur,HU,hJ,HB2,HB3,tO⟩:=hrel;by_cases hc:cur=-1
  ·subst hc;have e1:((-1:Int) != -1)=false:=rfl;have HE:=hid (show pre=zJ P (N+1) (nd:Int) by have h9:=HU.out;rwa [Dn,List.append_nil] at h9)
   gi_wp2
   go_end0
   exact⟨⟨_,rfl⟩,.inl (HE.out ▸ hJ)⟩
  ·have e1:(cur != -1)=true:=by simpa using hc
   rcases hcur with hcur | ⟨hc0,hc1,hc2,hc3⟩
   ·exact absurd hcur hc
   obtain⟨cn,rfl⟩:∃ cn:Nat,cur=(cn:Int):=⟨cur.toNat,by omega⟩;obtain⟨f,rfl⟩:∃ f0,f=f0+1:=⟨f - 1,by omega⟩;obtain⟨fn,tmps,assign,body,hy,hR⟩:=hY pre cn wr hJ (by simp at hc3;omega)
   dsimp only [encN] at hy
   have HU2:=hid (show (pre ++ [cn]) ++ zJ P f (P.getD cn 0)=zJ P (N+1) (nd:Int) by have h9:=HU.out;rw [tC] at h9;rw [← h9];simp);clear hc
   gi_wp2
   refine hR.mono ?_;rintro e W3 (⟨rfl,hJ3,hk3⟩ | ⟨rfl,hJx3⟩)
   ·have Bo:=hid (hKp (.inl rfl) hk3 HB2.out);have HC3:=hid (hKp (.inr (.inl rfl)) hk3 HB3.out);have HC4:=hid (hKp (.inr (.inr rfl)) hk3 tO.out);have d0:=Bo.out.cell 0;have d3:=HC3.out.cell 3;have p0:W3.cell? ⟨pb,cn,none⟩=some (.int .i64 (P.getD cn 0)):=by rw [HC4.out.cell cn];exact nE P cn (by rw [HN.out];omega)
    have hg:=HP.out cn (by rw [HN.out];omega);rw [HN.out] at hg
    obtain⟨nx,hnx⟩:∃ x,x=P.getD cn 0:=⟨_,rfl⟩;rw [← hnx] at p0 hg
    have HNX:=hid hnx;clear hnx;have i1:(0:Int)≤(cn:Int):=by omega
    gi_wp2
    refine⟨⟨nx,f,pre ++ [cn],rfl,?_,hid (by rw [HNX.out];exact HU2.out),hJ3,Bo,HC3,HC4⟩,?_⟩
    ·rcases hg with h | h
     ·exact .inl h
     ·refine .inr ⟨by omega,h.2,by omega,?_⟩;simp at hc3 ⊢
      omega
    ·have hcn1:¬ (cn:Int)=-1:=by omega
     rcases hg with h | h
     ·simp [intOf,h,hcn1];omega
     ·have hnx1:¬ nx=-1:=by omega
      simp [intOf,hnx1,hcn1];omega
   ·gi_wp2
    refine bodyPost_ret (results_none rfl _ _ _) rfl ?_;exact⟨⟨_,rfl⟩,.inr ⟨pre ++ [cn],by rw [← HU2.out];exact⟨_,rfl⟩,hJx3⟩⟩
theorem up_stops (F:Fence)(n:Nat)(h63:F.fn 178)(hro:F.round=none)(hn:1≤n)(B1 B2 wb pb N:Nat)(P:List Int)(ws:Value)(tv iv:Value)(nd:Nat)(hP:xH P)(hN:P.length=N)(hN6:N≤100000)(hnd:nd < N)(Kp:World→World→Prop)(hKp:∀ {W W':World} {b:Nat} {T:TypeId} {cs:Array Value},(b=B2∨b=wb∨b=pb)→Kp W W'→aC W b T cs→aC W' b T cs)(w:World)
  (h1:aC w B1 3 #[.int .i64 (nd:Int)]) (h2:aC w B2 71 #[.pointer (some ⟨wb,0,none⟩)]) (h3:aC w wb 74 #[tv,iv,ws,.slice (some ⟨pb,0,none⟩) N N]) (h4:aC w pb 3 (iZ P)) :
  SeqStopsK F n Tryz.prog 178 #[.pointer (some ⟨B1,0,none⟩),.pointer (some ⟨B2,0,none⟩)] encN Kp (fun ys=>ys=zJ P (N+1) (nd:Int)) (fun pre=>pre <+: zJ P (N+1) (nd:Int)) (N+1) w:=fun l J Jx W hW _ _ hY h0 =>
 up1_in F n h63 hro hn l B1 B2 wb pb N P ws tv iv nd hP hN hN6 hnd Kp hKp J Jx hY W (h1.below hW h1.lt) (h2.below hW h2.lt) (h3.below hW h3.lt) (h4.below hW h4.lt) h0
def r_ (ob N0:Nat)(W W':World):Prop:=∀ b,b < N0→b ≠ ob→W'.heap[b]? = W.heap[b]?
theorem R9 {ob N0:Nat}{A C D:World}(h:r_ ob N0 A C)(k:r_ ob N0 C D):r_ ob N0 A D:=fun b hb hn=>(k b hb hn).trans (h b hb hn)
theorem R7 {ob N0 n:Nat}(hn:N0≤n)(W:World)(l:Nat)(o o':Obj)(hl:n≤l)(ho:W.heap[l]? = some o)(_:o.isCells=false)(_:o.isWalk=false):r_ ob N0 W (W.putObj l o'):=fun b hb _=>(grownBy_putObj' W l o').block b (by have:=(aaG.1 ho).1;omega) (by intro e;injection e with e;omega)
end Go.Proofs.YthepmkjggfijoaaGreatDoor
