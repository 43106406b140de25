/-
  A part of the proof.
-/
import Derived.Test.YthepmkjggfijoaaGreatDoorSA
import Derived.Laws.EntriesVeiled
import Derived.Deep.QuietTactic
import Derived.RangeFuncNested
import Derived.RangeFuncBound
import Derived.RangeFuncCalls
import Derived.RangeFuncLeaves
import Derived.Shelf.Abstract
import Derived.Shelf.RegionOpen
import Derived.OwnWalkIn
import Derived.TacticsInMore
import Derived.LoopNIn
import Derived.LoopIn
import Derived.Test.YthepmkjggfijoaaGreatDoorShelf
import Derived.Test.YthepmkjggfijoaaGreatDoorS07
import Derived.Test.YthepmkjggfijoaaGreatDoorS21
import Derived.Test.YthepmkjggfijoaaGreatDoorS26
import Derived.Test.YthepmkjggfijoaaGreatDoorS27
set_option linter.all false
set_option maxRecDepth 100000
set_option maxHeartbeats 4000000
namespace Go.Proofs.YthepmkjggfijoaaGreatDoor
open Go.RowKit Mist
attribute [local go_sem] aj aH aS aB ak
def wm (p:Nd→Bool)(l:List Nd):Int :=
 match l.findIdx? p with
 | some i=>(i:Int)
 | none=>-1
theorem zT {p:Nd→Bool}{l:List Nd}{k:Nat}{x:Nd}(h:(l.take k).all (fun y=>!p y)=true)(e:l[k]? = some x)(b:p x=true):wm p l=(k:Int):=by
 have:l.findIdx? p=some k:=by
  rw [List.findIdx?_eq_some_iff_getElem];obtain⟨a,rfl⟩:=aaE.1 e
  refine⟨a,b,fun j f=>?_⟩
  have:=aaR.1 h l[j] (by rw [List.mem_take_iff_getElem];exact⟨j,by omega,rfl⟩)
  simpa using this
 unfold wm;rw [this]
theorem xZ {p:Nd→Bool}{l:List Nd}(h:l.all (fun y=>!p y)=true):wm p l=-1:=by
 have:l.findIdx? p=none:=by
  rw [List.findIdx?_eq_none_iff];intro x a
  have:=aaR.1 h x a
  simpa using this
 unfold wm;rw [this]
def outT (T:Tr):Int:=wm (fun x=>!Mist.sized T x) T.nodes
theorem Io (T:Tr):decide (0≤outT T)=!(T.nodes.all (Mist.sized T)):=by
 unfold outT wm;rcases h:T.nodes.findIdx? (fun x=>!Mist.sized T x) with _ | i
 ·rw [List.findIdx?_eq_none_iff] at h
  have:T.nodes.all (Mist.sized T)=true:=by
   rw [aaR];intro x e;simpa using h x e
  rw [this];rfl
 ·rw [List.findIdx?_eq_some_iff_getElem] at h
  obtain⟨a,b,_⟩:=h
  have:T.nodes.all (Mist.sized T)=false:=by
   rw [List.all_eq_false];exact⟨_,List.getElem_mem a,by simpa using b⟩
  rw [this]
  show decide ((0:Int)≤(i:Int))=true
  exact aaU (by omega)
section
variable (xs:List NV) (its:List Int) (A:Option Addr) (n c:Nat) (B:Option Addr) (m d:Nat) (w0:World) (hT:mq w0 A B xs its) (hn:n=xs.length) (hm:m=its.length)
include hT hn
theorem aay (tb:Nat)(x:Nd)(g:Option Addr)(f i:Nat)(w:World)(a:Below w0.heap.size w0 w)(h:aC w tb 26 #[.slice A n c,.slice B m d])(k:nJ ⟨aA xs,its⟩ x)(b:f=x.kids.length)(r:f≤1000000)(l:IntsIn w0 g x.kids) :
  Calls Tryz.prog 96 #[.agg #[.int .u8 x.kind,.string (aM x.text),.int .i64 x.n,.slice g f i,.int .i64 x.at_],.pointer (some ⟨tb,0,none⟩)] w fun e u=>e=.returned (.bool (!Mist.sized ⟨aA xs,its⟩ x))∧Below w.heap.size w u:=by
 have j:=O (Xa xs its A n c B m d x g f i (w.alloc (.cells #[.int .u8 x.kind,.string (aM x.text),.int .i64 x.n,.slice g f i,.int .i64 x.at_] 50)) ((hT.below a).below (ah (Below.refl _ _) (aaJ _))) hn k b r ((l.below a).below (ah (Below.refl _ _) (aaJ _))));have v:=h.cell 0;have y:=h.cell 1;have t:=h.lt;obtain⟨T,q⟩:∃ T:Tr,T=⟨aA xs,its⟩:=⟨_,rfl⟩;rw [← q] at j ⊢
 clear hT k b l a h q hn;go_in
 go_wp2_with fail;refine j.o.mono ?_;rintro e C⟨rfl,a⟩;go_wp2_with fail;go_ret;exact⟨rfl,(ah (Below.refl _ _) (aaJ _)).trans (a.mono (by simp))⟩
theorem VQ (hn6:n≤100000)(tb:Nat)(w:World)(D:Below w0.heap.size w0 w)(F:aC w tb 26 #[.slice A n c,.slice B m d])(C:∀ x ∈ aA xs,nJ ⟨aA xs,its⟩ x) :
  Calls Tryz.prog 75 #[.slice A n c,.func (.func 96) #[] #[.pointer (some ⟨tb,0,none⟩)]] w fun e w'=>e=.returned (.int .i64 (outT ⟨aA xs,its⟩))∧Below w.heap.size w w':=by
 have Y:=O (fun tb x H nk M w D F C N hl hI=>aay xs its A n c B m d w0 hT hn tb x H nk M w D F C N hl hI);obtain⟨T,G⟩:∃ T:Tr,T=⟨aA xs,its⟩:=⟨_,rfl⟩;have U:=O (show T.nodes=aA xs by rw [G]);rw [← G];have W:=O G;clear G;have HT:=O hT;clear hT;have K:=O hn;clear hn;have X:=O C;clear C;have R:=O D;clear D;have V:=O F;clear F;go_in
 go_wp2_with fail;go_loopw [8] (fun i wr=>∃ k:Nat,k≤n∧i=.int .i64 k∧Hid (((aA xs).take k).all (fun y=>!(!Mist.sized T y))=true)∧Hid (Below w.heap.size w wr)) (fun i _=>n - (intOf i).toNat)
 case atStart=>exact⟨0,aaL _,rfl,O rfl,O (Below.refl _ _)⟩
 case round =>
  obtain⟨Q,rfl⟩:∃ Q:World,Q=wr:=⟨_,rfl⟩;obtain⟨k,hk,rfl,I,l⟩:=hrel;by_cases r:k < n
  ·obtain⟨b,o,rfl,f⟩:=HT.o.nodes (by rw [← K.o];omega);obtain⟨x,h⟩:∃ x,xs[k]? = some x:=jD (by rw [← K.o];exact r);have a:=R.o.trans (l.o.mono R.o.size);have c0:=(a.cell (p:=⟨b,o+k * 5,none⟩) f.lt).trans (f.c0 k x h);have c1:=(a.cell (p:=⟨b,o+k * 5+1,none⟩) f.lt).trans (f.c1 k x h);have c2:=(a.cell (p:=⟨b,o+k * 5+2,none⟩) f.lt).trans (f.c2 k x h);have c3:=(a.cell (p:=⟨b,o+k * 5+3,none⟩) f.lt).trans (f.c3 k x h);have c4:=(a.cell (p:=⟨b,o+k * 5+4,none⟩) f.lt).trans (f.c4 k x h);obtain⟨H,M,u,P,v⟩:=f.kid h;rw [u] at c3
   have j:x.1 ∈ aA xs:=List.mem_map_of_mem (aaM h);have q:=O (Y.o tb x.1 H _ M Q a (V.o.below l.o V.o.lt) (X.o x.1 j) rfl P v);rw [← W.o] at q
   have S:=O (gP h);clear f h u a j v;have i1:(0:Int)≤(k:Int):=by omega
   have i2:(k:Int) < (n:Int):=by omega
   have i3:decide (k < n)=true:=aaU r;have Z:=O (show (aA xs).take (k+1)=(aA xs).take k ++ [x.1] by rw [List.take_add_one,S.o];rfl)
   cases E:Mist.sized T x.1
   ·have t:=O E;clear E
    have L:=O (show outT T=(k:Int) by
     unfold outT;rw [U.o];exact zT I.o S.o (by rw [t.o];rfl))
    go_wp2_with fail;refine q.o.mono ?_;rintro e w2⟨rfl,g⟩;rw [t.o];go_wp2_with fail;go_ret;exact⟨by rw [L.o];rfl,l.o.trans (g.mono l.o.size)⟩
   ·have t:=O E;clear E;go_wp2_with fail;refine q.o.mono ?_;rintro e w2⟨rfl,g⟩;rw [t.o];have J:=O (l.o.trans (g.mono l.o.size));clear g;go_wp2_with fail;exact⟨⟨k+1,by omega,by go_num,O (by rw [Z.o,List.all_append,I.o];simp [t.o]),J⟩,by simp [intOf];omega⟩
  ·have L:=O (show outT T=-1 by
    have h9:=I.o;rw [aaN (by rw [aD,← K.o];omega)] at h9
    unfold outT;rw [U.o];exact xZ h9)
   have i3:decide (k < n)=false:=aaV r;go_wp2_with fail;go_ret;exact⟨by rw [L.o];rfl,l.o⟩
end
theorem Cy (xs:List NV)(its:List Int)(A:Option Addr)(c:Nat)(B:Option Addr)(m d:Nat)(w:World)(hT:mq w A B xs its)(a:xs.length≤100000)(b:∀ x ∈ aA xs,nJ ⟨aA xs,its⟩ x) :
  Calls Tryz.prog 54 #[.agg #[.slice A xs.length c,.slice B m d]] w fun e h=>e=.returned (.int .i64 (outT ⟨aA xs,its⟩))∧Below w.heap.size w h:=by
 have f:=O (VQ xs its A xs.length c B m d w hT rfl a w.heap.size (w.alloc (.cells #[.slice A xs.length c,.slice B m d] 26)) (ah (Below.refl _ _) (aaJ _)) (aC.new _ _ _) b);clear hT b;go_in
 go_wp2_with fail;refine f.o.mono ?_;rintro e i⟨rfl,g⟩;go_wp2_with fail;go_ret;exact⟨rfl,(ah (Below.refl _ _) (aaJ _)).trans (g.mono (by simp))⟩
end Go.Proofs.YthepmkjggfijoaaGreatDoor
namespace Go.Proofs.YthepmkjggfijoaaGreatDoor
open Go.RowKit Mist
def kP (n m:Nat):Bool:=decide (800 < n) || decide (60 < m)
theorem Eb (A B:Option Addr)(n m c d:Nat)(w:World):Calls Tryz.prog 52 #[.agg #[.slice A n c,.slice B m d]] w fun e g=>e=.returned (.bool (kP n m))∧Below w.heap.size w g:=by
 by_cases h1:800 < n
 ·have b:decide ((800:Int) < (n:Int))=true:=aaU (by omega);have a:=O (show kP n m=true by simp [kP,h1]);go_in
  go_wp2;go_ret;exact⟨(by rw [a.o];rfl),ah (Below.refl _ _) (aaJ _)⟩
 ·have b:decide ((800:Int) < (n:Int))=false:=aaV (by omega);by_cases h2:60 < m
  ·have f:decide ((60:Int) < (m:Int))=true:=aaU (by omega);have a:=O (show kP n m=true by simp [kP,h2]);go_in
   go_wp2;go_ret;exact⟨(by rw [a.o];rfl),ah (Below.refl _ _) (aaJ _)⟩
  ·have f:decide ((60:Int) < (m:Int))=false:=aaV (by omega);have a:=O (show kP n m=false by simp [kP,h1,h2]);go_in
   go_wp2;go_ret;exact⟨(by rw [a.o];rfl),ah (Below.refl _ _) (aaJ _)⟩
def jB (ns:List Nd):Int:=if ns.length=0 then 0 else Lib.maxOf ((f_ ns).map fun (d:Nat)=>(d:Int))
theorem NW (b o c m d:Nat)(B:Option Addr)(xs:List NV)(w:World)(h:DI w b o xs)(i:Wf (aA xs))(hn:xs.length≤100000)(h0:0 < xs.length) :
  Calls Tryz.prog 53 #[.agg #[.slice (some ⟨b,o,none⟩) xs.length c,.slice B m d]] w fun e v=>e=.returned (.int .i64 (jB (aA xs)))∧Below w.heap.size w v:=by
 have r:=O (Rv b o c m d B xs (w.alloc (.cells #[.slice (some ⟨b,o,none⟩) xs.length c,.slice B m d] 26)) (h.below ((Below.refl _ _).alloc (aaJ _) _)) i hn);have t:=O (show jB (aA xs)=Lib.maxOf ((f_ (aA xs)).map fun (d:Nat)=>(d:Int)) by unfold jB;rw [aD,if_neg (by omega)]);have y:((xs.length:Int) == 0)=false:=by simp;intro e;subst e;simp at h0
 have f:=O (show (f_ (aA xs)).length=xs.length by unfold f_;rw [uV,List.length_replicate,aD]);clear h i;go_in
 go_wp2_with fail;refine r.o.mono ?_;rintro e w1⟨g,rfl,x,k,l⟩;have q:=O k;clear k;have u:=O l;clear l;go_wp2_with fail
 refine (Tryz.slices_Max_int g 0 xs.length xs.length ((f_ (aA xs)).map fun (d:Nat)=>(d:Int)) w1 h0 (by rw [List.length_map,f.o];exact aaJ _) (by omega) (fun j a=>by
  rw [List.length_map] at a
  rw [Nat.zero_add,q.o.cell j,sM _ j a];simp [aaH,aaD a])).mono ?_
 rintro e C⟨rfl,rfl⟩;go_wp2_with fail;go_ret
 refine⟨?_,(ah (Below.refl _ _) (aaJ _)).trans (u.o.mono (by simp))⟩
 rw [t.o,aaN (by rw [List.length_map,f.o];exact aaJ _)];rfl
def om (T:Tr):Int:=jB T.nodes
def dN (T:Tr):Int :=
 if Mist.large T=true then 5
 else if (List.range T.nodes.length).all (Mist.formed T)=false then 4
 else if Mist.ordered T=false∨Mist.signed T=false then 4
 else if 30 < om T then 5
 else if 0≤outT T then 3 else 0
theorem aal (xs:List NV)(its:List Int):kP xs.length its.length=Mist.large ⟨aA xs,its⟩:=by
 unfold kP Mist.large;rw [aD]
theorem x9 {T:Tr}{i:Nat}(h:Mist.formed T i=true):∀ c ∈ (nd T i).kids,0≤c∧c≤(i:Int) - 1:=((Mist.nW T i).1 h).2.2
theorem su {T:Tr}(h:(List.range T.nodes.length).all (Mist.formed T)=true)(i:Nat)(hi:i < T.nodes.length):Mist.formed T i=true:=aaR.1 h i (List.mem_range.2 hi)
theorem Vl {T:Tr}(hn:∀ n ∈ T.nodes,jq≤n.n∧n.n≤gq)(h:(List.range T.nodes.length).all (Mist.formed T)=true):∀ x ∈ T.nodes,nJ T x:=by
 intro x v w;obtain⟨i,hi,rfl⟩:=List.getElem_of_mem v;have e:T.nodes[i]? = some T.nodes[i]:=aaD hi;have l:=(Mist.nW T i).1 (su h i hi);rw [kH e] at l
 obtain⟨h1,_,h3⟩:=l;have u:=(Mist.Dg T.nodes[i] (kinds T T.nodes[i].kids) (by simp [kinds]) (hn _ v)).1 h1
 have hm:T.nodes[i].kids.length=2:=by
  have:=u.2.2.2.1
  simpa [jC,w] using this
 obtain⟨a,b,f⟩:∃ a b,T.nodes[i].kids=[a,b]:=by
  match o:T.nodes[i].kids,hm with
  | [a,b],_=>exact⟨a,b,rfl⟩
 rw [f] at h3
 have y:=h3 a (by simp);have C:=h3 b (by simp);have o:=u.2.2.2.2.2;rw [f] at o
 have g:=o 0 (by simp [kinds]);have k:=o 1 (by simp [kinds]);simp [mJ,w,kinds] at g k
 have num:∀ j:Nat,j < T.nodes.length→(nd T j).kind=1→-9999≤(nd T j).n∧(nd T j).n≤9999:=by
  intro j t q;have l:=(Mist.nW T j).1 (su h j t);have r:=(Mist.Dg (nd T j) (kinds T (nd T j).kids) (by simp [kinds]) (hn _ (aaM (Cw t)))).1 l.1
  have:=r.2.2.2.2.1
  simpa [gu,q,Mist.within] using this
 refine⟨a.toNat,b.toNat,?_,by omega,by omega,num _ (by omega) g,num _ (by omega) k⟩
 rw [f]
 congr 1
 ·omega
 ·congr 1;omega
theorem Z9 {T:Tr}(h:(List.range T.nodes.length).all (Mist.formed T)=true)(a:Mist.ordered T=true):∀ q ∈ T.items,0≤q∧q < (T.nodes.length:Int):=by
 have f:=Al (t:=T) (fun i n e=>by
  have:=x9 (su h i (aaE.1 e).1)
  rwa [kH e] at this) a
 intro q b
 have:=f.fo.ids q b
 omega
theorem Ma (A B:Option Addr)(c m d:Nat)(w:World):Calls Tryz.prog 53 #[.agg #[.slice A 0 c,.slice B m d]] w fun e a=>e=.returned (.int .i64 0)∧Below w.heap.size w a:=by
 go_in
 go_wp2;go_ret;exact⟨rfl,ah (Below.refl _ _) (aaJ _)⟩
theorem BZ (A B:Option Addr)(c m d:Nat)(xs:List NV)(its:List Int)(w:World)(hT:mq w A B xs its)(hn:xs.length≤100000)(f:Wf (aA xs)) :
  Calls Tryz.prog 53 #[.agg #[.slice A xs.length c,.slice B m d]] w fun e h=>e=.returned (.int .i64 (jB (aA xs)))∧Below w.heap.size w h:=by
 rcases Nat.eq_zero_or_pos xs.length with h0 | h0
 ·have g:xs=[]:=List.eq_nil_of_length_eq_zero h0;subst g;exact Ma A B c m d w
 ·obtain⟨b,o,rfl,a⟩:=hT.nodes h0;exact NW b o c m d B xs w a.kids f hn h0
theorem Vr {T:Tr}(h:(List.range T.nodes.length).all (Mist.formed T)=true):Wf T.nodes:=by
 intro i x a q b
 have:=x9 (su h i (aaE.1 a).1)
 rw [kH a] at this
 have:=this q b
 omega
theorem jk (A B:Option Addr)(c d:Nat)(xs:List NV)(its:List Int)(w:World)(hT:mq w A B xs its)(hR:xO (aA xs))(hE:Env w) :
  Calls Tryz.prog 22 #[.agg #[.slice A xs.length c,.slice B its.length d]] w fun e w'=>e=.returned (.int .i64 (dN ⟨aA xs,its⟩))∧Below w.heap.size w w':=by
 obtain⟨n,f⟩:∃ n,n=xs.length:=⟨_,rfl⟩;obtain⟨m,u⟩:∃ m,m=its.length:=⟨_,rfl⟩;obtain⟨T,I⟩:∃ T:Tr,T=⟨aA xs,its⟩:=⟨_,rfl⟩;have TL:=O (show kP n m=Mist.large T by rw [I,f,u];exact aal xs its);have Nh:=O (show T.nodes.length=n by rw [I,f];exact aD xs);have Xm:=O (fun i w hT hE hi hn=>RJ A B c m d xs its i w hT hR hE hi hn);have Z:=O (fun w hT hn hm hK=>OW A B c d xs its w hT hR hn hm hK);have HSI:=O (fun w hT hn hm hI=>S_ A B c d xs its w hT hR hn hm hI);have JU:=O (fun w hT hn hW=>BZ A B c m d xs its w hT hn hW);have HOU:=O (fun w hT hn hC=>Cy xs its A c B m d w hT hn hC);rw [← I,← f] at Xm
 rw [← I,← f,← u] at Z HSI
 rw [← I,← f] at HOU
 rw [← f] at JU
 rw [← I,← f,← u];have V:=O I;clear I;have pF:=O f;clear f;have U1:=O u;clear u;have HT:=O hT;clear hT;have HE:=O hE;clear hE;have HNR:=O (show ∀ x ∈ T.nodes,jq≤x.n∧x.n≤gq from fun x hx=>by rw [V.o] at hx;exact (hR x hx).num);clear hR;go_in
 go_wp2_with fail;refine (Eb A B n m c d _).mono ?_;rintro e w2⟨rfl,P⟩;rw [TL.o];have y:=O (gF P);have K:=O ((ah (Below.refl w.heap.size w) (aaJ _) (o:=.cells #[.slice A n c,.slice B m d] 26)).trans (P.mono (by simp)));clear P;have S:=y.o.cell 0;have U:=y.o.cell 1
 cases t:Mist.large T
 case true =>
  have h:=O (show dN T=5 by unfold dN;rw [if_pos t]);clear t;go_wp2_with fail;go_ret;exact⟨by rw [h.o];rfl,K.o⟩
 have hsz:n≤800∧m≤60:=by
  have h9:=TL.o;rw [t] at h9
  unfold kP at h9
  simp at h9
  omega
 have Nt:=O t;clear t;obtain⟨hn8,hm6⟩:=hsz;go_wp2_with fail;go_loopw [9] (fun i wr=>∃ k:Nat,k≤n∧i=.int .i64 k∧Hid ((List.range k).all (Mist.formed T)=true)∧Hid (Below w2.heap.size w2 wr)) (fun i _=>n - (intOf i).toNat)
 case atStart=>exact⟨0,aaL _,rfl,O rfl,O (Below.refl _ _)⟩
 case round =>
  obtain⟨wo,rfl⟩:∃ wo:World,wo=wr:=⟨_,rfl⟩;obtain⟨k,hk,rfl,HA,HL⟩:=hrel;have Dx:=O (y.o.below HL.o y.o.lt);have b:=O (K.o.trans (HL.o.mono K.o.size));have S:=Dx.o.cell 0;have U:=Dx.o.cell 1;by_cases E:k < n
  ·have i3:decide (k < n)=true:=aaU E;have HF:=O (Xm.o k wo (HT.o.below b.o) (HE.o.below b.o) E (by omega))
   cases hf:Mist.formed T k
   ·have j:=O hf;clear hf
    have h:=O (show dN T=4 by
     unfold dN;rw [if_neg (by rw [Nt.o];simp),if_pos];rw [List.all_eq_false];exact⟨k,List.mem_range.2 (by rw [Nh.o];exact E),by rw [j.o];simp⟩)
    go_wp2_with fail;refine HF.o.mono ?_;rintro e w3⟨rfl,a⟩;rw [j.o];go_wp2_with fail;go_ret;exact⟨by rw [h.o];rfl,b.o.trans (a.mono b.o.size)⟩
   ·have j:=O hf;clear hf;go_wp2_with fail;refine HF.o.mono ?_;rintro e w3⟨rfl,a⟩;rw [j.o];have R:=O (HL.o.trans (a.mono HL.o.size));clear a;go_wp2_with fail;exact⟨⟨k+1,by omega,by go_num,O (by rw [List.range_succ,List.all_append,HA.o];simp [j.o]),R⟩,by simp [intOf];omega⟩
  ·have i3:decide (k < n)=false:=aaV E
   have J:=O (show (List.range T.nodes.length).all (Mist.formed T)=true by
    have h9:=HA.o
    rwa [show k=T.nodes.length by rw [Nh.o];omega] at h9)
   have HKK:=O (show ∀ (i:Nat) x,xs[i]? = some x→∀ k ∈ x.1.kids,0≤k∧k≤(i:Int) - 1 from fun i x hx=>by
    have h9:=x9 (su J.o i (by rw [Nh.o,pF.o];exact (aaE.1 hx).1))
    rwa [V.o,l7 its hx] at h9)
   have H:=O (Z.o wo (HT.o.below b.o) (by omega) (by omega) HKK.o)
   cases F:Mist.ordered T
   ·have N:=O F;clear F
    have h:=O (show dN T=4 by
     unfold dN;rw [if_neg (by rw [Nt.o];simp),if_neg (by rw [J.o];simp),if_pos (Or.inl N.o)])
    go_wp2_with fail;refine H.o.mono ?_;rintro e w3⟨rfl,a⟩;rw [N.o];go_wp2_with fail;go_ret;exact⟨by rw [h.o];rfl,b.o.trans (a.mono b.o.size)⟩
   ·have N:=O F;clear F
    have HII:=O (show ∀ q ∈ its,0≤q∧q < (n:Int) by
     have h9:=Z9 J.o N.o;rw [Nh.o] at h9
     rwa [show T.items=its by rw [V.o]] at h9)
    go_wp2_with fail;refine H.o.mono ?_;rintro e w3⟨rfl,a⟩;rw [N.o];have C:=O (Dx.o.below a Dx.o.lt);have R:=O (b.o.trans (a.mono b.o.size));clear a S U;have S:=C.o.cell 0;have U:=C.o.cell 1;have HSG:=O (HSI.o w3 (HT.o.below R.o) (by omega) (by omega) HII.o)
    cases G:Mist.signed T
    ·have W:=O G;clear G
     have h:=O (show dN T=4 by
      unfold dN;rw [if_neg (by rw [Nt.o];simp),if_neg (by rw [J.o];simp),if_pos (Or.inr W.o)])
     go_wp2_with fail;refine HSG.o.mono ?_;rintro e w4⟨rfl,l⟩;rw [W.o];go_wp2_with fail;go_ret;exact⟨by rw [h.o];rfl,R.o.trans (l.mono R.o.size)⟩
    ·have W:=O G;clear G;go_wp2_with fail;refine HSG.o.mono ?_;rintro e w4⟨rfl,l⟩;rw [W.o];have Ji:=O (C.o.below l C.o.lt);have qx:=O (R.o.trans (l.mono R.o.size));clear l S U;have S:=Ji.o.cell 0;have U:=Ji.o.cell 1;have v:=O (JU.o w4 (HT.o.below qx.o) (by omega) (by have h9:=Vr J.o;rwa [show T.nodes=aA xs by rw [V.o]] at h9));have HDT:=O (show jB (aA xs)=om T by unfold om;rw [V.o]);rw [HDT.o] at v
     obtain⟨D,hD⟩:∃ D,D=om T:=⟨_,rfl⟩;rw [← hD] at v
     have Y:=O hD;clear hD;by_cases X:30 < D
     ·have e30:decide (30 < D)=true:=aaU X
      have h:=O (show dN T=5 by
       unfold dN;rw [if_neg (by rw [Nt.o];simp),if_neg (by rw [J.o];simp),if_neg (by rw [N.o,W.o];simp),if_pos (by rw [← Y.o];exact X)])
      go_wp2_with fail;refine v.o.mono ?_;rintro e w5⟨rfl,r⟩;go_wp2_with fail;go_ret;exact⟨by rw [h.o];rfl,qx.o.trans (r.mono qx.o.size)⟩
     ·have e30:decide (30 < D)=false:=aaV X;have H30:=O (show ¬ 30 < om T by rw [← Y.o];exact X);clear X;go_wp2_with fail;refine v.o.mono ?_;rintro e w5⟨rfl,r⟩;have zO:=O (Ji.o.below r Ji.o.lt);have jO:=O (qx.o.trans (r.mono qx.o.size));clear r S U;have S:=zO.o.cell 0;have U:=zO.o.cell 1;have L:=O (HOU.o w5 (HT.o.below jO.o) (by omega) (by have h9:=Vl HNR.o J.o;rwa [show T.nodes=aA xs by rw [V.o]] at h9));obtain⟨g,hO⟩:∃ g,g=outT T:=⟨_,rfl⟩;rw [← hO] at L
      have HOO:=O hO;clear hO
      have h:=O (show dN T=if 0≤g then 3 else 0 by
       unfold dN;rw [if_neg (by rw [Nt.o];simp),if_neg (by rw [J.o];simp),if_neg (by rw [N.o,W.o];simp),if_neg (by have h9:=H30.o;omega),← HOO.o])
      by_cases h0:0≤g
      ·have e0:decide (0≤g)=true:=aaU h0;have M:=O (show dN T=3 by rw [h.o,if_pos h0]);go_wp2_with fail;refine L.o.mono ?_;rintro e w6⟨rfl,Q⟩;go_wp2_with fail;go_ret;exact⟨by rw [M.o];rfl,jO.o.trans (Q.mono jO.o.size)⟩
      ·have e0:decide (0≤g)=false:=aaV h0;have M:=O (show dN T=0 by rw [h.o,if_neg h0]);go_wp2_with fail;refine L.o.mono ?_;rintro e w6⟨rfl,Q⟩;go_wp2_with fail;go_ret;exact⟨by rw [M.o];rfl,jO.o.trans (Q.mono jO.o.size)⟩
theorem KY (A B:Option Addr)(c d:Nat)(xs:List NV)(its:List Int)(a:Int)(w:World)(hT:mq w A B xs its)(h:xO (aA xs))(f:Env w)(i:dN ⟨aA xs,its⟩ ≠ 0) :
  Calls Tryz.prog 80 #[.agg #[.slice A xs.length c,.slice B its.length d],.int .i64 a] w fun e k=>e=.returned (.tuple #[.pointer none,.int .i64 (dN ⟨aA xs,its⟩)])∧Below w.heap.size w k:=by
 have b:=O (jk A B c d xs its (w.alloc (.cells #[.slice A xs.length c,.slice B its.length d] 26)) (hT.below (ah (Below.refl _ _) (aaJ _))) h (f.alloc _));obtain⟨K,g⟩:∃ K,K=dN ⟨aA xs,its⟩:=⟨_,rfl⟩;rw [← g] at b i ⊢
 have k0:(K != 0)=true:=by simpa using i
 clear hT h f g;go_in
 go_wp2_with fail;refine b.o.mono ?_;rintro e l⟨rfl,j⟩;go_wp2_with fail;go_ret2
 exact⟨rfl,(ah (Below.refl _ _) (aaJ _)).trans (j.mono (by simp))⟩
theorem I_ (A B:Option Addr)(c d:Nat)(xs:List NV)(its:List Int)(a:Int)(w:World)(hT:mq w A B xs its)(i:xO (aA xs))(h:Env w)(k:dN ⟨aA xs,its⟩=0)(hn:xs.length≤100000)(b:Mist.within a 0 ((xs.length:Int) - 1)=false) :
  Calls Tryz.prog 80 #[.agg #[.slice A xs.length c,.slice B its.length d],.int .i64 a] w fun e q=>e=.returned (.tuple #[.pointer none,.int .i64 7])∧Below w.heap.size w q:=by
 have g:=O (jk A B c d xs its (w.alloc (.cells #[.slice A xs.length c,.slice B its.length d] 26)) (hT.below (ah (Below.refl _ _) (aaJ _))) i (h.alloc _));rw [k] at g
 have l:=O b;clear hT i h k b;go_in
 go_wp2_with fail;refine g.o.mono ?_;rintro e t⟨rfl,j⟩;have f:=O (gF j);have r:=f.o.cell 0;go_wp2_with fail;refine (dU a 0 _ false l.o _).mono ?_;rintro e u⟨rfl,rfl⟩;go_wp2_with fail;go_ret2
 exact⟨rfl,(ah (Below.refl _ _) (aaJ _)).trans (j.mono (by simp))⟩
end Go.Proofs.YthepmkjggfijoaaGreatDoor
namespace Go.Proofs.YthepmkjggfijoaaGreatDoor
open Go.RowKit Go.Shelf Mist
attribute [local go_sem] Oper.semAt_some
def zJ (P:List Int):Nat→Int→List Nat
 | 0,_=>[]
 | f+1,n=>if n=-1 then [] else n.toNat :: zJ P f (P.getD n.toNat 0)
def xH (P:List Int):Prop:=∀ i,i < P.length→P.getD i 0=-1∨((i:Int) < P.getD i 0∧P.getD i 0 < (P.length:Int))
theorem tC {P:List Int}{f:Nat}{n:Nat}:zJ P (f+1) (n:Int)=n :: zJ P f (P.getD n 0):=by
 rw [zJ,if_neg (by omega),aaQ]
theorem Dn {P:List Int}(f:Nat):zJ P f (-1)=[]:=by
 cases f with
 | zero=>rfl
 | succ f=>rw [zJ,if_pos rfl]
theorem up_in (F:Fence)(n:Nat)(f:F.fn 120)(a:F.round=none)(b:Nat)(nd:Int)(w:World) :
  CallsIn F n Tryz.prog 120 #[.pointer (some ⟨b,0,none⟩),.int .i64 nd] w fun e g=>e=.returned (.func (.func 178) #[] #[.pointer (some ⟨w.heap.size+1,0,none⟩),.pointer (some ⟨w.heap.size,0,none⟩)])∧g=(w.alloc (.cells #[.pointer (some ⟨b,0,none⟩)] 71)).alloc (.cells #[.int .i64 nd] 3):=by
 refine callsIn_of_wp Tryz.func120 rfl f ?_ a;simp only [Tryz.ntmps120,List.size_toArray,List.length_cons,List.length_nil,Nat.reduceAdd,Nat.reduceSub,Array.replicate_succ,Array.replicate_zero,List.push_toArray,List.append_toArray,List.nil_append,List.cons_append]
 gi_wp2
 go_ret;exact⟨rfl,rfl⟩
def encN (x:Nat):Array Value:=#[.int .i64 (x:Int)]
theorem up1_in (F:Fence)(n:Nat)(h63:F.fn 178)(Z:F.round=none)(hn:1≤n)(l B1 Q M D N:Nat)(P:List Int)(ws:Value)(tv iv:Value)(nd:Nat)(hP:xH P)(hN:P.length=N)(hN6:N≤100000)(hnd:nd < N)(Kp:World→World→Prop)(w:∀ {W t:World} {b:Nat} {T:TypeId} {cs:Array Value},(b=Q∨b=M∨b=D)→Kp W t→aC W b T cs→aC t b T cs)(J Jx:List Nat→World→Prop)
  (hY:∀ a x W,J a W→a.length < N+1→YieldAt F (n - 1) Tryz.prog l (encN x) W fun e t =>
   (e=.returned (.bool true)∧J (a ++ [x]) t∧Kp W t)∨(e=.returned (.bool false)∧Jx (a ++ [x]) t))
  (W:World) (h1:aC W B1 3 #[.int .i64 (nd:Int)]) (h2:aC W Q 71 #[.pointer (some ⟨M,0,none⟩)]) (h3:aC W M 74 #[tv,iv,ws,.slice (some ⟨D,0,none⟩) N N]) (h4:aC W D 3 (iZ P)) (h0:J [] W) :
  CallsIn F n Tryz.prog 178 #[.func (.yield l) #[] #[],.pointer (some ⟨B1,0,none⟩),.pointer (some ⟨Q,0,none⟩)] W fun e t=>(∃ v,e=.returned v) ∧
   ((∃ ys:List Nat,ys=zJ P (N+1) (nd:Int)∧J ys t)∨(∃ a:List Nat,a <+: zJ P (N+1) (nd:Int)∧Jx a t)):=by
 have HP:=O hP;clear hP;have V:=O hN;clear hN;have b0:=h1.cell 0;have q:=O h2;have r:=O h3;have U:=O h4;clear h1 h2 h3 h4;refine callsIn_of_wp Tryz.func178 rfl h63 ?_ Z;simp only [Tryz.ntmps178,List.size_toArray,List.length_cons,List.length_nil,Nat.reduceAdd,Nat.reduceSub,Array.replicate_succ,Array.replicate_zero,List.push_toArray,List.append_toArray,List.nil_append,List.cons_append]
 gi_wp2
 gi_loopw [4] (fun i wr=>∃ (g:Int) (f:Nat) (a:List Nat),i=.int .i64 g∧(g=-1∨(0≤g∧g < (N:Int)∧(N:Int) < f+g+1∧a.length≤g.toNat))∧Hid (a ++ zJ P f g=zJ P (N+1) (nd:Int))∧J a wr∧Hid (aC wr Q 71 #[.pointer (some ⟨M,0,none⟩)])∧Hid (aC wr M 74 #[tv,iv,ws,.slice (some ⟨D,0,none⟩) N N])∧Hid (aC wr D 3 (iZ P)))
  (fun i _=>if intOf i=-1 then 0 else N+1 - (intOf i).toNat)
 case atStart=>exact⟨(nd:Int),N+1,[],rfl,.inr ⟨by omega,by omega,by omega,by simp⟩,O rfl,h0,q,r,U⟩
 case round =>
  clear q r U;obtain⟨g,f,a,rfl,k,HU,hJ,q,r,U⟩:=hrel;by_cases R:g=-1
  ·subst R;have e1:((-1:Int) != -1)=false:=rfl;have HE:=O (show a=zJ P (N+1) (nd:Int) by have h9:=HU.o;rwa [Dn,List.append_nil] at h9)
   gi_wp2
   go_end0
   exact⟨⟨_,rfl⟩,.inl (HE.o ▸ hJ)⟩
  ·have e1:(g != -1)=true:=by simpa using R
   rcases k with k | ⟨hc0,hc1,hc2,K⟩
   ·exact absurd k R
   obtain⟨j,rfl⟩:∃ j:Nat,g=(j:Int):=⟨g.toNat,by omega⟩;obtain⟨f,rfl⟩:∃ f0,f=f0+1:=⟨f - 1,by omega⟩;obtain⟨fn,tmps,assign,body,hy,hR⟩:=hY a j wr hJ (by simp at K;omega)
   dsimp only [encN] at hy
   have H:=O (show (a ++ [j]) ++ zJ P f (P.getD j 0)=zJ P (N+1) (nd:Int) by have h9:=HU.o;rw [tC] at h9;rw [← h9];simp);clear R
   gi_wp2
   refine hR.mono ?_;rintro e W3 (⟨rfl,Y,y⟩ | ⟨rfl,I⟩)
   ·have Bo:=O (w (.inl rfl) y q.o);have E:=O (w (.inr (.inl rfl)) y r.o);have G:=O (w (.inr (.inr rfl)) y U.o);have d0:=Bo.o.cell 0;have d3:=E.o.cell 3;have p0:W3.cell? ⟨D,j,none⟩=some (.int .i64 (P.getD j 0)):=by rw [G.o.cell j];exact nE P j (by rw [V.o];omega)
    have S:=HP.o j (by rw [V.o];omega);rw [V.o] at S
    obtain⟨nx,C⟩:∃ x,x=P.getD j 0:=⟨_,rfl⟩;rw [← C] at p0 S
    have X:=O C;clear C;have i1:(0:Int)≤(j:Int):=by omega
    gi_wp2
    refine⟨⟨nx,f,a ++ [j],rfl,?_,O (by rw [X.o];exact H.o),Y,Bo,E,G⟩,?_⟩
    ·rcases S with h | h
     ·exact .inl h
     ·refine .inr ⟨by omega,h.2,by omega,?_⟩;simp at K ⊢
      omega
    ·have u:¬ (j:Int)=-1:=by omega
     rcases S with h | h
     ·simp [intOf,h,u];omega
     ·have L:¬ nx=-1:=by omega
      simp [intOf,L,u];omega
   ·gi_wp2
    refine bodyPost_ret (results_none rfl _ _ _) rfl ?_;exact⟨⟨_,rfl⟩,.inr ⟨a ++ [j],by rw [← H.o];exact⟨_,rfl⟩,I⟩⟩
theorem up_stops (F:Fence)(n:Nat)(h63:F.fn 178)(o:F.round=none)(hn:1≤n)(h a g f N:Nat)(P:List Int)(t:Value)(tv iv:Value)(nd:Nat)(x:xH P)(v:P.length=N)(k:N≤100000)(hnd:nd < N)(i:World→World→Prop)(j:∀ {W r:World} {b:Nat} {T:TypeId} {cs:Array Value},(b=a∨b=g∨b=f)→i W r→aC W b T cs→aC r b T cs)(w:World)
  (h1:aC w h 3 #[.int .i64 (nd:Int)]) (h2:aC w a 71 #[.pointer (some ⟨g,0,none⟩)]) (h3:aC w g 74 #[tv,iv,t,.slice (some ⟨f,0,none⟩) N N]) (h4:aC w f 3 (iZ P)) :
  SeqStopsK F n Tryz.prog 178 #[.pointer (some ⟨h,0,none⟩),.pointer (some ⟨a,0,none⟩)] encN i (fun C=>C=zJ P (N+1) (nd:Int)) (fun q=>q <+: zJ P (N+1) (nd:Int)) (N+1) w:=fun l J u W e _ _ y h0 =>
 up1_in F n h63 o hn l h a g f N P t tv iv nd x v k hnd i j J u y W (h1.below e h1.lt) (h2.below e h2.lt) (h3.below e h3.lt) (h4.below e h4.lt) h0
def r_ (ob N0:Nat)(W W':World):Prop:=∀ b,b < N0→b ≠ ob→W'.heap[b]? = W.heap[b]?
theorem R9 {e a:Nat}{A C D:World}(h:r_ e a A C)(k:r_ e a C D):r_ e a A D:=fun b f hn=>(k b f hn).trans (h b f hn)
theorem R7 {h a n:Nat}(hn:a≤n)(W:World)(l:Nat)(o f:Obj)(j:n≤l)(g:W.heap[l]? = some o)(_:o.isCells=false)(_:o.isWalk=false):r_ h a W (W.putObj l f):=fun b i _=>(grownBy_putObj' W l f).block b (by have:=(aaG.1 g).1;omega) (by intro e;injection e with e;omega)
end Go.Proofs.YthepmkjggfijoaaGreatDoor
