/-
  A part of the proof.
-/
import Derived.Test.YtalghggmkojblaaGreatDoorS34
set_option linter.all false
set_option maxRecDepth 100000
set_option maxHeartbeats 4000000
namespace Go.Proofs.YtalghggmkojblaaGreatDoor
section
open Go.RowKit Mist
attribute [local go_sem] ak aN aV aF aj
def yB (p:Nd→Bool)(l:List Nd):Int :=
 match l.findIdx? p with
 | some i=>(i:Int)
 | none=>-1
theorem R4 {p:Nd→Bool}{l:List Nd}{k:Nat}{x:Nd}(h:(l.take k).all (fun y=>!p y)=true)(e:l[k]? = some x)(b:p x=true):yB p l=(k:Int):=by
 have:l.findIdx? p=some k:=by
  rw [List.findIdx?_eq_some_iff_getElem];obtain⟨a,rfl⟩:=amG.1 e
  refine⟨a,b,fun j f=>?_⟩
  have:=amT.1 h l[j] (by rw [List.mem_take_iff_getElem];exact⟨j,by omega,rfl⟩)
  simpa using this
 unfold yB;rw [this]
theorem NU {p:Nd→Bool}{l:List Nd}(h:l.all (fun y=>!p y)=true):yB p l=-1:=by
 have:l.findIdx? p=none:=by
  rw [List.findIdx?_eq_none_iff];intro x a
  have:=amT.1 h x a
  simpa using this
 unfold yB;rw [this]
def outT (T:Tr):Int:=yB (fun x=>!Mist.sized T x) T.nodes
theorem GL (T:Tr):decide (0≤outT T)=!(T.nodes.all (Mist.sized T)):=by
 unfold outT yB;rcases h:T.nodes.findIdx? (fun x=>!Mist.sized T x) with _ | i
 ·rw [List.findIdx?_eq_none_iff] at h
  have:T.nodes.all (Mist.sized T)=true:=by
   rw [amT];intro x e;simpa using h x e
  rw [this];rfl
 ·rw [List.findIdx?_eq_some_iff_getElem] at h
  obtain⟨a,b,_⟩:=h
  have:T.nodes.all (Mist.sized T)=false:=by
   rw [List.all_eq_false];exact⟨_,List.getElem_mem a,by simpa using b⟩
  rw [this]
  show decide ((0:Int)≤(i:Int))=true
  exact amW (by omega)
section
variable (xs:List NV) (its:List Int) (A:Option Addr) (n c:Nat) (B:Option Addr) (m d:Nat) (w0:World) (hT:uZ w0 A B xs its) (hn:n=xs.length) (hm:m=its.length)
include hT hn
theorem ab8 (tb:Nat)(x:Nd)(g:Option Addr)(f i:Nat)(w:World)(a:Below w0.heap.size w0 w)(h:bY w tb 28 #[.slice A n c,.slice B m d])(k:oJ ⟨aH xs,its⟩ x)(b:f=x.kids.length)(r:f≤1000000)(l:IntsIn w0 g x.kids) :
  Calls Tryz.prog 72 #[.agg #[.int .u8 x.kind,.string (aG x.text),.int .i64 x.n,.slice g f i,.int .i64 x.at_],.pointer (some ⟨tb,0,none⟩)] w fun e u=>e=.returned (.bool (!Mist.sized ⟨aH xs,its⟩ x))∧Below w.heap.size w u:=by
 have j:=O (YP xs its A n c B m d x g f i (w.alloc (.cells #[.int .u8 x.kind,.string (aG x.text),.int .i64 x.n,.slice g f i,.int .i64 x.at_] 56)) ((hT.below a).below (aU (Below.refl _ _) (amL _))) hn k b r ((l.below a).below (aU (Below.refl _ _) (amL _))));have v:=h.cell 0;have y:=h.cell 1;have t:=h.lt;obtain⟨T,q⟩:∃ T:Tr,T=⟨aH xs,its⟩:=⟨_,rfl⟩;rw [← q] at j ⊢
 clear hT k b l a h q hn;go_in
 go_wp2_with fail;refine j.o.mono ?_;rintro e C⟨rfl,a⟩;go_wp2_with fail;go_ret;exact⟨rfl,(aU (Below.refl _ _) (amL _)).trans (a.mono (by simp))⟩
theorem Xt (hn6:n≤100000)(tb:Nat)(w:World)(D:Below w0.heap.size w0 w)(F:bY w tb 28 #[.slice A n c,.slice B m d])(C:∀ x ∈ aH xs,oJ ⟨aH xs,its⟩ x) :
  Calls Tryz.prog 71 #[.slice A n c,.func (.func 72) #[] #[.pointer (some ⟨tb,0,none⟩)]] w fun e w'=>e=.returned (.int .i64 (outT ⟨aH xs,its⟩))∧Below w.heap.size w w':=by
 have Y:=O (fun tb x H nk M w D F C N hl hI=>ab8 xs its A n c B m d w0 hT hn tb x H nk M w D F C N hl hI);obtain⟨T,G⟩:∃ T:Tr,T=⟨aH xs,its⟩:=⟨_,rfl⟩;have V:=O (show T.nodes=aH xs by rw [G]);rw [← G];have IB:=O G;clear G;have HT:=O hT;clear hT;have K:=O hn;clear hn;have X:=O C;clear C;have R:=O D;clear D;have U:=O F;clear F;go_in
 go_wp2_with fail;go_loopw [8] (fun i wr=>∃ k:Nat,k≤n∧i=.int .i64 k∧Hid (((aH xs).take k).all (fun y=>!(!Mist.sized T y))=true)∧Hid (Below w.heap.size w wr)) (fun i _=>n - (intOf i).toNat)
 case atStart=>exact⟨0,amN _,rfl,O rfl,O (Below.refl _ _)⟩
 case round =>
  obtain⟨Q,rfl⟩:∃ Q:World,Q=wr:=⟨_,rfl⟩;obtain⟨k,hk,rfl,I,l⟩:=hrel;by_cases r:k < n
  ·obtain⟨b,o,rfl,f⟩:=HT.o.nodes (by rw [← K.o];omega);obtain⟨x,h⟩:∃ x,xs[k]? = some x:=nE (by rw [← K.o];exact r);have a:=R.o.trans (l.o.mono R.o.size);have c0:=(a.cell (p:=⟨b,o+k * 5,none⟩) f.lt).trans (f.c0 k x h);have c1:=(a.cell (p:=⟨b,o+k * 5+1,none⟩) f.lt).trans (f.c1 k x h);have c2:=(a.cell (p:=⟨b,o+k * 5+2,none⟩) f.lt).trans (f.c2 k x h);have c3:=(a.cell (p:=⟨b,o+k * 5+3,none⟩) f.lt).trans (f.c3 k x h);have c4:=(a.cell (p:=⟨b,o+k * 5+4,none⟩) f.lt).trans (f.c4 k x h);obtain⟨H,M,u,P,v⟩:=f.kid h;rw [u] at c3
   have j:x.1 ∈ aH xs:=List.mem_map_of_mem (amO h);have q:=O (Y.o tb x.1 H _ M Q a (U.o.below l.o U.o.lt) (X.o x.1 j) rfl P v);rw [← IB.o] at q
   have S:=O (AQ h);clear f h u a j v;have i1:(0:Int)≤(k:Int):=by omega
   have i2:(k:Int) < (n:Int):=by omega
   have i3:decide (k < n)=true:=amW r;have Z:=O (show (aH xs).take (k+1)=(aH xs).take k ++ [x.1] by rw [List.take_add_one,S.o];rfl)
   cases E:Mist.sized T x.1
   ·have t:=O E;clear E
    have L:=O (show outT T=(k:Int) by
     unfold outT;rw [V.o];exact R4 I.o S.o (by rw [t.o];rfl))
    go_wp2_with fail;refine q.o.mono ?_;rintro e w2⟨rfl,g⟩;rw [t.o];go_wp2_with fail;go_ret;exact⟨by rw [L.o];rfl,l.o.trans (g.mono l.o.size)⟩
   ·have t:=O E;clear E;go_wp2_with fail;refine q.o.mono ?_;rintro e w2⟨rfl,g⟩;rw [t.o];have J:=O (l.o.trans (g.mono l.o.size));clear g;go_wp2_with fail;exact⟨⟨k+1,by omega,by go_num,O (by rw [Z.o,List.all_append,I.o];simp [t.o]),J⟩,by simp [intOf];omega⟩
  ·have L:=O (show outT T=-1 by
    have h9:=I.o;rw [amP (by rw [dK,← K.o];omega)] at h9
    unfold outT;rw [V.o];exact NU h9)
   have i3:decide (k < n)=false:=amX r;go_wp2_with fail;go_ret;exact⟨by rw [L.o];rfl,l.o⟩
end
theorem BO (xs:List NV)(its:List Int)(A:Option Addr)(c:Nat)(B:Option Addr)(m d:Nat)(w:World)(hT:uZ w A B xs its)(a:xs.length≤100000)(b:∀ x ∈ aH xs,oJ ⟨aH xs,its⟩ x) :
  Calls Tryz.prog 41 #[.agg #[.slice A xs.length c,.slice B m d]] w fun e h=>e=.returned (.int .i64 (outT ⟨aH xs,its⟩))∧Below w.heap.size w h:=by
 have f:=O (Xt xs its A xs.length c B m d w hT rfl a w.heap.size (w.alloc (.cells #[.slice A xs.length c,.slice B m d] 28)) (aU (Below.refl _ _) (amL _)) (bY.new _ _ _) b);clear hT b;go_in
 go_wp2_with fail;refine f.o.mono ?_;rintro e i⟨rfl,g⟩;go_wp2_with fail;go_ret;exact⟨rfl,(aU (Below.refl _ _) (amL _)).trans (g.mono (by simp))⟩
end
section
open Go.RowKit Mist
def ow (n m:Nat):Bool:=decide (800 < n) || decide (60 < m)
theorem JJ (A B:Option Addr)(n m c d:Nat)(w:World):Calls Tryz.prog 39 #[.agg #[.slice A n c,.slice B m d]] w fun e g=>e=.returned (.bool (ow n m))∧Below w.heap.size w g:=by
 by_cases h1:800 < n
 ·have b:decide ((800:Int) < (n:Int))=true:=amW (by omega);have a:=O (show ow n m=true by simp [ow,h1]);go_in
  go_wp2;go_ret;exact⟨(by rw [a.o];rfl),aU (Below.refl _ _) (amL _)⟩
 ·have b:decide ((800:Int) < (n:Int))=false:=amX (by omega);by_cases h2:60 < m
  ·have f:decide ((60:Int) < (m:Int))=true:=amW (by omega);have a:=O (show ow n m=true by simp [ow,h2]);go_in
   go_wp2;go_ret;exact⟨(by rw [a.o];rfl),aU (Below.refl _ _) (amL _)⟩
  ·have f:decide ((60:Int) < (m:Int))=false:=amX (by omega);have a:=O (show ow n m=false by simp [ow,h1,h2]);go_in
   go_wp2;go_ret;exact⟨(by rw [a.o];rfl),aU (Below.refl _ _) (amL _)⟩
def nu (ns:List Nd):Int:=if ns.length=0 then 0 else Lib.maxOf ((kU ns).map fun (d:Nat)=>(d:Int))
theorem NT (b o c m d:Nat)(B:Option Addr)(xs:List NV)(w:World)(h:C_ w b o xs)(i:Wf (aH xs))(hn:xs.length≤100000)(h0:0 < xs.length) :
  Calls Tryz.prog 40 #[.agg #[.slice (some ⟨b,o,none⟩) xs.length c,.slice B m d]] w fun e v=>e=.returned (.int .i64 (nu (aH xs)))∧Below w.heap.size w v:=by
 have t:=O (RO b o c m d B xs (w.alloc (.cells #[.slice (some ⟨b,o,none⟩) xs.length c,.slice B m d] 28)) (h.below ((Below.refl _ _).alloc (amL _) _)) i hn);have u:=O (show nu (aH xs)=Lib.maxOf ((kU (aH xs)).map fun (d:Nat)=>(d:Int)) by unfold nu;rw [dK,if_neg (by omega)]);have y:((xs.length:Int) == 0)=false:=by simp;intro e;subst e;simp at h0
 have f:=O (show (kU (aH xs)).length=xs.length by unfold kU;rw [FV,List.length_replicate,dK]);clear h i;go_in
 go_wp2_with fail;refine t.o.mono ?_;rintro e w1⟨g,rfl,x,k,l⟩;have r:=O k;clear k;have q:=O l;clear l;go_wp2_with fail
 refine (Tryz.slices_Max_int g 0 xs.length xs.length ((kU (aH xs)).map fun (d:Nat)=>(d:Int)) w1 h0 (by rw [List.length_map,f.o];exact amL _) (by omega) (fun j a=>by
  rw [List.length_map] at a
  rw [Nat.zero_add,r.o.cell j,Dv _ j a];simp [amJ,amF a])).mono ?_
 rintro e C⟨rfl,rfl⟩;go_wp2_with fail;go_ret
 refine⟨?_,(aU (Below.refl _ _) (amL _)).trans (q.o.mono (by simp))⟩
 rw [u.o,amP (by rw [List.length_map,f.o];exact amL _)];rfl
end
section
open Go.RowKit Mist
def sQ (T:Tr):Int:=nu T.nodes
def fV (T:Tr):Int :=
 if Mist.large T=true then 5
 else if (List.range T.nodes.length).all (Mist.formed T)=false then 4
 else if Mist.ordered T=false∨Mist.signed T=false then 4
 else if 30 < sQ T then 5
 else if 0≤outT T then 3 else 0
theorem abJ (xs:List NV)(its:List Int):ow xs.length its.length=Mist.large ⟨aH xs,its⟩:=by
 unfold ow Mist.large;rw [dK]
theorem vP {T:Tr}{i:Nat}(h:Mist.formed T i=true):∀ c ∈ (nd T i).kids,0≤c∧c≤(i:Int) - 1:=((Mist.oq T i).1 h).2.2
theorem qB {T:Tr}(h:(List.range T.nodes.length).all (Mist.formed T)=true)(i:Nat)(hi:i < T.nodes.length):Mist.formed T i=true:=amT.1 h i (List.mem_range.2 hi)
theorem WA {T:Tr}(hn:∀ n ∈ T.nodes,pY≤n.n∧n.n≤kV)(h:(List.range T.nodes.length).all (Mist.formed T)=true):∀ x ∈ T.nodes,oJ T x:=by
 intro x w y;obtain⟨i,hi,rfl⟩:=List.getElem_of_mem w;have e:T.nodes[i]? = some T.nodes[i]:=amF hi;have l:=(Mist.oq T i).1 (qB h i hi);rw [mU e] at l
 obtain⟨h1,_,h3⟩:=l;have v:=(Mist.Cr T.nodes[i] (kinds T T.nodes[i].kids) (by simp [kinds]) (hn _ w)).1 h1
 have hm:T.nodes[i].kids.length=2:=by
  have:=v.2.2.2.1
  simpa [kH,y] using this
 obtain⟨a,b,f⟩:∃ a b,T.nodes[i].kids=[a,b]:=by
  match q:T.nodes[i].kids,hm with
  | [a,b],_=>exact⟨a,b,rfl⟩
 rw [f] at h3
 have C:=h3 a (by simp);have D:=h3 b (by simp);have q:=v.2.2.2.2.2;rw [f] at q
 have g:=q 0 (by simp [kinds]);have k:=q 1 (by simp [kinds]);simp [ku,y,kinds] at g k
 have num:∀ j:Nat,j < T.nodes.length→(nd T j).kind=1→-9999≤(nd T j).n∧(nd T j).n≤9999:=by
  intro j u r;have l:=(Mist.oq T j).1 (qB h j u);have t:=(Mist.Cr (nd T j) (kinds T (nd T j).kids) (by simp [kinds]) (hn _ (amO (AP u)))).1 l.1
  have:=t.2.2.2.2.1
  simpa [gL,r,Mist.within] using this
 refine⟨a.toNat,b.toNat,?_,by omega,by omega,num _ (by omega) g,num _ (by omega) k⟩
 rw [f]
 congr 1
 ·omega
 ·congr 1;omega
theorem abx {T:Tr}(h:(List.range T.nodes.length).all (Mist.formed T)=true)(a:Mist.ordered T=true):∀ q ∈ T.items,0≤q∧q < (T.nodes.length:Int):=by
 have f:=GK (t:=T) (fun i n e=>by
  have:=vP (qB h i (amG.1 e).1)
  rwa [mU e] at this) a
 intro q b
 have:=f.fo.ids q b
 omega
theorem KY (A B:Option Addr)(c m d:Nat)(w:World):Calls Tryz.prog 40 #[.agg #[.slice A 0 c,.slice B m d]] w fun e a=>e=.returned (.int .i64 0)∧Below w.heap.size w a:=by
 go_in
 go_wp2;go_ret;exact⟨rfl,aU (Below.refl _ _) (amL _)⟩
theorem zT (A B:Option Addr)(c m d:Nat)(xs:List NV)(its:List Int)(w:World)(hT:uZ w A B xs its)(hn:xs.length≤100000)(f:Wf (aH xs)) :
  Calls Tryz.prog 40 #[.agg #[.slice A xs.length c,.slice B m d]] w fun e h=>e=.returned (.int .i64 (nu (aH xs)))∧Below w.heap.size w h:=by
 rcases Nat.eq_zero_or_pos xs.length with h0 | h0
 ·have g:xs=[]:=List.eq_nil_of_length_eq_zero h0;subst g;exact KY A B c m d w
 ·obtain⟨b,o,rfl,a⟩:=hT.nodes h0;exact NT b o c m d B xs w a.kids f hn h0
theorem WT {T:Tr}(h:(List.range T.nodes.length).all (Mist.formed T)=true):Wf T.nodes:=by
 intro i x a q b
 have:=vP (qB h i (amG.1 a).1)
 rw [mU a] at this
 have:=this q b
 omega
theorem sF (A B:Option Addr)(c d:Nat)(xs:List NV)(its:List Int)(w:World)(hT:uZ w A B xs its)(hR:FL (aH xs))(hE:Env w) :
  Calls Tryz.prog 43 #[.agg #[.slice A xs.length c,.slice B its.length d]] w fun e w'=>e=.returned (.int .i64 (fV ⟨aH xs,its⟩))∧Below w.heap.size w w':=by
 obtain⟨n,f⟩:∃ n,n=xs.length:=⟨_,rfl⟩;obtain⟨m,v⟩:∃ m,m=its.length:=⟨_,rfl⟩;obtain⟨T,I⟩:∃ T:Tr,T=⟨aH xs,its⟩:=⟨_,rfl⟩;have HLG:=O (show ow n m=Mist.large T by rw [I,f,v];exact abJ xs its);have UC:=O (show T.nodes.length=n by rw [I,f];exact dK xs);have Z:=O (fun i w hT hE hi hn=>R9 A B c m d xs its i w hT hR hE hi hn);have HOR:=O (fun w hT hn hm hK=>Pf A B c d xs its w hT hR hn hm hK);have HSI:=O (fun w hT hn hm hI=>Ue A B c d xs its w hT hR hn hm hI);have Y:=O (fun w hT hn hW=>zT A B c m d xs its w hT hn hW);have HOU:=O (fun w hT hn hC=>BO xs its A c B m d w hT hn hC);rw [← I,← f] at Z
 rw [← I,← f,← v] at HOR HSI
 rw [← I,← f] at HOU
 rw [← f] at Y
 rw [← I,← f,← v];have S:=O I;clear I;have vv:=O f;clear f;have xu:=O v;clear v;have HT:=O hT;clear hT;have HE:=O hE;clear hE;have HNR:=O (show ∀ x ∈ T.nodes,pY≤x.n∧x.n≤kV from fun x hx=>by rw [S.o] at hx;exact (hR x hx).num);clear hR;go_in
 go_wp2_with fail;refine (JJ A B n m c d _).mono ?_;rintro e w2⟨rfl,M⟩;rw [HLG.o];have C:=O (lD M);have K:=O ((aU (Below.refl w.heap.size w) (amL _) (o:=.cells #[.slice A n c,.slice B m d] 28)).trans (M.mono (by simp)));clear M;have Q:=C.o.cell 0;have R:=C.o.cell 1
 cases Xq:Mist.large T
 case true =>
  have j:=O (show fV T=5 by unfold fV;rw [if_pos Xq]);clear Xq;go_wp2_with fail;go_ret;exact⟨by rw [j.o];rfl,K.o⟩
 have hsz:n≤800∧m≤60:=by
  have h9:=HLG.o;rw [Xq] at h9
  unfold ow at h9
  simp at h9
  omega
 have r:=O Xq;clear Xq;obtain⟨hn8,hm6⟩:=hsz;go_wp2_with fail;go_loopw [9] (fun i wr=>∃ k:Nat,k≤n∧i=.int .i64 k∧Hid ((List.range k).all (Mist.formed T)=true)∧Hid (Below w2.heap.size w2 wr)) (fun i _=>n - (intOf i).toNat)
 case atStart=>exact⟨0,amN _,rfl,O rfl,O (Below.refl _ _)⟩
 case round =>
  obtain⟨wo,rfl⟩:∃ wo:World,wo=wr:=⟨_,rfl⟩;obtain⟨k,hk,rfl,HA,HL⟩:=hrel;have C8:=O (C.o.below HL.o C.o.lt);have b:=O (K.o.trans (HL.o.mono K.o.size));have Q:=C8.o.cell 0;have R:=C8.o.cell 1;by_cases F:k < n
  ·have i3:decide (k < n)=true:=amW F;have HF:=O (Z.o k wo (HT.o.below b.o) (HE.o.below b.o) F (by omega))
   cases hf:Mist.formed T k
   ·have l:=O hf;clear hf
    have j:=O (show fV T=4 by
     unfold fV;rw [if_neg (by rw [r.o];simp),if_pos];rw [List.all_eq_false];exact⟨k,List.mem_range.2 (by rw [UC.o];exact F),by rw [l.o];simp⟩)
    go_wp2_with fail;refine HF.o.mono ?_;rintro e w3⟨rfl,a⟩;rw [l.o];go_wp2_with fail;go_ret;exact⟨by rw [j.o];rfl,b.o.trans (a.mono b.o.size)⟩
   ·have l:=O hf;clear hf;go_wp2_with fail;refine HF.o.mono ?_;rintro e w3⟨rfl,a⟩;rw [l.o];have P:=O (HL.o.trans (a.mono HL.o.size));clear a;go_wp2_with fail;exact⟨⟨k+1,by omega,by go_num,O (by rw [List.range_succ,List.all_append,HA.o];simp [l.o]),P⟩,by simp [intOf];omega⟩
  ·have i3:decide (k < n)=false:=amX F
   have J:=O (show (List.range T.nodes.length).all (Mist.formed T)=true by
    have h9:=HA.o
    rwa [show k=T.nodes.length by rw [UC.o];omega] at h9)
   have HKK:=O (show ∀ (i:Nat) x,xs[i]? = some x→∀ k ∈ x.1.kids,0≤k∧k≤(i:Int) - 1 from fun i x hx=>by
    have h9:=vP (qB J.o i (by rw [UC.o,vv.o];exact (amG.1 hx).1))
    rwa [S.o,bD its hx] at h9)
   have ahn:=O (HOR.o wo (HT.o.below b.o) (by omega) (by omega) HKK.o)
   cases G:Mist.ordered T
   ·have g:=O G;clear G
    have j:=O (show fV T=4 by
     unfold fV;rw [if_neg (by rw [r.o];simp),if_neg (by rw [J.o];simp),if_pos (Or.inl g.o)])
    go_wp2_with fail;refine ahn.o.mono ?_;rintro e w3⟨rfl,a⟩;rw [g.o];go_wp2_with fail;go_ret;exact⟨by rw [j.o];rfl,b.o.trans (a.mono b.o.size)⟩
   ·have g:=O G;clear G
    have HII:=O (show ∀ q ∈ its,0≤q∧q < (n:Int) by
     have h9:=abx J.o g.o;rw [UC.o] at h9
     rwa [show T.items=its by rw [S.o]] at h9)
    go_wp2_with fail;refine ahn.o.mono ?_;rintro e w3⟨rfl,a⟩;rw [g.o];have E:=O (C8.o.below a C8.o.lt);have P:=O (b.o.trans (a.mono b.o.size));clear a Q R;have Q:=E.o.cell 0;have R:=E.o.cell 1;have HSG:=O (HSI.o w3 (HT.o.below P.o) (by omega) (by omega) HII.o)
    cases H:Mist.signed T
    ·have U:=O H;clear H
     have j:=O (show fV T=4 by
      unfold fV;rw [if_neg (by rw [r.o];simp),if_neg (by rw [J.o];simp),if_pos (Or.inr U.o)])
     go_wp2_with fail;refine HSG.o.mono ?_;rintro e w4⟨rfl,t⟩;rw [U.o];go_wp2_with fail;go_ret;exact⟨by rw [j.o];rfl,P.o.trans (t.mono P.o.size)⟩
    ·have U:=O H;clear H;go_wp2_with fail;refine HSG.o.mono ?_;rintro e w4⟨rfl,t⟩;rw [U.o];have KH:=O (E.o.below t E.o.lt);have V:=O (P.o.trans (t.mono P.o.size));clear t Q R;have Q:=KH.o.cell 0;have R:=KH.o.cell 1;have y:=O (Y.o w4 (HT.o.below V.o) (by omega) (by have h9:=WT J.o;rwa [show T.nodes=aH xs by rw [S.o]] at h9));have HDT:=O (show nu (aH xs)=sQ T by unfold sQ;rw [S.o]);rw [HDT.o] at y
     obtain⟨D,hD⟩:∃ D,D=sQ T:=⟨_,rfl⟩;rw [← hD] at y
     have X:=O hD;clear hD;by_cases WZ:30 < D
     ·have e30:decide (30 < D)=true:=amW WZ
      have j:=O (show fV T=5 by
       unfold fV;rw [if_neg (by rw [r.o];simp),if_neg (by rw [J.o];simp),if_neg (by rw [g.o,U.o];simp),if_pos (by rw [← X.o];exact WZ)])
      go_wp2_with fail;refine y.o.mono ?_;rintro e w5⟨rfl,u⟩;go_wp2_with fail;go_ret;exact⟨by rw [j.o];rfl,V.o.trans (u.mono V.o.size)⟩
     ·have e30:decide (30 < D)=false:=amX WZ;have H30:=O (show ¬ 30 < sQ T by rw [← X.o];exact WZ);clear WZ;go_wp2_with fail;refine y.o.mono ?_;rintro e w5⟨rfl,u⟩;have KI:=O (KH.o.below u KH.o.lt);have qZ:=O (V.o.trans (u.mono V.o.size));clear u Q R;have Q:=KI.o.cell 0;have R:=KI.o.cell 1;have L:=O (HOU.o w5 (HT.o.below qZ.o) (by omega) (by have h9:=WA HNR.o J.o;rwa [show T.nodes=aH xs by rw [S.o]] at h9));obtain⟨h,hO⟩:∃ h,h=outT T:=⟨_,rfl⟩;rw [← hO] at L
      have HOO:=O hO;clear hO
      have j:=O (show fV T=if 0≤h then 3 else 0 by
       unfold fV;rw [if_neg (by rw [r.o];simp),if_neg (by rw [J.o];simp),if_neg (by rw [g.o,U.o];simp),if_neg (by have h9:=H30.o;omega),← HOO.o])
      by_cases h0:0≤h
      ·have e0:decide (0≤h)=true:=amW h0;have ME:=O (show fV T=3 by rw [j.o,if_pos h0]);go_wp2_with fail;refine L.o.mono ?_;rintro e w6⟨rfl,N⟩;go_wp2_with fail;go_ret;exact⟨by rw [ME.o];rfl,qZ.o.trans (N.mono qZ.o.size)⟩
      ·have e0:decide (0≤h)=false:=amX h0;have ME:=O (show fV T=0 by rw [j.o,if_neg h0]);go_wp2_with fail;refine L.o.mono ?_;rintro e w6⟨rfl,N⟩;go_wp2_with fail;go_ret;exact⟨by rw [ME.o];rfl,qZ.o.trans (N.mono qZ.o.size)⟩
end
set_option linter.all false
section
open Go.RowKit Mist
theorem ab3 {T:Tr}(h:fV T=0)(r:FL T.nodes):Ru T∧T.nodes.length≤800∧T.items.length≤60∧aga T:=by
 unfold fV at h
 split at h
 ·omega
 rename_i h1
 split at h
 ·omega
 rename_i h2
 split at h
 ·omega
 rename_i h3
 split at h
 ·omega
 split at h
 ·omega
 rename_i h5
 have j:T.nodes.length≤800∧T.items.length≤60:=by
  have:Mist.large T=false:=by simpa using h1
  unfold Mist.large at this
  simp only [Bool.or_eq_false_iff,decide_eq_false_iff_not] at this
  omega
 have t:(List.range T.nodes.length).all (Mist.formed T)=true:=by simpa using h2
 have v:Mist.ordered T=true:=by
  rcases h8:Mist.ordered T with _ | _
  ·exact absurd (Or.inl h8) h3
  ·rfl
 have w:Mist.signed T=true:=by
  rcases h8:Mist.signed T with _ | _
  ·exact absurd (Or.inr h8) h3
  ·rfl
 have hF:=(Oa T (fun x g=>(r x g).num) (by omega)).1 ⟨t,v,w⟩;obtain⟨b,q⟩:=(Dk T).1 hF
 have f:∀ x ∈ T.nodes,Mist.sized T x=true:=by
  have h8:=GL T;rw [amX h5] at h8
  have h9:T.nodes.all (Mist.sized T)=true:=by simpa using h8.symm
  exact amT.1 h9
 have e:∀ i,i < T.nodes.length→NmZ (nd T i):=fun i hi=>by
  have g:nd T i ∈ T.nodes:=amO (AP hi);have h8:=f _ g;unfold Mist.sized at h8
  refine⟨fun k=>?_,fun k=>?_⟩
  ·rw [k] at h8
   simp [within] at h8
   exact h8
  ·rw [k] at h8
   simp at h8
   have h9:=(rtZ (q i hi)).num;unfold gL at h9
   rw [k] at h9
   simp at h9
   omega
 refine⟨⟨q,b.fo,e⟩,j.1,j.2,fun a l=>?_⟩
 have u:=b.fo.ids a l;exact⟨a.toNat,by omega,by omega,b.item a l⟩
end
set_option linter.all false
section
open Go.RowKit Mist
attribute [local go_sem] ak aN aV aF aj
structure Rs (W:World) (A Bi:Option Addr) (xs:List NV) (its:List Int):Prop where
 t:uZ W A Bi xs its
 r:FL (aH xs)
 e:Env W
 p:Pow W
theorem Rs.below {W b:World}{A Bi:Option Addr}{xs:List NV}{its:List Int}(X:Rs W A Bi xs its)(a:Below W.heap.size W b):Rs b A Bi xs its:=⟨X.t.below a,X.r,X.e.below a,X.p.on a⟩
theorem Rs.wx {W:World}{A Bi:Option Addr}{xs:List NV}{its:List Int}(X:Rs W A Bi xs its)(h:fV ⟨aH xs,its⟩=0):WX W A Bi xs.length xs its∧its.length≤60∧aga ⟨aH xs,its⟩:=by
 obtain⟨h1,h2,h3,h4⟩:=ab3 (T:=⟨aH xs,its⟩) h X.r;have a:(⟨aH xs,its⟩:Tr).nodes.length=xs.length:=by simp [aH]
 rw [a] at h2
 exact⟨⟨X.t,rfl,by omega,X.p,X.e,h1⟩,h3,h4⟩
section
variable {W:World} {A Bi:Option Addr} {c d:Nat} {xs:List NV} {its:List Int}
def fC (T:Tr)(k:Int):Int × Int:=if fV T ≠ 0 then (0,fV T) else if k < 0∨(T.items.length:Int)≤k then (0,7) else (T.items.getD k.toNat 0,0)
theorem Tm (X:Rs W A Bi xs its)(k:Int)(N:D9 k) :
  Calls Tryz.prog 14 #[.agg #[.slice A xs.length c,.slice Bi its.length d],.int .i64 k] W fun e K=>e=.returned (.tuple #[.int .i64 (fC ⟨aH xs,its⟩ k).1,.int .i64 (fC ⟨aH xs,its⟩ k).2])∧Below W.heap.size W K:=by
 have f:=O ((Below.refl W.heap.size W).alloc (amL _) (.cells #[.slice A xs.length c,.slice Bi its.length d] 28));have q:=O (sF A Bi c d xs its _ (X.t.below f.o) X.r (X.e.below f.o));have v:=O (bY.new W 28 #[.slice A xs.length c,.slice Bi its.length d]);have I:=O X.t.items;obtain⟨n,hn⟩:∃ n,n=xs.length:=⟨_,rfl⟩;obtain⟨m,hm⟩:∃ m,m=its.length:=⟨_,rfl⟩;obtain⟨E,l⟩:∃ E,E=fV ⟨aH xs,its⟩:=⟨_,rfl⟩;rw [← hn,← hm] at v q f ⊢
 rw [← l] at q
 have L:=O hm;by_cases h0:E=0
 ·have h:fC ⟨aH xs,its⟩ k=if k < 0∨(m:Int)≤k then (0,7) else (its.getD k.toNat 0,0):=by unfold fC;rw [← l,if_neg (by simp [h0]),hm]
  subst h0;by_cases h1:k < 0
  ·have i:=O (show fC ⟨aH xs,its⟩ k=(0,7) from by rw [h,if_pos (.inl h1)]);clear hn hm l X h;go_in
   go_wp2_with fail;refine q.o.mono ?_;rintro e u⟨rfl,b⟩;have g:=O (f.o.trans (b.mono f.o.size));clear b;go_wp2_with fail;go_ret2
   exact⟨by rw [i.o];rfl,g.o⟩
  ·by_cases h2:(m:Int)≤k
   ·have i:=O (show fC ⟨aH xs,its⟩ k=(0,7) from by rw [h,if_pos (.inr h2)]);clear hn hm l X h;go_in
    go_wp2_with fail;refine q.o.mono ?_;rintro e u⟨rfl,b⟩;have g:=O (f.o.trans (b.mono f.o.size));have c1:u.cell? ⟨W.heap.size,1,none⟩=some (.slice Bi m d):=(v.o.below b v.o.lt).cell 1;clear b;go_wp2_with fail;go_ret2
    exact⟨by rw [i.o];rfl,g.o⟩
   ·obtain⟨j,rfl⟩:∃ j:Nat,k=(j:Int):=⟨k.toNat,by omega⟩;have w:j < m:=by omega
    obtain⟨a,F⟩:∃ a,its[j]? = some a:=⟨_,amF (by rw [← hm];exact w)⟩;have i:=O (show fC ⟨aH xs,its⟩ (j:Int)=(a,0) from by rw [h,if_neg (by omega),amS,amJ,F];rfl);obtain⟨kb,H,D,x,y⟩:=I.o.ex (by rw [← hm];omega);have G:=y j _ F;have J:=O G;have C:=O x;subst D;have P:(0:Int)≤(j:Int):=by omega
    have Q:(j:Int) < (m:Int):=by omega
    clear hn hm l X h h1 h2 F y G x w;go_in
    go_wp2_with fail;refine q.o.mono ?_;rintro e u⟨rfl,b⟩;have g:=O (f.o.trans (b.mono f.o.size));have c1:u.cell? ⟨W.heap.size,1,none⟩=some (.slice (some ⟨kb,H,none⟩) m d):=(v.o.below b v.o.lt).cell 1;have M:u.cell? ⟨kb,H+j,none⟩=some (.int .i64 a):=(g.o.cell (p:=⟨kb,_,none⟩) C.o).trans J.o;have R:¬ (j:Int) < 0:=by omega
    have S:¬ (m:Int)≤(j:Int):=by omega
    clear b;go_wp2_with fail;go_ret2
    exact⟨by rw [i.o];rfl,g.o⟩
 ·have i:=O (show fC ⟨aH xs,its⟩ k=(0,E) from by unfold fC;rw [← l,if_pos h0]);have z:(E != 0)=true:=by simpa using h0
  clear hn hm l X h0;go_in
  go_wp2_with fail;refine q.o.mono ?_;rintro e u⟨rfl,b⟩;have g:=O (f.o.trans (b.mono f.o.size));clear b;go_wp2_with fail;go_ret2
  exact⟨by rw [i.o];rfl,g.o⟩
def tC (T:Tr)(k:Int):Bs × Int :=
 if (fC T k).2 ≠ 0 then ([],(fC T k).2)
 else ((mO (dX (mK T (T.nodes.length+2) (fC T k).1.toNat)) (mK T (T.nodes.length+2) (fC T k).1.toNat).length).1,((mO (dX (mK T (T.nodes.length+2) (fC T k).1.toNat)) (mK T (T.nodes.length+2) (fC T k).1.toNat).length).2:Nat))
theorem Ec (X:Rs W A Bi xs its){k:Int}(h:(fC ⟨aH xs,its⟩ k).2=0):∃ i:Nat,(fC ⟨aH xs,its⟩ k).1=(i:Int)∧i < xs.length∧fM (nd (⟨aH xs,its⟩:Tr) i).kind=true∧fV ⟨aH xs,its⟩=0∧0≤k∧k < its.length∧its[k.toNat]? = some (i:Int):=by
 unfold fC at h ⊢
 by_cases h0:fV ⟨aH xs,its⟩=0
 ·rw [if_neg (by simp [h0])] at h ⊢
  by_cases h1:k < 0∨(its.length:Int)≤k
  ·rw [if_pos h1] at h;cases h
  ·rw [if_neg h1];have e:k.toNat < its.length:=by omega
   obtain⟨i,f,b,g⟩:=(X.wx h0).2.2 its[k.toNat] (List.getElem_mem e);have j:(⟨aH xs,its⟩:Tr).nodes.length=xs.length:=by simp [aH]
   rw [j] at b
   have a:its[k.toNat]? = some (i:Int):=by rw [amF e,f]
   exact⟨i,by show its.getD k.toNat 0=_;rw [amJ,a];rfl,b,g,h0,by omega,by omega,a⟩
 ·rw [if_pos h0] at h;exact absurd h h0
theorem Rq (X:Rs W A Bi xs its)(k:Int)(V:D9 k) :
  Calls Tryz.prog 6 #[.agg #[.slice A xs.length c,.slice Bi its.length d],.int .i64 k] W fun e I=>e=.returned (.tuple #[.string (aG (tC ⟨aH xs,its⟩ k).1),.int .i64 (tC ⟨aH xs,its⟩ k).2])∧Below W.heap.size W I:=by
 have a:=O ((Below.refl W.heap.size W).alloc (amL _) (.cells #[.slice A xs.length c,.slice Bi its.length d] 28));have t:=O (Tm (c:=c) (d:=d) (X.below a.o) k V);have E:=O (bY.new W 28 #[.slice A xs.length c,.slice Bi its.length d]);have Y:=O X;obtain⟨n,hn⟩:∃ n,n=xs.length:=⟨_,rfl⟩;obtain⟨m,hm⟩:∃ m,m=its.length:=⟨_,rfl⟩;obtain⟨N,j⟩:∃ N,N=fC ⟨aH xs,its⟩ k:=⟨_,rfl⟩;rw [← hn,← hm] at E t a ⊢
 rw [← j] at t
 obtain⟨Z,G⟩:=N;simp only at t
 by_cases h0:G=0
 ·obtain⟨i,x,y,L,M,T⟩:=Ec X (k:=k) (by rw [← j];exact h0);rw [← j] at x
  simp only at x
  have h:=X.wx M;obtain⟨l,C⟩:∃ l,l=mK ⟨aH xs,its⟩ (n+2) i:=⟨_,rfl⟩;have q:(⟨aH xs,its⟩:Tr).nodes.length=n:=by rw [hn];simp [aH]
  have F:=O (show tC ⟨aH xs,its⟩ k=((mO (dX l) l.length).1,(((mO (dX l) l.length).2:Nat):Int)) from by unfold tC;rw [← j,if_neg (by simp [h0]),x,q,amS,← C])
  have K:=O (show Sh l∧l.length≤12012 from by
   rw [C]
   refine⟨sh_head _ (zG h.1.ok _ _ (by rw [q,hn];exact y)),?_⟩
   unfold mK;rw [au];exact h.1.bits y (by omega))
  have H:=O fun I (U:Below W.heap.size W I)=>uE (c:=c) (m:=m) (d:=d) (f:=n+2) (h.1.below U) y (by omega) L
  rw [← C] at H
  rw [← hn] at H
  subst h0 x;clear hn hm j X h y L M T C q;go_in
  go_wp2_with fail;refine t.o.mono ?_;rintro e D⟨rfl,b⟩;have g:=O (a.o.trans (b.mono a.o.size));have J:=O (E.o.below b E.o.lt);have S:D.cell? ⟨W.heap.size,0,none⟩=some (.slice A n c):=J.o.cell 0;have c1:D.cell? ⟨W.heap.size,1,none⟩=some (.slice Bi m d):=J.o.cell 1;clear b;go_wp2_with fail;refine (H.o D g.o).mono ?_;rintro e w3⟨v,rfl,P,u⟩;have r:=O (g.o.trans (u.mono g.o.size));have R:=O P;clear u P S c1;go_wp2_with fail;refine (afh R.o K.o.1 (by have:=K.o.2;omega)).mono ?_;rintro e w4⟨rfl,w⟩;have Q:=O (r.o.trans (w.mono r.o.size));clear w;go_wp2_with fail;go_ret2
  exact⟨by rw [F.o];rfl,Q.o⟩
 ·have F:=O (show tC ⟨aH xs,its⟩ k=([],G) from by unfold tC;rw [← j,if_pos h0]);have z:(G != 0)=true:=by simpa using h0
  clear hn hm j X h0;go_in
  go_wp2_with fail;refine t.o.mono ?_;rintro e D⟨rfl,b⟩;have g:=O (a.o.trans (b.mono a.o.size));clear b;go_wp2_with fail;go_ret2
  exact⟨by rw [F.o];rfl,g.o⟩
end
end
