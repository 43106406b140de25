/-
  A part of the proof.
-/
import Derived.Test.YtflnfhhgamldhaaGreatDoorS22
import Derived.Test.YtflnfhhgamldhaaGreatDoorS26
import Derived.Test.YtflnfhhgamldhaaGreatDoorS27
set_option linter.all false
set_option maxRecDepth 100000
set_option maxHeartbeats 4000000
namespace Go.Proofs.YtflnfhhgamldhaaGreatDoor
section
open Go.RowKit Mist
def rW (T:Tr):Int:=jN T.nodes
def fJ (T:Tr):Int :=
 if Mist.large T=true then 5
 else if (List.range T.nodes.length).all (Mist.formed T)=false then 4
 else if Mist.ordered T=false∨Mist.signed T=false then 4
 else if 30 < rW T then 5
 else if 0≤outT T then 3 else 0
theorem ZV (xs:List NV)(its:List Int):ow xs.length its.length=Mist.large ⟨aF xs,its⟩:=by
 unfold ow Mist.large;rw [dL]
theorem uP {T:Tr}{i:Nat}(h:Mist.formed T i=true):∀ c ∈ (nd T i).kids,0≤c∧c≤(i:Int) - 1:=((Mist.om T i).1 h).2.2
theorem qm {T:Tr}(h:(List.range T.nodes.length).all (Mist.formed T)=true)(i:Nat)(hi:i < T.nodes.length):Mist.formed T i=true:=ak8.1 h i (List.mem_range.2 hi)
theorem TT {T:Tr}(t:∀ n ∈ T.nodes,qE≤n.n∧n.n≤lD)(h:(List.range T.nodes.length).all (Mist.formed T)=true):∀ x ∈ T.nodes,nu T x:=by
 intro x v w;obtain⟨i,hi,rfl⟩:=List.getElem_of_mem v;have e:T.nodes[i]? = some T.nodes[i]:=akU hi;have l:=(Mist.om T i).1 (qm h i hi);rw [mE e] at l
 obtain⟨h1,_,h3⟩:=l;have u:=(Mist.y9 T.nodes[i] (kinds T T.nodes[i].kids) (by simp [kinds]) (t _ v)).1 h1
 have y:T.nodes[i].kids.length=2:=by
  have:=u.2.2.2.1
  simpa [jv,w] using this
 obtain⟨a,b,f⟩:∃ a b,T.nodes[i].kids=[a,b]:=by
  match m:T.nodes[i].kids,y with
  | [a,b],_=>exact⟨a,b,rfl⟩
 rw [f] at h3
 have B:=h3 a (by simp);have C:=h3 b (by simp);have m:=u.2.2.2.2.2;rw [f] at m
 have g:=m 0 (by simp [kinds]);have k:=m 1 (by simp [kinds]);simp [jY,w,kinds] at g k
 have num:∀ j:Nat,j < T.nodes.length→(nd T j).kind=1→-9999≤(nd T j).n∧(nd T j).n≤9999:=by
  intro j r o;have l:=(Mist.om T j).1 (qm h j r);have q:=(Mist.y9 (nd T j) (kinds T (nd T j).kids) (by simp [kinds]) (t _ (ak3 (yL r)))).1 l.1
  have:=q.2.2.2.2.1
  simpa [gU,o,Mist.within] using this
 refine⟨a.toNat,b.toNat,?_,by omega,by omega,num _ (by omega) g,num _ (by omega) k⟩
 rw [f]
 congr 1
 ·omega
 ·congr 1;omega
theorem ZE {T:Tr}(h:(List.range T.nodes.length).all (Mist.formed T)=true)(a:Mist.ordered T=true):∀ q ∈ T.items,0≤q∧q < (T.nodes.length:Int):=by
 have f:=EN (t:=T) (fun i n e=>by
  have:=uP (qm h i (akV.1 e).1)
  rwa [mE e] at this) a
 intro q b
 have:=f.fo.ids q b
 omega
theorem Jh (A B:Option Addr)(c m d:Nat)(w:World):Calls Tryz.prog 18 #[.agg #[.slice A 0 c,.slice B m d]] w fun e a=>e=.returned (.int .i64 0)∧Below w.heap.size w a:=by
 go_in
 go_wp2;go_ret;exact⟨rfl,aG (Below.refl _ _) (ak0 _)⟩
theorem yc (A B:Option Addr)(c m d:Nat)(xs:List NV)(its:List Int)(w:World)(f:rQ w A B xs its)(h:xs.length≤100000)(g:Wf (aF xs)) :
  Calls Tryz.prog 18 #[.agg #[.slice A xs.length c,.slice B m d]] w fun e j=>e=.returned (.int .i64 (jN (aF xs)))∧Below w.heap.size w j:=by
 rcases Nat.eq_zero_or_pos xs.length with h0 | h0
 ·have i:xs=[]:=List.eq_nil_of_length_eq_zero h0;subst i;exact Jh A B c m d w
 ·obtain⟨b,o,rfl,a⟩:=f.nodes h0;exact K8 b o c m d B xs w a.kids g h h0
theorem Ug {T:Tr}(h:(List.range T.nodes.length).all (Mist.formed T)=true):Wf T.nodes:=by
 intro i x a q b
 have:=uP (qm h i (akV.1 a).1)
 rw [mE a] at this
 have:=this q b
 omega
theorem rP (A B:Option Addr)(c d:Nat)(xs:List NV)(its:List Int)(w:World)(l:rQ w A B xs its)(hR:Dt (aF xs))(hE:Env w) :
  Calls Tryz.prog 51 #[.agg #[.slice A xs.length c,.slice B its.length d]] w fun e w'=>e=.returned (.int .i64 (fJ ⟨aF xs,its⟩))∧Below w.heap.size w w':=by
 obtain⟨n,f⟩:∃ n,n=xs.length:=⟨_,rfl⟩;obtain⟨m,y⟩:∃ m,m=its.length:=⟨_,rfl⟩;obtain⟨T,K⟩:∃ T:Tr,T=⟨aF xs,its⟩:=⟨_,rfl⟩;have HLG:=O (show ow n m=Mist.large T by rw [K,f,y];exact ZV xs its);have Rv:=O (show T.nodes.length=n by rw [K,f];exact dL xs);have Z:=O (fun i w l hE hi H=>Py A B c m d xs its i w l hR hE hi H);have HOR:=O (fun w l H hm hK=>Ml A B c d xs its w l hR H hm hK);have HSI:=O (fun w l H hm hI=>Q8 A B c d xs its w l hR H hm hI);have WK:=O (fun w l H hW=>yc A B c m d xs its w l H hW);have HOU:=O (fun w l H hC=>yP xs its A c B m d w l H hC);rw [← K,← f] at Z
 rw [← K,← f,← y] at HOR HSI
 rw [← K,← f] at HOU
 rw [← f] at WK
 rw [← K,← f,← y];have V:=O K;clear K;have uq:=O f;clear f;have Gt:=O y;clear y;have HT:=O l;clear l;have HE:=O hE;clear hE;have HNR:=O (show ∀ x ∈ T.nodes,qE≤x.n∧x.n≤lD from fun x hx=>by rw [V.o] at hx;exact (hR x hx).num);clear hR;go_in
 go_wp2_with fail;refine (Ho A B n m c d _).mono ?_;rintro e w2⟨rfl,P⟩;rw [HLG.o];have E:=O (gW P);have M:=O ((aG (Below.refl w.heap.size w) (ak0 _) (o:=.cells #[.slice A n c,.slice B m d] 32)).trans (P.mono (by simp)));clear P;have S:=E.o.cell 0;have U:=E.o.cell 1
 cases UH:Mist.large T
 case true =>
  have j:=O (show fJ T=5 by unfold fJ;rw [if_pos UH]);clear UH;go_wp2_with fail;go_ret;exact⟨by rw [j.o];rfl,M.o⟩
 have hsz:n≤800∧m≤60:=by
  have h9:=HLG.o;rw [UH] at h9
  unfold ow at h9
  simp at h9
  omega
 have t:=O UH;clear UH;obtain⟨hn8,hm6⟩:=hsz;go_wp2_with fail;go_loopw [9] (fun i wr=>∃ k:Nat,k≤n∧i=.int .i64 k∧Hid ((List.range k).all (Mist.formed T)=true)∧Hid (Below w2.heap.size w2 wr)) (fun i _=>n - (intOf i).toNat)
 case atStart=>exact⟨0,ak2 _,rfl,O rfl,O (Below.refl _ _)⟩
 case round =>
  obtain⟨wo,rfl⟩:∃ wo:World,wo=wr:=⟨_,rfl⟩;obtain⟨k,hk,rfl,HA,HL⟩:=hrel;have zH:=O (E.o.below HL.o E.o.lt);have b:=O (M.o.trans (HL.o.mono M.o.size));have S:=zH.o.cell 0;have U:=zH.o.cell 1;by_cases G:k < n
  ·have i3:decide (k < n)=true:=ak' G;have HF:=O (Z.o k wo (HT.o.below b.o) (HE.o.below b.o) G (by omega))
   cases hf:Mist.formed T k
   ·have r:=O hf;clear hf
    have j:=O (show fJ T=4 by
     unfold fJ;rw [if_neg (by rw [t.o];simp),if_pos];rw [List.all_eq_false];exact⟨k,List.mem_range.2 (by rw [Rv.o];exact G),by rw [r.o];simp⟩)
    go_wp2_with fail;refine HF.o.mono ?_;rintro e w3⟨rfl,a⟩;rw [r.o];go_wp2_with fail;go_ret;exact⟨by rw [j.o];rfl,b.o.trans (a.mono b.o.size)⟩
   ·have r:=O hf;clear hf;go_wp2_with fail;refine HF.o.mono ?_;rintro e w3⟨rfl,a⟩;rw [r.o];have R:=O (HL.o.trans (a.mono HL.o.size));clear a;go_wp2_with fail;exact⟨⟨k+1,by omega,by go_num,O (by rw [List.range_succ,List.all_append,HA.o];simp [r.o]),R⟩,by simp [intOf];omega⟩
  ·have i3:decide (k < n)=false:=ala G
   have L:=O (show (List.range T.nodes.length).all (Mist.formed T)=true by
    have h9:=HA.o
    rwa [show k=T.nodes.length by rw [Rv.o];omega] at h9)
   have HKK:=O (show ∀ (i:Nat) x,xs[i]? = some x→∀ k ∈ x.1.kids,0≤k∧k≤(i:Int) - 1 from fun i x hx=>by
    have h9:=uP (qm L.o i (by rw [Rv.o,uq.o];exact (akV.1 hx).1))
    rwa [V.o,bI its hx] at h9)
   have afL:=O (HOR.o wo (HT.o.below b.o) (by omega) (by omega) HKK.o)
   cases I:Mist.ordered T
   ·have g:=O I;clear I
    have j:=O (show fJ T=4 by
     unfold fJ;rw [if_neg (by rw [t.o];simp),if_neg (by rw [L.o];simp),if_pos (Or.inl g.o)])
    go_wp2_with fail;refine afL.o.mono ?_;rintro e w3⟨rfl,a⟩;rw [g.o];go_wp2_with fail;go_ret;exact⟨by rw [j.o];rfl,b.o.trans (a.mono b.o.size)⟩
   ·have g:=O I;clear I
    have HII:=O (show ∀ q ∈ its,0≤q∧q < (n:Int) by
     have h9:=ZE L.o g.o;rw [Rv.o] at h9
     rwa [show T.items=its by rw [V.o]] at h9)
    go_wp2_with fail;refine afL.o.mono ?_;rintro e w3⟨rfl,a⟩;rw [g.o];have F:=O (zH.o.below a zH.o.lt);have R:=O (b.o.trans (a.mono b.o.size));clear a S U;have S:=F.o.cell 0;have U:=F.o.cell 1;have HSG:=O (HSI.o w3 (HT.o.below R.o) (by omega) (by omega) HII.o)
    cases J:Mist.signed T
    ·have X:=O J;clear J
     have j:=O (show fJ T=4 by
      unfold fJ;rw [if_neg (by rw [t.o];simp),if_neg (by rw [L.o];simp),if_pos (Or.inr X.o)])
     go_wp2_with fail;refine HSG.o.mono ?_;rintro e w4⟨rfl,u⟩;rw [X.o];go_wp2_with fail;go_ret;exact⟨by rw [j.o];rfl,R.o.trans (u.mono R.o.size)⟩
    ·have X:=O J;clear J;go_wp2_with fail;refine HSG.o.mono ?_;rintro e w4⟨rfl,u⟩;rw [X.o];have X7:=O (F.o.below u F.o.lt);have vN:=O (R.o.trans (u.mono R.o.size));clear u S U;have S:=X7.o.cell 0;have U:=X7.o.cell 1;have C:=O (WK.o w4 (HT.o.below vN.o) (by omega) (by have h9:=Ug L.o;rwa [show T.nodes=aF xs by rw [V.o]] at h9));have HDT:=O (show jN (aF xs)=rW T by unfold rW;rw [V.o]);rw [HDT.o] at C
     obtain⟨D,hD⟩:∃ D,D=rW T:=⟨_,rfl⟩;rw [← hD] at C
     have Y:=O hD;clear hD;by_cases Od:30 < D
     ·have e30:decide (30 < D)=true:=ak' Od
      have j:=O (show fJ T=5 by
       unfold fJ;rw [if_neg (by rw [t.o];simp),if_neg (by rw [L.o];simp),if_neg (by rw [g.o,X.o];simp),if_pos (by rw [← Y.o];exact Od)])
      go_wp2_with fail;refine C.o.mono ?_;rintro e w5⟨rfl,v⟩;go_wp2_with fail;go_ret;exact⟨by rw [j.o];rfl,vN.o.trans (v.mono vN.o.size)⟩
     ·have e30:decide (30 < D)=false:=ala Od;have H30:=O (show ¬ 30 < rW T by rw [← Y.o];exact Od);clear Od;go_wp2_with fail;refine C.o.mono ?_;rintro e w5⟨rfl,v⟩;have HT5:=O (X7.o.below v X7.o.lt);have kQ:=O (vN.o.trans (v.mono vN.o.size));clear v S U;have S:=HT5.o.cell 0;have U:=HT5.o.cell 1;have N:=O (HOU.o w5 (HT.o.below kQ.o) (by omega) (by have h9:=TT HNR.o L.o;rwa [show T.nodes=aF xs by rw [V.o]] at h9));obtain⟨h,hO⟩:∃ h,h=outT T:=⟨_,rfl⟩;rw [← hO] at N
      have HOO:=O hO;clear hO
      have j:=O (show fJ T=if 0≤h then 3 else 0 by
       unfold fJ;rw [if_neg (by rw [t.o];simp),if_neg (by rw [L.o];simp),if_neg (by rw [g.o,X.o];simp),if_neg (by have h9:=H30.o;omega),← HOO.o])
      by_cases h0:0≤h
      ·have e0:decide (0≤h)=true:=ak' h0;have Kg:=O (show fJ T=3 by rw [j.o,if_pos h0]);go_wp2_with fail;refine N.o.mono ?_;rintro e w6⟨rfl,Q⟩;go_wp2_with fail;go_ret;exact⟨by rw [Kg.o];rfl,kQ.o.trans (Q.mono kQ.o.size)⟩
      ·have e0:decide (0≤h)=false:=ala h0;have Kg:=O (show fJ T=0 by rw [j.o,if_neg h0]);go_wp2_with fail;refine N.o.mono ?_;rintro e w6⟨rfl,Q⟩;go_wp2_with fail;go_ret;exact⟨by rw [Kg.o];rfl,kQ.o.trans (Q.mono kQ.o.size)⟩
end
set_option linter.all false
section
open Go.RowKit Mist
theorem aaj {T:Tr}(h:fJ T=0)(n:Dt T.nodes):O_ T∧T.nodes.length≤800∧T.items.length≤60∧aeu T:=by
 unfold fJ at h
 split at h
 ·omega
 rename_i h1
 split at h
 ·omega
 rename_i h2
 split at h
 ·omega
 rename_i h3
 split at h
 ·omega
 split at h
 ·omega
 rename_i h5
 have j:T.nodes.length≤800∧T.items.length≤60:=by
  have:Mist.large T=false:=by simpa using h1
  unfold Mist.large at this
  simp only [Bool.or_eq_false_iff,decide_eq_false_iff_not] at this
  omega
 have o:(List.range T.nodes.length).all (Mist.formed T)=true:=by simpa using h2
 have r:Mist.ordered T=true:=by
  rcases h8:Mist.ordered T with _ | _
  ·exact absurd (Or.inl h8) h3
  ·rfl
 have t:Mist.signed T=true:=by
  rcases h8:Mist.signed T with _ | _
  ·exact absurd (Or.inr h8) h3
  ·rfl
 have hF:=(Lh T (fun x g=>(n x g).num) (by omega)).1 ⟨o,r,t⟩;obtain⟨b,m⟩:=(zX T).1 hF
 have f:∀ x ∈ T.nodes,Mist.sized T x=true:=by
  have h8:=Mq T;rw [ala h5] at h8
  have h9:T.nodes.all (Mist.sized T)=true:=by simpa using h8.symm
  exact ak8.1 h9
 have e:∀ i,i < T.nodes.length→NmZ (nd T i):=fun i hi=>by
  have g:nd T i ∈ T.nodes:=ak3 (yL hi);have h8:=f _ g;unfold Mist.sized at h8
  refine⟨fun k=>?_,fun k=>?_⟩
  ·rw [k] at h8
   simp [within] at h8
   exact h8
  ·rw [k] at h8
   simp at h8
   have h9:=(rtZ (m i hi)).num;unfold gU at h9
   rw [k] at h9
   simp at h9
   omega
 refine⟨⟨m,b.fo,e⟩,j.1,j.2,fun a l=>?_⟩
 have q:=b.fo.ids a l;exact⟨a.toNat,by omega,by omega,b.item a l⟩
end
set_option linter.all false
section
open Go.RowKit Mist
attribute [local go_sem] ah aM aV au ak
structure O9 (W:World) (A Bi:Option Addr) (xs:List NV) (its:List Int):Prop where
 t:rQ W A Bi xs its
 r:Dt (aF xs)
 e:Env W
 p:Pow W
theorem O9.below {W b:World}{A Bi:Option Addr}{xs:List NV}{its:List Int}(X:O9 W A Bi xs its)(a:Below W.heap.size W b):O9 b A Bi xs its:=⟨X.t.below a,X.r,X.e.below a,X.p.on a⟩
theorem O9.wx {W:World}{A Bi:Option Addr}{xs:List NV}{its:List Int}(X:O9 W A Bi xs its)(h:fJ ⟨aF xs,its⟩=0):WX W A Bi xs.length xs its∧its.length≤60∧aeu ⟨aF xs,its⟩:=by
 obtain⟨h1,h2,h3,h4⟩:=aaj (T:=⟨aF xs,its⟩) h X.r;have a:(⟨aF xs,its⟩:Tr).nodes.length=xs.length:=by simp [aF]
 rw [a] at h2
 exact⟨⟨X.t,rfl,by omega,X.p,X.e,h1⟩,h3,h4⟩
section
variable {W:World} {A Bi:Option Addr} {c d:Nat} {xs:List NV} {its:List Int}
def fF (T:Tr)(k:Int):Int × Int:=if fJ T ≠ 0 then (0,fJ T) else if k < 0∨(T.items.length:Int)≤k then (0,7) else (T.items.getD k.toNat 0,0)
theorem Qn (X:O9 W A Bi xs its)(k:Int)(P:Br k) :
  Calls Tryz.prog 20 #[.agg #[.slice A xs.length c,.slice Bi its.length d],.int .i64 k] W fun e L=>e=.returned (.tuple #[.int .i64 (fF ⟨aF xs,its⟩ k).1,.int .i64 (fF ⟨aF xs,its⟩ k).2])∧Below W.heap.size W L:=by
 have f:=O ((Below.refl W.heap.size W).alloc (ak0 _) (.cells #[.slice A xs.length c,.slice Bi its.length d] 32));have u:=O (rP A Bi c d xs its _ (X.t.below f.o) X.r (X.e.below f.o));have w:=O (bf.new W 32 #[.slice A xs.length c,.slice Bi its.length d]);have J:=O X.t.items;obtain⟨n,C⟩:∃ n,n=xs.length:=⟨_,rfl⟩;obtain⟨m,i⟩:∃ m,m=its.length:=⟨_,rfl⟩;obtain⟨E,q⟩:∃ E,E=fJ ⟨aF xs,its⟩:=⟨_,rfl⟩;rw [← C,← i] at w u f ⊢
 rw [← q] at u
 have M:=O i;by_cases h0:E=0
 ·have h:fF ⟨aF xs,its⟩ k=if k < 0∨(m:Int)≤k then (0,7) else (its.getD k.toNat 0,0):=by unfold fF;rw [← q,if_neg (by simp [h0]),i]
  subst h0;by_cases h1:k < 0
  ·have l:=O (show fF ⟨aF xs,its⟩ k=(0,7) from by rw [h,if_pos (.inl h1)]);clear C i q X h;go_in
   go_wp2_with fail;refine u.o.mono ?_;rintro e v⟨rfl,b⟩;have g:=O (f.o.trans (b.mono f.o.size));clear b;go_wp2_with fail;go_ret2
   exact⟨by rw [l.o];rfl,g.o⟩
  ·by_cases h2:(m:Int)≤k
   ·have l:=O (show fF ⟨aF xs,its⟩ k=(0,7) from by rw [h,if_pos (.inr h2)]);clear C i q X h;go_in
    go_wp2_with fail;refine u.o.mono ?_;rintro e v⟨rfl,b⟩;have g:=O (f.o.trans (b.mono f.o.size));have c1:v.cell? ⟨W.heap.size,1,none⟩=some (.slice Bi m d):=(w.o.below b w.o.lt).cell 1;clear b;go_wp2_with fail;go_ret2
    exact⟨by rw [l.o];rfl,g.o⟩
   ·obtain⟨j,rfl⟩:∃ j:Nat,k=(j:Int):=⟨k.toNat,by omega⟩;have x:j < m:=by omega
    obtain⟨a,G⟩:∃ a,its[j]? = some a:=⟨_,akU (by rw [← i];exact x)⟩;have l:=O (show fF ⟨aF xs,its⟩ (j:Int)=(a,0) from by rw [h,if_neg (by omega),ak7,akY,G];rfl);obtain⟨kb,I,F,y,B⟩:=J.o.ex (by rw [← i];omega);have H:=B j _ G;have K:=O H;have D:=O y;subst F;have Q:(0:Int)≤(j:Int):=by omega
    have R:(j:Int) < (m:Int):=by omega
    clear C i q X h h1 h2 G B H y x;go_in
    go_wp2_with fail;refine u.o.mono ?_;rintro e v⟨rfl,b⟩;have g:=O (f.o.trans (b.mono f.o.size));have c1:v.cell? ⟨W.heap.size,1,none⟩=some (.slice (some ⟨kb,I,none⟩) m d):=(w.o.below b w.o.lt).cell 1;have N:v.cell? ⟨kb,I+j,none⟩=some (.int .i64 a):=(g.o.cell (p:=⟨kb,_,none⟩) D.o).trans K.o;have S:¬ (j:Int) < 0:=by omega
    have T:¬ (m:Int)≤(j:Int):=by omega
    clear b;go_wp2_with fail;go_ret2
    exact⟨by rw [l.o];rfl,g.o⟩
 ·have l:=O (show fF ⟨aF xs,its⟩ k=(0,E) from by unfold fF;rw [← q,if_pos h0]);have z:(E != 0)=true:=by simpa using h0
  clear C i q X h0;go_in
  go_wp2_with fail;refine u.o.mono ?_;rintro e v⟨rfl,b⟩;have g:=O (f.o.trans (b.mono f.o.size));clear b;go_wp2_with fail;go_ret2
  exact⟨by rw [l.o];rfl,g.o⟩
def r_ (T:Tr)(k:Int):Bs × Int :=
 if (fF T k).2 ≠ 0 then ([],(fF T k).2)
 else ((mJ (iI (mI T (T.nodes.length+2) (fF T k).1.toNat)) (mI T (T.nodes.length+2) (fF T k).1.toNat).length).1,((mJ (iI (mI T (T.nodes.length+2) (fF T k).1.toNat)) (mI T (T.nodes.length+2) (fF T k).1.toNat).length).2:Nat))
theorem BF (X:O9 W A Bi xs its){k:Int}(h:(fF ⟨aF xs,its⟩ k).2=0):∃ i:Nat,(fF ⟨aF xs,its⟩ k).1=(i:Int)∧i < xs.length∧fM (nd (⟨aF xs,its⟩:Tr) i).kind=true∧fJ ⟨aF xs,its⟩=0∧0≤k∧k < its.length∧its[k.toNat]? = some (i:Int):=by
 unfold fF at h ⊢
 by_cases h0:fJ ⟨aF xs,its⟩=0
 ·rw [if_neg (by simp [h0])] at h ⊢
  by_cases h1:k < 0∨(its.length:Int)≤k
  ·rw [if_pos h1] at h;cases h
  ·rw [if_neg h1];have e:k.toNat < its.length:=by omega
   obtain⟨i,f,b,g⟩:=(X.wx h0).2.2 its[k.toNat] (List.getElem_mem e);have j:(⟨aF xs,its⟩:Tr).nodes.length=xs.length:=by simp [aF]
   rw [j] at b
   have a:its[k.toNat]? = some (i:Int):=by rw [akU e,f]
   exact⟨i,by show its.getD k.toNat 0=_;rw [akY,a];rfl,b,g,h0,by omega,by omega,a⟩
 ·rw [if_pos h0] at h;exact absurd h h0
theorem OZ (X:O9 W A Bi xs its)(k:Int)(V:Br k) :
  Calls Tryz.prog 9 #[.agg #[.slice A xs.length c,.slice Bi its.length d],.int .i64 k] W fun e I=>e=.returned (.tuple #[.string (aH (r_ ⟨aF xs,its⟩ k).1),.int .i64 (r_ ⟨aF xs,its⟩ k).2])∧Below W.heap.size W I:=by
 have a:=O ((Below.refl W.heap.size W).alloc (ak0 _) (.cells #[.slice A xs.length c,.slice Bi its.length d] 32));have u:=O (Qn (c:=c) (d:=d) (X.below a.o) k V);have E:=O (bf.new W 32 #[.slice A xs.length c,.slice Bi its.length d]);have Z:=O X;obtain⟨n,r⟩:∃ n,n=xs.length:=⟨_,rfl⟩;obtain⟨m,J⟩:∃ m,m=its.length:=⟨_,rfl⟩;obtain⟨N,j⟩:∃ N,N=fF ⟨aF xs,its⟩ k:=⟨_,rfl⟩;rw [← r,← J] at E u a ⊢
 rw [← j] at u
 obtain⟨N1,G⟩:=N;simp only at u
 by_cases h0:G=0
 ·obtain⟨i,y,B,L,M,T⟩:=BF X (k:=k) (by rw [← j];exact h0);rw [← j] at y
  simp only at y
  have h:=X.wx M;obtain⟨l,C⟩:∃ l,l=mI ⟨aF xs,its⟩ (n+2) i:=⟨_,rfl⟩;have q:(⟨aF xs,its⟩:Tr).nodes.length=n:=by rw [r];simp [aF]
  have F:=O (show r_ ⟨aF xs,its⟩ k=((mJ (iI l) l.length).1,(((mJ (iI l) l.length).2:Nat):Int)) from by unfold r_;rw [← j,if_neg (by simp [h0]),y,q,ak7,← C])
  have K:=O (show Sh l∧l.length≤12012 from by
   rw [C]
   refine⟨sh_head _ (xW h.1.ok _ _ (by rw [q,r];exact B)),?_⟩
   unfold mI;rw [aj];exact h.1.bits B (by omega))
  have H:=O fun I (U:Below W.heap.size W I)=>sV (c:=c) (m:=m) (d:=d) (f:=n+2) (h.1.below U) B (by omega) L
  rw [← C] at H
  rw [← r] at H
  subst h0 y;clear r J j X h B L M T C q;go_in
  go_wp2_with fail;refine u.o.mono ?_;rintro e D⟨rfl,b⟩;have g:=O (a.o.trans (b.mono a.o.size));have Q:=O (E.o.below b E.o.lt);have S:D.cell? ⟨W.heap.size,0,none⟩=some (.slice A n c):=Q.o.cell 0;have c1:D.cell? ⟨W.heap.size,1,none⟩=some (.slice Bi m d):=Q.o.cell 1;clear b;go_wp2_with fail;refine (H.o D g.o).mono ?_;rintro e w3⟨v,rfl,P,w⟩;have t:=O (g.o.trans (w.mono g.o.size));have R:=O P;clear w P S c1;go_wp2_with fail;refine (ac' R.o K.o.1 (by have:=K.o.2;omega)).mono ?_;rintro e w4⟨rfl,x⟩;have Y:=O (t.o.trans (x.mono t.o.size));clear x;go_wp2_with fail;go_ret2
  exact⟨by rw [F.o];rfl,Y.o⟩
 ·have F:=O (show r_ ⟨aF xs,its⟩ k=([],G) from by unfold r_;rw [← j,if_pos h0]);have z:(G != 0)=true:=by simpa using h0
  clear r J j X h0;go_in
  go_wp2_with fail;refine u.o.mono ?_;rintro e D⟨rfl,b⟩;have g:=O (a.o.trans (b.mono a.o.size));clear b;go_wp2_with fail;go_ret2
  exact⟨by rw [F.o];rfl,g.o⟩
end
end
set_option linter.all false
end Go.Proofs.YtflnfhhgamldhaaGreatDoor
namespace Mist
theorem J3 (out:List (List Pz))(c:Pz):(j_ out c).flatten=out.flatten ++ [c]:=by
 unfold j_;split
 ·simp
 ·rename_i f
  have b:out ≠ []:=fun e=>f (.inr e)
  have e:out.getLastD []=out.getLast b:=by
   cases out with
   | nil=>exact absurd rfl b
   | cons a l=>rfl
  have h2:=List.dropLast_concat_getLast b;rw [e]
  conv=>rhs;rw [← h2]
  simp
theorem QU (l:List Pz):(jT l).flatten=l:=by
 have:∀ (l:List Pz) (out:List (List Pz)),(l.foldl j_ out).flatten=out.flatten ++ l:=by
  intro l
  induction l with
  | nil=>intro out;simp
  | cons c l a=>intro out;rw [List.foldl_cons,a,J3];simp
 have h:=this l []
 simpa [jT] using h
def qA (wide:Int)(st:Nat × Nat × Bs)(r:List Pz):Nat × Nat × Bs :=
 if st.1=0 then (1,(iR r).length,st.2.2 ++ iR r)
 else if wide < ((st.2.1+1+(iR r).length:Nat):Int) then (st.1+1,2+(iR r).length,st.2.2 ++ [10,32,32] ++ iR r)
 else (st.1+1,st.2.1+(1+(iR r).length),st.2.2 ++ [32] ++ iR r)
def iH (wide:Int)(rs:List (List Pz)):Nat × Nat × Bs:=rs.foldl (qA wide) (0,0,[])
theorem qy (a:Int)(rs:List (List Pz))(r:List Pz):iH a (rs ++ [r])=qA a (iH a rs) r:=by unfold iH;rw [List.foldl_append];rfl
theorem Uf (b:Int)(rs:List (List Pz)):(iH b rs).1=rs.length:=by
 have:∀ (n:Nat) (rs:List (List Pz)),rs.length=n→(iH b rs).1=n:=by
  intro n
  induction n with
  | zero=>intro l h;rw [List.length_eq_zero_iff.1 h];rfl
  | succ n i =>
   intro l h;have f:l ≠ []:=fun e=>by rw [e] at h;cases h
   obtain⟨a,x,e⟩:∃ a x,l=a ++ [x]:=⟨l.dropLast,l.getLast f,(List.dropLast_concat_getLast f).symm⟩;subst e;have g:=i a (by simp at h;exact h);rw [qy];unfold qA;rw [g];split
   ·omega
   ·split <;> rfl
 exact this _ rs rfl
theorem ac9 (s p:Bs):(Go.Lib.trimPrefix s p).length≤s.length:=by
 unfold Go.Lib.trimPrefix;split
 ·rw [List.length_drop];omega
 ·exact ak0 _
theorem SE {l:List Pz}(h:Sh l):(iR l).length≤13 * l.length:=Nat.le_trans (ac9 _ _) (sJ h)
def Pf (rs:List (List Pz)):Nat:=13 * rs.flatten.length+3 * rs.length
theorem YX (b:Int):∀ (n:Nat) (rs:List (List Pz)),rs.length=n→(∀ r ∈ rs,Sh r)→(iH b rs).2.1≤Pf rs∧(iH b rs).2.2.length≤Pf rs:=by
 intro n
 induction n with
 | zero=>intro l h _;rw [List.length_eq_zero_iff.1 h];exact⟨ak0 _,ak0 _⟩
 | succ n j =>
  intro l h hS;have f:l ≠ []:=fun e=>by rw [e] at h;cases h
  obtain⟨a,x,e⟩:∃ a x,l=a ++ [x]:=⟨l.dropLast,l.getLast f,(List.dropLast_concat_getLast f).symm⟩;subst e;obtain⟨h1,h2⟩:=j a (by simp at h;exact h) fun r i=>hS r (List.mem_append_left _ i)
  have h3:=SE (hS x (by simp));have g:Pf (a ++ [x])=Pf a+(13 * x.length+3):=by unfold Pf;simp;omega
  rw [qy,g];unfold qA;split
  ·refine⟨?_,?_⟩
   ·show (iR x).length≤_;omega
   ·show ((iH b a).2.2 ++ iR x).length≤_;rw [ak5];omega
  ·split
   ·refine⟨?_,?_⟩
    ·show 2+(iR x).length≤_;omega
    ·show ((iH b a).2.2 ++ [10,32,32] ++ iR x).length≤_;rw [ak5,ak5];simp;omega
   ·refine⟨?_,?_⟩
    ·show (iH b a).2.1+(1+(iR x).length)≤_;omega
    ·show ((iH b a).2.2 ++ [32] ++ iR x).length≤_;rw [ak5,ak5];simp;omega
theorem aa0 {l:List Pz}(h:Sh l)(e:l.length≤20000):∀ r ∈ jT l,Sh r∧r.length≤20000:=by
 intro r b
 have:=Il (Q:=fun p=>p.text.length≤12) l.length l rfl (fun p a=>h p a) r b
 exact⟨fun p a=>this.2 p a,by omega⟩
theorem abn {l:List Pz}(a:l.length≤20000)(k:Nat):Pf ((jT l).take k)≤400000:=by
 have h1:=AQ l
 have h2:((jT l).take k).flatten.length≤l.length:=by
  have h3:=congrArg List.length (QU l);have h4:(jT l).flatten=((jT l).take k).flatten ++ ((jT l).drop k).flatten:=by rw [← List.flatten_append,List.take_append_drop]
  rw [h4,ak5] at h3
  omega
 unfold Pf;rw [List.length_take];omega
end Mist
namespace Go.Proofs.YtflnfhhgamldhaaGreatDoor
section
open Go.RowKit Mist
attribute [local go_sem] ah aM aV au ak
def yx (T:Tr)(k wide:Int):Bs × Int :=
 if (r_ T k).2 ≠ 0 then ([],(r_ T k).2)
 else if wide < 10∨200 < wide then ([],3)
 else if 2000 < (iH wide (jT (mI T (T.nodes.length+2) (fF T k).1.toNat))).2.2.length then ([],5)
 else ((iH wide (jT (mI T (T.nodes.length+2) (fF T k).1.toNat))).2.2,0)
theorem RI.spare {w j:World}{g base T:Nat}{cs:Array Value}{v:Value}{ls:List (List Pz)}{vs:List Value}(h:RI w base v ls vs)(i:lN g w j)(f:bf w g T cs)(h1:T ≠ 65)(h2:T ≠ 113):RI j base v ls vs :=
 ⟨sF h.own i (bD h.own f (Ne.symm h1)) (by decide),h.len,fun k l e=>by
  obtain⟨u,a,b⟩:=h.row k l e;exact⟨u,a,sF b i (bD b f (Ne.symm h2)) (by decide)⟩,h.ne⟩
theorem RI.ai2 {w:World}{base:Nat}{v:Value}{ls:List (List Pz)}{vs:List Value}(h:RI w base v ls vs){k:Nat}{l:List Pz}(e:ls[k]? = some l):∃ u,vs[k]? = some u∧vO w u l:=by
 obtain⟨u,a,b⟩:=h.row k l e;exact⟨u,a,jm b (fun _ _=>ak2 _)⟩
section
variable {W:World} {A Bi:Option Addr} {c d:Nat} {xs:List NV} {its:List Int}
theorem ZA (X:O9 W A Bi xs its){k:Int}(h:(r_ ⟨aF xs,its⟩ k).2=0):(fF ⟨aF xs,its⟩ k).2=0:=by
 rcases Int.decEq (fF ⟨aF xs,its⟩ k).2 0 with h0 | h0
 ·exfalso
  unfold r_ at h
  rw [if_pos h0] at h
  exact h0 h
 ·exact h0
theorem wz (a b:Nat)(h:a+b≤2000000):wrap64 ((a:Int)+(b:Int))=((a+b:Nat):Int):=by unfold wrap64;omega
theorem wz3 (b:Nat)(h:b≤1000000):wrap64 (1+(b:Int))=1+(b:Int):=by unfold wrap64;omega
theorem wz2 (a b:Nat)(h:a+(1+b)≤2000000):wrap64 ((a:Int)+(1+(b:Int)))=(a:Int)+(1+(b:Int)):=by unfold wrap64;omega
theorem EY {w a:World}{g T:Nat}{cs:Array Value}{v:Value}{l:List Pz}(h:vO w v l)(e:lN g w a)(b:bf w g T cs)(h2:T ≠ 113):vO a v l :=
 sF (show w.ownsRow 0 113 3 v l.length (gV l) from h) e (bD (show w.ownsRow 0 113 3 v l.length (gV l) from h) b (Ne.symm h2)) (by decide)
theorem ad1 (X:O9 W A Bi xs its)(k0 a:Int)(hk:Br k0)(hwd:Br a) :
  Calls Tryz.prog 10 #[.agg #[.slice A xs.length c,.slice Bi its.length d],.int .i64 k0,.int .i64 a] W fun e W'=>e=.returned (.tuple #[.string (aH (yx ⟨aF xs,its⟩ k0 a).1),.int .i64 (yx ⟨aF xs,its⟩ k0 a).2])∧Below W.heap.size W W':=by
 have E:=O ((Below.refl W.heap.size W).alloc (ak0 _) (.cells #[.slice A xs.length c,.slice Bi its.length d] 32));have HC:=O (OZ (c:=c) (d:=d) (X.below E.o) k0 hk);have HK:=O (bf.new W 32 #[.slice A xs.length c,.slice Bi its.length d]);obtain⟨n,hn⟩:∃ n,n=xs.length:=⟨_,rfl⟩;obtain⟨m,hm⟩:∃ m,m=its.length:=⟨_,rfl⟩;obtain⟨N,hN⟩:∃ N,N=r_ ⟨aF xs,its⟩ k0:=⟨_,rfl⟩;rw [← hn,← hm] at HK HC E ⊢
 rw [← hN] at HC
 obtain⟨N1,N2⟩:=N;simp only at HC
 by_cases h0:N2=0
 ·by_cases h1:a < 10∨200 < a
  ·have HT:=O (show yx ⟨aF xs,its⟩ k0 a=([],3) from by unfold yx;rw [← hN,if_neg (by simp [h0]),if_pos h1]);subst h0;clear hn hm hN X;rcases Int.lt_or_le a 10 with h2 | h2
   ·clear h1;go_in
    go_wp2_with fail;refine HC.o.mono ?_;rintro e w2⟨rfl,x⟩;have G:=O (E.o.trans (x.mono E.o.size));have wX:=O (HK.o.below x HK.o.lt);clear x;go_wp2_with fail;go_ret2
    exact⟨by rw [HT.o];rfl,G.o⟩
   ·have h3:200 < a:=by omega
    have h4:¬ a < 10:=by omega
    clear h1 h2;go_in
    go_wp2_with fail;refine HC.o.mono ?_;rintro e w2⟨rfl,x⟩;have G:=O (E.o.trans (x.mono E.o.size));have wX:=O (HK.o.below x HK.o.lt);clear x;go_wp2_with fail;go_ret2
    exact⟨by rw [HT.o];rfl,G.o⟩
  ·have w1:¬ a < 10:=by omega
   have w2:¬ 200 < a:=by omega
   have yB:=ZA X (k:=k0) (by rw [← hN];exact h0);obtain⟨i,e1,e2,e3,e4,e5,e6,e7⟩:=BF X (k:=k0) yB;have hwx:=X.wx e4;obtain⟨l0,hl⟩:∃ l,l=mI ⟨aF xs,its⟩ (n+2) i:=⟨_,rfl⟩;have hnl:(⟨aF xs,its⟩:Tr).nodes.length=n:=by rw [hn];simp [aF]
   obtain⟨rs,hrs⟩:∃ rs,rs=jT l0:=⟨_,rfl⟩;have HT:=O (show yx ⟨aF xs,its⟩ k0 a=if 2000 < (iH a rs).2.2.length then ([],5) else ((iH a rs).2.2,0) from by unfold yx;rw [← hN,if_neg (by simp [h0]),if_neg h1,e1,hnl,ak7,← hl,← hrs])
   have hsh:Sh l0∧l0.length≤12012:=by
    rw [hl]
    refine⟨sh_head _ (xW hwx.1.ok _ _ (by rw [hnl,hn];exact e2)),?_⟩
    unfold mI;rw [aj];exact hwx.1.bits e2 (by omega)
   have OA:=O hsh.2;have IZ:=O (show ∀ r ∈ rs,Sh r∧r.length≤20000 from by rw [hrs];exact aa0 hsh.1 (by omega));have HRL:=O (show rs.length≤12012 from by rw [hrs];have:=AQ l0;omega)
   have HCP:=O fun k=>(show (iH a (rs.take k)).2.1≤400000∧(iH a (rs.take k)).2.2.length≤400000 from by
    have h2:=abn (l:=l0) (by have:=hsh.2;omega) k;rw [← hrs] at h2
    have h3:=YX a _ (rs.take k) rfl fun r hr=>(IZ.o r (List.mem_of_mem_take hr)).1
    omega)
   have abv:=O fun W' (hb:Below W.heap.size W W')=>sV (c:=c) (m:=m) (d:=d) (f:=n+2) (hwx.1.below hb) e2 (by omega) e3
   rw [← hl] at abv
   rw [← hn] at abv
   obtain⟨j,rfl⟩:∃ j:Nat,k0=(j:Int):=⟨k0.toNat,by omega⟩;rw [ak7] at e7
   obtain⟨kb,ko,hBi,hkb,hkc⟩:=X.t.items.ex (by rw [← hm];omega);have HQ:=O (hkc j _ e7);have HKB:=O hkb;subst h0 hBi;have y0:(0:Int)≤(j:Int):=by omega
   have y1:(j:Int) < (m:Int):=by omega
   clear hn hm hN X hwx e1 e2 e3 e4 e5 e6 e7 hl hnl yB hkb hkc hsh;go_in
   go_wp2_with fail;refine HC.o.mono ?_;rintro e w2⟨rfl,x⟩;have G:=O (E.o.trans (x.mono E.o.size));have wX:=O (HK.o.below x HK.o.lt);clear x;go_upto_region 8 with (fail)
   have c0:w2.cell? ⟨W.heap.size,0,none⟩=some (.slice A n c):=wX.o.cell 0;have P:=O (G.o.alloc G.o.size (.cells #[.pointer none,.slice none 0 0] 62));have FX:=O (zo.fresh 62 [] w2);have BX:=O (wX.o.below ((Below.refl _ _).alloc (ak0 _) (.cells #[.pointer none,.slice none 0 0] 62)) wX.o.lt);have hgl:W.heap.size≤w2.heap.size:=G.o.size;have K:=O hgl;obtain⟨g,hg⟩:∃ g,g=w2.heap.size:=⟨_,rfl⟩;obtain⟨w3,hw3⟩:∃ w3,w3=w2.alloc (.cells #[.pointer none,.slice none 0 0] 62):=⟨_,rfl⟩
   change Hid (zo 62 w2.heap.size w2.heap.size [] [] (w2.alloc (.cells #[.pointer none,.slice none 0 0] 62))) at FX
   rw [← hw3] at P FX BX ⊢
   rw [← hg] at FX K ⊢
   have c0:w3.cell? ⟨W.heap.size,0,none⟩=some (.slice A n c):=BX.o.cell 0;have c1:w3.cell? ⟨W.heap.size,1,none⟩=some (.slice (some ⟨kb,ko,none⟩) m d):=BX.o.cell 1;have kq:w3.cell? ⟨kb,ko+j,none⟩=some (.int .i64 (i:Nat)):=(P.o.cell (p:=⟨kb,_,none⟩) HKB.o).trans HQ.o;have aem:=O (show kb < w3.heap.size from alb HKB.o P.o.size);have HRZ:=O hrs;clear hg hw3 hgl G wX HQ HKB E HK HC w1 h1 hrs;have Ti:=O kq;have HJM:=O (show j < m by omega);have z1:0 < m:=by omega
   go_region_held3 (fun w'=>w'.cell? ⟨W.heap.size,0,none⟩=some (.slice A n c)∧w'.cell? ⟨W.heap.size,1,none⟩=some (.slice (some ⟨kb,ko,none⟩) m d)∧w'.cell? ⟨kb,ko+j,none⟩=some (.int .i64 (i:Nat)))
    (first | go_keep|(go_split_ands;refine⟨?_,?_,?_⟩ <;> assumption))
    ((first
    | (go_at_call 22
       refine (abv.o _ (by repeat (first|(with_reducible exact P.o)|(with_reducible refine Below.drew ?_)))).mono ?_;rintro e w4⟨v,rfl,hr,hb4⟩;have Xx:=O (show Below w3.heap.size w3 w4 from Below.trans (by (repeat (first|(with_reducible exact Below.refl _ _)|(with_reducible refine Below.drew ?_)));done) hb4);have HR4:=O hr;have XU:=O (BX.o.below Xx.o BX.o.lt);clear hr hb4 c0 c1 kq;have c0:w4.cell? ⟨W.heap.size,0,none⟩=some (.slice A n c):=XU.o.cell 0;have c1:w4.cell? ⟨W.heap.size,1,none⟩=some (.slice (some ⟨kb,ko,none⟩) m d):=XU.o.cell 1;have kq:w4.cell? ⟨kb,ko+j,none⟩=some (.int .i64 (i:Nat)):=(Xx.o.cell (p:=⟨kb,_,none⟩) aem.o).trans Ti.o;obtain⟨Ap,cp,rfl,hpa⟩:=HR4.o.form;have WM:=O hpa;clear hpa;obtain⟨np,hnp⟩:∃ np,np=l0.length:=⟨_,rfl⟩;have HNP:=O hnp;rw [← hnp];clear hnp)
    | (go_at_call 24
       refine (afw (A:=Ap) (c:=cp) (n:=np) (l:=l0) (by first | exact WM.o | exact WM.o.drew) HNP.o.symm (by rw [HNP.o];have:=OA.o;omega)).mono ?_;rintro e w5⟨v5,rfl,⟨vs,hri⟩,hb5⟩;rw [← HRZ.o] at hri
       have wY:=O hri;obtain⟨Av,cv,rfl⟩:=d_ hri.own;have ad_:=O (show Below w4.heap.size w4 w5 from Below.trans (by (repeat (first|(with_reducible exact Below.refl _ _)|(with_reducible refine Below.drew ?_)));done) hb5);have dF:=O (Xx.o.trans (ad_.o.mono Xx.o.size));have HK5:=O (XU.o.below ad_.o XU.o.lt);clear hri hb5 c0 c1 kq;have c0:w5.cell? ⟨W.heap.size,0,none⟩=some (.slice A n c):=HK5.o.cell 0;have c1:w5.cell? ⟨W.heap.size,1,none⟩=some (.slice (some ⟨kb,ko,none⟩) m d):=HK5.o.cell 1;have kq:w5.cell? ⟨kb,ko+j,none⟩=some (.int .i64 (i:Nat)):=(dF.o.cell (p:=⟨kb,_,none⟩) aem.o).trans Ti.o)))
   all_goals
    have ahw:=wY.o.own;obtain⟨M,hM⟩:∃ M,M=rs.length:=⟨_,rfl⟩;rw [← hM] at wY ⊢
    have HM:=O hM;have hMM:M≤12012:=by rw [hM];exact HRL.o
    have afH:=O (P.o.trans (dF.o.mono P.o.size));have Kw:=O (FX.o.below dF.o);obtain⟨lb,hlb⟩:∃ lb,lb=w4.heap.size:=⟨_,rfl⟩;rw [← hlb] at wY
    clear hM hlb ahw HK5 XU c0 c1 kq dF ad_ Xx P FX abv Ti aem BX HRZ HNP HJM OA WM HR4 y0 y1 z1;go_wp2_with fail;go_loopw [11,12,13,14,41] (fun v11 _ _ _ v41 wr=>∃ k:Nat,k≤M∧v41=.int .i64 k∧v11=.int .i64 ((iH a (rs.take k)).2.1:Nat)∧Hid (zo 62 g g [] (iH a (rs.take k)).2.2 wr)∧Hid (RI wr lb (.slice Av M cv) rs vs)∧Hid (Below W.heap.size W wr)) (fun _ _ _ _ v41 _=>M - (intOf v41).toNat)
    case atStart=>exact⟨0,ak2 _,rfl,rfl,Kw,wY,afH⟩
    case round =>
     obtain⟨k,hkm,rfl,rfl,T,HR,HB⟩:=hrel;clear Kw wY afH;by_cases hlt:k < M
     ·obtain⟨l,hl⟩:∃ l,rs[k]? = some l:=⟨_,akU (by rw [← HM.o];exact hlt)⟩;obtain⟨u,hu,hpr⟩:=HR.o.ai2 hl;obtain⟨Au,cu,hu2⟩:=d_ (show wr.ownsRow 0 113 3 u l.length (gV l) from hpr);obtain⟨q,hq⟩:∃ q,q=l.length:=⟨_,rfl⟩;rw [← hq] at hu2
      subst hu2;have Tp:=O hpr;have hown:wr.ownsRow lb 65 1 (.slice Av M cv) M vs:=by have:=HR.o.own;rw [← HM.o] at this;exact this
      obtain⟨gp,cap,hv,_⟩:=hown.form (by omega);injection hv with hv1 hv2 hv3
      subst hv1;subst hv3;clear hv2;have kq:wr.cell? ⟨gp,k,none⟩=some (.slice Au q cu):=by rw [hown.cellAt k (by omega)];exact hu
      have H:=O (IZ.o l (ak3 hl));have lM:=O (VT Tp.o H.o.1 (by have:=H.o.2;omega));have I4:=O (show (iR l).length≤260000 from by have h1:=SE H.o.1;have:=H.o.2;omega);have htk:rs.take (k+1)=rs.take k ++ [l]:=by rw [List.take_succ,hl];rfl
      have Z:(iH a (rs.take k)).1=k:=by rw [Uf,List.length_take];have:=HM.o;omega
      have V:=O (HCP.o k);have y0:(0:Int)≤(k:Int):=by omega
      have y1:(k:Int) < (M:Int):=by omega
      clear hl hu hpr hown hq;by_cases hk0:k=0
      ·obtain rfl:k=0:=hk0;have y:=O (show iH a (rs.take (0+1))=(1,(iR l).length,(iH a (rs.take 0)).2.2 ++ iR l) from by rw [htk,qy];unfold qA;rw [Z,if_pos rfl]);have F:=HCP.o (0+1);rw [y.o] at F
       have HBD:=O F;obtain⟨D,C⟩:∃ t,t=(iH a (rs.take 0)).2.1:=⟨_,rfl⟩;obtain⟨tx,B⟩:∃ t,t=(iH a (rs.take 0)).2.2:=⟨_,rfl⟩;rw [← B] at T
       simp only [← C,← B,ak5] at y HBD V
       rw [← C];clear htk Z F C B;have L:=O (show tx.length+3+(iR l).length≤1000000∧D+3+(iR l).length≤1000000 from by have:=V.o;have:=I4.o;omega);have HL2:=O (show tx.length+(iR l).length≤1000000000 from by have:=L.o;omega);go_wp2_with fail;refine lM.o.mono ?_;rintro e w6⟨rfl,b⟩;have Y:=O (HB.o.trans (b.mono HB.o.size));have zA:=O (HR.o.below b);have BU:=O (T.o.below b);have KI:=O (Tp.o.below b);clear b kq HB HR T Tp lM;go_wp2_with fail;refine (vF KI.o H.o.1 (by have:=H.o.2;omega)).mono ?_;rintro e w8⟨rfl,R⟩;have J:=O (Y.o.trans (R.mono Y.o.size));have FR:=O (zA.o.below R);have U:=O (BU.o.below R);clear R Y zA BU KI;go_wp2_with fail;refine (jl 62 2 g g l9 [] tx (iR l) w8 U.o rfl HL2.o (ak1 U.o.lt)).mono ?_;rintro e w9⟨rfl,Lr,Kk,w⟩;obtain⟨I,h⟩:=U.o.blk;have X6:=O (FR.o.spare w h (by decide) (by decide));have HB9:=O (J.o.trans (Kk.mono K.o));have XT:=O (show zo 62 g g [] (iH a (rs.take (0+1))).2.2 w9 from by rw [y.o];exact Lr);clear Lr Kk w h J FR U I;go_wp2_with fail;exact⟨⟨0+1,by omega,by go_num,(by rw [y.o];first | done | rfl),XT,X6,HB9⟩,by simp [intOf];omega⟩
      ·by_cases hw:a < (((iH a (rs.take k)).2.1+1+(iR l).length:Nat):Int)
       ·have y:=O (show iH a (rs.take (k+1))=(k+1,2+(iR l).length,(iH a (rs.take k)).2.2 ++ [10,32,32] ++ iR l) from by rw [htk,qy];unfold qA;rw [Z,if_neg hk0,if_pos hw]);have F:=HCP.o (k+1);rw [y.o] at F
        have HBD:=O F;obtain⟨D,C⟩:∃ t,t=(iH a (rs.take k)).2.1:=⟨_,rfl⟩;obtain⟨tx,B⟩:∃ t,t=(iH a (rs.take k)).2.2:=⟨_,rfl⟩;rw [← B] at T
        simp only [← C,← B,ak5] at y HBD V
        rw [← C] at hw
        rw [← C];clear htk Z F C B;have L:=O (show tx.length+3+(iR l).length≤1000000∧D+3+(iR l).length≤1000000 from by have:=V.o;have:=I4.o;omega);have vM:=O (show tx.length+([10,32,32]:Bs).length≤1000000000 from by show tx.length+3≤_;have:=L.o;omega);have HL2:=O (show (tx ++ [10,32,32]).length+(iR l).length≤1000000000 from by rw [ak5];show tx.length+3+_≤_;have:=L.o;omega);have z0:((k:Int) == 0)=false:=by simpa using (by omega:¬ (k:Int)=0)
        have z1:¬ (k:Int)=0:=by omega
        have g1:D+1≤2000000:=by have:=L.o;omega
        have g2:D+1+(iR l).length≤2000000:=by have:=L.o;omega
        have g3:2+(iR l).length≤2000000:=by have:=L.o;omega
        have g5:(iR l).length≤1000000:=by have:=L.o;omega
        have g4:D+(1+(iR l).length)≤2000000:=by have:=L.o;omega
        have ws1:wrap64 ((D:Int)+1)=((D+1:Nat):Int):=wz D 1 g1;have ws2:wrap64 ((D:Int)+1+((iR l).length:Nat))=(D:Int)+1+((iR l).length:Nat):=wz (D+1) _ g2;have hw2:a < (D:Int)+1+((iR l).length:Nat):=by omega
        have ws3:wrap64 (2+((iR l).length:Nat))=2+((iR l).length:Nat):=wz 2 _ g3;clear hk0 g1 g2 g3 g4 g5;go_wp2_with fail;refine lM.o.mono ?_;rintro e w6⟨rfl,b⟩;have Y:=O (HB.o.trans (b.mono HB.o.size));have zA:=O (HR.o.below b);have BU:=O (T.o.below b);have KI:=O (Tp.o.below b);clear b kq HB HR T Tp lM;go_wp2_with fail;refine (jl 62 2 g g l9 [] tx [10,32,32] w6 BU.o rfl vM.o (ak1 BU.o.lt)).mono ?_;rintro e w7⟨rfl,Y7,pF,w⟩;obtain⟨I,h⟩:=BU.o.blk;have OJ:=O (zA.o.spare w h (by decide) (by decide));have X5:=O (EY KI.o w h (by decide));have qO:=O (Y.o.trans (pF.mono K.o));have XR:=O Y7;clear Y7 pF w h Y zA BU KI I;go_wp2_with fail;refine (vF X5.o H.o.1 (by have:=H.o.2;omega)).mono ?_;rintro e w8⟨rfl,R⟩;have J:=O (qO.o.trans (R.mono qO.o.size));have FR:=O (OJ.o.below R);have U:=O (XR.o.below R);clear R qO OJ XR X5;go_wp2_with fail;refine (jl 62 2 g g l9 [] (tx ++ [10,32,32]) (iR l) w8 U.o rfl HL2.o (ak1 U.o.lt)).mono ?_;rintro e w9⟨rfl,Lr,Kk,w⟩;obtain⟨I,h⟩:=U.o.blk;have X6:=O (FR.o.spare w h (by decide) (by decide));have HB9:=O (J.o.trans (Kk.mono K.o));have XT:=O (show zo 62 g g [] (iH a (rs.take (k+1))).2.2 w9 from by rw [y.o];exact Lr);clear Lr Kk w h J FR U I;go_wp2_with fail;clear ws1 ws2 ws3;exact⟨⟨k+1,by omega,by go_num,(by rw [y.o];first | done | rfl),XT,X6,HB9⟩,by simp [intOf];omega⟩
       ·have y:=O (show iH a (rs.take (k+1))=(k+1,(iH a (rs.take k)).2.1+(1+(iR l).length),(iH a (rs.take k)).2.2 ++ [32] ++ iR l) from by rw [htk,qy];unfold qA;rw [Z,if_neg hk0,if_neg hw]);have F:=HCP.o (k+1);rw [y.o] at F
        have HBD:=O F;obtain⟨D,C⟩:∃ t,t=(iH a (rs.take k)).2.1:=⟨_,rfl⟩;obtain⟨tx,B⟩:∃ t,t=(iH a (rs.take k)).2.2:=⟨_,rfl⟩;rw [← B] at T
        simp only [← C,← B,ak5] at y HBD V
        rw [← C] at hw
        rw [← C];clear htk Z F C B;have L:=O (show tx.length+3+(iR l).length≤1000000∧D+3+(iR l).length≤1000000 from by have:=V.o;have:=I4.o;omega);have vM:=O (show tx.length+1≤1000000000 from by have:=L.o;omega);have HL2:=O (show (tx ++ [32]).length+(iR l).length≤1000000000 from by rw [ak5];show tx.length+1+_≤_;have:=L.o;omega);have z0:((k:Int) == 0)=false:=by simpa using (by omega:¬ (k:Int)=0)
        have z1:¬ (k:Int)=0:=by omega
        have g1:D+1≤2000000:=by have:=L.o;omega
        have g2:D+1+(iR l).length≤2000000:=by have:=L.o;omega
        have g3:2+(iR l).length≤2000000:=by have:=L.o;omega
        have g5:(iR l).length≤1000000:=by have:=L.o;omega
        have g4:D+(1+(iR l).length)≤2000000:=by have:=L.o;omega
        have ws1:wrap64 ((D:Int)+1)=((D+1:Nat):Int):=wz D 1 g1;have ws2:wrap64 ((D:Int)+1+((iR l).length:Nat))=(D:Int)+1+((iR l).length:Nat):=wz (D+1) _ g2;have hw2:¬ a < (D:Int)+1+((iR l).length:Nat):=by omega
        have HG4:=O g4;have Tf:=O g5;clear hk0 g1 g2 g3 g4 g5;go_wp2_with fail;refine lM.o.mono ?_;rintro e w6⟨rfl,b⟩;have Y:=O (HB.o.trans (b.mono HB.o.size));have zA:=O (HR.o.below b);have BU:=O (T.o.below b);have KI:=O (Tp.o.below b);clear b kq HB HR T Tp lM;go_wp2_with fail;refine (wB 62 2 g g l9 [] tx 32 w6 BU.o rfl vM.o (ak1 BU.o.lt)).mono ?_;rintro e w7⟨rfl,Y7,pF,w⟩;obtain⟨I,h⟩:=BU.o.blk;have OJ:=O (zA.o.spare w h (by decide) (by decide));have X5:=O (EY KI.o w h (by decide));have qO:=O (Y.o.trans (pF.mono K.o));have XR:=O Y7;clear Y7 pF w h Y zA BU KI I;clear ws1 ws2 hw2;have ws3:wrap64 (1+((iR l).length:Nat))=1+((iR l).length:Nat):=wz3 _ Tf.o;have ws4:wrap64 ((D:Int)+(1+((iR l).length:Nat)))=(D:Int)+(1+((iR l).length:Nat)):=wz2 _ _ HG4.o;go_wp2_with fail;refine (vF X5.o H.o.1 (by have:=H.o.2;omega)).mono ?_;rintro e w8⟨rfl,R⟩;have J:=O (qO.o.trans (R.mono qO.o.size));have FR:=O (OJ.o.below R);have U:=O (XR.o.below R);clear R qO OJ XR X5;go_wp2_with fail;refine (jl 62 2 g g l9 [] (tx ++ [32]) (iR l) w8 U.o rfl HL2.o (ak1 U.o.lt)).mono ?_;rintro e w9⟨rfl,Lr,Kk,w⟩;obtain⟨I,h⟩:=U.o.blk;have X6:=O (FR.o.spare w h (by decide) (by decide));have HB9:=O (J.o.trans (Kk.mono K.o));have XT:=O (show zo 62 g g [] (iH a (rs.take (k+1))).2.2 w9 from by rw [y.o];exact Lr);clear Lr Kk w h J FR U I;go_wp2_with fail;clear ws3 ws4;exact⟨⟨k+1,by omega,by go_num,(by rw [y.o];first | done | rfl),XT,X6,HB9⟩,by simp [intOf];omega⟩
     ·obtain rfl:k=M:=by omega
      have y1:¬ (k:Int) < (k:Int):=by omega
      have htl:rs.take k=rs:=ak4 (by rw [← HM.o];omega);have acg:=HCP.o k;rw [htl] at T acg ⊢
      have ahz:=T.o.lt;obtain⟨tx,B⟩:∃ t,t=(iH a rs).2.2:=⟨_,rfl⟩;rw [← B] at T HT acg
      clear hlt htl B;by_cases S:2000 < tx.length
      ·have Q:=HT.o;rw [if_pos S] at Q
       have y2:(2000:Int) < ((tx.length:Nat):Int):=by omega
       have HT3:=O Q;clear Q HT acg S;go_wp2_with fail;refine (sW 62 g g [] tx wr T.o (by omega)).mono ?_;rintro e w6⟨rfl,b⟩;have Y:=O (HB.o.trans (b.mono K.o));clear b;go_wp2_with fail;go_ret2
       exact⟨by rw [HT3.o];rfl,Y.o⟩
      ·have Q:=HT.o;rw [if_neg S] at Q
       have y2:¬ (2000:Int) < ((tx.length:Nat):Int):=by omega
       have HT3:=O Q;clear Q HT acg S;go_wp2_with fail;refine (sW 62 g g [] tx wr T.o (by omega)).mono ?_;rintro e w6⟨rfl,b⟩;have Y:=O (HB.o.trans (b.mono K.o));clear b;go_wp2_with fail;go_ret2
       exact⟨by rw [HT3.o];rfl,Y.o⟩
 ·have HT:=O (show yx ⟨aF xs,its⟩ k0 a=([],N2) from by unfold yx;rw [← hN,if_pos h0]);have z:(N2 != 0)=true:=by simpa using h0
  clear hn hm hN X h0;go_in
  go_wp2_with fail;refine HC.o.mono ?_;rintro e w2⟨rfl,x⟩;have G:=O (E.o.trans (x.mono E.o.size));have wX:=O (HK.o.below x HK.o.lt);clear x;go_wp2_with fail;go_ret2
  exact⟨by rw [HT.o];rfl,G.o⟩
end
theorem uE {W:World}{cs:Array Value}{T:TypeId}{k:Nat}(a:W.heap.size=k):bf (W.alloc (.cells cs T)) k T cs:=by subst a;exact bf.new W T cs
end
