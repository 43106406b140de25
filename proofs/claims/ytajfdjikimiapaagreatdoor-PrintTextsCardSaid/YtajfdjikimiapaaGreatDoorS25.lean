/-
  A part of the proof.
-/
import Derived.Test.YtajfdjikimiapaaGreatDoorS19
import Derived.Test.YtajfdjikimiapaaGreatDoorS23
import Derived.Test.YtajfdjikimiapaaGreatDoorS24
set_option linter.all false
set_option maxRecDepth 100000
set_option maxHeartbeats 4000000
namespace Go.Proofs.YtajfdjikimiapaaGreatDoor
section
open Go.RowKit Mist
def oH (T:Tr):Int:=iT T.nodes
def eP (T:Tr):Int :=
 if Mist.large T=true then 5
 else if (List.range T.nodes.length).all (Mist.formed T)=false then 4
 else if Mist.ordered T=false∨Mist.signed T=false then 4
 else if 30 < oH T then 5
 else if 0≤outT T then 3 else 0
theorem XL (xs:List NV)(its:List Int):m_ xs.length its.length=Mist.large ⟨aj xs,its⟩:=by
 unfold m_ Mist.large;rw [bW]
theorem tJ {T:Tr}{i:Nat}(h:Mist.formed T i=true):∀ c ∈ (nd T i).kids,0≤c∧c≤(i:Int) - 1:=((Mist.mZ T i).1 h).2.2
theorem oG {T:Tr}(h:(List.range T.nodes.length).all (Mist.formed T)=true)(i:Nat)(hi:i < T.nodes.length):Mist.formed T i=true:=aiD.1 h i (List.mem_range.2 hi)
theorem Ru {T:Tr}(t:∀ n ∈ T.nodes,j6≤n.n∧n.n≤gL)(h:(List.range T.nodes.length).all (Mist.formed T)=true):∀ x ∈ T.nodes,ow T x:=by
 intro x w y;obtain⟨i,hi,rfl⟩:=List.getElem_of_mem w;have e:T.nodes[i]? = some T.nodes[i]:=aip hi;have l:=(Mist.mZ T i).1 (oG h i hi);rw [jX e] at l
 obtain⟨h1,_,h3⟩:=l;have u:=(Mist.yG T.nodes[i] (kinds T T.nodes[i].kids) (by simp [kinds]) (t _ w)).1 h1
 have B:T.nodes[i].kids.length=2:=by
  have:=u.2.2.2.1
  simpa [lD,y] using this
 obtain⟨a,b,f⟩:∃ a b,T.nodes[i].kids=[a,b]:=by
  match m:T.nodes[i].kids,B with
  | [a,b],_=>exact⟨a,b,rfl⟩
 rw [f] at h3
 have C:=h3 a (by simp);have D:=h3 b (by simp);have m:=u.2.2.2.2.2;rw [f] at m
 have g:=m 0 (by simp [kinds]);have k:=m 1 (by simp [kinds]);simp [jL,y,kinds] at g k
 have num:∀ j:Nat,j < T.nodes.length→(nd T j).kind=1→-9999≤(nd T j).n∧(nd T j).n≤9999:=by
  intro j r o;have l:=(Mist.mZ T j).1 (oG h j r);have q:=(Mist.yG (nd T j) (kinds T (nd T j).kids) (by simp [kinds]) (t _ (aiy (FT r)))).1 l.1
  have:=q.2.2.2.2.1
  simpa [kG,o,Mist.within] using this
 refine⟨a.toNat,b.toNat,?_,by omega,by omega,num _ (by omega) g,num _ (by omega) k⟩
 rw [f]
 congr 1
 ·omega
 ·congr 1;omega
theorem Xz {T:Tr}(h:(List.range T.nodes.length).all (Mist.formed T)=true)(a:Mist.ordered T=true):∀ q ∈ T.items,0≤q∧q < (T.nodes.length:Int):=by
 have f:=DL (t:=T) (fun i n e=>by
  have:=tJ (oG h i (aiq.1 e).1)
  rwa [jX e] at this) a
 intro q b
 have:=f.fo.ids q b
 omega
theorem GR (A B:Option Addr)(c m d:Nat)(w:World):Calls Tryz.prog 50 #[.agg #[.slice A 0 c,.slice B m d]] w fun e a=>e=.returned (.int .i64 0)∧Below w.heap.size w a:=by
 go_in
 go_wp2;go_ret;exact⟨rfl,aF (Below.refl _ _) (aiv _)⟩
theorem wT (A B:Option Addr)(c m d:Nat)(xs:List NV)(its:List Int)(w:World)(f:lJ w A B xs its)(h:xs.length≤100000)(g:Wf (aj xs)) :
  Calls Tryz.prog 50 #[.agg #[.slice A xs.length c,.slice B m d]] w fun e j=>e=.returned (.int .i64 (iT (aj xs)))∧Below w.heap.size w j:=by
 rcases Nat.eq_zero_or_pos xs.length with h0 | h0
 ·have i:xs=[]:=List.eq_nil_of_length_eq_zero h0;subst i;exact GR A B c m d w
 ·obtain⟨b,o,rfl,a⟩:=f.nodes h0;exact JD b o c m d B xs w a.kids g h h0
theorem RO {T:Tr}(h:(List.range T.nodes.length).all (Mist.formed T)=true):Wf T.nodes:=by
 intro i x a q b
 have:=tJ (oG h i (aiq.1 a).1)
 rw [jX a] at this
 have:=this q b
 omega
theorem qD (A B:Option Addr)(c d:Nat)(xs:List NV)(its:List Int)(w:World)(h:lJ w A B xs its)(hR:ED (aj xs))(hE:Env w) :
  Calls Tryz.prog 69 #[.agg #[.slice A xs.length c,.slice B its.length d]] w fun e w'=>e=.returned (.int .i64 (eP ⟨aj xs,its⟩))∧Below w.heap.size w w':=by
 obtain⟨n,b⟩:∃ n,n=xs.length:=⟨_,rfl⟩;obtain⟨m,t⟩:∃ m,m=its.length:=⟨_,rfl⟩;obtain⟨T,J⟩:∃ T:Tr,T=⟨aj xs,its⟩:=⟨_,rfl⟩;have Zb:=O (show m_ n m=Mist.large T by rw [J,b,t];exact XL xs its);have Jm:=O (show T.nodes.length=n by rw [J,b];exact bW xs);have UQ:=O (fun i w h hE hi G=>Nw A B c m d xs its i w h hR hE hi G);have HOR:=O (fun w h G hm hK=>Kw A B c d xs its w h hR G hm hK);have HSI:=O (fun w h G hm hI=>OU A B c d xs its w h hR G hm hI);have LJ:=O (fun w h G hW=>wT A B c m d xs its w h G hW);have HOU:=O (fun w h G hC=>yj xs its A c B m d w h G hC);rw [← J,← b] at UQ
 rw [← J,← b,← t] at HOR HSI
 rw [← J,← b] at HOU
 rw [← b] at LJ
 rw [← J,← b,← t];have V:=O J;clear J;have pU:=O b;clear b;have Ep:=O t;clear t;have HT:=O h;clear h;have HE:=O hE;clear hE;have HNR:=O (show ∀ x ∈ T.nodes,j6≤x.n∧x.n≤gL from fun x hx=>by rw [V.o] at hx;exact (hR x hx).num);clear hR;go_in
 go_wp2_with fail;refine (FM A B n m c d _).mono ?_;rintro e w2⟨rfl,P⟩;rw [Zb.o];have y:=O (gB P);have L:=O ((aF (Below.refl w.heap.size w) (aiv _) (o:=.cells #[.slice A n c,.slice B m d] 25)).trans (P.mono (by simp)));clear P;have S:=y.o.cell 0;have U:=y.o.cell 1
 cases Sv:Mist.large T
 case true =>
  have g:=O (show eP T=5 by unfold eP;rw [if_pos Sv]);clear Sv;go_wp2_with fail;go_ret;exact⟨by rw [g.o];rfl,L.o⟩
 have hsz:n≤800∧m≤60:=by
  have h9:=Zb.o;rw [Sv] at h9
  unfold m_ at h9
  simp at h9
  omega
 have Zu:=O Sv;clear Sv;obtain⟨hn8,hm6⟩:=hsz;go_wp2_with fail;go_loopw [9] (fun i wr=>∃ k:Nat,k≤n∧i=.int .i64 k∧Hid ((List.range k).all (Mist.formed T)=true)∧Hid (Below w2.heap.size w2 wr)) (fun i _=>n - (intOf i).toNat)
 case atStart=>exact⟨0,aix _,rfl,O rfl,O (Below.refl _ _)⟩
 case round =>
  obtain⟨wo,rfl⟩:∃ wo:World,wo=wr:=⟨_,rfl⟩;obtain⟨k,hk,rfl,HA,HL⟩:=hrel;have yU:=O (y.o.below HL.o y.o.lt);have E:=O (L.o.trans (HL.o.mono L.o.size));have S:=yU.o.cell 0;have U:=yU.o.cell 1;by_cases F:k < n
  ·have i3:decide (k < n)=true:=aiG F;have HF:=O (UQ.o k wo (HT.o.below E.o) (HE.o.below E.o) F (by omega))
   cases hf:Mist.formed T k
   ·have j:=O hf;clear hf
    have g:=O (show eP T=4 by
     unfold eP;rw [if_neg (by rw [Zu.o];simp),if_pos];rw [List.all_eq_false];exact⟨k,List.mem_range.2 (by rw [Jm.o];exact F),by rw [j.o];simp⟩)
    go_wp2_with fail;refine HF.o.mono ?_;rintro e w3⟨rfl,a⟩;rw [j.o];go_wp2_with fail;go_ret;exact⟨by rw [g.o];rfl,E.o.trans (a.mono E.o.size)⟩
   ·have j:=O hf;clear hf;go_wp2_with fail;refine HF.o.mono ?_;rintro e w3⟨rfl,a⟩;rw [j.o];have R:=O (HL.o.trans (a.mono HL.o.size));clear a;go_wp2_with fail;exact⟨⟨k+1,by omega,by go_num,O (by rw [List.range_succ,List.all_append,HA.o];simp [j.o]),R⟩,by simp [intOf];omega⟩
  ·have i3:decide (k < n)=false:=aiH F
   have K:=O (show (List.range T.nodes.length).all (Mist.formed T)=true by
    have h9:=HA.o
    rwa [show k=T.nodes.length by rw [Jm.o];omega] at h9)
   have HKK:=O (show ∀ (i:Nat) x,xs[i]? = some x→∀ k ∈ x.1.kids,0≤k∧k≤(i:Int) - 1 from fun i x hx=>by
    have h9:=tJ (oG K.o i (by rw [Jm.o,pU.o];exact (aiq.1 hx).1))
    rwa [V.o,aY its hx] at h9)
   have adJ:=O (HOR.o wo (HT.o.below E.o) (by omega) (by omega) HKK.o)
   cases H:Mist.ordered T
   ·have N:=O H;clear H
    have g:=O (show eP T=4 by
     unfold eP;rw [if_neg (by rw [Zu.o];simp),if_neg (by rw [K.o];simp),if_pos (Or.inl N.o)])
    go_wp2_with fail;refine adJ.o.mono ?_;rintro e w3⟨rfl,a⟩;rw [N.o];go_wp2_with fail;go_ret;exact⟨by rw [g.o];rfl,E.o.trans (a.mono E.o.size)⟩
   ·have N:=O H;clear H
    have HII:=O (show ∀ q ∈ its,0≤q∧q < (n:Int) by
     have h9:=Xz K.o N.o;rw [Jm.o] at h9
     rwa [show T.items=its by rw [V.o]] at h9)
    go_wp2_with fail;refine adJ.o.mono ?_;rintro e w3⟨rfl,a⟩;rw [N.o];have C:=O (yU.o.below a yU.o.lt);have R:=O (E.o.trans (a.mono E.o.size));clear a S U;have S:=C.o.cell 0;have U:=C.o.cell 1;have HSG:=O (HSI.o w3 (HT.o.below R.o) (by omega) (by omega) HII.o)
    cases I:Mist.signed T
    ·have X:=O I;clear I
     have g:=O (show eP T=4 by
      unfold eP;rw [if_neg (by rw [Zu.o];simp),if_neg (by rw [K.o];simp),if_pos (Or.inr X.o)])
     go_wp2_with fail;refine HSG.o.mono ?_;rintro e w4⟨rfl,l⟩;rw [X.o];go_wp2_with fail;go_ret;exact⟨by rw [g.o];rfl,R.o.trans (l.mono R.o.size)⟩
    ·have X:=O I;clear I;go_wp2_with fail;refine HSG.o.mono ?_;rintro e w4⟨rfl,l⟩;rw [X.o];have VK:=O (C.o.below l C.o.lt);have Z:=O (R.o.trans (l.mono R.o.size));clear l S U;have S:=VK.o.cell 0;have U:=VK.o.cell 1;have u:=O (LJ.o w4 (HT.o.below Z.o) (by omega) (by have h9:=RO K.o;rwa [show T.nodes=aj xs by rw [V.o]] at h9));have HDT:=O (show iT (aj xs)=oH T by unfold oH;rw [V.o]);rw [HDT.o] at u
     obtain⟨D,hD⟩:∃ D,D=oH T:=⟨_,rfl⟩;rw [← hD] at u
     have Zo:=O hD;clear hD;by_cases Y:30 < D
     ·have e30:decide (30 < D)=true:=aiG Y
      have g:=O (show eP T=5 by
       unfold eP;rw [if_neg (by rw [Zu.o];simp),if_neg (by rw [K.o];simp),if_neg (by rw [N.o,X.o];simp),if_pos (by rw [← Zo.o];exact Y)])
      go_wp2_with fail;refine u.o.mono ?_;rintro e w5⟨rfl,r⟩;go_wp2_with fail;go_ret;exact⟨by rw [g.o];rfl,Z.o.trans (r.mono Z.o.size)⟩
     ·have e30:decide (30 < D)=false:=aiH Y;have H30:=O (show ¬ 30 < oH T by rw [← Zo.o];exact Y);clear Y;go_wp2_with fail;refine u.o.mono ?_;rintro e w5⟨rfl,r⟩;have UZ:=O (VK.o.below r VK.o.lt);have kI:=O (Z.o.trans (r.mono Z.o.size));clear r S U;have S:=UZ.o.cell 0;have U:=UZ.o.cell 1;have M:=O (HOU.o w5 (HT.o.below kI.o) (by omega) (by have h9:=Ru HNR.o K.o;rwa [show T.nodes=aj xs by rw [V.o]] at h9));obtain⟨f,hO⟩:∃ f,f=outT T:=⟨_,rfl⟩;rw [← hO] at M
      have Zx:=O hO;clear hO
      have g:=O (show eP T=if 0≤f then 3 else 0 by
       unfold eP;rw [if_neg (by rw [Zu.o];simp),if_neg (by rw [K.o];simp),if_neg (by rw [N.o,X.o];simp),if_neg (by have h9:=H30.o;omega),← Zx.o])
      by_cases h0:0≤f
      ·have e0:decide (0≤f)=true:=aiG h0;have Fe:=O (show eP T=3 by rw [g.o,if_pos h0]);go_wp2_with fail;refine M.o.mono ?_;rintro e w6⟨rfl,Q⟩;go_wp2_with fail;go_ret;exact⟨by rw [Fe.o];rfl,kI.o.trans (Q.mono kI.o.size)⟩
      ·have e0:decide (0≤f)=false:=aiH h0;have Fe:=O (show eP T=0 by rw [g.o,if_neg h0]);go_wp2_with fail;refine M.o.mono ?_;rintro e w6⟨rfl,Q⟩;go_wp2_with fail;go_ret;exact⟨by rw [Fe.o];rfl,kI.o.trans (Q.mono kI.o.size)⟩
end
set_option linter.all false
section
open Go.RowKit Mist
theorem X8 {T:Tr}(h:eP T=0)(n:ED T.nodes):GD T∧T.nodes.length≤800∧T.items.length≤60∧acw T:=by
 unfold eP at h
 split at h
 ·omega
 rename_i h1
 split at h
 ·omega
 rename_i h2
 split at h
 ·omega
 rename_i h3
 split at h
 ·omega
 split at h
 ·omega
 rename_i h5
 have j:T.nodes.length≤800∧T.items.length≤60:=by
  have:Mist.large T=false:=by simpa using h1
  unfold Mist.large at this
  simp only [Bool.or_eq_false_iff,decide_eq_false_iff_not] at this
  omega
 have o:(List.range T.nodes.length).all (Mist.formed T)=true:=by simpa using h2
 have r:Mist.ordered T=true:=by
  rcases h8:Mist.ordered T with _ | _
  ·exact absurd (Or.inl h8) h3
  ·rfl
 have t:Mist.signed T=true:=by
  rcases h8:Mist.signed T with _ | _
  ·exact absurd (Or.inr h8) h3
  ·rfl
 have hF:=(JL T (fun x g=>(n x g).num) (by omega)).1 ⟨o,r,t⟩;obtain⟨b,m⟩:=(uh T).1 hF
 have f:∀ x ∈ T.nodes,Mist.sized T x=true:=by
  have h8:=Kz T;rw [aiH h5] at h8
  have h9:T.nodes.all (Mist.sized T)=true:=by simpa using h8.symm
  exact aiD.1 h9
 have e:∀ i,i < T.nodes.length→NmZ (nd T i):=fun i hi=>by
  have g:nd T i ∈ T.nodes:=aiy (FT hi);have h8:=f _ g;unfold Mist.sized at h8
  refine⟨fun k=>?_,fun k=>?_⟩
  ·rw [k] at h8
   simp [within] at h8
   exact h8
  ·rw [k] at h8
   simp at h8
   have h9:=(U5 (m i hi)).num;unfold kG at h9
   rw [k] at h9
   simp at h9
   omega
 refine⟨⟨m,b.fo,e⟩,j.1,j.2,fun a l=>?_⟩
 have q:=b.fo.ids a l;exact⟨a.toNat,by omega,by omega,b.item a l⟩
end
set_option linter.all false
section
open Go.RowKit Mist
attribute [local go_sem] au aN aV aM aG
structure MX (W:World) (A Bi:Option Addr) (xs:List NV) (its:List Int):Prop where
 t:lJ W A Bi xs its
 r:ED (aj xs)
 e:Env W
 p:Pow W
theorem MX.below {W b:World}{A Bi:Option Addr}{xs:List NV}{its:List Int}(X:MX W A Bi xs its)(a:Below W.heap.size W b):MX b A Bi xs its:=⟨X.t.below a,X.r,X.e.below a,X.p.on a⟩
theorem MX.wx {W:World}{A Bi:Option Addr}{xs:List NV}{its:List Int}(X:MX W A Bi xs its)(h:eP ⟨aj xs,its⟩=0):WX W A Bi xs.length xs its∧its.length≤60∧acw ⟨aj xs,its⟩:=by
 obtain⟨h1,h2,h3,h4⟩:=X8 (T:=⟨aj xs,its⟩) h X.r;have a:(⟨aj xs,its⟩:Tr).nodes.length=xs.length:=by simp [aj]
 rw [a] at h2
 exact⟨⟨X.t,rfl,by omega,X.p,X.e,h1⟩,h3,h4⟩
section
variable {W:World} {A Bi:Option Addr} {c d:Nat} {xs:List NV} {its:List Int}
def d9 (T:Tr)(k:Int):Int × Int:=if eP T ≠ 0 then (0,eP T) else if k < 0∨(T.items.length:Int)≤k then (0,7) else (T.items.getD k.toNat 0,0)
theorem Ou (X:MX W A Bi xs its)(k:Int)(Q:Ar k) :
  Calls Tryz.prog 52 #[.agg #[.slice A xs.length c,.slice Bi its.length d],.int .i64 k] W fun e M=>e=.returned (.tuple #[.int .i64 (d9 ⟨aj xs,its⟩ k).1,.int .i64 (d9 ⟨aj xs,its⟩ k).2])∧Below W.heap.size W M:=by
 have f:=O ((Below.refl W.heap.size W).alloc (aiv _) (.cells #[.slice A xs.length c,.slice Bi its.length d] 25));have u:=O (qD A Bi c d xs its _ (X.t.below f.o) X.r (X.e.below f.o));have x:=O (aZ.new W 25 #[.slice A xs.length c,.slice Bi its.length d]);have K:=O X.t.items;obtain⟨n,D⟩:∃ n,n=xs.length:=⟨_,rfl⟩;obtain⟨m,i⟩:∃ m,m=its.length:=⟨_,rfl⟩;obtain⟨E,q⟩:∃ E,E=eP ⟨aj xs,its⟩:=⟨_,rfl⟩;rw [← D,← i] at x u f ⊢
 rw [← q] at u
 have N:=O i;by_cases h0:E=0
 ·have h:d9 ⟨aj xs,its⟩ k=if k < 0∨(m:Int)≤k then (0,7) else (its.getD k.toNat 0,0):=by unfold d9;rw [← q,if_neg (by simp [h0]),i]
  subst h0;by_cases h1:k < 0
  ·have l:=O (show d9 ⟨aj xs,its⟩ k=(0,7) from by rw [h,if_pos (.inl h1)]);clear D i q X h;go_in
   go_wp2_with fail;refine u.o.mono ?_;rintro e w⟨rfl,b⟩;have g:=O (f.o.trans (b.mono f.o.size));clear b;go_wp2_with fail;go_ret2
   exact⟨by rw [l.o];rfl,g.o⟩
  ·by_cases h2:(m:Int)≤k
   ·have l:=O (show d9 ⟨aj xs,its⟩ k=(0,7) from by rw [h,if_pos (.inr h2)]);clear D i q X h;go_in
    go_wp2_with fail;refine u.o.mono ?_;rintro e w⟨rfl,b⟩;have g:=O (f.o.trans (b.mono f.o.size));have c1:w.cell? ⟨W.heap.size,1,none⟩=some (.slice Bi m d):=(x.o.below b x.o.lt).cell 1;clear b;go_wp2_with fail;go_ret2
    exact⟨by rw [l.o];rfl,g.o⟩
   ·obtain⟨j,rfl⟩:∃ j:Nat,k=(j:Int):=⟨k.toNat,by omega⟩;have y:j < m:=by omega
    obtain⟨a,H⟩:∃ a,its[j]? = some a:=⟨_,aip (by rw [← i];exact y)⟩;have l:=O (show d9 ⟨aj xs,its⟩ (j:Int)=(a,0) from by rw [h,if_neg (by omega),aiC,ait,H];rfl);obtain⟨kb,J,G,B,C⟩:=K.o.ex (by rw [← i];omega);have I:=C j _ H;have L:=O I;have F:=O B;subst G;have R:(0:Int)≤(j:Int):=by omega
    have S:(j:Int) < (m:Int):=by omega
    clear D i q X h h1 h2 H C I B y;go_in
    go_wp2_with fail;refine u.o.mono ?_;rintro e w⟨rfl,b⟩;have g:=O (f.o.trans (b.mono f.o.size));have c1:w.cell? ⟨W.heap.size,1,none⟩=some (.slice (some ⟨kb,J,none⟩) m d):=(x.o.below b x.o.lt).cell 1;have P:w.cell? ⟨kb,J+j,none⟩=some (.int .i64 a):=(g.o.cell (p:=⟨kb,_,none⟩) F.o).trans L.o;have T:¬ (j:Int) < 0:=by omega
    have U:¬ (m:Int)≤(j:Int):=by omega
    clear b;go_wp2_with fail;go_ret2
    exact⟨by rw [l.o];rfl,g.o⟩
 ·have l:=O (show d9 ⟨aj xs,its⟩ k=(0,E) from by unfold d9;rw [← q,if_pos h0]);have z:(E != 0)=true:=by simpa using h0
  clear D i q X h0;go_in
  go_wp2_with fail;refine u.o.mono ?_;rintro e w⟨rfl,b⟩;have g:=O (f.o.trans (b.mono f.o.size));clear b;go_wp2_with fail;go_ret2
  exact⟨by rw [l.o];rfl,g.o⟩
def qM (T:Tr)(k:Int):Bs × Int :=
 if (d9 T k).2 ≠ 0 then ([],(d9 T k).2)
 else ((jA (dW (lG T (T.nodes.length+2) (d9 T k).1.toNat)) (lG T (T.nodes.length+2) (d9 T k).1.toNat).length).1,((jA (dW (lG T (T.nodes.length+2) (d9 T k).1.toNat)) (lG T (T.nodes.length+2) (d9 T k).1.toNat).length).2:Nat))
theorem AJ (X:MX W A Bi xs its){k:Int}(h:(d9 ⟨aj xs,its⟩ k).2=0):∃ i:Nat,(d9 ⟨aj xs,its⟩ k).1=(i:Int)∧i < xs.length∧dB (nd (⟨aj xs,its⟩:Tr) i).kind=true∧eP ⟨aj xs,its⟩=0∧0≤k∧k < its.length∧its[k.toNat]? = some (i:Int):=by
 unfold d9 at h ⊢
 by_cases h0:eP ⟨aj xs,its⟩=0
 ·rw [if_neg (by simp [h0])] at h ⊢
  by_cases h1:k < 0∨(its.length:Int)≤k
  ·rw [if_pos h1] at h;cases h
  ·rw [if_neg h1];have e:k.toNat < its.length:=by omega
   obtain⟨i,f,b,g⟩:=(X.wx h0).2.2 its[k.toNat] (List.getElem_mem e);have j:(⟨aj xs,its⟩:Tr).nodes.length=xs.length:=by simp [aj]
   rw [j] at b
   have a:its[k.toNat]? = some (i:Int):=by rw [aip e,f]
   exact⟨i,by show its.getD k.toNat 0=_;rw [ait,a];rfl,b,g,h0,by omega,by omega,a⟩
 ·rw [if_pos h0] at h;exact absurd h h0
theorem MW (X:MX W A Bi xs its)(k:Int)(V:Ar k) :
  Calls Tryz.prog 19 #[.agg #[.slice A xs.length c,.slice Bi its.length d],.int .i64 k] W fun e I=>e=.returned (.tuple #[.string (aU (qM ⟨aj xs,its⟩ k).1),.int .i64 (qM ⟨aj xs,its⟩ k).2])∧Below W.heap.size W I:=by
 have a:=O ((Below.refl W.heap.size W).alloc (aiv _) (.cells #[.slice A xs.length c,.slice Bi its.length d] 25));have u:=O (Ou (c:=c) (d:=d) (X.below a.o) k V);have E:=O (aZ.new W 25 #[.slice A xs.length c,.slice Bi its.length d]);have Z:=O X;obtain⟨n,r⟩:∃ n,n=xs.length:=⟨_,rfl⟩;obtain⟨m,J⟩:∃ m,m=its.length:=⟨_,rfl⟩;obtain⟨N,j⟩:∃ N,N=d9 ⟨aj xs,its⟩ k:=⟨_,rfl⟩;rw [← r,← J] at E u a ⊢
 rw [← j] at u
 obtain⟨N1,G⟩:=N;simp only at u
 by_cases h0:G=0
 ·obtain⟨i,y,B,L,M,T⟩:=AJ X (k:=k) (by rw [← j];exact h0);rw [← j] at y
  simp only at y
  have h:=X.wx M;obtain⟨l,C⟩:∃ l,l=lG ⟨aj xs,its⟩ (n+2) i:=⟨_,rfl⟩;have q:(⟨aj xs,its⟩:Tr).nodes.length=n:=by rw [r];simp [aj]
  have F:=O (show qM ⟨aj xs,its⟩ k=((jA (dW l) l.length).1,(((jA (dW l) l.length).2:Nat):Int)) from by unfold qM;rw [← j,if_neg (by simp [h0]),y,q,aiC,← C])
  have K:=O (show Sh l∧l.length≤12012 from by
   rw [C]
   refine⟨sh_head _ (wN h.1.ok _ _ (by rw [q,r];exact B)),?_⟩
   unfold lG;rw [ak];exact h.1.bits B (by omega))
  have H:=O fun I (U:Below W.heap.size W I)=>rM (c:=c) (m:=m) (d:=d) (f:=n+2) (h.1.below U) B (by omega) L
  rw [← C] at H
  rw [← r] at H
  subst h0 y;clear r J j X h B L M T C q;go_in
  go_wp2_with fail;refine u.o.mono ?_;rintro e D⟨rfl,b⟩;have g:=O (a.o.trans (b.mono a.o.size));have Q:=O (E.o.below b E.o.lt);have S:D.cell? ⟨W.heap.size,0,none⟩=some (.slice A n c):=Q.o.cell 0;have c1:D.cell? ⟨W.heap.size,1,none⟩=some (.slice Bi m d):=Q.o.cell 1;clear b;go_wp2_with fail;refine (H.o D g.o).mono ?_;rintro e w3⟨v,rfl,P,w⟩;have t:=O (g.o.trans (w.mono g.o.size));have R:=O P;clear w P S c1;go_wp2_with fail;refine (abt R.o K.o.1 (by have:=K.o.2;omega)).mono ?_;rintro e w4⟨rfl,x⟩;have Y:=O (t.o.trans (x.mono t.o.size));clear x;go_wp2_with fail;go_ret2
  exact⟨by rw [F.o];rfl,Y.o⟩
 ·have F:=O (show qM ⟨aj xs,its⟩ k=([],G) from by unfold qM;rw [← j,if_pos h0]);have z:(G != 0)=true:=by simpa using h0
  clear r J j X h0;go_in
  go_wp2_with fail;refine u.o.mono ?_;rintro e D⟨rfl,b⟩;have g:=O (a.o.trans (b.mono a.o.size));clear b;go_wp2_with fail;go_ret2
  exact⟨by rw [F.o];rfl,g.o⟩
end
end
set_option linter.all false
end Go.Proofs.YtajfdjikimiapaaGreatDoor
namespace Mist
theorem Io (out:List (List Pz))(c:Pz):(jm out c).flatten=out.flatten ++ [c]:=by
 unfold jm;split
 ·simp
 ·rename_i f
  have b:out ≠ []:=fun e=>f (.inr e)
  have e:out.getLastD []=out.getLast b:=by
   cases out with
   | nil=>exact absurd rfl b
   | cons a l=>rfl
  have h2:=List.dropLast_concat_getLast b;rw [e]
  conv=>rhs;rw [← h2]
  simp
theorem OJ (l:List Pz):(jg l).flatten=l:=by
 have:∀ (l:List Pz) (out:List (List Pz)),(l.foldl jm out).flatten=out.flatten ++ l:=by
  intro l
  induction l with
  | nil=>intro out;simp
  | cons c l a=>intro out;rw [List.foldl_cons,a,Io];simp
 have h:=this l []
 simpa [jg] using h
def oM (wide:Int)(st:Nat × Nat × Bs)(r:List Pz):Nat × Nat × Bs :=
 if st.1=0 then (1,(gU r).length,st.2.2 ++ gU r)
 else if wide < ((st.2.1+1+(gU r).length:Nat):Int) then (st.1+1,2+(gU r).length,st.2.2 ++ [10,32,32] ++ gU r)
 else (st.1+1,st.2.1+(1+(gU r).length),st.2.2 ++ [32] ++ gU r)
def gJ (wide:Int)(rs:List (List Pz)):Nat × Nat × Bs:=rs.foldl (oM wide) (0,0,[])
theorem oL (a:Int)(rs:List (List Pz))(r:List Pz):gJ a (rs ++ [r])=oM a (gJ a rs) r:=by unfold gJ;rw [List.foldl_append];rfl
theorem RJ (b:Int)(rs:List (List Pz)):(gJ b rs).1=rs.length:=by
 have:∀ (n:Nat) (rs:List (List Pz)),rs.length=n→(gJ b rs).1=n:=by
  intro n
  induction n with
  | zero=>intro l h;rw [List.length_eq_zero_iff.1 h];rfl
  | succ n i =>
   intro l h;have f:l ≠ []:=fun e=>by rw [e] at h;cases h
   obtain⟨a,x,e⟩:∃ a x,l=a ++ [x]:=⟨l.dropLast,l.getLast f,(List.dropLast_concat_getLast f).symm⟩;subst e;have g:=i a (by simp at h;exact h);rw [oL];unfold oM;rw [g];split
   ·omega
   ·split <;> rfl
 exact this _ rs rfl
theorem abq (s p:Bs):(Go.Lib.trimPrefix s p).length≤s.length:=by
 unfold Go.Lib.trimPrefix;split
 ·rw [List.length_drop];omega
 ·exact aiv _
theorem Qz {l:List Pz}(h:Sh l):(gU l).length≤13 * l.length:=Nat.le_trans (abq _ _) (qW h)
def Nb (rs:List (List Pz)):Nat:=13 * rs.flatten.length+3 * rs.length
theorem WK (b:Int):∀ (n:Nat) (rs:List (List Pz)),rs.length=n→(∀ r ∈ rs,Sh r)→(gJ b rs).2.1≤Nb rs∧(gJ b rs).2.2.length≤Nb rs:=by
 intro n
 induction n with
 | zero=>intro l h _;rw [List.length_eq_zero_iff.1 h];exact⟨aiv _,aiv _⟩
 | succ n j =>
  intro l h hS;have f:l ≠ []:=fun e=>by rw [e] at h;cases h
  obtain⟨a,x,e⟩:∃ a x,l=a ++ [x]:=⟨l.dropLast,l.getLast f,(List.dropLast_concat_getLast f).symm⟩;subst e;obtain⟨h1,h2⟩:=j a (by simp at h;exact h) fun r i=>hS r (List.mem_append_left _ i)
  have h3:=Qz (hS x (by simp));have g:Nb (a ++ [x])=Nb a+(13 * x.length+3):=by unfold Nb;simp;omega
  rw [oL,g];unfold oM;split
  ·refine⟨?_,?_⟩
   ·show (gU x).length≤_;omega
   ·show ((gJ b a).2.2 ++ gU x).length≤_;rw [aiA];omega
  ·split
   ·refine⟨?_,?_⟩
    ·show 2+(gU x).length≤_;omega
    ·show ((gJ b a).2.2 ++ [10,32,32] ++ gU x).length≤_;rw [aiA,aiA];simp;omega
   ·refine⟨?_,?_⟩
    ·show (gJ b a).2.1+(1+(gU x).length)≤_;omega
    ·show ((gJ b a).2.2 ++ [32] ++ gU x).length≤_;rw [aiA,aiA];simp;omega
theorem YG {l:List Pz}(h:Sh l)(e:l.length≤20000):∀ r ∈ jg l,Sh r∧r.length≤20000:=by
 intro r b
 have:=F8 (Q:=fun p=>p.text.length≤12) l.length l rfl (fun p a=>h p a) r b
 exact⟨fun p a=>this.2 p a,by omega⟩
theorem Y3 {l:List Pz}(a:l.length≤20000)(k:Nat):Nb ((jg l).take k)≤400000:=by
 have h1:=zT l
 have h2:((jg l).take k).flatten.length≤l.length:=by
  have h3:=congrArg List.length (OJ l);have h4:(jg l).flatten=((jg l).take k).flatten ++ ((jg l).drop k).flatten:=by rw [← List.flatten_append,List.take_append_drop]
  rw [h4,aiA] at h3
  omega
 unfold Nb;rw [List.length_take];omega
end Mist
namespace Go.Proofs.YtajfdjikimiapaaGreatDoor
section
open Go.RowKit Mist
attribute [local go_sem] au aN aV aM aG
def wY (T:Tr)(k wide:Int):Bs × Int :=
 if (qM T k).2 ≠ 0 then ([],(qM T k).2)
 else if wide < 10∨200 < wide then ([],3)
 else if 2000 < (gJ wide (jg (lG T (T.nodes.length+2) (d9 T k).1.toNat))).2.2.length then ([],5)
 else ((gJ wide (jg (lG T (T.nodes.length+2) (d9 T k).1.toNat))).2.2,0)
theorem RI.spare {w j:World}{g base T:Nat}{cs:Array Value}{v:Value}{ls:List (List Pz)}{vs:List Value}(h:RI w base v ls vs)(i:kL g w j)(f:aZ w g T cs)(h1:T ≠ 57)(h2:T ≠ 92):RI j base v ls vs :=
 ⟨qP h.own i (bJ h.own f (Ne.symm h1)) (by decide),h.len,fun k l e=>by
  obtain⟨u,a,b⟩:=h.row k l e;exact⟨u,a,qP b i (bJ b f (Ne.symm h2)) (by decide)⟩,h.ne⟩
theorem RI.agO {w:World}{base:Nat}{v:Value}{ls:List (List Pz)}{vs:List Value}(h:RI w base v ls vs){k:Nat}{l:List Pz}(e:ls[k]? = some l):∃ u,vs[k]? = some u∧uN w u l:=by
 obtain⟨u,a,b⟩:=h.row k l e;exact⟨u,a,iC b (fun _ _=>aix _)⟩
section
variable {W:World} {A Bi:Option Addr} {c d:Nat} {xs:List NV} {its:List Int}
theorem Xy (X:MX W A Bi xs its){k:Int}(h:(qM ⟨aj xs,its⟩ k).2=0):(d9 ⟨aj xs,its⟩ k).2=0:=by
 rcases Int.decEq (d9 ⟨aj xs,its⟩ k).2 0 with h0 | h0
 ·exfalso
  unfold qM at h
  rw [if_pos h0] at h
  exact h0 h
 ·exact h0
theorem wz (a b:Nat)(h:a+b≤2000000):wrap64 ((a:Int)+(b:Int))=((a+b:Nat):Int):=by unfold wrap64;omega
theorem wz3 (b:Nat)(h:b≤1000000):wrap64 (1+(b:Int))=1+(b:Int):=by unfold wrap64;omega
theorem wz2 (a b:Nat)(h:a+(1+b)≤2000000):wrap64 ((a:Int)+(1+(b:Int)))=(a:Int)+(1+(b:Int)):=by unfold wrap64;omega
theorem DX {w a:World}{g T:Nat}{cs:Array Value}{v:Value}{l:List Pz}(h:uN w v l)(e:kL g w a)(b:aZ w g T cs)(h2:T ≠ 92):uN a v l :=
 qP (show w.ownsRow 0 92 3 v l.length (fP l) from h) e (bJ (show w.ownsRow 0 92 3 v l.length (fP l) from h) b (Ne.symm h2)) (by decide)
theorem ab0 (X:MX W A Bi xs its)(k0 a:Int)(hk:Ar k0)(hwd:Ar a) :
  Calls Tryz.prog 8 #[.agg #[.slice A xs.length c,.slice Bi its.length d],.int .i64 k0,.int .i64 a] W fun e W'=>e=.returned (.tuple #[.string (aU (wY ⟨aj xs,its⟩ k0 a).1),.int .i64 (wY ⟨aj xs,its⟩ k0 a).2])∧Below W.heap.size W W':=by
 have E:=O ((Below.refl W.heap.size W).alloc (aiv _) (.cells #[.slice A xs.length c,.slice Bi its.length d] 25));have HC:=O (MW (c:=c) (d:=d) (X.below E.o) k0 hk);have HK:=O (aZ.new W 25 #[.slice A xs.length c,.slice Bi its.length d]);obtain⟨n,hn⟩:∃ n,n=xs.length:=⟨_,rfl⟩;obtain⟨m,hm⟩:∃ m,m=its.length:=⟨_,rfl⟩;obtain⟨N,hN⟩:∃ N,N=qM ⟨aj xs,its⟩ k0:=⟨_,rfl⟩;rw [← hn,← hm] at HK HC E ⊢
 rw [← hN] at HC
 obtain⟨N1,N2⟩:=N;simp only at HC
 by_cases h0:N2=0
 ·by_cases h1:a < 10∨200 < a
  ·have HT:=O (show wY ⟨aj xs,its⟩ k0 a=([],3) from by unfold wY;rw [← hN,if_neg (by simp [h0]),if_pos h1]);subst h0;clear hn hm hN X;rcases Int.lt_or_le a 10 with h2 | h2
   ·clear h1;go_in
    go_wp2_with fail;refine HC.o.mono ?_;rintro e w2⟨rfl,x⟩;have G:=O (E.o.trans (x.mono E.o.size));have yT:=O (HK.o.below x HK.o.lt);clear x;go_wp2_with fail;go_ret2
    exact⟨by rw [HT.o];rfl,G.o⟩
   ·have h3:200 < a:=by omega
    have h4:¬ a < 10:=by omega
    clear h1 h2;go_in
    go_wp2_with fail;refine HC.o.mono ?_;rintro e w2⟨rfl,x⟩;have G:=O (E.o.trans (x.mono E.o.size));have yT:=O (HK.o.below x HK.o.lt);clear x;go_wp2_with fail;go_ret2
    exact⟨by rw [HT.o];rfl,G.o⟩
  ·have w1:¬ a < 10:=by omega
   have w2:¬ 200 < a:=by omega
   have pQ:=Xy X (k:=k0) (by rw [← hN];exact h0);obtain⟨i,e1,e2,e3,e4,e5,e6,e7⟩:=AJ X (k:=k0) pQ;have hwx:=X.wx e4;obtain⟨l0,hl⟩:∃ l,l=lG ⟨aj xs,its⟩ (n+2) i:=⟨_,rfl⟩;have hnl:(⟨aj xs,its⟩:Tr).nodes.length=n:=by rw [hn];simp [aj]
   obtain⟨rs,Y⟩:∃ rs,rs=jg l0:=⟨_,rfl⟩;have HT:=O (show wY ⟨aj xs,its⟩ k0 a=if 2000 < (gJ a rs).2.2.length then ([],5) else ((gJ a rs).2.2,0) from by unfold wY;rw [← hN,if_neg (by simp [h0]),if_neg h1,e1,hnl,aiC,← hl,← Y])
   have hsh:Sh l0∧l0.length≤12012:=by
    rw [hl]
    refine⟨sh_head _ (wN hwx.1.ok _ _ (by rw [hnl,hn];exact e2)),?_⟩
    unfold lG;rw [ak];exact hwx.1.bits e2 (by omega)
   have Ms:=O hsh.2;have Gu:=O (show ∀ r ∈ rs,Sh r∧r.length≤20000 from by rw [Y];exact YG hsh.1 (by omega));have HRL:=O (show rs.length≤12012 from by rw [Y];have:=zT l0;omega)
   have HCP:=O fun k=>(show (gJ a (rs.take k)).2.1≤400000∧(gJ a (rs.take k)).2.2.length≤400000 from by
    have h2:=Y3 (l:=l0) (by have:=hsh.2;omega) k;rw [← Y] at h2
    have h3:=WK a _ (rs.take k) rfl fun r hr=>(Gu.o r (List.mem_of_mem_take hr)).1
    omega)
   have ZA:=O fun W' (hb:Below W.heap.size W W')=>rM (c:=c) (m:=m) (d:=d) (f:=n+2) (hwx.1.below hb) e2 (by omega) e3
   rw [← hl] at ZA
   rw [← hn] at ZA
   obtain⟨j,rfl⟩:∃ j:Nat,k0=(j:Int):=⟨k0.toNat,by omega⟩;rw [aiC] at e7
   obtain⟨kb,ko,hBi,hkb,hkc⟩:=X.t.items.ex (by rw [← hm];omega);have HQ:=O (hkc j _ e7);have HKB:=O hkb;subst h0 hBi;have y0:(0:Int)≤(j:Int):=by omega
   have y1:(j:Int) < (m:Int):=by omega
   clear hn hm hN X hwx e1 e2 e3 e4 e5 e6 e7 hl hnl pQ hkb hkc hsh;go_in
   go_wp2_with fail;refine HC.o.mono ?_;rintro e w2⟨rfl,x⟩;have G:=O (E.o.trans (x.mono E.o.size));have yT:=O (HK.o.below x HK.o.lt);clear x;go_upto_region 8 with (fail)
   have c0:w2.cell? ⟨W.heap.size,0,none⟩=some (.slice A n c):=yT.o.cell 0;have K:=O (G.o.alloc G.o.size (.cells #[.pointer none,.slice none 0 0] 49));have Ew:=O (yN.fresh 49 [] w2);have Mr:=O (yT.o.below ((Below.refl _ _).alloc (aiv _) (.cells #[.pointer none,.slice none 0 0] 49)) yT.o.lt);have hgl:W.heap.size≤w2.heap.size:=G.o.size;have I:=O hgl;obtain⟨g,hg⟩:∃ g,g=w2.heap.size:=⟨_,rfl⟩;obtain⟨w3,hw3⟩:∃ w3,w3=w2.alloc (.cells #[.pointer none,.slice none 0 0] 49):=⟨_,rfl⟩
   change Hid (yN 49 w2.heap.size w2.heap.size [] [] (w2.alloc (.cells #[.pointer none,.slice none 0 0] 49))) at Ew
   rw [← hw3] at K Ew Mr ⊢
   rw [← hg] at Ew I ⊢
   have c0:w3.cell? ⟨W.heap.size,0,none⟩=some (.slice A n c):=Mr.o.cell 0;have c1:w3.cell? ⟨W.heap.size,1,none⟩=some (.slice (some ⟨kb,ko,none⟩) m d):=Mr.o.cell 1;have kq:w3.cell? ⟨kb,ko+j,none⟩=some (.int .i64 (i:Nat)):=(K.o.cell (p:=⟨kb,_,none⟩) HKB.o).trans HQ.o;have aco:=O (show kb < w3.heap.size from aiI HKB.o K.o.size);have HRZ:=O Y;clear hg hw3 hgl G yT HQ HKB E HK HC w1 h1 Y;have Jd:=O kq;have HJM:=O (show j < m by omega);have z1:0 < m:=by omega
   go_region_held3 (fun w'=>w'.cell? ⟨W.heap.size,0,none⟩=some (.slice A n c)∧w'.cell? ⟨W.heap.size,1,none⟩=some (.slice (some ⟨kb,ko,none⟩) m d)∧w'.cell? ⟨kb,ko+j,none⟩=some (.int .i64 (i:Nat)))
    (first | go_keep|(go_split_ands;refine⟨?_,?_,?_⟩ <;> assumption))
    ((first
    | (go_at_call 23
       refine (ZA.o _ (by repeat (first|(with_reducible exact K.o)|(with_reducible refine Below.drew ?_)))).mono ?_;rintro e w4⟨v,rfl,hr,hb4⟩;have Vm:=O (show Below w3.heap.size w3 w4 from Below.trans (by (repeat (first|(with_reducible exact Below.refl _ _)|(with_reducible refine Below.drew ?_)));done) hb4);have HR4:=O hr;have HK4:=O (Mr.o.below Vm.o Mr.o.lt);clear hr hb4 c0 c1 kq;have c0:w4.cell? ⟨W.heap.size,0,none⟩=some (.slice A n c):=HK4.o.cell 0;have c1:w4.cell? ⟨W.heap.size,1,none⟩=some (.slice (some ⟨kb,ko,none⟩) m d):=HK4.o.cell 1;have kq:w4.cell? ⟨kb,ko+j,none⟩=some (.int .i64 (i:Nat)):=(Vm.o.cell (p:=⟨kb,_,none⟩) aco.o).trans Jd.o;obtain⟨Ap,cp,rfl,hpa⟩:=HR4.o.form;have Zz:=O hpa;clear hpa;obtain⟨np,hnp⟩:∃ np,np=l0.length:=⟨_,rfl⟩;have HNP:=O hnp;rw [← hnp];clear hnp)
    | (go_at_call 22
       refine (adp (A:=Ap) (c:=cp) (n:=np) (l:=l0) (by first | exact Zz.o | exact Zz.o.drew) HNP.o.symm (by rw [HNP.o];have:=Ms.o;omega)).mono ?_;rintro e w5⟨v5,rfl,⟨vs,hri⟩,hb5⟩;rw [← HRZ.o] at hri
       have uM:=O hri;obtain⟨Av,cv,rfl⟩:=dh hri.own;have ab7:=O (show Below w4.heap.size w4 w5 from Below.trans (by (repeat (first|(with_reducible exact Below.refl _ _)|(with_reducible refine Below.drew ?_)));done) hb5);have b_:=O (Vm.o.trans (ab7.o.mono Vm.o.size));have HK5:=O (HK4.o.below ab7.o HK4.o.lt);clear hri hb5 c0 c1 kq;have c0:w5.cell? ⟨W.heap.size,0,none⟩=some (.slice A n c):=HK5.o.cell 0;have c1:w5.cell? ⟨W.heap.size,1,none⟩=some (.slice (some ⟨kb,ko,none⟩) m d):=HK5.o.cell 1;have kq:w5.cell? ⟨kb,ko+j,none⟩=some (.int .i64 (i:Nat)):=(b_.o.cell (p:=⟨kb,_,none⟩) aco.o).trans Jd.o)))
   all_goals
    have afx:=uM.o.own;obtain⟨M,hM⟩:∃ M,M=rs.length:=⟨_,rfl⟩;rw [← hM] at uM ⊢
    have HM:=O hM;have hMM:M≤12012:=by rw [hM];exact HRL.o
    have adC:=O (K.o.trans (b_.o.mono K.o.size));have I_:=O (Ew.o.below b_.o);obtain⟨lb,hlb⟩:∃ lb,lb=w4.heap.size:=⟨_,rfl⟩;rw [← hlb] at uM
    clear hM hlb afx HK5 HK4 c0 c1 kq b_ ab7 Vm K Ew ZA Jd aco Mr HRZ HNP HJM Ms Zz HR4 y0 y1 z1;go_wp2_with fail;go_loopw [11,12,13,14,41] (fun v11 _ _ _ v41 wr=>∃ k:Nat,k≤M∧v41=.int .i64 k∧v11=.int .i64 ((gJ a (rs.take k)).2.1:Nat)∧Hid (yN 49 g g [] (gJ a (rs.take k)).2.2 wr)∧Hid (RI wr lb (.slice Av M cv) rs vs)∧Hid (Below W.heap.size W wr)) (fun _ _ _ _ v41 _=>M - (intOf v41).toNat)
    case atStart=>exact⟨0,aix _,rfl,rfl,I_,uM,adC⟩
    case round =>
     obtain⟨k,hkm,rfl,rfl,R,HR,HB⟩:=hrel;clear I_ uM adC;by_cases hlt:k < M
     ·obtain⟨l,hl⟩:∃ l,rs[k]? = some l:=⟨_,aip (by rw [← HM.o];exact hlt)⟩;obtain⟨u,hu,hpr⟩:=HR.o.agO hl;obtain⟨Au,cu,hu2⟩:=dh (show wr.ownsRow 0 92 3 u l.length (fP l) from hpr);obtain⟨q,hq⟩:∃ q,q=l.length:=⟨_,rfl⟩;rw [← hq] at hu2
      subst hu2;have Q9:=O hpr;have hown:wr.ownsRow lb 57 1 (.slice Av M cv) M vs:=by have:=HR.o.own;rw [← HM.o] at this;exact this
      obtain⟨gp,cap,hv,_⟩:=hown.form (by omega);injection hv with hv1 hv2 hv3
      subst hv1;subst hv3;clear hv2;have kq:wr.cell? ⟨gp,k,none⟩=some (.slice Au q cu):=by rw [hown.cellAt k (by omega)];exact hu
      have H:=O (Gu.o l (aiy hl));have jZ:=O (Uc Q9.o H.o.1 (by have:=H.o.2;omega));have vC:=O (show (gU l).length≤260000 from by have h1:=Qz H.o.1;have:=H.o.2;omega);have Z:rs.take (k+1)=rs.take k ++ [l]:=by rw [List.take_succ,hl];rfl
      have V:(gJ a (rs.take k)).1=k:=by rw [RJ,List.length_take];have:=HM.o;omega
      have T:=O (HCP.o k);have y0:(0:Int)≤(k:Int):=by omega
      have y1:(k:Int) < (M:Int):=by omega
      clear hl hu hpr hown hq;by_cases hk0:k=0
      ·obtain rfl:k=0:=hk0;have y:=O (show gJ a (rs.take (0+1))=(1,(gU l).length,(gJ a (rs.take 0)).2.2 ++ gU l) from by rw [Z,oL];unfold oM;rw [V,if_pos rfl]);have F:=HCP.o (0+1);rw [y.o] at F
       have fG:=O F;obtain⟨D,C⟩:∃ t,t=(gJ a (rs.take 0)).2.1:=⟨_,rfl⟩;obtain⟨tx,B⟩:∃ t,t=(gJ a (rs.take 0)).2.2:=⟨_,rfl⟩;rw [← B] at R
       simp only [← C,← B,aiA] at y fG T
       rw [← C];clear Z V F C B;have J:=O (show tx.length+3+(gU l).length≤1000000∧D+3+(gU l).length≤1000000 from by have:=T.o;have:=vC.o;omega);have HL2:=O (show tx.length+(gU l).length≤1000000000 from by have:=J.o;omega);go_wp2_with fail;refine jZ.o.mono ?_;rintro e w6⟨rfl,b⟩;have U:=O (HB.o.trans (b.mono HB.o.size));have Bg:=O (HR.o.below b);have Bf:=O (R.o.below b);have Jg:=O (Q9.o.below b);clear b kq HB HR R Q9 jZ;go_wp2_with fail;refine (uE Jg.o H.o.1 (by have:=H.o.2;omega)).mono ?_;rintro e w8⟨rfl,Q⟩;have BD:=O (U.o.trans (Q.mono U.o.size));have Fb:=O (Bg.o.below Q);have S:=O (Bf.o.below Q);clear Q U Bg Bf Jg;go_wp2_with fail;refine (iy 49 2 g g kU [] tx (gU l) w8 S.o rfl HL2.o (aiw S.o.lt)).mono ?_;rintro e w9⟨rfl,JX,Qd,w⟩;obtain⟨Zg,h⟩:=S.o.blk;have VG:=O (Fb.o.spare w h (by decide) (by decide));have Vu:=O (BD.o.trans (Qd.mono I.o));have Vx:=O (show yN 49 g g [] (gJ a (rs.take (0+1))).2.2 w9 from by rw [y.o];exact JX);clear JX Qd w h BD Fb S Zg;go_wp2_with fail;exact⟨⟨0+1,by omega,by go_num,(by rw [y.o];first | done | rfl),Vx,VG,Vu⟩,by simp [intOf];omega⟩
      ·by_cases hw:a < (((gJ a (rs.take k)).2.1+1+(gU l).length:Nat):Int)
       ·have y:=O (show gJ a (rs.take (k+1))=(k+1,2+(gU l).length,(gJ a (rs.take k)).2.2 ++ [10,32,32] ++ gU l) from by rw [Z,oL];unfold oM;rw [V,if_neg hk0,if_pos hw]);have F:=HCP.o (k+1);rw [y.o] at F
        have fG:=O F;obtain⟨D,C⟩:∃ t,t=(gJ a (rs.take k)).2.1:=⟨_,rfl⟩;obtain⟨tx,B⟩:∃ t,t=(gJ a (rs.take k)).2.2:=⟨_,rfl⟩;rw [← B] at R
        simp only [← C,← B,aiA] at y fG T
        rw [← C] at hw
        rw [← C];clear Z V F C B;have J:=O (show tx.length+3+(gU l).length≤1000000∧D+3+(gU l).length≤1000000 from by have:=T.o;have:=vC.o;omega);have rA:=O (show tx.length+([10,32,32]:Bs).length≤1000000000 from by show tx.length+3≤_;have:=J.o;omega);have HL2:=O (show (tx ++ [10,32,32]).length+(gU l).length≤1000000000 from by rw [aiA];show tx.length+3+_≤_;have:=J.o;omega);have z0:((k:Int) == 0)=false:=by simpa using (by omega:¬ (k:Int)=0)
        have z1:¬ (k:Int)=0:=by omega
        have g1:D+1≤2000000:=by have:=J.o;omega
        have g2:D+1+(gU l).length≤2000000:=by have:=J.o;omega
        have g3:2+(gU l).length≤2000000:=by have:=J.o;omega
        have g5:(gU l).length≤1000000:=by have:=J.o;omega
        have g4:D+(1+(gU l).length)≤2000000:=by have:=J.o;omega
        have ws1:wrap64 ((D:Int)+1)=((D+1:Nat):Int):=wz D 1 g1;have ws2:wrap64 ((D:Int)+1+((gU l).length:Nat))=(D:Int)+1+((gU l).length:Nat):=wz (D+1) _ g2;have hw2:a < (D:Int)+1+((gU l).length:Nat):=by omega
        have ws3:wrap64 (2+((gU l).length:Nat))=2+((gU l).length:Nat):=wz 2 _ g3;clear hk0 g1 g2 g3 g4 g5;go_wp2_with fail;refine jZ.o.mono ?_;rintro e w6⟨rfl,b⟩;have U:=O (HB.o.trans (b.mono HB.o.size));have Bg:=O (HR.o.below b);have Bf:=O (R.o.below b);have Jg:=O (Q9.o.below b);clear b kq HB HR R Q9 jZ;go_wp2_with fail;refine (iy 49 2 g g kU [] tx [10,32,32] w6 Bf.o rfl rA.o (aiw Bf.o.lt)).mono ?_;rintro e w7⟨rfl,W_,om,w⟩;obtain⟨Zg,h⟩:=Bf.o.blk;have UY:=O (Bg.o.spare w h (by decide) (by decide));have VF:=O (DX Jg.o w h (by decide));have mH:=O (U.o.trans (om.mono I.o));have Vw:=O W_;clear W_ om w h U Bg Bf Jg Zg;go_wp2_with fail;refine (uE VF.o H.o.1 (by have:=H.o.2;omega)).mono ?_;rintro e w8⟨rfl,Q⟩;have BD:=O (mH.o.trans (Q.mono mH.o.size));have Fb:=O (UY.o.below Q);have S:=O (Vw.o.below Q);clear Q mH UY Vw VF;go_wp2_with fail;refine (iy 49 2 g g kU [] (tx ++ [10,32,32]) (gU l) w8 S.o rfl HL2.o (aiw S.o.lt)).mono ?_;rintro e w9⟨rfl,JX,Qd,w⟩;obtain⟨Zg,h⟩:=S.o.blk;have VG:=O (Fb.o.spare w h (by decide) (by decide));have Vu:=O (BD.o.trans (Qd.mono I.o));have Vx:=O (show yN 49 g g [] (gJ a (rs.take (k+1))).2.2 w9 from by rw [y.o];exact JX);clear JX Qd w h BD Fb S Zg;go_wp2_with fail;clear ws1 ws2 ws3;exact⟨⟨k+1,by omega,by go_num,(by rw [y.o];first | done | rfl),Vx,VG,Vu⟩,by simp [intOf];omega⟩
       ·have y:=O (show gJ a (rs.take (k+1))=(k+1,(gJ a (rs.take k)).2.1+(1+(gU l).length),(gJ a (rs.take k)).2.2 ++ [32] ++ gU l) from by rw [Z,oL];unfold oM;rw [V,if_neg hk0,if_neg hw]);have F:=HCP.o (k+1);rw [y.o] at F
        have fG:=O F;obtain⟨D,C⟩:∃ t,t=(gJ a (rs.take k)).2.1:=⟨_,rfl⟩;obtain⟨tx,B⟩:∃ t,t=(gJ a (rs.take k)).2.2:=⟨_,rfl⟩;rw [← B] at R
        simp only [← C,← B,aiA] at y fG T
        rw [← C] at hw
        rw [← C];clear Z V F C B;have J:=O (show tx.length+3+(gU l).length≤1000000∧D+3+(gU l).length≤1000000 from by have:=T.o;have:=vC.o;omega);have rA:=O (show tx.length+1≤1000000000 from by have:=J.o;omega);have HL2:=O (show (tx ++ [32]).length+(gU l).length≤1000000000 from by rw [aiA];show tx.length+1+_≤_;have:=J.o;omega);have z0:((k:Int) == 0)=false:=by simpa using (by omega:¬ (k:Int)=0)
        have z1:¬ (k:Int)=0:=by omega
        have g1:D+1≤2000000:=by have:=J.o;omega
        have g2:D+1+(gU l).length≤2000000:=by have:=J.o;omega
        have g3:2+(gU l).length≤2000000:=by have:=J.o;omega
        have g5:(gU l).length≤1000000:=by have:=J.o;omega
        have g4:D+(1+(gU l).length)≤2000000:=by have:=J.o;omega
        have ws1:wrap64 ((D:Int)+1)=((D+1:Nat):Int):=wz D 1 g1;have ws2:wrap64 ((D:Int)+1+((gU l).length:Nat))=(D:Int)+1+((gU l).length:Nat):=wz (D+1) _ g2;have hw2:¬ a < (D:Int)+1+((gU l).length:Nat):=by omega
        have Zq:=O g4;have QX:=O g5;clear hk0 g1 g2 g3 g4 g5;go_wp2_with fail;refine jZ.o.mono ?_;rintro e w6⟨rfl,b⟩;have U:=O (HB.o.trans (b.mono HB.o.size));have Bg:=O (HR.o.below b);have Bf:=O (R.o.below b);have Jg:=O (Q9.o.below b);clear b kq HB HR R Q9 jZ;go_wp2_with fail;refine (vv 49 2 g g kU [] tx 32 w6 Bf.o rfl rA.o (aiw Bf.o.lt)).mono ?_;rintro e w7⟨rfl,W_,om,w⟩;obtain⟨Zg,h⟩:=Bf.o.blk;have UY:=O (Bg.o.spare w h (by decide) (by decide));have VF:=O (DX Jg.o w h (by decide));have mH:=O (U.o.trans (om.mono I.o));have Vw:=O W_;clear W_ om w h U Bg Bf Jg Zg;clear ws1 ws2 hw2;have ws3:wrap64 (1+((gU l).length:Nat))=1+((gU l).length:Nat):=wz3 _ QX.o;have ws4:wrap64 ((D:Int)+(1+((gU l).length:Nat)))=(D:Int)+(1+((gU l).length:Nat)):=wz2 _ _ Zq.o;go_wp2_with fail;refine (uE VF.o H.o.1 (by have:=H.o.2;omega)).mono ?_;rintro e w8⟨rfl,Q⟩;have BD:=O (mH.o.trans (Q.mono mH.o.size));have Fb:=O (UY.o.below Q);have S:=O (Vw.o.below Q);clear Q mH UY Vw VF;go_wp2_with fail;refine (iy 49 2 g g kU [] (tx ++ [32]) (gU l) w8 S.o rfl HL2.o (aiw S.o.lt)).mono ?_;rintro e w9⟨rfl,JX,Qd,w⟩;obtain⟨Zg,h⟩:=S.o.blk;have VG:=O (Fb.o.spare w h (by decide) (by decide));have Vu:=O (BD.o.trans (Qd.mono I.o));have Vx:=O (show yN 49 g g [] (gJ a (rs.take (k+1))).2.2 w9 from by rw [y.o];exact JX);clear JX Qd w h BD Fb S Zg;go_wp2_with fail;clear ws3 ws4;exact⟨⟨k+1,by omega,by go_num,(by rw [y.o];first | done | rfl),Vx,VG,Vu⟩,by simp [intOf];omega⟩
     ·obtain rfl:k=M:=by omega
      have y1:¬ (k:Int) < (k:Int):=by omega
      have htl:rs.take k=rs:=aiz (by rw [← HM.o];omega);have aaD:=HCP.o k;rw [htl] at R aaD ⊢
      have afA:=R.o.lt;obtain⟨tx,B⟩:∃ t,t=(gJ a rs).2.2:=⟨_,rfl⟩;rw [← B] at R HT aaD
      clear hlt htl B;by_cases P:2000 < tx.length
      ·have L:=HT.o;rw [if_pos P] at L
       have y2:(2000:Int) < ((tx.length:Nat):Int):=by omega
       have HT3:=O L;clear L HT aaD P;go_wp2_with fail;refine (rR 49 g g [] tx wr R.o (by omega)).mono ?_;rintro e w6⟨rfl,b⟩;have U:=O (HB.o.trans (b.mono I.o));clear b;go_wp2_with fail;go_ret2
       exact⟨by rw [HT3.o];rfl,U.o⟩
      ·have L:=HT.o;rw [if_neg P] at L
       have y2:¬ (2000:Int) < ((tx.length:Nat):Int):=by omega
       have HT3:=O L;clear L HT aaD P;go_wp2_with fail;refine (rR 49 g g [] tx wr R.o (by omega)).mono ?_;rintro e w6⟨rfl,b⟩;have U:=O (HB.o.trans (b.mono I.o));clear b;go_wp2_with fail;go_ret2
       exact⟨by rw [HT3.o];rfl,U.o⟩
 ·have HT:=O (show wY ⟨aj xs,its⟩ k0 a=([],N2) from by unfold wY;rw [← hN,if_pos h0]);have z:(N2 != 0)=true:=by simpa using h0
  clear hn hm hN X h0;go_in
  go_wp2_with fail;refine HC.o.mono ?_;rintro e w2⟨rfl,x⟩;have G:=O (E.o.trans (x.mono E.o.size));have yT:=O (HK.o.below x HK.o.lt);clear x;go_wp2_with fail;go_ret2
  exact⟨by rw [HT.o];rfl,G.o⟩
end
end
