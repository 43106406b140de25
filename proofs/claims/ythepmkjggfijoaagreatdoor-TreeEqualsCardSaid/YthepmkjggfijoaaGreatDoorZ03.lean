/-
  A part of the proof.
-/
import Derived.Test.YthepmkjggfijoaaGreatDoorSA
import Derived.Deep.QuietTactic
import Derived.BigRegion
import Derived.Test.YthepmkjggfijoaaGreatDoorS29
import Derived.Test.YthepmkjggfijoaaGreatDoorS07
import Derived.Test.YthepmkjggfijoaaGreatDoorS21
import Derived.Test.YthepmkjggfijoaaGreatDoorS28
import Derived.Test.YthepmkjggfijoaaGreatDoorZ01
import Derived.Test.YthepmkjggfijoaaGreatDoorZ02
set_option linter.all false
set_option maxRecDepth 100000
set_option maxHeartbeats 4000000
namespace Go.Proofs.YthepmkjggfijoaaGreatDoor
open Go.RowKit Mist
attribute [local go_sem] aj aH aS aB ak
theorem Sm {q:Nat→Bool}{out l:List Int}{b:Int}{j:Nat}{c:Int}(e:l[j]? = some c):o7 q out (l.drop j) b=(o7 q out (l.drop (j+1)) b).bind fun a=>if a < 0∨c ≠ a∨(!q a.toNat)=true then none else some (a - out.getD a.toNat 0):=by
 obtain⟨f,d⟩:=aaE.1 e;rw [aaX f,d];rfl
theorem Iq {q:Nat→Bool}{out:List Int}{b:Int}:∀ {l:List Int} {j:Nat},o7 q out (l.drop j) b=none→o7 q out l b=none
 | l,0,h=>h
 | [],j+1,h=>by simpa using h
 | c :: r,j+1,h=>by
  have h1:o7 q out r b=none:=Iq (by simpa using h)
  show (o7 q out r b).bind _=none
  rw [h1];rfl
theorem Zt {T:Tr}(h:oN T=none)(h0:T.nodes.length ≠ 0):kE T=false:=by
 unfold kE;rw [h];simpa using h0
theorem Kn {T:Tr}{sz:List Int}(h:oN T=some sz):kE T=((List.range T.nodes.length).all (je T) && (vH T sz == some (-1))):=by
 unfold kE;rw [h]
theorem Vq {T:Tr}{sz:List Int}(h:oN T=some sz){i:Nat}(hi:i < T.nodes.length)(a:je T i=false):kE T=false:=by
 rw [Kn h];rw [show (List.range T.nodes.length).all (je T)=false by rw [List.all_eq_false];exact⟨i,List.mem_range.2 hi,by simp [a]⟩];rfl
theorem Oc {T:Tr}{sz:List Int}(h:oN T=some sz)(b:∀ i,i < T.nodes.length→je T i=true):kE T=(vH T sz == some (-1)):=by
 rw [Kn h,show (List.range T.nodes.length).all (je T)=true by rw [aaR];exact fun i a=>b i (List.mem_range.1 a)];rfl
theorem Ww (A B:Option Addr)(c d:Nat)(xs:List NV)(its:List Int)(w:World)(hT:mq w A B xs its)(hn:xs.length≤10000)(hm:its.length≤10000)(hl:∀ x ∈ xs,x.1.text.length≤100000000) :
  Calls Tryz.prog 64 #[.agg #[.slice A xs.length c,.slice B its.length d]] w fun e w'=>e=.returned (.bool (kE ⟨aA xs,its⟩))∧Below w.heap.size w w':=by
 have Jh:=O fun W (hb:Below w.heap.size w W)=>KR A B c its.length d xs its W (hT.below hb) hn
 have nH:=O fun W (hb:Below w.heap.size w W) i x E hk=>Wx A B c its.length d i xs its x W (hT.below hb) E hn hk (hl x (aaM E))
 obtain⟨T,ni⟩:∃ T:Tr,T=⟨aA xs,its⟩:=⟨_,rfl⟩;rw [← ni] at nH ⊢
 have rC:=O (show T.nodes=aA xs by rw [ni]);have a3:=O (show T.items=its by rw [ni]);have U_:=O (show T.nodes.length=xs.length by rw [ni];exact aD xs);clear ni hl;obtain⟨n,M⟩:∃ n,n=xs.length:=⟨_,rfl⟩;obtain⟨m,L⟩:∃ m,m=its.length:=⟨_,rfl⟩;rw [← M,← L] at Jh
 rw [← M] at nH U_ hn ⊢
 rw [← L] at nH hm ⊢
 have I:=O M;clear M;have HM:=O L;clear L;have HT:=O hT;clear hT;have F:=O (aC.new w 26 #[.slice A n c,.slice B m d]);have U:=O (ah (Below.refl w.heap.size w) (aaJ _) (o:=.cells #[.slice A n c,.slice B m d] 26));go_in
 go_wp2_with fail;refine (Jh.o _ U.o).mono ?_;rintro e w1⟨J,h1⟩;have r:=O (F.o.below J F.o.lt);have f:=O (U.o.trans (J.mono U.o.size));have b0:=U.o.size;have t0:=r.o.cell 0;have t1:=r.o.cell 1;rcases h1 with ⟨X,rfl⟩ | ⟨C,v,P,rfl,Q⟩
 ·have a7:¬ n=0:=fun h0=>by subst h0;exact absurd X (by simp [jM])
  have G:=O (show kE T=false from Zt (by rw [← qN,rC.o,aD,← I.o];exact X) (by rw [U_.o];exact a7));have q0:((0:Int) != (n:Int))=true:=by simp;omega
  clear X F U J;go_wp2_with fail;go_ret;exact⟨by rw [G.o];rfl,f.o⟩
 have uU:=O (show oN T=some C by rw [← qN,rC.o,aD,← I.o];exact P);have uT:=O (zH (by rw [aD,← I.o];exact aaJ _) P)
 have nA:=O (show Wf (aA xs) by
  have h9:=I6 (by rw [aD,← I.o];exact aaJ _) P;rw [aaN (by rw [aD,← I.o];exact aaJ _)] at h9
  exact kX (by rw [aD,← I.o];exact h9))
 have D:=O (sS Q (aaJ _));have Xz:=U.o.size;clear Q P J F U;obtain⟨Av,cv,rfl⟩:=dh D.o;have q0:((n:Int) != (n:Int))=false:=by simp
 go_wp2_with fail;go_loopw [4] (fun i wr=>∃ k:Nat,k≤n∧i=.int .i64 k∧Hid (∀ j,j < k→je T j=true)∧Hid (wr.ownsRow w.heap.size 3 1 (.slice Av n cv) n (intCells C))∧Hid (aC wr w.heap.size 26 #[.slice A n c,.slice B m d])∧Hid (Below w.heap.size w wr)) (fun i _=>n - (intOf i).toNat)
 case atStart=>exact⟨0,aaL _,rfl,O (fun j hj=>by omega),O (sS D.o Xz),r,f⟩
 case round =>
  clear D r f t0 t1 Xz;obtain⟨k,hk,rfl,HK,D,r,f⟩:=hrel;have t0:=r.o.cell 0;have t1:=r.o.cell 1;by_cases K:k < n
  ·have i3:decide (k < n)=true:=aaU K;obtain⟨x,E⟩:∃ x,xs[k]? = some x:=jD (by rw [← I.o];exact K)
   have Z:=O (show ∀ q ∈ x.1.kids,0≤q∧q < (n:Int) from fun q N=>by
    have h9:=nA.o k x.1 (gP E) q N;omega)
   have HX:=O E;clear E
   cases lV:je T k
   ·have G:=O (show kE T=false from Vq uU.o (by rw [U_.o];exact K) lV);have dF:=O lV;clear lV;go_wp2_with fail;refine (nH.o _ f.o k x HX.o Z.o).mono ?_;rintro e w2⟨rfl,u⟩;rw [dF.o];go_wp2_with fail;go_ret;exact⟨by rw [G.o];rfl,f.o.trans (u.mono f.o.size)⟩
   ·have dF:=O lV;clear lV;go_wp2_with fail;refine (nH.o _ f.o k x HX.o Z.o).mono ?_;rintro e w2⟨rfl,u⟩;rw [dF.o];go_wp2_with fail
    exact⟨⟨k+1,by omega,by go_num,O (fun j hj=>by
     by_cases a6:j=k
     ·rw [a6];exact dF.o
     ·exact HK.o j (by omega)),O (own_below D.o u),O (r.o.below u r.o.lt),O (f.o.trans (u.mono f.o.size))⟩,by simp [intOf];omega⟩
  ·have i3:decide (k < n)=false:=aaV K;have Y:=O (Oc uU.o (fun i hi=>HK.o i (by rw [U_.o] at hi;omega)));have uh:=O (show vH T C=o7 (fun i=>eP (nd T i).kind) C its ((n:Int) - 1) by rw [wM,a3.o,U_.o]);clear HK;go_wp2_with fail;go_loopw [5,6] (fun a i wr=>∃ (j:Nat) (at_:Int),j≤m∧i=.int .i64 ((j:Int) - 1)∧a=.int .i64 at_∧-1≤at_∧at_≤(n:Int) - 1∧Hid (o7 (fun i=>eP (nd T i).kind) C (its.drop j) ((n:Int) - 1)=some at_)∧Hid (wr.ownsRow w.heap.size 3 1 (.slice Av n cv) n (intCells C))∧Hid (aC wr w.heap.size 26 #[.slice A n c,.slice B m d])∧Hid (Below w.heap.size w wr)) (fun _ i _=>(intOf i+1).toNat)
   case atStart=>exact⟨m,(n:Int) - 1,aaJ _,rfl,rfl,by omega,by omega,O (by rw [List.drop_of_length_le (by rw [← HM.o];exact aaJ _)];rfl),D,r,f⟩
   case round =>
    clear D r f t0 t1;obtain⟨j,at_,hj,rfl,rfl,ha,b3,tu,D,r,f⟩:=hrel;have t0:=r.o.cell 0;have t1:=r.o.cell 1;by_cases b5:0 < j
    ·obtain⟨j,rfl⟩:∃ q,j=q+1:=⟨j - 1,by omega⟩;obtain⟨S,V⟩:∃ S,its[j]? = some S:=⟨_,aaD (by rw [← HM.o];omega)⟩;obtain⟨b2,o2,rfl,a5,hc⟩:=HT.o.items.ex (by rw [← HM.o];omega);have cc:=(f.o.cell (p:=⟨b2,o2+j,none⟩) (by exact a5)).trans (hc j S V);have R:=O (Sm (q:=fun i=>eP (nd T i).kind) (out:=C) (b:=(n:Int) - 1) V);rw [tu.o] at R
     have t:=O (show (at_ < 0∨S ≠ at_∨(!eP (nd T at_.toNat).kind)=true)→kE T=false from fun h=>by
      rw [Y.o,uh.o,Iq (j:=j) (by rw [R.o];show (if _ then none else _)=none;rw [if_pos h])];rfl)
     clear hc V;have e1:((j+1:Nat):Int) - 1=(j:Int):=by omega
     rw [e1];have y0:(0:Int)≤(j:Int):=by omega
     have y1:(j:Int) < (m:Int):=by omega
     by_cases h0:at_ < 0
     ·have d1:decide (at_ < 0)=true:=aaU h0;have G:=O (t.o (Or.inl h0));go_wp2_with fail;go_ret;exact⟨by rw [G.o];rfl,f.o⟩
     have d1:decide (at_ < 0)=false:=aaV h0;obtain⟨l,rfl⟩:∃ q:Nat,at_=(q:Int):=⟨at_.toNat,by omega⟩;by_cases N:S=(l:Int)
     case neg =>
      have d2:(S != (l:Int))=true:=by simp [N]
      have G:=O (t.o (Or.inr (Or.inl N)));clear N;go_wp2_with fail;go_ret;exact⟨by rw [G.o];rfl,f.o⟩
     have d2:(S != (l:Int))=false:=by simp [N]
     have fU:l < n:=by omega
     obtain⟨x,E⟩:∃ x,xs[l]? = some x:=jD (by rw [← I.o];exact fU);obtain⟨b,o,rfl,yc⟩:=HT.o.nodes (by rw [← I.o];omega);have c0:=(f.o.cell (p:=⟨b,o+l * 5,none⟩) yc.lt).trans (yc.c0 l x E);have oV:=O (show nd T ((l:Int)).toNat=x.1 by rw [aaQ];exact kH (by rw [rC.o];exact gP E));have x0:(0:Int)≤(l:Int):=by omega
     have x1:(l:Int) < (n:Int):=by omega
     clear yc E
     cases y:eP x.1.kind
     ·have G:=O (t.o (Or.inr (Or.inr (by rw [oV.o,y];rfl))));have H:=O y;clear y;clear N;go_wp2_with fail;refine (KO x.1.kind _).mono ?_;rintro e w2⟨rfl,rfl⟩;rw [H.o];go_wp2_with fail;go_ret;exact⟨by rw [G.o];rfl,f.o⟩
     ·have H:=O y;clear y
      have YG:=O (show o7 (fun i=>eP (nd T i).kind) C (its.drop j) ((n:Int) - 1)=some ((l:Int) - C.getD l 0) by
       rw [R.o]
       show (if _ then none else some ((l:Int) - C.getD ((l:Int)).toNat 0))=_
       rw [if_neg (by
        rintro (h | h | h)
        ·omega
        ·exact h N
        ·rw [oV.o,H.o] at h;cases h),aaQ])
      obtain⟨g,b1,hv,_,b4,a0⟩:=Iu D.o uT.o.1 (by omega);injection hv with a8 _ a9
      subst a8;subst a9;have cg:=a0 l fU;have a4:=uT.o.2 l fU;obtain⟨sa,a1⟩:∃ q,q=C.getD l 0:=⟨_,rfl⟩;rw [← a1] at cg a4 YG
      clear N a1 h0 a0;go_wp2_with fail;refine (KO x.1.kind _).mono ?_;rintro e w2⟨rfl,rfl⟩;rw [H.o];go_wp2_with fail;exact⟨⟨j,(l:Int) - sa,by omega,by go_num,by go_num,by omega,by omega,YG,D,r,f⟩,by simp [intOf]⟩
    ·obtain rfl:j=0:=by omega
     have a2:=O (show kE T=(at_ == -1) by
      have h9:=tu.o;rw [List.drop_zero] at h9
      rw [Y.o,uh.o,h9];rfl)
     go_wp2_with fail;go_ret;exact⟨by rw [a2.o];rfl,f.o⟩
end Go.Proofs.YthepmkjggfijoaaGreatDoor
namespace Go.Proofs.YthepmkjggfijoaaGreatDoor
open Go.RowKit Mist
theorem OP (i:Nat)(D:List Nat)(h:i < D.length):D.set i (max (D.getD i 0) 1)=nD i D:=by
 unfold nD;split
 ·rename_i h0;rw [h0];rfl
 ·rename_i h0
  rw [show max (D.getD i 0) 1=D.getD i 0 by omega];rw [aaH,aaD h];simp
theorem Zk (i:Nat)(D:List Nat)(h:i < D.length):(nD i D).getD i 0=max (D.getD i 0) 1:=by
 rw [← OP i D h,qD,if_pos ⟨rfl,h⟩]
theorem foldl_max (D:List Nat):∀ (m:Nat),(D.map fun (d:Nat)=>(d:Int)).foldl max (m:Int)=((D.foldl max m:Nat):Int):=by
 induction D with
 | nil=>intro m;rfl
 | cons a r b =>
  intro m;simp only [List.map_cons,List.foldl_cons];rw [show max (m:Int) (a:Int)=((max m a:Nat):Int) by omega];exact b _
theorem EM (A B:Option Addr)(c m d:Nat)(xs:List NV)(its:List Int)(w:World)(hT:mq w A B xs its)(hW:Wf (aA xs))(hn:xs.length≤100000) :
  Calls Tryz.prog 83 #[.agg #[.slice A xs.length c,.slice B m d]] w fun e w'=>∃ g,e=.returned (.slice (some ⟨g,0,none⟩) xs.length xs.length)∧w.heap.size≤g∧aC w' g 3 (iA (f_ (aA xs)))∧Below w.heap.size w w':=by
 obtain⟨n,t⟩:∃ n,n=xs.length:=⟨_,rfl⟩;rw [← t] at hn ⊢
 have pF:=O t;clear t;have Lx:=O hT;clear hT;have HW:=O hW;clear hW;have J:=run_make_row' (P:=Tryz.prog) 24 3 (.int .i64 0) 8 Tryz.underlying24 gN rfl .i64 .i64 n (by omega) (by omega) (w.alloc (.cells #[.slice A n c,.slice B m d] 26));rw [Kv] at J
 go_in
 go_wp2_with fail;have r:=aC.new (w.alloc (.cells #[.slice A n c,.slice B m d] 26)) 3 (iA (List.replicate n 0));rw [show (w.alloc (.cells #[.slice A n c,.slice B m d] 26)).heap.size=w.heap.size+1 by simp] at r
 have E:=O r;clear r;have G:=O ((aC.new w 26 #[.slice A n c,.slice B m d]).alloc (.cells (iA (List.replicate n 0)) 3));have eH:=O (ah (ah (Below.refl w.heap.size w) (aaJ _) (o:=.cells #[.slice A n c,.slice B m d] 26)) (by simp) (o:=.cells (iA (List.replicate n 0)) 3));clear J;go_loopw [4] (fun i wr=>∃ (k:Nat) (D:List Nat),k≤n∧i=.int .i64 ((k:Int) - 1)∧Hid (D.length=n)∧Hid (aC wr (w.heap.size+1) 3 (iA D))∧Hid (aC wr w.heap.size 26 #[.slice A n c,.slice B m d])∧Hid (Rq (aA xs) k D=f_ (aA xs))∧Hid (mE (n - k+1) D)∧Hid (Below w.heap.size w wr)) (fun i _=>(intOf i+1).toNat)
 case atStart=>exact⟨n,List.replicate n 0,aaJ _,rfl,O (by simp),E,G,O (by unfold f_;rw [aD,← pF.o]),O (Gl _ _),eH⟩
 case round =>
  clear E G eH;obtain⟨k,D,hk,rfl,T,R,HT,HD,HA,HL⟩:=hrel;rcases Nat.eq_zero_or_pos k with h0 | h0
  ·subst h0;have a1:=O (show D=f_ (aA xs) from HD.o);go_wp2_with fail;go_ret;exact⟨_,rfl,by omega,by rw [← a1.o];exact R.o,HL.o⟩
  ·obtain⟨k,rfl⟩:∃ k0,k=k0+1:=⟨k - 1,by omega⟩;rw [show (((k+1:Nat):Int) - 1)=(k:Int) by omega];obtain⟨b,o,rfl,yc⟩:=Lx.o.nodes (by rw [← pF.o];omega);have S:=O yc.kids;clear yc;have a6:=HT.o.cell 0;have a7:=HT.o.cell 1
   have dk:wr.cell? ⟨w.heap.size+1,k,none⟩=some (.int .i64 ((D.getD k 0:Nat):Int)):=by
    rw [R.o.cell k];exact sM D k (by rw [T.o];omega)
   have fk:=R.o.frozen k;have i1:(0:Int)≤(k:Int):=by omega
   have i2:(k:Int) < (n:Int):=by omega
   obtain⟨v,hv⟩:∃ v,v=D.getD k 0:=⟨_,rfl⟩;rw [← hv] at dk
   have HV:=O hv;clear hv;obtain⟨x,L⟩:∃ x,xs[k]? = some x:=⟨_,aaD (by rw [← pF.o];omega)⟩;have HX:=O L;have kc:=(S.o.below HL.o).kv k x L;obtain⟨Ak,ca,y,b1,M⟩:=S.o.kids x (aaM L);rw [y] at kc
   have tK:=O M;have jy:=O (show ∀ W,Below w.heap.size w W→W.cell? ⟨b,o+k * 5+3,none⟩=some (.slice Ak x.1.kids.length ca) from fun W hb=>by rw [← y];exact (S.o.below hb).kv k x L);clear L y M;have a8:=S.o.lt;have K:max ((v:Nat):Int) 1=((max v 1:Nat):Int):=by omega
   obtain⟨u,V⟩:∃ u,u=max v 1:=⟨_,rfl⟩;rw [← V] at K
   have Y:=O (show (nD k D).getD k 0=u by rw [Zk k D (by rw [T.o];omega),← HV.o,V]);have HO:=O (show D.set k u=nD k D by rw [← OP k D (by rw [T.o];omega),← HV.o,V]);have C:=O (HA.o.nD (i:=k) (by omega));have b0:u≤n - (k+1)+1:=by have:=C.o k;rw [Y.o] at this;exact this
   have a0:=O (xV k D);clear V;go_wp2_with fail;have Z:=O (show aC (wr.setCell ⟨w.heap.size+1,k,none⟩ (.int .i64 u)) (w.heap.size+1) 3 (iA (nD k D)) from (by rw [← HO.o,← Hf];exact R.o.d_ k _));have a3:=O (show aC (wr.setCell ⟨w.heap.size+1,k,none⟩ (.int .i64 u)) w.heap.size 26 #[.slice (some ⟨b,o,none⟩) n c,.slice B m d] from HT.o.far (by simp) _);have uE:=O (show Below w.heap.size w (wr.setCell ⟨w.heap.size+1,k,none⟩ (.int .i64 u)) from dx HL.o (by simp));clear K dk fk;go_loopw [5] (fun j xD=>∃ (a:Nat) (h:List Nat),a≤x.1.kids.length∧j=.int .i64 a∧Hid (h.length=n)∧Hid (aC xD (w.heap.size+1) 3 (iA h))∧Hid (aC xD w.heap.size 26 #[.slice (some ⟨b,o,none⟩) n c,.slice B m d])∧Hid (tV u (x.1.kids.drop a) h=qy (aA xs) k D)∧Hid (h.getD k 0=u)∧Hid (mE (n - k+1) h)∧Hid (Below w.heap.size w xD)) (fun j _=>x.1.kids.length - (intOf j).toNat)
   case atStart=>exact⟨0,nD k D,aaL _,rfl,O (a0.o.trans T.o),Z,a3,O (by rw [List.drop_zero,qy,Y.o,yE HX.o]),Y,O (C.o.mono (by omega)),uE⟩
   case round =>
    obtain⟨a,h,hj,rfl,Q,H,X,F,xB,sG,U⟩:=hrel;have a6:=X.o.cell 0;have a7:=X.o.cell 1;have kc:=jy.o wr U.o;by_cases l:a < x.1.kids.length
    case pos =>
     obtain⟨bk,ok,rfl,a4,I⟩:=tK.o (by omega);obtain⟨N,q⟩:∃ N,x.1.kids[a]? = some N:=⟨_,aaD l⟩;have a5:=HW.o k x.1 (by unfold aA;rw [List.getElem?_map,HX.o];rfl) N (aaM q);obtain⟨f,rfl⟩:∃ f:Nat,N=(f:Int):=⟨N.toNat,by omega⟩;have cj:=(U.o.cell (p:=⟨bk,ok+a,none⟩) a4).trans (I a f q)
     have a2:=O (show x.1.kids.drop a=(f:Int) :: x.1.kids.drop (a+1) by
      rw [aaX l,(aaE.1 q).2])
     have ck:wr.cell? ⟨w.heap.size+1,k,none⟩=some (.int .i64 ((u:Nat):Int)):=by
      rw [H.o.cell k,sM h k (by rw [Q.o];omega),xB.o]
     have fn:=H.o.frozen f
     have cn:wr.cell? ⟨w.heap.size+1,f,none⟩=some (.int .i64 ((h.getD f 0:Nat):Int)):=by
      rw [H.o.cell f,sM h f (by rw [Q.o];omega)]
     have k1:(0:Int)≤(f:Int):=by omega
     have k2:(f:Int) < (n:Int):=by omega
     have a9:f < k:=by omega
     clear I q a5;have j1:decide ((a:Int) < (x.1.kids.length:Int))=true:=aaU (by omega);have j2:decide (a < x.1.kids.length)=true:=aaU l;have w1:IntKind.i64.wrap ((u:Int)+1)=(u:Int)+1:=IntWalk.i64_in _ (by omega);have j3:(0:Int)≤(a:Int):=by omega
     have j4:(a:Int) < (x.1.kids.length:Int):=by omega
     go_wp2_with fail;go_region
     go_wp2_with fail
     refine⟨⟨a+1,h.set f (u+1),by omega,by go_num,O (by rw [List.length_set];exact Q.o),O (aC.drew (by rw [← Hf];exact H.o.d_ f _)),O (aC.drew (X.o.far (by simp) _)),O (by have h9:=F.o;rw [a2.o] at h9;exact h9),O (by rw [qD,if_neg (by omega)];exact xB.o),O (sG.o.set (by omega)),O (Below.drew (dx U.o (by simp)))⟩,by simp [intOf];omega⟩
    case neg =>
     have JU:=O (show h=qy (aA xs) k D by have h9:=F.o;rw [List.drop_of_length_le (by omega)] at h9;exact h9);have j1:decide ((a:Int) < (x.1.kids.length:Int))=false:=aaV (by omega);have j2:decide (a < x.1.kids.length)=false:=aaV l;go_wp2_with fail
     refine⟨⟨k,h,by omega,by go_num,Q,H,X,O (by rw [JU.o];exact HD.o),sG,U⟩,by (first|(simp [intOf];done)|(simp [intOf];omega))⟩
theorem Sd:∀ (l:List Nat),l ≠ []→Lib.maxOf (l.map fun (d:Nat)=>(d:Int))=((l.foldl max 0:Nat):Int):=by
 intro l h;obtain⟨a,r,rfl⟩:=List.exists_cons_of_ne_nil h
 show (((a :: r).map fun (d:Nat)=>(d:Int)).foldl max (a:Int))=_
 rw [foldl_max];simp
theorem RI (l:List Nat)(k:Nat)(h:k < l.length):(l.take (k+1)).foldl max 0=max ((l.take k).foldl max 0) (l.getD k 0):=by
 rw [List.take_add_one,aaD h,List.foldl_append];simp [aaH,aaD h]
theorem L_ (ns:List Nd):jB ns=(((f_ ns).foldl max 0:Nat):Int):=by
 unfold jB;split
 ·rename_i h
  rw [List.length_eq_zero_iff.1 h];rfl
 ·rename_i h
  exact Sd _ (fun e=>h (by have:=congrArg List.length e;unfold f_ at this;rw [uV,List.length_replicate] at this;exact this))
theorem C8 (A B:Option Addr)(c m d:Nat)(xs:List NV)(its:List Int)(w:World)(G:mq w A B xs its)(H:Wf (aA xs))(J:xs.length≤100000) :
  Calls Tryz.prog 57 #[.agg #[.slice A xs.length c,.slice B m d]] w fun e P=>e=.returned (.int .i64 (jB (aA xs)))∧Below w.heap.size w P:=by
 have r:=O fun W (l:Below w.heap.size w W)=>EM A B c m d xs its W (G.below l) H J
 have C:=O (L_ (aA xs));have b:=O (show (f_ (aA xs)).length=xs.length by unfold f_;rw [uV,List.length_replicate,aD]);clear G H;obtain⟨n,f⟩:∃ n,n=xs.length:=⟨_,rfl⟩;rw [← f] at r b J ⊢
 clear f;have j:=O (ah (Below.refl w.heap.size w) (aaJ _) (o:=.cells #[.slice A n c,.slice B m d] 26));go_in
 go_wp2_with fail;refine (r.o _ j.o).mono ?_;rintro e Q⟨g,rfl,R,l,I⟩;have x:=O l;clear l;have M:=O (j.o.trans (I.mono j.o.size));clear I j;obtain⟨D,F⟩:∃ D,D=f_ (aA xs):=⟨_,rfl⟩;rw [← F] at C b x
 clear F r;go_wp2_with fail;go_loopw [3,5] (fun v i wr=>∃ (k u:Nat),wr=Q∧k≤n∧i=.int .i64 k∧v=.int .i64 u∧Hid (u=(D.take k).foldl max 0)) (fun _ i _=>n - (intOf i).toNat)
 case atStart=>exact⟨0,0,rfl,aaL _,rfl,rfl,O rfl⟩
 case round =>
  obtain⟨k,u,rfl,S,rfl,rfl,y⟩:=hrel;by_cases a:k < n
  ·have N:decide (k < n)=true:=aaU a;have E:=x.o.cell k;rw [sM D k (by rw [b.o];exact a)] at E
   have h:=O (RI D k (by rw [b.o];exact a));rw [← y.o] at h
   obtain⟨q,K⟩:∃ q,q=D.getD k 0:=⟨_,rfl⟩;rw [← K] at E h
   clear K;have T:(0:Int)≤(k:Int):=by omega
   have U:(k:Int) < (n:Int):=by omega
   have t:max (u:Int) (q:Int)=((max u q:Nat):Int):=by omega
   obtain⟨v,hv⟩:∃ v,v=max u q:=⟨_,rfl⟩;rw [← hv] at t h
   clear hv;go_wp2_with fail;exact⟨⟨k+1,v,by first | rfl | trivial,by omega,by go_num,rfl,O h.o.symm⟩,by simp [intOf];omega⟩
  ·have N:decide (k < n)=false:=aaV a;have L:=O (show ((u:Nat):Int)=jB (aA xs) by rw [C.o,y.o,aaN (by rw [b.o];omega)]);go_wp2_with fail;go_ret;exact⟨by rw [← L.o];rfl,M.o⟩
end Go.Proofs.YthepmkjggfijoaaGreatDoor
namespace Go.Proofs.YthepmkjggfijoaaGreatDoor
open Go.RowKit Mist
attribute [local go_sem] aj aH aS aB ak
def A8 (xs:List NV)(x:Nd):Prop:=x.kind=40→∃ (p q:Nat) (y z:NV),x.kids[0]? = some (p:Int)∧x.kids[1]? = some (q:Int)∧xs[p]? = some y∧xs[q]? = some z∧(-100000≤y.1.n∧y.1.n≤100000)∧(-100000≤z.1.n∧z.1.n≤100000)
theorem IQ (A B:Option Addr)(c m d i:Nat)(xs:List NV)(its:List Int)(x:NV)(w:World)(W:mq w A B xs its)(D:xs[i]? = some x)(hn:xs.length≤10000)(V:A8 xs x.1) :
  Calls Tryz.prog 58 #[.agg #[.slice A xs.length c,.slice B m d],.int .i64 i] w fun e w'=>e=.returned (.bool (gD ⟨aA xs,its⟩ x.1))∧Below w.heap.size w w':=by
 have P:i < xs.length:=(aaE.1 D).1;obtain⟨b,o,rfl,C⟩:=W.nodes (by omega);have S:=O C;have c0:=C.c0 i x D;have c1:=C.c1 i x D;have c2:=C.c2 i x D;have c3:=C.c3 i x D;have c4:=C.c4 i x D;have a7:=C.lt;obtain⟨Ka,ca,I,K,J⟩:=C.kid D;rw [I] at c3
 have Z:=O J;clear C I J W;obtain⟨n,H⟩:∃ n,n=xs.length:=⟨_,rfl⟩;rw [← H] at hn P ⊢
 have U:=O H;clear H;have T:=O V;clear V;clear D;obtain⟨⟨k,tx,h,l,at_⟩,xv⟩:=x;obtain⟨a,G⟩:∃ a,a=l.length:=⟨_,rfl⟩;simp only at c0 c1 c2 c3 c4 K T Z ⊢
 rw [← G] at c3 K
 have Y:=O G;clear G;have z0:(0:Int)≤(i:Int):=by omega
 have z1:(i:Int) < (n:Int):=by omega
 have j:=O (ah (ah (Below.refl w.heap.size w) (aaJ _) (o:=.cells #[.slice (some ⟨b,o,none⟩) n c,.slice B m d] 26)) (by simp) (o:=.cells #[.int .u8 k,.string (aM tx),.int .i64 h,.slice Ka a ca,.int .i64 at_] 50))
 have r:=O (show gD ⟨aA xs,its⟩ ⟨k,tx,h,l,at_⟩=(if k=40 then decide ((nd ⟨aA xs,its⟩ (l.getD 0 0).toNat).n≤(nd ⟨aA xs,its⟩ (l.getD 1 0).toNat).n) && decide ((nd ⟨aA xs,its⟩ (l.getD 1 0).toNat).n - (nd ⟨aA xs,its⟩ (l.getD 0 0).toNat).n+1≤12)
   else if k=41 then decide (a≤6) else if k=42 then decide ((a:Int) - 2≤4) && decide (h≤8) else if k=33 then within h 1 6 else if k=26 then decide (a≤6) else if k=46 then decide (a≤4) else true) by rw [Y.o];rfl)
 go_in
 by_cases rT:k=40
 ·subst rT;obtain⟨p,q,y,z,L,M,hy,N,Q,R⟩:=T.o rfl;obtain⟨bk,ok,rfl,a6,F⟩:=Z.o.ex (by show 0 < l.length;have:=(aaE.1 L).1;omega);have k0:=F 0 p L;rw [Nat.add_zero] at k0
  have k1:=F 1 q M;have n2:1 < a:=by rw [Y.o];exact (aaE.1 M).1
  have py:=S.o.c2 p y hy;have pz:=S.o.c2 q z N;have a8:p < n:=by rw [U.o];exact (aaE.1 hy).1
  have VP:q < n:=by rw [U.o];exact (aaE.1 N).1
  have g:=O (show gD ⟨aA xs,its⟩ ⟨40,tx,h,l,at_⟩=(decide (y.1.n≤z.1.n) && decide (z.1.n - y.1.n+1≤12)) by
   rw [r.o,if_pos rfl];rw [show l.getD 0 0=(p:Int) by rw [aaH,L];rfl,show l.getD 1 0=(q:Int) by rw [aaH,M];rfl,aaQ,aaQ,l7 its hy,l7 its N])
  clear F L M hy N;obtain⟨u,X⟩:∃ u,u=y.1.n:=⟨_,rfl⟩;obtain⟨v,hv⟩:∃ v,v=z.1.n:=⟨_,rfl⟩;rw [← X] at py Q g
  rw [← hv] at pz R g
  clear X hv;have y0:(0:Int)≤(p:Int):=by omega
  have y1:(p:Int) < (n:Int):=by omega
  have y2:(0:Int)≤(q:Int):=by omega
  have y3:(q:Int) < (n:Int):=by omega
  have y4:(0:Int) < (a:Int):=by omega
  have y5:(1:Int) < (a:Int):=by omega
  go_wp2_with fail;go_region
  by_cases h1:u≤v
  ·have f:decide (u≤v)=true:=aaU h1;go_wp2_with fail;go_ret;exact⟨by rw [g.o,f];rfl,by first | exact Below.drew j.o | exact j.o⟩
  ·have f:decide (u≤v)=false:=aaV h1;go_wp2_with fail;go_ret;exact⟨by rw [g.o,f];rfl,by first | exact Below.drew j.o | exact j.o⟩
 have a2:((k:Int) == 40)=false:=by rw [aaF];omega
 by_cases h41:k=41
 ·subst h41;have g:=O (show gD ⟨aA xs,its⟩ ⟨41,tx,h,l,at_⟩=(decide (a≤6)) by rw [r.o];simp);clear r;by_cases h1:a≤6
  ·have f:decide (a≤6)=true:=aaU h1;have t:decide ((a:Int)≤6)=true:=aaU (by omega);clear h1;go_wp2_with fail;go_ret;exact⟨by rw [g.o,f];rfl,j.o⟩
  ·have f:decide (a≤6)=false:=aaV h1;have t:decide ((a:Int)≤6)=false:=aaV (by omega);clear h1;go_wp2_with fail;go_ret;exact⟨by rw [g.o,f];rfl,j.o⟩
 have a3:((k:Int) == 41)=false:=by rw [aaF];omega
 by_cases h42:k=42
 ·subst h42;have g:=O (show gD ⟨aA xs,its⟩ ⟨42,tx,h,l,at_⟩=(decide ((a:Int) - 2≤4) && decide (h≤8)) by rw [r.o];simp);clear r;have w1:IntKind.i64.wrap ((a:Int) - 2)=(a:Int) - 2:=IntWalk.i64_in _ (by omega);by_cases h1:(a:Int) - 2≤4
  ·have f:decide ((a:Int) - 2≤4)=true:=aaU h1;by_cases h2:h≤8
   ·have E:decide (h≤8)=true:=aaU h2;go_wp2_with fail;go_ret;exact⟨by rw [g.o,f,E];rfl,j.o⟩
   ·have E:decide (h≤8)=false:=aaV h2;go_wp2_with fail;go_ret;exact⟨by rw [g.o,f,E];rfl,j.o⟩
  ·have f:decide ((a:Int) - 2≤4)=false:=aaV h1;go_wp2_with fail;go_ret;exact⟨by rw [g.o,f];rfl,j.o⟩
 have a4:((k:Int) == 42)=false:=by rw [aaF];omega
 by_cases h33:k=33
 ·subst h33;have g:=O (show gD ⟨aA xs,its⟩ ⟨33,tx,h,l,at_⟩=(decide (1≤h) && decide (h≤6)) by rw [r.o];simp [within]);clear r;by_cases h1:1≤h
  ·have f:decide (1≤h)=true:=aaU h1;by_cases h2:h≤6
   ·have E:decide (h≤6)=true:=aaU h2;go_wp2_with fail;go_ret;exact⟨by rw [g.o,f,E];rfl,j.o⟩
   ·have E:decide (h≤6)=false:=aaV h2;go_wp2_with fail;go_ret;exact⟨by rw [g.o,f,E];rfl,j.o⟩
  ·have f:decide (1≤h)=false:=aaV h1;go_wp2_with fail;go_ret;exact⟨by rw [g.o,f];rfl,j.o⟩
 have a1:((k:Int) == 33)=false:=by rw [aaF];omega
 by_cases h26:k=26
 ·subst h26;have g:=O (show gD ⟨aA xs,its⟩ ⟨26,tx,h,l,at_⟩=(decide (a≤6)) by rw [r.o];simp);clear r;by_cases h1:a≤6
  ·have f:decide (a≤6)=true:=aaU h1;have t:decide ((a:Int)≤6)=true:=aaU (by omega);clear h1;go_wp2_with fail;go_ret;exact⟨by rw [g.o,f];rfl,j.o⟩
  ·have f:decide (a≤6)=false:=aaV h1;have t:decide ((a:Int)≤6)=false:=aaV (by omega);clear h1;go_wp2_with fail;go_ret;exact⟨by rw [g.o,f];rfl,j.o⟩
 have a0:((k:Int) == 26)=false:=by rw [aaF];omega
 by_cases h46:k=46
 ·subst h46;have g:=O (show gD ⟨aA xs,its⟩ ⟨46,tx,h,l,at_⟩=(decide (a≤4)) by rw [r.o];simp);clear r;by_cases h1:a≤4
  ·have f:decide (a≤4)=true:=aaU h1;have t:decide ((a:Int)≤4)=true:=aaU (by omega);clear h1;go_wp2_with fail;go_ret;exact⟨by rw [g.o,f];rfl,j.o⟩
  ·have f:decide (a≤4)=false:=aaV h1;have t:decide ((a:Int)≤4)=false:=aaV (by omega);clear h1;go_wp2_with fail;go_ret;exact⟨by rw [g.o,f];rfl,j.o⟩
 have a5:((k:Int) == 46)=false:=by rw [aaF];omega
 have g:=O (show gD ⟨aA xs,its⟩ ⟨k,tx,h,l,at_⟩=true by rw [r.o];simp [*]);clear r;go_wp2_with fail;go_ret;exact⟨by rw [g.o];rfl,j.o⟩
end Go.Proofs.YthepmkjggfijoaaGreatDoor
