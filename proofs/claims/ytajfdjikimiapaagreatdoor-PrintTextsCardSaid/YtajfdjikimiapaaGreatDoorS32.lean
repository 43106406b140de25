/-
  A part of the proof.
-/
import Derived.Test.YtajfdjikimiapaaGreatDoorS25
import Derived.Test.YtajfdjikimiapaaGreatDoorS31
set_option linter.all false
set_option maxRecDepth 100000
set_option maxHeartbeats 4000000
namespace Go.Proofs.YtajfdjikimiapaaGreatDoor
section
open Go.RowKit Mist
attribute [local go_sem] au aN aV aM aG
theorem Oz {q:Nat→Bool}{out l:List Int}{b:Int}{j:Nat}{c:Int}(e:l[j]? = some c):mP q out (l.drop j) b=(mP q out (l.drop (j+1)) b).bind fun a=>if a < 0∨c ≠ a∨(!q a.toNat)=true then none else some (a - out.getD a.toNat 0):=by
 obtain⟨f,d⟩:=aiq.1 e;rw [aiJ f,d];rfl
theorem DR {q:Nat→Bool}{out:List Int}{b:Int}:∀ {l:List Int} {j:Nat},mP q out (l.drop j) b=none→mP q out l b=none
 | l,0,h=>h
 | [],j+1,h=>by simpa using h
 | c :: r,j+1,h=>by
  have h1:mP q out r b=none:=DR (by simpa using h)
  show (mP q out r b).bind _=none
  rw [h1];rfl
theorem WL {T:Tr}(h:nW T=none)(h0:T.nodes.length ≠ 0):lg T=false:=by
 unfold lg;rw [h];simpa using h0
theorem FH {T:Tr}{a:List Int}(h:nW T=some a):lg T=((List.range T.nodes.length).all (gV T) && (qR T a == some (-1))):=by
 unfold lg;rw [h]
theorem RN {T:Tr}{b:List Int}(h:nW T=some b){i:Nat}(hi:i < T.nodes.length)(a:gV T i=false):lg T=false:=by
 rw [FH h];rw [show (List.range T.nodes.length).all (gV T)=false by rw [List.all_eq_false];exact⟨i,List.mem_range.2 hi,by simp [a]⟩];rfl
theorem JK {T:Tr}{a:List Int}(h:nW T=some a)(b:∀ i,i < T.nodes.length→gV T i=true):lg T=(qR T a == some (-1)):=by
 rw [FH h,show (List.range T.nodes.length).all (gV T)=true by rw [aiD];exact fun i hi=>b i (List.mem_range.1 hi)];rfl
theorem TY (A B:Option Addr)(c d:Nat)(xs:List NV)(f:List Int)(w:World)(hT:lJ w A B xs f)(hn:xs.length≤10000)(hm:f.length≤10000)(hl:∀ x ∈ xs,x.1.text.length≤100000000) :
  Calls Tryz.prog 114 #[.agg #[.slice A xs.length c,.slice B f.length d]] w fun e w'=>e=.returned (.bool (lg ⟨aj xs,f⟩))∧Below w.heap.size w w':=by
 have jZ:=O fun W (hb:Below w.heap.size w W)=>UA A B c f.length d xs f W (hT.below hb) hn
 have vC:=O fun W (hb:Below w.heap.size w W) i x G hk=>T_ A B c f.length d i xs f x W (hT.below hb) G hn hk (hl x (aiy G))
 obtain⟨T,nU⟩:∃ T:Tr,T=⟨aj xs,f⟩:=⟨_,rfl⟩;rw [← nU] at vC ⊢
 have E_:=O (show T.nodes=aj xs by rw [nU]);have HIS:=O (show T.items=f by rw [nU]);have Rf:=O (show T.nodes.length=xs.length by rw [nU];exact bW xs);clear nU hl;obtain⟨n,P⟩:∃ n,n=xs.length:=⟨_,rfl⟩;obtain⟨m,N⟩:∃ m,m=f.length:=⟨_,rfl⟩;rw [← P,← N] at jZ
 rw [← P] at vC Rf hn ⊢
 rw [← N] at vC hm ⊢
 have K:=O P;clear P;have HM:=O N;clear N;have HT:=O hT;clear hT;have H:=O (aZ.new w 25 #[.slice A n c,.slice B m d]);have Y:=O (aF (Below.refl w.heap.size w) (aiv _) (o:=.cells #[.slice A n c,.slice B m d] 25));go_in
 go_wp2_with fail;refine (jZ.o _ Y.o).mono ?_;rintro e w1⟨L,h1⟩;have t:=O (H.o.below L H.o.lt);have l:=O (Y.o.trans (L.mono Y.o.size));have hsz0:=Y.o.size;have t0:=t.o.cell 0;have t1:=t.o.cell 1;rcases h1 with ⟨hno,rfl⟩ | ⟨E,v,R,rfl,S⟩
 ·have hn0:¬ n=0:=fun h0=>by subst h0;exact absurd hno (by simp [iO])
  have I:=O (show lg T=false from WL (by rw [← qx,E_.o,bW,← K.o];exact hno) (by rw [Rf.o];exact hn0));have q0:((0:Int) != (n:Int))=true:=by simp;omega
  clear hno H Y L;go_wp2_with fail;go_ret;exact⟨by rw [I.o];rfl,l.o⟩
 have HZT:=O (show nW T=some E by rw [← qx,E_.o,bW,← K.o];exact R);have HZB:=O (vk (by rw [bW,← K.o];exact aiv _) R)
 have Co:=O (show Wf (aj xs) by
  have h9:=Ec (by rw [bW,← K.o];exact aiv _) R;rw [aiz (by rw [bW,← K.o];exact aiv _)] at h9
  exact QH (by rw [bW,← K.o];exact h9))
 have F:=O (vL S (aiv _));have U2:=Y.o.size;clear S R L H Y;obtain⟨Av,cv,rfl⟩:=dh F.o;have q0:((n:Int) != (n:Int))=false:=by simp
 go_wp2_with fail;go_loopw [4] (fun i wr=>∃ k:Nat,k≤n∧i=.int .i64 k∧Hid (∀ j,j < k→gV T j=true)∧Hid (wr.ownsRow w.heap.size 3 1 (.slice Av n cv) n (intCells E))∧Hid (aZ wr w.heap.size 25 #[.slice A n c,.slice B m d])∧Hid (Below w.heap.size w wr)) (fun i _=>n - (intOf i).toNat)
 case atStart=>exact⟨0,aix _,rfl,O (fun j hj=>by omega),O (vL F.o U2),t,l⟩
 case round =>
  clear F t l t0 t1 U2;obtain⟨k,hk,rfl,HK,F,t,l⟩:=hrel;have t0:=t.o.cell 0;have t1:=t.o.cell 1;by_cases M:k < n
  ·have i3:decide (k < n)=true:=aiG M;obtain⟨x,G⟩:∃ x,xs[k]? = some x:=iG (by rw [← K.o];exact M)
   have HKK:=O (show ∀ q ∈ x.1.kids,0≤q∧q < (n:Int) from fun q Q=>by
    have h9:=Co.o k x.1 (jd G) q Q;omega)
   have HX:=O G;clear G
   cases D:gV T k
   ·have I:=O (show lg T=false from RN HZT.o (by rw [Rf.o];exact M) D);have ZF:=O D;clear D;go_wp2_with fail;refine (vC.o _ l.o k x HX.o HKK.o).mono ?_;rintro e w2⟨rfl,y⟩;rw [ZF.o];go_wp2_with fail;go_ret;exact⟨by rw [I.o];rfl,l.o.trans (y.mono l.o.size)⟩
   ·have ZF:=O D;clear D;go_wp2_with fail;refine (vC.o _ l.o k x HX.o HKK.o).mono ?_;rintro e w2⟨rfl,y⟩;rw [ZF.o];go_wp2_with fail
    exact⟨⟨k+1,by omega,by go_num,O (fun j hj=>by
     by_cases hjk:j=k
     ·rw [hjk];exact ZF.o
     ·exact HK.o j (by omega)),O (own_below F.o y),O (t.o.below y t.o.lt),O (l.o.trans (y.mono l.o.size))⟩,by simp [intOf];omega⟩
  ·have i3:decide (k < n)=false:=aiH M;have HFR:=O (JK HZT.o (fun i hi=>HK.o i (by rw [Rf.o] at hi;omega)));have HRB:=O (show qR T E=mP (fun i=>dB (nd T i).kind) E f ((n:Int) - 1) by rw [rQ,HIS.o,Rf.o]);clear HK;go_wp2_with fail;go_loopw [5,6] (fun a i wr=>∃ (j:Nat) (at_:Int),j≤m∧i=.int .i64 ((j:Int) - 1)∧a=.int .i64 at_∧-1≤at_∧at_≤(n:Int) - 1∧Hid (mP (fun i=>dB (nd T i).kind) E (f.drop j) ((n:Int) - 1)=some at_)∧Hid (wr.ownsRow w.heap.size 3 1 (.slice Av n cv) n (intCells E))∧Hid (aZ wr w.heap.size 25 #[.slice A n c,.slice B m d])∧Hid (Below w.heap.size w wr)) (fun _ i _=>(intOf i+1).toNat)
   case atStart=>exact⟨m,(n:Int) - 1,aiv _,rfl,rfl,by omega,by omega,O (by rw [List.drop_of_length_le (by rw [← HM.o];exact aiv _)];rfl),F,t,l⟩
   case round =>
    clear F t l t0 t1;obtain⟨j,at_,hj,rfl,rfl,ha,han,HOV,F,t,l⟩:=hrel;have t0:=t.o.cell 0;have t1:=t.o.cell 1;by_cases hj0:0 < j
    ·obtain⟨j,rfl⟩:∃ q,j=q+1:=⟨j - 1,by omega⟩;obtain⟨X,Z⟩:∃ X,f[j]? = some X:=⟨_,aip (by rw [← HM.o];omega)⟩;obtain⟨b2,o2,rfl,hbl,hc⟩:=HT.o.items.ex (by rw [← HM.o];omega);have cc:=(l.o.cell (p:=⟨b2,o2+j,none⟩) (by exact hbl)).trans (hc j X Z);have U:=O (Oz (q:=fun i=>dB (nd T i).kind) (out:=E) (b:=(n:Int) - 1) Z);rw [HOV.o] at U
     have u:=O (show (at_ < 0∨X ≠ at_∨(!dB (nd T at_.toNat).kind)=true)→lg T=false from fun h=>by
      rw [HFR.o,HRB.o,DR (j:=j) (by rw [U.o];show (if _ then none else _)=none;rw [if_pos h])];rfl)
     clear hc Z;have e1:((j+1:Nat):Int) - 1=(j:Int):=by omega
     rw [e1];have y0:(0:Int)≤(j:Int):=by omega
     have y1:(j:Int) < (m:Int):=by omega
     by_cases h0:at_ < 0
     ·have d1:decide (at_ < 0)=true:=aiG h0;have I:=O (u.o (Or.inl h0));go_wp2_with fail;go_ret;exact⟨by rw [I.o];rfl,l.o⟩
     have d1:decide (at_ < 0)=false:=aiH h0;obtain⟨r,rfl⟩:∃ q:Nat,at_=(q:Int):=⟨at_.toNat,by omega⟩;by_cases Q:X=(r:Int)
     case neg =>
      have d2:(X != (r:Int))=true:=by simp [Q]
      have I:=O (u.o (Or.inr (Or.inl Q)));clear Q;go_wp2_with fail;go_ret;exact⟨by rw [I.o];rfl,l.o⟩
     have d2:(X != (r:Int))=false:=by simp [Q]
     have V:r < n:=by omega
     obtain⟨x,G⟩:∃ x,xs[r]? = some x:=iG (by rw [← K.o];exact V);obtain⟨b,o,rfl,GZ⟩:=HT.o.nodes (by rw [← K.o];omega);have c0:=(l.o.cell (p:=⟨b,o+r * 5,none⟩) GZ.lt).trans (GZ.c0 r x G);have vB:=O (show nd T ((r:Int)).toNat=x.1 by rw [aiC];exact jX (by rw [E_.o];exact jd G));have x0:(0:Int)≤(r:Int):=by omega
     have x1:(r:Int) < (n:Int):=by omega
     clear GZ G
     cases C:dB x.1.kind
     ·have I:=O (u.o (Or.inr (Or.inr (by rw [vB.o,C];rfl))));have J:=O C;clear C;clear Q;go_wp2_with fail;refine (zS x.1.kind _).mono ?_;rintro e w2⟨rfl,rfl⟩;rw [J.o];go_wp2_with fail;go_ret;exact⟨by rw [I.o];rfl,l.o⟩
     ·have J:=O C;clear C
      have VJ:=O (show mP (fun i=>dB (nd T i).kind) E (f.drop j) ((n:Int) - 1)=some ((r:Int) - E.getD r 0) by
       rw [U.o]
       show (if _ then none else some ((r:Int) - E.getD ((r:Int)).toNat 0))=_
       rw [if_neg (by
        rintro (h | h | h)
        ·omega
        ·exact h Q
        ·rw [vB.o,J.o] at h;cases h),aiC])
      obtain⟨g,cap,hv,_,hgl,hcg⟩:=KG F.o HZB.o.1 (by omega);injection hv with hv1 _ hv3
      subst hv1;subst hv3;have cg:=hcg r V;have hbd:=HZB.o.2 r V;obtain⟨sa,hsa⟩:∃ q,q=E.getD r 0:=⟨_,rfl⟩;rw [← hsa] at cg hbd VJ
      clear Q hsa h0 hcg;go_wp2_with fail;refine (zS x.1.kind _).mono ?_;rintro e w2⟨rfl,rfl⟩;rw [J.o];go_wp2_with fail;exact⟨⟨j,(r:Int) - sa,by omega,by go_num,by go_num,by omega,by omega,VJ,F,t,l⟩,by simp [intOf]⟩
    ·obtain rfl:j=0:=by omega
     have HFE:=O (show lg T=(at_ == -1) by
      have h9:=HOV.o;rw [List.drop_zero] at h9
      rw [HFR.o,HRB.o,h9];rfl)
     go_wp2_with fail;go_ret;exact⟨by rw [HFE.o];rfl,l.o⟩
end
section
open Go.RowKit Mist
theorem Kv (i:Nat)(D:List Nat)(h:i < D.length):D.set i (max (D.getD i 0) 1)=mD i D:=by
 unfold mD;split
 ·rename_i h0;rw [h0];rfl
 ·rename_i h0
  rw [show max (D.getD i 0) 1=D.getD i 0 by omega];rw [ait,aip h];simp
theorem Wv (i:Nat)(D:List Nat)(h:i < D.length):(mD i D).getD i 0=max (D.getD i 0) 1:=by
 rw [← Kv i D h,qK,if_pos ⟨rfl,h⟩]
theorem foldl_max (D:List Nat):∀ (m:Nat),(D.map fun (d:Nat)=>(d:Int)).foldl max (m:Int)=((D.foldl max m:Nat):Int):=by
 induction D with
 | nil=>intro m;rfl
 | cons a r b =>
  intro m;simp only [List.map_cons,List.foldl_cons];rw [show max (m:Int) (a:Int)=((max m a:Nat):Int) by omega];exact b _
theorem KT (A B:Option Addr)(c m d:Nat)(xs:List NV)(its:List Int)(w:World)(hT:lJ w A B xs its)(hW:Wf (aj xs))(hn:xs.length≤100000) :
  Calls Tryz.prog 157 #[.agg #[.slice A xs.length c,.slice B m d]] w fun e w'=>∃ g,e=.returned (.slice (some ⟨g,0,none⟩) xs.length xs.length)∧w.heap.size≤g∧aZ w' g 3 (iA (gQ (aj xs)))∧Below w.heap.size w w':=by
 obtain⟨n,t⟩:∃ n,n=xs.length:=⟨_,rfl⟩;rw [← t] at hn ⊢
 have pU:=O t;clear t;have HTA:=O hT;clear hT;have HW:=O hW;clear hW;have L:=run_make_row' (P:=Tryz.prog) 23 3 (.int .i64 0) 8 Tryz.underlying23 mE rfl .i64 .i64 n (by omega) (by omega) (w.alloc (.cells #[.slice A n c,.slice B m d] 25));rw [FQ] at L
 go_in
 go_wp2_with fail;have r:=aZ.new (w.alloc (.cells #[.slice A n c,.slice B m d] 25)) 3 (iA (List.replicate n 0));rw [show (w.alloc (.cells #[.slice A n c,.slice B m d] 25)).heap.size=w.heap.size+1 by simp] at r
 have F:=O r;clear r;have H:=O ((aZ.new w 25 #[.slice A n c,.slice B m d]).alloc (.cells (iA (List.replicate n 0)) 3));have gN:=O (aF (aF (Below.refl w.heap.size w) (aiv _) (o:=.cells #[.slice A n c,.slice B m d] 25)) (by simp) (o:=.cells (iA (List.replicate n 0)) 3));clear L;go_loopw [4] (fun i wr=>∃ (k:Nat) (D:List Nat),k≤n∧i=.int .i64 ((k:Int) - 1)∧Hid (D.length=n)∧Hid (aZ wr (w.heap.size+1) 3 (iA D))∧Hid (aZ wr w.heap.size 25 #[.slice A n c,.slice B m d])∧Hid (Rw (aj xs) k D=gQ (aj xs))∧Hid (kK (n - k+1) D)∧Hid (Below w.heap.size w wr)) (fun i _=>(intOf i+1).toNat)
 case atStart=>exact⟨n,List.replicate n 0,aiv _,rfl,O (by simp),F,H,O (by unfold gQ;rw [bW,← pU.o]),O (Cy _ _),gN⟩
 case round =>
  clear F H gN;obtain⟨k,D,hk,rfl,R,S,HT,HD,HA,HL⟩:=hrel;rcases Nat.eq_zero_or_pos k with h0 | h0
  ·subst h0;have HD2:=O (show D=gQ (aj xs) from HD.o);go_wp2_with fail;go_ret;exact⟨_,rfl,by omega,by rw [← HD2.o];exact S.o,HL.o⟩
  ·obtain⟨k,rfl⟩:∃ k0,k=k0+1:=⟨k - 1,by omega⟩;rw [show (((k+1:Nat):Int) - 1)=(k:Int) by omega];obtain⟨b,o,rfl,GZ⟩:=HTA.o.nodes (by rw [← pU.o];omega);have T:=O GZ.kids;clear GZ;have tc0:=HT.o.cell 0;have tc1:=HT.o.cell 1
   have dk:wr.cell? ⟨w.heap.size+1,k,none⟩=some (.int .i64 ((D.getD k 0:Nat):Int)):=by
    rw [S.o.cell k];exact qC D k (by rw [R.o];omega)
   have fk:=S.o.frozen k;have i1:(0:Int)≤(k:Int):=by omega
   have i2:(k:Int) < (n:Int):=by omega
   obtain⟨v,hv⟩:∃ v,v=D.getD k 0:=⟨_,rfl⟩;rw [← hv] at dk
   have HV:=O hv;clear hv;obtain⟨x,N⟩:∃ x,xs[k]? = some x:=⟨_,aip (by rw [← pU.o];omega)⟩;have HX:=O N;have kc:=(T.o.below HL.o).kv k x N;obtain⟨Ak,ca,y,hxl,Q⟩:=T.o.kids x (aiy N);rw [y] at kc
   have BG:=O Q;have HKV:=O (show ∀ W,Below w.heap.size w W→W.cell? ⟨b,o+k * 5+3,none⟩=some (.slice Ak x.1.kids.length ca) from fun W hb=>by rw [← y];exact (T.o.below hb).kv k x N);clear N y Q;have hbl:=T.o.lt;have M:max ((v:Nat):Int) 1=((max v 1:Nat):Int):=by omega
   obtain⟨u,X⟩:∃ u,u=max v 1:=⟨_,rfl⟩;rw [← X] at M
   have Z:=O (show (mD k D).getD k 0=u by rw [Wv k D (by rw [R.o];omega),← HV.o,X]);have HO:=O (show D.set k u=mD k D by rw [← Kv k D (by rw [R.o];omega),← HV.o,X]);have C:=O (HA.o.mD (i:=k) (by omega));have hv1:u≤n - (k+1)+1:=by have:=C.o k;rw [Z.o] at this;exact this
   have HD1:=O (wQ k D);clear X;go_wp2_with fail;have HB1:=O (show aZ (wr.setCell ⟨w.heap.size+1,k,none⟩ (.int .i64 u)) (w.heap.size+1) 3 (iA (mD k D)) from (by rw [← HO.o,← Dn];exact S.o.jD k _));have HT1:=O (show aZ (wr.setCell ⟨w.heap.size+1,k,none⟩ (.int .i64 u)) w.heap.size 25 #[.slice (some ⟨b,o,none⟩) n c,.slice B m d] from HT.o.far (by simp) _);have rA:=O (show Below w.heap.size w (wr.setCell ⟨w.heap.size+1,k,none⟩ (.int .i64 u)) from dS HL.o (by simp));clear M dk fk;go_loopw [5] (fun j vU=>∃ (a:Nat) (h:List Nat),a≤x.1.kids.length∧j=.int .i64 a∧Hid (h.length=n)∧Hid (aZ vU (w.heap.size+1) 3 (iA h))∧Hid (aZ vU w.heap.size 25 #[.slice (some ⟨b,o,none⟩) n c,.slice B m d])∧Hid (sU u (x.1.kids.drop a) h=pX (aj xs) k D)∧Hid (h.getD k 0=u)∧Hid (kK (n - k+1) h)∧Hid (Below w.heap.size w vU)) (fun j _=>x.1.kids.length - (intOf j).toNat)
   case atStart=>exact⟨0,mD k D,aix _,rfl,O (HD1.o.trans R.o),HB1,HT1,O (by rw [List.drop_zero,pX,Z.o,DJ HX.o]),Z,O (C.o.mono (by omega)),rA⟩
   case round =>
    obtain⟨a,h,hj,rfl,Y,J,V,G,I,E,U⟩:=hrel;have tc0:=V.o.cell 0;have tc1:=V.o.cell 1;have kc:=HKV.o wr U.o;by_cases l:a < x.1.kids.length
    case pos =>
     obtain⟨bk,ok,rfl,hbk,K⟩:=BG.o (by omega);obtain⟨kq,q⟩:∃ kq,x.1.kids[a]? = some kq:=⟨_,aip l⟩;have hwf:=HW.o k x.1 (by unfold aj;rw [List.getElem?_map,HX.o];rfl) kq (aiy q);obtain⟨f,rfl⟩:∃ f:Nat,kq=(f:Int):=⟨kq.toNat,by omega⟩;have cj:=(U.o.cell (p:=⟨bk,ok+a,none⟩) hbk).trans (K a f q)
     have HDR:=O (show x.1.kids.drop a=(f:Int) :: x.1.kids.drop (a+1) by
      rw [aiJ l,(aiq.1 q).2])
     have ck:wr.cell? ⟨w.heap.size+1,k,none⟩=some (.int .i64 ((u:Nat):Int)):=by
      rw [J.o.cell k,qC h k (by rw [Y.o];omega),I.o]
     have fn:=J.o.frozen f
     have cn:wr.cell? ⟨w.heap.size+1,f,none⟩=some (.int .i64 ((h.getD f 0:Nat):Int)):=by
      rw [J.o.cell f,qC h f (by rw [Y.o];omega)]
     have k1:(0:Int)≤(f:Int):=by omega
     have k2:(f:Int) < (n:Int):=by omega
     have hkk:f < k:=by omega
     clear K q hwf;have j1:decide ((a:Int) < (x.1.kids.length:Int))=true:=aiG (by omega);have j2:decide (a < x.1.kids.length)=true:=aiG l;have w1:IntKind.i64.wrap ((u:Int)+1)=(u:Int)+1:=IntWalk.i64_in _ (by omega);have j3:(0:Int)≤(a:Int):=by omega
     have j4:(a:Int) < (x.1.kids.length:Int):=by omega
     go_wp2_with fail;go_region
     go_wp2_with fail
     refine⟨⟨a+1,h.set f (u+1),by omega,by go_num,O (by rw [List.length_set];exact Y.o),O (aZ.drew (by rw [← Dn];exact J.o.jD f _)),O (aZ.drew (V.o.far (by simp) _)),O (by have h9:=G.o;rw [HDR.o] at h9;exact h9),O (by rw [qK,if_neg (by omega)];exact I.o),O (E.o.set (by omega)),O (Below.drew (dS U.o (by simp)))⟩,by simp [intOf];omega⟩
    case neg =>
     have LJ:=O (show h=pX (aj xs) k D by have h9:=G.o;rw [List.drop_of_length_le (by omega)] at h9;exact h9);have j1:decide ((a:Int) < (x.1.kids.length:Int))=false:=aiH (by omega);have j2:decide (a < x.1.kids.length)=false:=aiH l;go_wp2_with fail
     refine⟨⟨k,h,by omega,by go_num,Y,J,V,O (by rw [LJ.o];exact HD.o),E,U⟩,by (first|(simp [intOf];done)|(simp [intOf];omega))⟩
theorem Om:∀ (l:List Nat),l ≠ []→Lib.maxOf (l.map fun (d:Nat)=>(d:Int))=((l.foldl max 0:Nat):Int):=by
 intro l h;obtain⟨a,r,rfl⟩:=List.exists_cons_of_ne_nil h
 show (((a :: r).map fun (d:Nat)=>(d:Int)).foldl max (a:Int))=_
 rw [foldl_max];simp
theorem Nv (l:List Nat)(k:Nat)(h:k < l.length):(l.take (k+1)).foldl max 0=max ((l.take k).foldl max 0) (l.getD k 0):=by
 rw [List.take_add_one,aip h,List.foldl_append];simp [ait,aip h]
theorem GN (ns:List Nd):iT ns=(((gQ ns).foldl max 0:Nat):Int):=by
 unfold iT;split
 ·rename_i h
  rw [List.length_eq_zero_iff.1 h];rfl
 ·rename_i h
  exact Om _ (fun e=>h (by have:=congrArg List.length e;unfold gQ at this;rw [wR,List.length_replicate] at this;exact this))
theorem Ii (A B:Option Addr)(c m d:Nat)(xs:List NV)(h:List Int)(w:World)(H:lJ w A B xs h)(I:Wf (aj xs))(K:xs.length≤100000) :
  Calls Tryz.prog 115 #[.agg #[.slice A xs.length c,.slice B m d]] w fun e Q=>e=.returned (.int .i64 (iT (aj xs)))∧Below w.heap.size w Q:=by
 have t:=O fun W (r:Below w.heap.size w W)=>KT A B c m d xs h W (H.below r) I K
 have E:=O (GN (aj xs));have b:=O (show (gQ (aj xs)).length=xs.length by unfold gQ;rw [wR,List.length_replicate,bW]);clear H I;obtain⟨n,f⟩:∃ n,n=xs.length:=⟨_,rfl⟩;rw [← f] at t b K ⊢
 clear f;have l:=O (aF (Below.refl w.heap.size w) (aiv _) (o:=.cells #[.slice A n c,.slice B m d] 25));go_in
 go_wp2_with fail;refine (t.o _ l.o).mono ?_;rintro e w1⟨g,rfl,R,r,J⟩;have y:=O r;clear r;have N:=O (l.o.trans (J.mono l.o.size));clear J l;obtain⟨D,G⟩:∃ D,D=gQ (aj xs):=⟨_,rfl⟩;rw [← G] at E b y
 clear G t;go_wp2_with fail;go_loopw [3,5] (fun v i wr=>∃ (k u:Nat),wr=w1∧k≤n∧i=.int .i64 k∧v=.int .i64 u∧Hid (u=(D.take k).foldl max 0)) (fun _ i _=>n - (intOf i).toNat)
 case atStart=>exact⟨0,0,rfl,aix _,rfl,rfl,O rfl⟩
 case round =>
  obtain⟨k,u,rfl,S,rfl,rfl,C⟩:=hrel;by_cases a:k < n
  ·have P:decide (k < n)=true:=aiG a;have F:=y.o.cell k;rw [qC D k (by rw [b.o];exact a)] at F
   have j:=O (Nv D k (by rw [b.o];exact a));rw [← C.o] at j
   obtain⟨q,L⟩:∃ q,q=D.getD k 0:=⟨_,rfl⟩;rw [← L] at F j
   clear L;have T:(0:Int)≤(k:Int):=by omega
   have U:(k:Int) < (n:Int):=by omega
   have x:max (u:Int) (q:Int)=((max u q:Nat):Int):=by omega
   obtain⟨v,hv⟩:∃ v,v=max u q:=⟨_,rfl⟩;rw [← hv] at x j
   clear hv;go_wp2_with fail;exact⟨⟨k+1,v,by first | rfl | trivial,by omega,by go_num,rfl,O j.o.symm⟩,by simp [intOf];omega⟩
  ·have P:decide (k < n)=false:=aiH a;have M:=O (show ((u:Nat):Int)=iT (aj xs) by rw [E.o,C.o,aiz (by rw [b.o];omega)]);go_wp2_with fail;go_ret;exact⟨by rw [← M.o];rfl,N.o⟩
end
section
open Go.RowKit Mist
attribute [local go_sem] au aN aV aM aG
def IY (xs:List NV)(x:Nd):Prop:=x.kind=40→∃ (p q:Nat) (y z:NV),x.kids[0]? = some (p:Int)∧x.kids[1]? = some (q:Int)∧xs[p]? = some y∧xs[q]? = some z∧(-100000≤y.1.n∧y.1.n≤100000)∧(-100000≤z.1.n∧z.1.n≤100000)
theorem OM (A B:Option Addr)(c m d i:Nat)(xs:List NV)(f:List Int)(x:NV)(w:World)(Y:lJ w A B xs f)(D:xs[i]? = some x)(hn:xs.length≤10000)(X:IY xs x.1) :
  Calls Tryz.prog 116 #[.agg #[.slice A xs.length c,.slice B m d],.int .i64 i] w fun e w'=>e=.returned (.bool (kg ⟨aj xs,f⟩ x.1))∧Below w.heap.size w w':=by
 have P:i < xs.length:=(aiq.1 D).1;obtain⟨b,o,rfl,C⟩:=Y.nodes (by omega);have T:=O C;have c0:=C.c0 i x D;have c1:=C.c1 i x D;have c2:=C.c2 i x D;have c3:=C.c3 i x D;have c4:=C.c4 i x D;have hbl:=C.lt;obtain⟨Ka,ca,I,K,J⟩:=C.kid D;rw [I] at c3
 have S:=O J;clear C I J Y;obtain⟨n,H⟩:∃ n,n=xs.length:=⟨_,rfl⟩;rw [← H] at hn P ⊢
 have V:=O H;clear H;have U:=O X;clear X;clear D;obtain⟨⟨k,tx,j,ks,at_⟩,xv⟩:=x;obtain⟨a,G⟩:∃ a,a=ks.length:=⟨_,rfl⟩;simp only at c0 c1 c2 c3 c4 K U S ⊢
 rw [← G] at c3 K
 have W:=O G;clear G;have z0:(0:Int)≤(i:Int):=by omega
 have z1:(i:Int) < (n:Int):=by omega
 have l:=O (aF (aF (Below.refl w.heap.size w) (aiv _) (o:=.cells #[.slice (some ⟨b,o,none⟩) n c,.slice B m d] 25)) (by simp) (o:=.cells #[.int .u8 k,.string (aU tx),.int .i64 j,.slice Ka a ca,.int .i64 at_] 39))
 have r:=O (show kg ⟨aj xs,f⟩ ⟨k,tx,j,ks,at_⟩=(if k=40 then decide ((nd ⟨aj xs,f⟩ (ks.getD 0 0).toNat).n≤(nd ⟨aj xs,f⟩ (ks.getD 1 0).toNat).n) && decide ((nd ⟨aj xs,f⟩ (ks.getD 1 0).toNat).n - (nd ⟨aj xs,f⟩ (ks.getD 0 0).toNat).n+1≤12)
   else if k=41 then decide (a≤6) else if k=42 then decide ((a:Int) - 2≤4) && decide (j≤8) else if k=33 then within j 1 6 else if k=26 then decide (a≤6) else if k=46 then decide (a≤4) else true) by rw [W.o];rfl)
 go_in
 by_cases rG:k=40
 ·subst rG;obtain⟨p,q,y,z,L,M,hy,N,Q,R⟩:=U.o rfl;obtain⟨bk,ok,rfl,hbk,F⟩:=S.o.ex (by show 0 < ks.length;have:=(aiq.1 L).1;omega);have k0:=F 0 p L;rw [Nat.add_zero] at k0
  have k1:=F 1 q M;have n2:1 < a:=by rw [W.o];exact (aiq.1 M).1
  have py:=T.o.c2 p y hy;have pz:=T.o.c2 q z N;have hpn:p < n:=by rw [V.o];exact (aiq.1 hy).1
  have hqn:q < n:=by rw [V.o];exact (aiq.1 N).1
  have h:=O (show kg ⟨aj xs,f⟩ ⟨40,tx,j,ks,at_⟩=(decide (y.1.n≤z.1.n) && decide (z.1.n - y.1.n+1≤12)) by
   rw [r.o,if_pos rfl];rw [show ks.getD 0 0=(p:Int) by rw [ait,L];rfl,show ks.getD 1 0=(q:Int) by rw [ait,M];rfl,aiC,aiC,aY f hy,aY f N])
  clear F L M hy N;obtain⟨u,Z⟩:∃ u,u=y.1.n:=⟨_,rfl⟩;obtain⟨v,hv⟩:∃ v,v=z.1.n:=⟨_,rfl⟩;rw [← Z] at py Q h
  rw [← hv] at pz R h
  clear Z hv;have y0:(0:Int)≤(p:Int):=by omega
  have y1:(p:Int) < (n:Int):=by omega
  have y2:(0:Int)≤(q:Int):=by omega
  have y3:(q:Int) < (n:Int):=by omega
  have y4:(0:Int) < (a:Int):=by omega
  have y5:(1:Int) < (a:Int):=by omega
  go_wp2_with fail;go_region
  by_cases h1:u≤v
  ·have g:decide (u≤v)=true:=aiG h1;go_wp2_with fail;go_ret;exact⟨by rw [h.o,g];rfl,by first | exact Below.drew l.o | exact l.o⟩
  ·have g:decide (u≤v)=false:=aiH h1;go_wp2_with fail;go_ret;exact⟨by rw [h.o,g];rfl,by first | exact Below.drew l.o | exact l.o⟩
 have e40:((k:Int) == 40)=false:=by rw [air];omega
 by_cases IW:k=41
 ·subst IW;have h:=O (show kg ⟨aj xs,f⟩ ⟨41,tx,j,ks,at_⟩=(decide (a≤6)) by rw [r.o];simp);clear r;by_cases h1:a≤6
  ·have g:decide (a≤6)=true:=aiG h1;have t:decide ((a:Int)≤6)=true:=aiG (by omega);clear h1;go_wp2_with fail;go_ret;exact⟨by rw [h.o,g];rfl,l.o⟩
  ·have g:decide (a≤6)=false:=aiH h1;have t:decide ((a:Int)≤6)=false:=aiH (by omega);clear h1;go_wp2_with fail;go_ret;exact⟨by rw [h.o,g];rfl,l.o⟩
 have e41:((k:Int) == 41)=false:=by rw [air];omega
 by_cases Es:k=42
 ·subst Es;have h:=O (show kg ⟨aj xs,f⟩ ⟨42,tx,j,ks,at_⟩=(decide ((a:Int) - 2≤4) && decide (j≤8)) by rw [r.o];simp);clear r;have w1:IntKind.i64.wrap ((a:Int) - 2)=(a:Int) - 2:=IntWalk.i64_in _ (by omega);by_cases h1:(a:Int) - 2≤4
  ·have g:decide ((a:Int) - 2≤4)=true:=aiG h1;by_cases h2:j≤8
   ·have E:decide (j≤8)=true:=aiG h2;go_wp2_with fail;go_ret;exact⟨by rw [h.o,g,E];rfl,l.o⟩
   ·have E:decide (j≤8)=false:=aiH h2;go_wp2_with fail;go_ret;exact⟨by rw [h.o,g,E];rfl,l.o⟩
  ·have g:decide ((a:Int) - 2≤4)=false:=aiH h1;go_wp2_with fail;go_ret;exact⟨by rw [h.o,g];rfl,l.o⟩
 have e42:((k:Int) == 42)=false:=by rw [air];omega
 by_cases GX:k=33
 ·subst GX;have h:=O (show kg ⟨aj xs,f⟩ ⟨33,tx,j,ks,at_⟩=(decide (1≤j) && decide (j≤6)) by rw [r.o];simp [within]);clear r;by_cases h1:1≤j
  ·have g:decide (1≤j)=true:=aiG h1;by_cases h2:j≤6
   ·have E:decide (j≤6)=true:=aiG h2;go_wp2_with fail;go_ret;exact⟨by rw [h.o,g,E];rfl,l.o⟩
   ·have E:decide (j≤6)=false:=aiH h2;go_wp2_with fail;go_ret;exact⟨by rw [h.o,g,E];rfl,l.o⟩
  ·have g:decide (1≤j)=false:=aiH h1;go_wp2_with fail;go_ret;exact⟨by rw [h.o,g];rfl,l.o⟩
 have e33:((k:Int) == 33)=false:=by rw [air];omega
 by_cases WS:k=26
 ·subst WS;have h:=O (show kg ⟨aj xs,f⟩ ⟨26,tx,j,ks,at_⟩=(decide (a≤6)) by rw [r.o];simp);clear r;by_cases h1:a≤6
  ·have g:decide (a≤6)=true:=aiG h1;have t:decide ((a:Int)≤6)=true:=aiG (by omega);clear h1;go_wp2_with fail;go_ret;exact⟨by rw [h.o,g];rfl,l.o⟩
  ·have g:decide (a≤6)=false:=aiH h1;have t:decide ((a:Int)≤6)=false:=aiH (by omega);clear h1;go_wp2_with fail;go_ret;exact⟨by rw [h.o,g];rfl,l.o⟩
 have e26:((k:Int) == 26)=false:=by rw [air];omega
 by_cases h46:k=46
 ·subst h46;have h:=O (show kg ⟨aj xs,f⟩ ⟨46,tx,j,ks,at_⟩=(decide (a≤4)) by rw [r.o];simp);clear r;by_cases h1:a≤4
  ·have g:decide (a≤4)=true:=aiG h1;have t:decide ((a:Int)≤4)=true:=aiG (by omega);clear h1;go_wp2_with fail;go_ret;exact⟨by rw [h.o,g];rfl,l.o⟩
  ·have g:decide (a≤4)=false:=aiH h1;have t:decide ((a:Int)≤4)=false:=aiH (by omega);clear h1;go_wp2_with fail;go_ret;exact⟨by rw [h.o,g];rfl,l.o⟩
 have e46:((k:Int) == 46)=false:=by rw [air];omega
 have h:=O (show kg ⟨aj xs,f⟩ ⟨k,tx,j,ks,at_⟩=true by rw [r.o];simp [*]);clear r;go_wp2_with fail;go_ret;exact⟨by rw [h.o];rfl,l.o⟩
end
section
open Go.RowKit Mist
def jP (T:Tr):Int :=
 if Mist.large T=true then 5
 else if lg T=false then 4
 else if 30 < oH T then 5
 else if T.nodes.all (kg T)=false then 3 else 0
theorem ady (T:Tr)(a:∀ n ∈ T.nodes,j6≤n.n∧n.n≤gL):eP T=jP T:=by
 unfold eP jP;by_cases d:Mist.large T=true
 ·rw [if_pos d,if_pos d]
 rw [if_neg d,if_neg d]
 have f:T.nodes.length≤801:=by
  simp [Mist.large] at d;omega
 have b:=JL T a f;by_cases c:lg T=true
 ·obtain⟨h1,h2,h3⟩:=b.2 c;rw [if_neg (show ¬ ((List.range T.nodes.length).all (Mist.formed T)=false) by rw [h1];simp),if_neg (show ¬ (Mist.ordered T=false∨Mist.signed T=false) by rw [h2,h3];simp),if_neg (show ¬ (lg T=false) by rw [c];simp)];by_cases j:30 < oH T
  ·rw [if_pos j,if_pos j]
  rw [if_neg j,if_neg j];have o:=((uh T).1 c).2
  have e:T.nodes.all (Mist.sized T)=T.nodes.all (kg T):=by
   rw [aiu,aiD,aiD]
   have m:∀ n ∈ T.nodes,Mist.sized T n=kg T n:=fun n a=>by
    obtain⟨i,hi,rfl⟩:=List.getElem_of_mem a
    have:=YV (o i hi)
    rwa [jX (aip hi)] at this
   constructor
   ·intro h n a;rw [← m n a];exact h n a
   ·intro h n a;rw [m n a];exact h n a
  have g:=Kz T;rw [e] at g
  cases l:T.nodes.all (kg T)
  ·rw [l] at g
   rw [if_pos (of_decide_eq_true (by simpa using g)),if_pos rfl]
  ·rw [l] at g
   rw [if_neg (of_decide_eq_false (by simpa using g)),if_neg (by simp)]
 ·have k:lg T=false:=by simpa using c
  rw [if_pos k];by_cases h1:(List.range T.nodes.length).all (Mist.formed T)=true
  ·rw [if_neg (by rw [h1];simp)];have h23:¬ (Mist.ordered T=true∧Mist.signed T=true):=fun h=>c (b.1 ⟨h1,h.1,h.2⟩)
   rw [if_pos]
   cases q:Mist.ordered T <;> cases r:Mist.signed T <;> simp_all
  ·rw [if_pos (by simpa using h1)]
end
section
open Go.RowKit Mist
attribute [local go_sem] au aN aV aM aG
theorem Il {T:Tr}{xs:List NV}(c:T.nodes=aj xs)(u:Wf T.nodes)(r:∀ i,i < T.nodes.length→gV T i=true){i:Nat}{x:NV}(o:xs[i]? = some x):IY xs x.1:=by
 intro t;have hi:i < T.nodes.length:=by rw [c,bW];exact (aiq.1 o).1
 have hnd:nd T i=x.1:=jX (by rw [c];exact jd o);have h:=r i hi;rw [rP,hnd] at h
 simp only [aiE,aiD,List.mem_range] at h
 obtain⟨⟨_,k⟩,w⟩:=h;unfold Bw at k
 simp only [aiE] at k
 have f:=k.1.1.2;rw [Ku] at f
 have B:x.1.kids.length=2:=by
  unfold manyN at f
  simpa [t] using f
 have one:∀ j,j < 2→∃ (p:Nat) (y:NV),x.1.kids[j]? = some (p:Int)∧xs[p]? = some y∧(-100000≤y.1.n∧y.1.n≤100000):=by
  intro j A;obtain⟨q,m⟩:∃ q,x.1.kids[j]? = some q:=⟨_,aip (by omega)⟩;have C:=u i x.1 (by rw [c];exact jd o) q (aiy m);obtain⟨p,rfl⟩:∃ p:Nat,q=(p:Int):=⟨q.toNat,by omega⟩;have l:p < T.nodes.length:=by omega
  obtain⟨y,hy⟩:∃ y,xs[p]? = some y:=iG (by rw [c,bW] at l;exact l);have e:nd T p=y.1:=jX (by rw [c];exact jd hy);have a:=w j (by omega);unfold Dw at a
  rw [ait,m] at a
  simp only [Option.getD_some,aiC,e,aiE] at a
  have h1:y.1.kind=1:=by
   have:=a.1
   unfold jL at this
   simpa [t] using this
  have b:=r p l;rw [rP,e] at b
  simp only [aiE] at b
  have g:=b.1.2;unfold Bw at g
  simp only [aiE] at g
  have d:=g.1.2;unfold kG at d
  simp [h1,within] at d
  exact⟨p,y,m,hy,by omega⟩
 obtain⟨p,y,h1,h2,h3⟩:=one 0 (by omega);obtain⟨q,z,h4,h5,h6⟩:=one 1 (by omega);exact⟨p,q,y,z,h1,h4,h2,h5,h3,h6⟩
theorem JJ {T:Tr}(h:lg T=true):(∀ i,i < T.nodes.length→gV T i=true)∧Wf T.nodes:=by
 obtain⟨a,h2⟩:=(uh T).1 h
 refine⟨h2,?_⟩
 obtain⟨b,_,h3⟩:=Cu.sizes a.fo;exact QH h3
theorem acG (A B:Option Addr)(c d:Nat)(xs:List NV)(a:List Int)(w:World)(hT:lJ w A B xs a)(hn:xs.length≤10000)(hm:a.length≤10000)(hl:∀ x ∈ xs,x.1.text.length≤100000000) :
  Calls Tryz.prog 68 #[.agg #[.slice A xs.length c,.slice B a.length d]] w fun e w'=>e=.returned (.int .i64 (jP ⟨aj xs,a⟩))∧Below w.heap.size w w':=by
 have P:=O fun W (S:Below w.heap.size w W)=>TY A B c d xs a W (hT.below S) hn hm hl
 have LJ:=O fun W (S:Below w.heap.size w W) hW=>Ii A B c a.length d xs a W (hT.below S) hW (by omega)
 have Y:=O fun W (S:Below w.heap.size w W) i x X hC=>OM A B c a.length d i xs a x W (hT.below S) X hn hC
 obtain⟨T,Z⟩:∃ T:Tr,T=⟨aj xs,a⟩:=⟨_,rfl⟩;rw [← Z] at P Y ⊢
 have K:=O (show T.nodes=aj xs by rw [Z]);have Rf:=O (show T.nodes.length=xs.length by rw [Z];exact bW xs);have Q:=O (show Mist.large T=(decide (800 < xs.length) || decide (60 < a.length)) by rw [Z];unfold Mist.large;simp only [bW]);clear Z hl hT;obtain⟨n,I⟩:∃ n,n=xs.length:=⟨_,rfl⟩;obtain⟨m,U⟩:∃ m,m=a.length:=⟨_,rfl⟩;rw [← I] at P LJ Y Rf Q hn ⊢
 rw [← U] at P LJ Y Q hm ⊢
 have HN:=O I;clear I;clear U;have t:=O (aZ.new w 25 #[.slice A n c,.slice B m d]);have q:=O (aF (Below.refl w.heap.size w) (aiv _) (o:=.cells #[.slice A n c,.slice B m d] 25));go_in
 by_cases h1:800 < n
 ·have d1:decide (800 < n)=true:=aiG h1;have d1':decide ((800:Int) < (n:Int))=true:=aiG (by omega);have g:=O (show jP T=5 by unfold jP;rw [if_pos (by rw [Q.o,d1];rfl)]);go_wp2_with fail;go_ret;exact⟨by rw [g.o];rfl,q.o⟩
 have d1:decide (800 < n)=false:=aiH h1;have d1':decide ((800:Int) < (n:Int))=false:=aiH (by omega);by_cases h2:60 < m
 ·have d2:decide (60 < m)=true:=aiG h2;have d2':decide ((60:Int) < (m:Int))=true:=aiG (by omega);have g:=O (show jP T=5 by unfold jP;rw [if_pos (by rw [Q.o,d1,d2];rfl)]);go_wp2_with fail;go_ret;exact⟨by rw [g.o];rfl,q.o⟩
 have d2:decide (60 < m)=false:=aiH h2;have d2':decide ((60:Int) < (m:Int))=false:=aiH (by omega);have E:=O (show ¬ Mist.large T=true by rw [Q.o,d1,d2];simp)
 cases G:lg T
 ·have g:=O (show jP T=4 by unfold jP;rw [if_neg E.o,if_pos G]);have Gn:=O G;clear G;go_wp2_with fail;refine (P.o _ q.o).mono ?_;rintro e w1⟨rfl,h⟩;rw [Gn.o];go_wp2_with fail;go_ret;exact⟨by rw [g.o];rfl,q.o.trans (h.mono q.o.size)⟩
 obtain⟨b,V⟩:=JJ G;have HRI:=O b;have Co:=O V;have Gn:=O G;have M:=O (show ¬ lg T=false by rw [G];simp);clear G b V;have HDT:=O (show iT (aj xs)=oH T by unfold oH;rw [K.o]);go_wp2_with fail;refine (P.o _ q.o).mono ?_;rintro e w1⟨rfl,h⟩;rw [Gn.o];have f:=O (t.o.below h t.o.lt);have rA:=O (q.o.trans (h.mono q.o.size));clear h t q;have t0:=f.o.cell 0;have t1:=f.o.cell 1;go_wp2_with fail;refine (LJ.o _ rA.o (by rw [← K.o];exact Co.o)).mono ?_;rintro e w2⟨rfl,F⟩;rw [HDT.o];have L:=O (f.o.below F f.o.lt);have C:=O (rA.o.trans (F.mono rA.o.size));clear F f rA t0 t1;obtain⟨D,R⟩:∃ D,D=oH T:=⟨_,rfl⟩;rw [← R];by_cases J:30 < D
 ·have d3:decide (30 < D)=true:=aiG J;have g:=O (show jP T=5 by unfold jP;rw [if_neg E.o,if_neg M.o,if_pos (by rw [← R];exact J)]);clear R J;go_wp2_with fail;go_ret;exact⟨by rw [g.o];rfl,C.o⟩
 have d3:decide (30 < D)=false:=aiH J;have N:=O (show jP T=if T.nodes.all (kg T)=false then 3 else 0 by unfold jP;rw [if_neg E.o,if_neg M.o,if_neg (by rw [← R];exact J)]);clear R J;go_wp2_with fail;go_loopw [3] (fun i wr=>∃ k:Nat,k≤n∧i=.int .i64 k∧Hid (∀ (j:Nat) y,j < k→xs[j]? = some y→kg T y.1=true)∧Hid (aZ wr w.heap.size 25 #[.slice A n c,.slice B m d])∧Hid (Below w.heap.size w wr)) (fun i _=>n - (intOf i).toNat)
 case atStart=>exact⟨0,aix _,rfl,O (fun j y hj=>by omega),L,C⟩
 case round =>
  clear L C;obtain⟨k,hk,rfl,HK,HB,u⟩:=hrel;have t0:=HB.o.cell 0;have t1:=HB.o.cell 1;by_cases H:k < n
  ·have i3:decide (k < n)=true:=aiG H;obtain⟨x,X⟩:∃ x,xs[k]? = some x:=iG (by rw [← HN.o];exact H);have HC:=O (Il K.o Co.o HRI.o X);have HX:=O X;clear X
   cases l:kg T x.1
   ·have g:=O (show jP T=3 by
     rw [N.o,if_pos];rw [List.all_eq_false];exact⟨x.1,by rw [K.o];exact aiy (jd HX.o),by rw [l];simp⟩)
    have Gu:=O l;clear l;go_wp2_with fail;refine (Y.o _ u.o k x HX.o HC.o).mono ?_;rintro e w3⟨rfl,r⟩;rw [Gu.o];go_wp2_with fail;go_ret;exact⟨by rw [g.o];rfl,u.o.trans (r.mono u.o.size)⟩
   ·have Gu:=O l;clear l;go_wp2_with fail;refine (Y.o _ u.o k x HX.o HC.o).mono ?_;rintro e w3⟨rfl,r⟩;rw [Gu.o];go_wp2_with fail
    exact⟨⟨k+1,by omega,by go_num,O (fun j y hj hy=>by
     by_cases hjk:j=k
     ·subst hjk;obtain rfl:=aiB (hy.symm.trans HX.o);exact Gu.o
     ·exact HK.o j y (by omega) hy),O (HB.o.below r HB.o.lt),O (u.o.trans (r.mono u.o.size))⟩,by simp [intOf];omega⟩
  ·have i3:decide (k < n)=false:=aiH H
   have g:=O (show jP T=0 by
    rw [N.o,if_neg];rw [Bool.not_eq_false,aiD];intro y hy;rw [K.o] at hy
    obtain⟨z,hz,rfl⟩:=List.mem_map.1 hy;obtain⟨j,hj,hjz⟩:=List.mem_iff_getElem.1 hz;exact HK.o j z (by rw [← HN.o] at hj;omega) (by rw [← hjz];exact aip hj))
   go_wp2_with fail;go_ret;exact⟨by rw [g.o];rfl,u.o⟩
structure JS (g:Nat) (w:World) (tb:Nat) (nv iv:Value) (xs:List NV) (its:List Int):Prop where
 blk:aZ w tb 25 #[nv,iv]
 lo:tb < g
 own:w.ownsRow g 39 5 nv xs.length (jH xs)
 kids:∀ x ∈ xs,w.ownsRow g 3 1 x.2 x.1.kids.length (intCells x.1.kids)
 row:w.ownsRow g 3 1 iv its.length (intCells its)
 far:∀ x ∈ xs,x.2.ownBlock=none∨x.2.ownBlock ≠ iv.ownBlock
theorem JS.below {g:Nat}{w c:World}{tb:Nat}{nv iv:Value}{xs:List NV}{a:List Int}(h:JS g w tb nv iv xs a)(b:Below w.heap.size w c):JS g c tb nv iv xs a :=
 ⟨h.blk.below b h.blk.lt,h.lo,own_below h.own b,fun x d=>own_below (h.kids x d) b,own_below h.row b,h.far⟩
theorem JS.add {g:Nat}{w w1:World}{tb:Nat}{nv l7 iv:Value}{xs:List NV}{c:List Int}{x:NV}(h:JS g w tb nv iv xs c)(f:w.grownBy w1 nv.ownBlock)(a:w1.ownsRow g 39 5 l7 (xs.length+1) (jH xs ++ gu x))(b:w.ownsRow g 3 1 x.2 x.1.kids.length (intCells x.1.kids))(i:x.2.ownBlock=none∨x.2.ownBlock ≠ iv.ownBlock):JS g (w1.setCell ⟨tb,0,none⟩ l7) tb l7 iv (xs ++ [x]) c:=by
 have d:=h.blk.grown f (fun e=>bJ h.own h.blk (by decide) e.symm)
 have keep:∀ {v:Value} {n:Nat} {cs:List Value},w.ownsRow g 3 1 v n cs→(w1.setCell ⟨tb,0,none⟩ l7).ownsRow g 3 1 v n cs:=fun b =>
  ownsRow_setCell_other (b.kept f (eT b h.own (by decide))) (bJ (b.kept f (eT b h.own (by decide))) d (by decide)) _
 refine⟨?_,h.lo,?_,fun y hy=>?_,keep h.row,fun y hy=>?_⟩
 ·have:=d.jD 0 l7;simpa using this
 ·rw [aiA,rH];have e:jH [x]=gu x:=by simp [jH]
  rw [e];exact ownsRow_setCell_other a (bJ a d (by decide)) _
 ·rcases List.mem_append.1 hy with hy | hy
  ·exact keep (h.kids y hy)
  ·rw [List.mem_singleton.1 hy];exact keep b
 ·rcases List.mem_append.1 hy with hy | hy
  ·exact h.far y hy
  ·rw [List.mem_singleton.1 hy];exact i
theorem JS.item {g:Nat}{w w1:World}{tb:Nat}{nv iv Qg:Value}{xs:List NV}{a:List Int}{q:Int}(h:JS g w tb nv iv xs a)(i:w.grownBy w1 iv.ownBlock)(c:w1.ownsRow g 3 1 Qg (a.length+1) (intCells a ++ [.int .i64 q]))(f:Qg.ownBlock=iv.ownBlock∨Qg.ownBlock=some w.heap.size):JS g (w1.setCell ⟨tb,1,none⟩ Qg) tb nv Qg xs (a ++ [q]):=by
 have d:=h.blk.grown i (fun e=>bJ h.row h.blk (by decide) e.symm);have l:=h.own.kept i (eT h.own h.row (by decide))
 refine⟨?_,h.lo,ownsRow_setCell_other l (bJ l d (by decide)) _,fun y hy=>?_,?_,fun y hy=>?_⟩
 ·have:=d.jD 1 Qg;simpa using this
 ·have k:=(h.kids y hy).kept i (h.far y hy);exact ownsRow_setCell_other k (bJ k d (by decide)) _
 ·rw [aiA,iU];exact ownsRow_setCell_other c (bJ c d (by decide)) _
 ·rcases f with e | e
  ·rw [e];exact h.far y hy
  ·rcases h9:y.2.ownBlock with _ | b
   ·exact .inl rfl
   ·right
    rw [e];intro j
    have:=((h.kids y hy).lt b h9).2
    injection j with j
    omega
end
