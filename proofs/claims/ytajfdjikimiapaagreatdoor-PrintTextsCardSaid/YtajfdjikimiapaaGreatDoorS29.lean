/-
  A part of the proof.
-/
import Derived.Test.YtajfdjikimiapaaGreatDoorS28
set_option linter.all false
set_option maxRecDepth 100000
set_option maxHeartbeats 40000000
set_option linter.all false
namespace Go.Proofs.YtajfdjikimiapaaGreatDoor
section
open Go.RowKit Mist
attribute [local go_sem] au aN aV aM aG
section
variable {w0:World} {Q:Exit→Act→World→Prop} {E:Operand→SV} {o:Oper}
theorem Ca (h:o.op=.buildSlice 65 0 #[]):iP Tryz.prog w0 Q E o (.bits []):=fun a w k j=>by
 obtain⟨l,b,g,e,i⟩:=info_parts tY
 have f:(Instr.buildSlice 65 0 #[]).run Tryz.prog w=.ok (.slice (some ⟨w.heap.size,0,none⟩) 0 0) (w.alloc (.cells #[] 69)):=by
  simp only [Instr.buildSlice,Sem.run_bind,run_underlying Tryz.underlying65,Result.andThen_ok,sizeOf,typeInfo];simp [b,e,Instr.fill,newRow,newObj]
  rw [show (Array.range 0)=(#[]:Array Nat) by simp];simp only [Array.map_empty];rfl
 unfold Oper.wp execOp;simp only [h,Sem.run_bind];simp only [Array.map_empty];rw [f];exact⟨_,rfl,⟨_,_,rfl,⟨fun h=>by simp at h⟩⟩,(Below.refl _ _).alloc (aiv _) _⟩
end
theorem BW.l3 {w W0 w1:World}{K:Option Addr}{b kc:Nat}{x:Nd}{tv:Array Value}(h:BW w W0 w1 tv K b kc x):∀ a,Below w1.heap.size w1 a→(Instr.loadAt 23 (.pointer (some ⟨w.heap.size+1,3,none⟩))).run Tryz.prog a=.ok (.slice K b kc) a:=by
 intro a e;have f:=(h.n.below e h.n.lt).cell 3;go_simp
theorem WI {L M:List Pz}{v:Value}{w:World}(h:kJ (.bits L) v w)(e:(L ++ [dK [59]]).map bt=M.map bt)(f:L.length≤9000000):∃ R A c,v=.slice A R.length c∧jI w A R∧(R ++ [dK [59]]).map bt=M.map bt∧R.length≤9000000:=by
 obtain⟨A,c,a,b⟩:=h;exact⟨L,A,c,a,b,e,f⟩
theorem nL {W0 w:World}{A Bi:Option Addr}{n c m d i f:Nat}{xs:List NV}{its:List Int}{x:NV}(hT:lJ W0 A Bi xs its)(hn:xs.length=n)(hx:xs[i]? = some x)(X:BX W0 A Bi n c m d i ⟨aj xs,its⟩ (ah ⟨aj xs,its⟩ f) x.1)(hw:Below W0.heap.size W0 w)(h:x.1.kind=40∧x.1.kids.length=2∨x.1.kind=41∨x.1.kind=43∧x.1.kids.length=1∨x.1.kind=44∧x.1.kids.length=1∨x.1.kind=45):Calls Tryz.prog 89 #[.agg #[.slice A n c,.slice Bi m d],.int .i64 (i:Nat)] w (BR (aW ⟨aj xs,its⟩ (ah ⟨aj xs,its⟩ f) i) w):=by
 obtain⟨b,o,Ka,kc,G,rfl,k0,k1,k2,k3,k4,hbl,y0,y1,y,C,q,W,Z⟩:=jr c m d hT hn hx X hw;have F:=O X;rw [← C.o] at h
 clear hT hn hx X hw;go_in
 go_upto_region 2 with (fail)
 have e:=O (Z.o.below (Below.refl _ _).drew);refine dx 166 (by kernel_rfl) rfl (by kernel_rfl) (out:=?oa) ?ra ?fa
 case ra =>
  simp only [List.map_cons,List.map_nil];refine .cons (lN rfl rfl (rF _ _ (by decide))) ?_;refine .cons (d_ rfl rfl e.o.l3) ?_;refine .cons (O9 (t:=23) rfl rfl rfl (by kernel_rfl)) ?_;refine .cons (lN rfl rfl (rF _ _ (by decide))) ?_;refine .cons (d_ rfl rfl e.o.l1) ?_;refine .cons (ss [x.1.text] rfl ⟨rfl,rfl⟩ (by decide) rfl) ?_;refine .cons (stt rfl rfl rfl) ?_;refine .cons (sF rfl rfl (hlo 0 (by simp))) ?_;refine .cons (Ca rfl) ?_;refine .cons (dL (.v (.int .i64 (G:Nat))) (.inr rfl) rfl) ?_;refine .cons (dL (.bits (aH true [dK x.1.text])) (.inr rfl) rfl) ?_;refine .cons (dL (.bits []) (.inr rfl) rfl) ?_;exact .nil
 intro fv w2 g L;have e6:fv 9=.int .i64 (G:Nat):=g 9 (by decide);obtain⟨A7,c7,e7,K⟩:kJ (.bits (aH true [dK x.1.text])) (fv 10) w2:=g 10 (by decide);obtain⟨A8,c8,e8,V⟩:kJ (.bits []) (fv 11) w2:=g 11 (by decide);have J:=O K;have k:=O (Z.o.below L);simp only [List.map_cons,List.map_nil,jC,Act.put,ail,ain,aio,e6,e7,e8];clear g L K V e6 e7 e8 e;have P:=k.o.n.cell 0;rcases h with ⟨h,D⟩ | h | ⟨h,D⟩ | ⟨h,D⟩ | h
 focus
  have a:=O D;have j:=O (xU (T:=⟨aj xs,its⟩) (B:=ah ⟨aj xs,its⟩ f) (i:=i) (by rw [y.o];exact h));rw [y.o] at j
  rw [h] at P
  clear h D;go_upto_region 5 with (fail)
  have e:=O (k.o.below (Below.refl _ _).drew);refine dx 166 (by kernel_rfl) rfl (by kernel_rfl) (out:=?o40) ?r40 ?f40
  case r40 =>
   simp only [List.map_cons,List.map_nil];refine .cons (ss [[99,104,111,111,115,101]] rfl ⟨rfl,rfl⟩ (by decide) rfl) ?_;refine .cons (stt rfl rfl rfl) ?_;refine .cons (nN (.inl rfl) rfl rfl (J.o.below (Below.refl _ _).drew)) ?_;refine .cons (ss [[58]] rfl ⟨rfl,rfl⟩ (by decide) rfl) ?_;refine .cons (stt rfl rfl rfl) ?_;refine .cons (d_ rfl rfl e.o.lT) ?_;refine .cons (dL (.v (.int .i64 (i:Nat))) (.inl rfl) rfl) ?_;refine .cons (o7 rfl rfl rfl rfl (by decide) (F.o.kids _ (by have:=C.o;have:=a.o;simp;omega)) e.o.b0) ?_;refine .cons (sF rfl rfl (hlo 0 (by first|(simp;done) | exact q.o _ (by have:=a.o;simp;omega)))) ?_;refine .cons (ss [[46,46]] rfl ⟨rfl,rfl⟩ (by decide) rfl) ?_;refine .cons (stt rfl rfl rfl) ?_;refine .cons (d_ rfl rfl e.o.lT) ?_;refine .cons (dL (.v (.int .i64 (i:Nat))) (.inl rfl) rfl) ?_;refine .cons (o7 rfl rfl rfl rfl (by decide) (F.o.kids _ (by have:=C.o;have:=a.o;simp;omega)) e.o.b0) ?_;refine .cons (sr [[dK [99,104,111,111,115,101]],aH true [dK x.1.text],[dK [58]],aH true (bM ⟨aj xs,its⟩ (ah ⟨aj xs,its⟩ f) i 0),[dK [46,46]],bM ⟨aj xs,its⟩ (ah ⟨aj xs,its⟩ f) i 1] rfl ⟨rfl,rfl⟩ (by decide) rfl) ?_;refine .cons (yI rfl rfl rfl (by have:=q.o 0 (by have:=a.o;omega);have:=q.o 1 (by have:=a.o;omega);simp [ak];omega)) ?_;refine .cons (fM (.inr rfl)) ?_;exact .nil
  intro fv U g u;obtain⟨R,S,c5,l,H,I,r⟩:=WI (M:=aW ⟨aj xs,its⟩ (ah ⟨aj xs,its⟩ f) i) (g 16 (by decide)) (by rw [j.o,F.o.tight 1 (by have:=a.o;have:=C.o;omega)];simp [bt,dK,tz,lz,aH]) (by have:=q.o 0 (by have:=a.o;omega);have:=q.o 1 (by have:=a.o;omega);simp [ak];omega);simp only [List.map_cons,List.map_nil,jC,Act.put,ail,ain,aio,l];clear g l a j e
 rotate_left
 focus
  have a:=O (aix G);have j:=O (xV (T:=⟨aj xs,its⟩) (B:=ah ⟨aj xs,its⟩ f) (i:=i) (by rw [y.o];exact h));rw [y.o,← C.o] at j
  rw [h] at P
  clear h;go_upto_region 7 with (fail)
  have e:=O (k.o.below (Below.refl _ _).drew);refine dx 166 (by kernel_rfl) rfl (by kernel_rfl) (out:=?o41) ?r41 ?f41
  case r41 =>
   simp only [List.map_cons,List.map_nil];refine .cons (ss [[116,121,112,101]] rfl ⟨rfl,rfl⟩ (by decide) rfl) ?_;refine .cons (stt rfl rfl rfl) ?_;refine .cons (nN (.inl rfl) rfl rfl (J.o.below (Below.refl _ _).drew)) ?_;refine .cons (ss [[61]] rfl ⟨rfl,rfl⟩ (by decide) rfl) ?_;refine .cons (stt rfl rfl rfl) ?_;refine .cons (sF rfl rfl (hlo 0 (by first|(simp;done) | exact q.o _ (by have:=a.o;simp;omega)))) ?_;refine .cons (ss [[123]] rfl ⟨rfl,rfl⟩ (by decide) rfl) ?_;refine .cons (stt rfl rfl rfl) ?_;refine .cons (sF rfl rfl (hlo 0 (by first|(simp;done) | exact q.o _ (by have:=a.o;simp;omega)))) ?_;refine .cons (d_ rfl rfl e.o.lT) ?_;refine .cons (dL (.v (.int .i64 (i:Nat))) (.inl rfl) rfl) ?_;refine .cons (dL (.v (.int .i64 (G:Nat))) (.inl rfl) rfl) ?_;refine .cons (O_ rfl rfl rfl rfl rfl (F.o.many _ (by have:=C.o;omega)) e.o.b0) ?_;refine .cons (ss [[125]] rfl ⟨rfl,rfl⟩ (by decide) rfl) ?_;refine .cons (stt rfl rfl rfl) ?_;refine .cons (sr [[dK [116,121,112,101]],aH true [dK x.1.text],aH true ([dK [61]]),aH true ([dK [123]]),dD ⟨aj xs,its⟩ (ah ⟨aj xs,its⟩ f) i G,[dK [125]]] rfl ⟨rfl,rfl⟩ (by decide) rfl) ?_;refine .cons (yI rfl rfl rfl (by have:=W.o;simp [ak];omega)) ?_;refine .cons (fM (.inr rfl)) ?_;exact .nil
  intro fv U g u;obtain⟨R,S,c5,l,H,I,r⟩:=WI (M:=aW ⟨aj xs,its⟩ (ah ⟨aj xs,its⟩ f) i) (g 17 (by decide)) (by rw [j.o,F.o.Ei G (by rw [C.o];exact aiv _)];simp [bt,dK,tz,lz,aH]) (by have:=W.o;simp [ak];omega);simp only [List.map_cons,List.map_nil,jC,Act.put,ail,ain,aio,l];clear g l a j e
 rotate_left
 focus
  have a:=O D;have j:=O (xX (T:=⟨aj xs,its⟩) (B:=ah ⟨aj xs,its⟩ f) (i:=i) (by rw [y.o];exact h));rw [y.o] at j
  rw [h] at P
  clear h D;go_upto_region 14 with (fail)
  have e:=O (k.o.below (Below.refl _ _).drew);refine dx 166 (by kernel_rfl) rfl (by kernel_rfl) (out:=?o43) ?r43 ?f43
  case r43 =>
   simp only [List.map_cons,List.map_nil];refine .cons (ss [[108,101,116]] rfl ⟨rfl,rfl⟩ (by decide) rfl) ?_;refine .cons (stt rfl rfl rfl) ?_;refine .cons (nN (.inl rfl) rfl rfl (J.o.below (Below.refl _ _).drew)) ?_;refine .cons (ss [[61]] rfl ⟨rfl,rfl⟩ (by decide) rfl) ?_;refine .cons (stt rfl rfl rfl) ?_;refine .cons (sF rfl rfl (hlo 0 (by first|(simp;done) | exact q.o _ (by have:=a.o;simp;omega)))) ?_;refine .cons (d_ rfl rfl e.o.lT) ?_;refine .cons (dL (.v (.int .i64 (i:Nat))) (.inl rfl) rfl) ?_;refine .cons (o7 rfl rfl rfl rfl (by decide) (F.o.kids _ (by have:=C.o;have:=a.o;simp;omega)) e.o.b0) ?_;refine .cons (sF rfl rfl (hlo 0 (by first|(simp;done) | exact q.o _ (by have:=a.o;simp;omega)))) ?_;refine .cons (sr [[dK [108,101,116]],aH true [dK x.1.text],aH true ([dK [61]]),aH true (bM ⟨aj xs,its⟩ (ah ⟨aj xs,its⟩ f) i 0)] rfl ⟨rfl,rfl⟩ (by decide) rfl) ?_;refine .cons (yI rfl rfl rfl (by have:=q.o 0 (by have:=a.o;omega);simp [ak];omega)) ?_;refine .cons (fM (.inr rfl)) ?_;exact .nil
  intro fv U g u;obtain⟨R,S,c5,l,H,I,r⟩:=WI (M:=aW ⟨aj xs,its⟩ (ah ⟨aj xs,its⟩ f) i) (g 12 (by decide)) (by rw [j.o];simp [bt,dK,tz,lz,aH]) (by have:=q.o 0 (by have:=a.o;omega);simp [ak];omega);simp only [List.map_cons,List.map_nil,jC,Act.put,ail,ain,aio,l];clear g l a j e
 rotate_left
 focus
  have a:=O D;have j:=O (xY (T:=⟨aj xs,its⟩) (B:=ah ⟨aj xs,its⟩ f) (i:=i) (by rw [y.o];exact h));rw [y.o] at j
  rw [h] at P
  clear h D;go_upto_region 16 with (fail)
  have e:=O (k.o.below (Below.refl _ _).drew);refine dx 166 (by kernel_rfl) rfl (by kernel_rfl) (out:=?o44) ?r44 ?f44
  case r44 =>
   simp only [List.map_cons,List.map_nil];refine .cons (ss [[111,98,115,101,114,118,101]] rfl ⟨rfl,rfl⟩ (by decide) rfl) ?_;refine .cons (stt rfl rfl rfl) ?_;refine .cons (nN (.inl rfl) rfl rfl (J.o.below (Below.refl _ _).drew)) ?_;refine .cons (ss [[58]] rfl ⟨rfl,rfl⟩ (by decide) rfl) ?_;refine .cons (stt rfl rfl rfl) ?_;refine .cons (d_ rfl rfl e.o.lT) ?_;refine .cons (dL (.v (.int .i64 (i:Nat))) (.inl rfl) rfl) ?_;refine .cons (o7 rfl rfl rfl rfl (by decide) (F.o.kids _ (by have:=C.o;have:=a.o;simp;omega)) e.o.b0) ?_;refine .cons (sF rfl rfl (hlo 0 (by first|(simp;done) | exact q.o _ (by have:=a.o;simp;omega)))) ?_;refine .cons (sr [[dK [111,98,115,101,114,118,101]],aH true [dK x.1.text],[dK [58]],aH true (bM ⟨aj xs,its⟩ (ah ⟨aj xs,its⟩ f) i 0)] rfl ⟨rfl,rfl⟩ (by decide) rfl) ?_;refine .cons (yI rfl rfl rfl (by have:=q.o 0 (by have:=a.o;omega);simp [ak];omega)) ?_;refine .cons (fM (.inr rfl)) ?_;exact .nil
  intro fv U g u;obtain⟨R,S,c5,l,H,I,r⟩:=WI (M:=aW ⟨aj xs,its⟩ (ah ⟨aj xs,its⟩ f) i) (g 11 (by decide)) (by rw [j.o];simp [bt,dK,tz,lz,aH]) (by have:=q.o 0 (by have:=a.o;omega);simp [ak];omega);simp only [List.map_cons,List.map_nil,jC,Act.put,ail,ain,aio,l];clear g l a j e
 rotate_left
 focus
  have a:=O (aix G);have j:=O (xZ (T:=⟨aj xs,its⟩) (B:=ah ⟨aj xs,its⟩ f) (i:=i) (by rw [y.o];exact h));rw [y.o] at j
  rw [h] at P
  clear h;go_upto_region 18 with (fail)
  have e:=O (k.o);refine eU 166 rfl (by kernel_rfl) (out:=?o45) ?r45 ?f45
  case r45 =>
   simp only [List.map_cons,List.map_nil];refine .cons (ss [[114,101,116,114,97,99,116]] rfl ⟨rfl,rfl⟩ (by decide) rfl) ?_;refine .cons (stt rfl rfl rfl) ?_;refine .cons (nN (.inl rfl) rfl rfl (J.o.below (Below.refl _ _))) ?_;refine .cons (sr [[dK [114,101,116,114,97,99,116]],aH true [dK x.1.text]] rfl ⟨rfl,rfl⟩ (by decide) rfl) ?_;refine .cons (yI rfl rfl rfl (by simp [ak])) ?_;refine .cons (fM (.inr rfl)) ?_;exact .nil
  intro fv U g u;obtain⟨R,S,c5,l,H,I,r⟩:=WI (M:=aW ⟨aj xs,its⟩ (ah ⟨aj xs,its⟩ f) i) (g 5 (by decide)) (by rw [j.o];simp [bt,dK,tz,lz,aH]) (by simp [ak]);simp only [List.map_cons,List.map_nil,jC,Act.put,ail,ain,aio,l];clear g l a j e
 rotate_left
 all_goals
  have BD:=O H;have Y:=O (k.o.below u);have Zt:=O r;have HR:=O I;clear u H r I J k;go_upto_region 21 with (fail)
  refine eU 166 rfl (by kernel_rfl) (out:=[.bits R,.strs [[59]],.bits ([[59]].map dK),.rows [R,[dK [59]]],.bits [R,[dK [59]]].flatten,.bits [R,[dK [59]]].flatten]) ?_ ?_
  ·simp only [List.map_cons,List.map_nil];refine .cons (nN (.inl rfl) rfl rfl (BD.o.below (Below.refl _ _))) ?_;refine .cons (ss [[59]] rfl ⟨rfl,rfl⟩ (by decide) rfl) ?_;refine .cons (stt rfl rfl rfl) ?_;refine .cons (sr [R,[dK [59]]] rfl ⟨rfl,rfl⟩ (by decide) rfl) ?_;refine .cons (yI rfl rfl rfl (by have:=Zt.o;simp;omega)) ?_;refine .cons (fM (.inr rfl)) ?_;exact .nil
  ·intro fv w5 g N;have HE:=O (kJ.re (g 5 (by decide)) (show _=(aW ⟨aj xs,its⟩ (ah ⟨aj xs,its⟩ f) i).map bt by rw [← HR.o];simp));have b_:=O (Y.o.b.trans (N.mono Y.o.b.size));simp only [List.map_cons,List.map_nil,jC,Act.put,ail,ain,aio];clear g N;go_wp2_with fail;go_ret;exact⟨_,rfl,HE.o,b_.o⟩
end
set_option linter.all false
section
open Go.RowKit Mist
attribute [local go_sem] au aN aV aM aG
theorem TN (w:World):Calls Tryz.prog 131 #[] w fun e a=>∃ v,e=.returned v∧kJ (.strs gG) v a∧Below w.heap.size w a:=by
 have b:=O fun (o:Obj)=>(Below.refl w.heap.size w).alloc (aiv _) o
 have f:=O (Ee w gG 9 9 rfl _ rfl);go_in
 go_wp2_with fail;go_ret;exact⟨_,rfl,f.o,b.o _⟩
section
variable {w0:World} {Q:Exit→Act→World→Prop} {E:Operand→SV} {o:Oper}
theorem stq {a:Array TypeId}(h:o.op=.call { callee:=.value (.func 131),args:=#[],argTypes:=a }):iP Tryz.prog w0 Q E o (.strs gG) :=
 nE h (fun args w=>by kernel_rfl) fun b w f e=>by
  rw [show ((#[]:Array Operand).map b)=#[] by simp];exact TN w
theorem ae8 {x y:Operand}{l:List Bs}{n:Int}(k:Nat)(h:o.op=.indexAddr 100 x y)(f:E x=.strs l)(g:E y=.v (.int .i64 n))(B:n=(k:Int))(t:k < l.length):iP Tryz.prog w0 Q E o (.cell (l.getD k [])):=mF fun a w e C=>by
 have h1:=e x (by rw [h];simp [Op.operands]);have h2:=e y (by rw [h];simp [Op.operands]);rw [f] at h1
 rw [g,B] at h2
 obtain⟨b,i,u,j⟩:=h1;have h2:a.eval y=.int .i64 (k:Int):=h2;obtain⟨q,r⟩:∃ q,q=l.length:=⟨_,rfl⟩;rw [← r] at i t
 have D:(0:Int)≤(k:Int):=by omega
 have F:(k:Int) < (q:Int):=by omega
 refine⟨.pointer (some ⟨b,k,none⟩),?_,b,k,rfl,u,j k _ (by rw [ait,aip (by omega)];rfl)⟩
 unfold execOp;simp only [h,i,h2];clear r j f g e;go_simp
theorem ae9 {x:Operand}{t:Bs}(h:o.op=.load 9 x)(e:E x=.cell t):iP Tryz.prog w0 Q E o (.v (.string (aU t))):=mF fun a w g i=>by
 have h1:=g x (by rw [h];simp [Op.operands]);rw [e] at h1
 obtain⟨b,j,f,l,k⟩:=h1
 refine⟨.string (aU t),?_,rfl⟩
 unfold execOp;simp only [h,f];go_simp
end
theorem SB {W0 w:World}{A Bi:Option Addr}{n c m d i f:Nat}{xs:List NV}{its:List Int}{x:NV}(V:lJ W0 A Bi xs its)(W:xs.length=n)(Z:xs[i]? = some x)(X:BX W0 A Bi n c m d i ⟨aj xs,its⟩ (ah ⟨aj xs,its⟩ f) x.1)(Y:Below W0.heap.size W0 w)(F:x.1.kind=46){k:Nat}(q:x.1.n=(k:Int))(K:k < 9):Calls Tryz.prog 89 #[.agg #[.slice A n c,.slice Bi m d],.int .i64 (i:Nat)] w (BR (aW ⟨aj xs,its⟩ (ah ⟨aj xs,its⟩ f) i) w):=by
 obtain⟨b,o,Ka,kc,j,rfl,k0,k1,k2,k3,k4,hbl,y0,y1,mg,U,L,D,H⟩:=jr c m d V W Z X Y;have HX:=O X;clear V W Z X Y;have I:=O (aix j);have l:=O q;clear q;have jl:=O (x9 (T:=⟨aj xs,its⟩) (B:=ah ⟨aj xs,its⟩ f) (i:=i) (by rw [mg.o];exact F));rw [mg.o,← U.o,l.o] at jl
 have nP:=O F;rw [F] at k0 H
 clear F;go_in
 go_upto_region 2 with (fail)
 have h:=O (H.o.below (Below.refl _ _).drew);refine dx 166 (by kernel_rfl) rfl (by kernel_rfl) (out:=?oa) ?ra ?fa
 case ra =>
  simp only [List.map_cons,List.map_nil];refine .cons (lN rfl rfl (rF _ _ (by decide))) ?_;refine .cons (d_ rfl rfl h.o.l3) ?_;refine .cons (O9 (t:=23) rfl rfl rfl (by kernel_rfl)) ?_;refine .cons (lN rfl rfl (rF _ _ (by decide))) ?_;refine .cons (d_ rfl rfl h.o.l1) ?_;refine .cons (ss [x.1.text] rfl ⟨rfl,rfl⟩ (by decide) rfl) ?_;refine .cons (stt rfl rfl rfl) ?_;refine .cons (sF rfl rfl (hlo 0 (by first|(simp;done) | exact D.o | exact L.o _ (by have:=I.o;simp;omega)))) ?_;refine .cons (Ca rfl) ?_;refine .cons (dL (.v (.int .i64 (j:Nat))) (.inr rfl) rfl) ?_;refine .cons (fM (.inr rfl)) ?_;refine .cons (dL (.bits []) (.inr rfl) rfl) ?_;exact .nil
 case fa =>
 intro fv w2 e u;have P:fv 9=.int .i64 (j:Nat):=e 9 (by decide);obtain⟨A7,c7,R,r⟩:kJ (.bits (aH true [dK x.1.text])) (fv 10) w2:=e 10 (by decide);obtain⟨A8,c8,S,J⟩:kJ (.bits []) (fv 11) w2:=e 11 (by decide);have mH:=O r;have g:=O (H.o.below u);simp only [List.map_cons,List.map_nil,jC,Act.put,ail,ain,aio,P,R,S];clear e u r J P R S h;have n0:=g.o.n.cell 0;rw [nP.o] at n0
 go_upto_region 20 with (fail)
 have h:=O (g.o.below (Below.refl _ _).drew)
 have a:([[dK [97,115,107]],aH true ([dK (gG.getD k [])]),aH true (dD ⟨aj xs,its⟩ (ah ⟨aj xs,its⟩ f) i j)].flatten).length≤9000000:=by
  have:=D.o;simp [ak]
  omega
 refine dx 166 (by kernel_rfl) rfl (by kernel_rfl) (out:=?ob) ?rb ?fb
 case rb =>
  simp only [List.map_cons,List.map_nil];refine .cons (ss [[97,115,107]] rfl ⟨rfl,rfl⟩ (by decide) rfl) ?_;refine .cons (stt rfl rfl rfl) ?_;refine .cons (stq rfl) ?_;refine .cons (lN rfl rfl (rF _ _ (by decide))) ?_;refine .cons (d_ rfl rfl h.o.l2) ?_;refine .cons (ae8 k rfl rfl rfl l.o K) ?_;refine .cons (ae9 rfl rfl) ?_;refine .cons (ss [gG.getD k []] rfl ⟨rfl,rfl⟩ (by decide) rfl) ?_;refine .cons (stt rfl rfl rfl) ?_;refine .cons (sF rfl rfl (hlo 0 (by first|(simp;done) | exact D.o | exact L.o _ (by have:=I.o;simp;omega)))) ?_;refine .cons (d_ rfl rfl h.o.lT) ?_;refine .cons (dL (.v (.int .i64 (i:Nat))) (.inl rfl) rfl) ?_;refine .cons (dL (.v (.int .i64 (j:Nat))) (.inl rfl) rfl) ?_;refine .cons (O_ rfl rfl rfl rfl rfl (HX.o.many _ (by have:=U.o;omega)) h.o.b0) ?_;refine .cons (sF rfl rfl (hlo 0 (by first|(simp;done) | exact D.o | exact L.o _ (by have:=I.o;simp;omega)))) ?_;refine .cons (sr [[dK [97,115,107]],aH true ([dK (gG.getD k [])]),aH true (dD ⟨aj xs,its⟩ (ah ⟨aj xs,its⟩ f) i j)] rfl ⟨rfl,rfl⟩ (by decide) rfl) ?_;refine .cons (yI rfl rfl rfl (Nat.le_trans a (by decide))) ?_;refine .cons (fM (.inr rfl)) ?_;exact .nil
 case fb =>
 intro fv w4 e y;obtain⟨A5,c5,N,M⟩:kJ (.bits ([[dK [97,115,107]],aH true ([dK (gG.getD k [])]),aH true (dD ⟨aj xs,its⟩ (ah ⟨aj xs,its⟩ f) i j)].flatten)) (fv 17) w4:=e 17 (by decide);have BD:=O M;have G:=O (g.o.below y);simp only [List.map_cons,List.map_nil,jC,Act.put,ail,ain,aio,N];clear e y M N h mH g;have Zt:=O a;clear a;go_upto_region 21 with (fail)
 have h:=O G.o
 have a:([[[dK [97,115,107]],aH true ([dK (gG.getD k [])]),aH true (dD ⟨aj xs,its⟩ (ah ⟨aj xs,its⟩ f) i j)].flatten,[dK [59]]].flatten).length≤10000000:=by
  rw [List.flatten_cons,aiA]
  have:=Zt.o
  simp at this ⊢
  omega
 refine eU 166 rfl (by kernel_rfl) (out:=?oc) ?rc ?fc
 case rc =>
  simp only [List.map_cons,List.map_nil];refine .cons (nN (.inl rfl) rfl rfl (BD.o.below (Below.refl _ _))) ?_;refine .cons (ss [[59]] rfl ⟨rfl,rfl⟩ (by decide) rfl) ?_;refine .cons (stt rfl rfl rfl) ?_;refine .cons (sr [[[dK [97,115,107]],aH true ([dK (gG.getD k [])]),aH true (dD ⟨aj xs,its⟩ (ah ⟨aj xs,its⟩ f) i j)].flatten,[dK [59]]] rfl ⟨rfl,rfl⟩ (by decide) rfl) ?_;refine .cons (yI rfl rfl rfl (Nat.le_trans a (by decide))) ?_;refine .cons (fM (.inr rfl)) ?_;exact .nil
 case fc =>
 intro fv w5 e C;have HE:=O (kJ.re (e 5 (by decide)) (show _=(aW ⟨aj xs,its⟩ (ah ⟨aj xs,its⟩ f) i).map bt by rw [jl.o];simp only [aiC];simp [bt,dK,tz,lz,aH]));have b_:=O (G.o.b.trans (C.mono G.o.b.size));simp only [List.map_cons,List.map_nil,jC,Act.put,ail,ain,aio];clear e C;go_wp2_with fail;go_ret;exact⟨_,rfl,HE.o,b_.o⟩
end
set_option linter.all false
section
open Go.RowKit Mist
attribute [local go_sem] au aN aV aM aG
theorem SA {W0 w:World}{A Bi:Option Addr}{n c m d i f:Nat}{xs:List NV}{its:List Int}{x:NV}(hT:lJ W0 A Bi xs its)(hn:xs.length=n)(hx:xs[i]? = some x)(X:BX W0 A Bi n c m d i ⟨aj xs,its⟩ (ah ⟨aj xs,its⟩ f) x.1)(hw:Below W0.heap.size W0 w){mp:Nat}(R:x.1.kind=42∧x.1.kids.length=mp+2)(hmp:mp≤1000000)(pQ:-9999≤x.1.n∧x.1.n≤9999):Calls Tryz.prog 89 #[.agg #[.slice A n c,.slice Bi m d],.int .i64 (i:Nat)] w (BR (aW ⟨aj xs,its⟩ (ah ⟨aj xs,its⟩ f) i) w):=by
 obtain⟨b,o,Ka,kc,r,rfl,k0,k1,k2,k3,k4,hbl,y0,y1,mg,F,q,Ck,dF⟩:=jr c m d hT hn hx X hw;have J:=O X;rw [← F.o] at R
 clear hT hn hx X hw;obtain⟨R,hl⟩:=R;have g:=O hl;have U:=O (xW (T:=⟨aj xs,its⟩) (B:=ah ⟨aj xs,its⟩ f) (i:=i) (by rw [mg.o];exact R));rw [mg.o,← F.o,g.o] at U
 simp only [Nat.add_sub_cancel,show mp+2 - 1=mp+1 from rfl] at U
 have nP:=O R;rw [R] at k0 dF
 clear R;have V:=O (J.o.lens mp (by rw [← F.o,g.o];omega));have W:=O (J.o.Ei mp (by rw [← F.o,g.o];omega));have D:=O (show (gI x.1.n (-1)).length≤1000000 by unfold gI;split <;> simp)
 have j:∀ (y z:Operand) (I:World),(do eqGuard BinOp.sub 3 y z (.int .i64 (r:Nat)) (.int .i64 2);binOp BinOp.sub 3 (.int .i64 (r:Nat)) (.int .i64 2):Sem Value).run Tryz.prog I=.ok (.int .i64 ((mp:Nat):Int)) I:=by
  intro y z I;rw [hl];have S:IntKind.i64.wrap (((mp+2:Nat):Int) - 2)=((mp:Nat):Int):=IntWalk.i64_in _ (by omega) |>.trans (by omega)
  exact Eq.trans (b:=.ok (.int .i64 (IntKind.i64.wrap (((mp+2:Nat):Int) - 2))) I) (by rfl) (by rw [S])
 have abO:∀ (y z:Operand) (I:World),(do eqGuard BinOp.sub 3 y z (.int .i64 (r:Nat)) (.int .i64 1);binOp BinOp.sub 3 (.int .i64 (r:Nat)) (.int .i64 1):Sem Value).run Tryz.prog I=.ok (.int .i64 ((mp+1:Nat):Int)) I:=by
  intro y z I;rw [hl];have S:IntKind.i64.wrap (((mp+2:Nat):Int) - 1)=((mp+1:Nat):Int):=IntWalk.i64_in _ (by omega) |>.trans (by omega)
  exact Eq.trans (b:=.ok (.int .i64 (IntKind.i64.wrap (((mp+2:Nat):Int) - 1))) I) (by rfl) (by rw [S])
 clear hl;go_in
 go_upto_region 2 with (fail)
 have e:=O (dF.o.below (Below.refl _ _).drew);refine dx 166 (by kernel_rfl) rfl (by kernel_rfl) (out:=?oa) ?ra ?fa
 case ra =>
  simp only [List.map_cons,List.map_nil];refine .cons (lN rfl rfl (rF _ _ (by decide))) ?_;refine .cons (d_ rfl rfl e.o.l3) ?_;refine .cons (O9 (t:=23) rfl rfl rfl (by kernel_rfl)) ?_;refine .cons (lN rfl rfl (rF _ _ (by decide))) ?_;refine .cons (d_ rfl rfl e.o.l1) ?_;refine .cons (ss [x.1.text] rfl ⟨rfl,rfl⟩ (by decide) rfl) ?_;refine .cons (stt rfl rfl rfl) ?_;refine .cons (sF rfl rfl (hlo 0 (by first|(simp;done) | exact D.o | exact q.o _ (by have:=g.o;simp;omega)))) ?_;refine .cons (Ca rfl) ?_;refine .cons (dL (.v (.int .i64 (r:Nat))) (.inr rfl) rfl) ?_;refine .cons (fM (.inr rfl)) ?_;refine .cons (dL (.bits []) (.inr rfl) rfl) ?_;exact .nil
 case fa =>
 intro fv w2 h hb2;have e6:fv 9=.int .i64 (r:Nat):=h 9 (by decide);obtain⟨A7,c7,e7,hB7⟩:kJ (.bits (aH true [dK x.1.text])) (fv 10) w2:=h 10 (by decide);obtain⟨A8,c8,e8,hB8⟩:kJ (.bits []) (fv 11) w2:=h 11 (by decide);have H:=O hB7;have G:=O (dF.o.below hb2);simp only [List.map_cons,List.map_nil,jC,Act.put,ail,ain,aio,e6,e7,e8];clear h hb2 hB7 hB8 e6 e7 e8 e;have n0:=G.o.n.cell 0;rw [nP.o] at n0
 go_upto_region 9 with (fail)
 have e:=O G.o;have HP:=H;refine eU 166 rfl (by kernel_rfl) (out:=?o9) ?r9 ?f9
 case r9 =>
  simp only [List.map_cons,List.map_nil];refine .cons (Ca rfl) ?_;refine .cons (dL (.bits []) (.inr rfl) rfl) ?_;exact .nil
 case f9 =>
 intro fv w3 h N;obtain⟨A9,c9,e9,Z⟩:kJ (.bits []) (fv 1) w3:=h 1 (by decide);have l:=O (G.o.below N);have Zn:=O (H.o.below N);have L:=O Z;simp only [List.map_cons,List.map_nil,jC,Act.put,ail,ain,aio,e9];clear h N Z e9 e H G n0 HP;have n2:=l.o.n.cell 2;by_cases M:0 < x.1.n
 ·have i3:decide (0 < x.1.n)=true:=aiG M;rw [if_pos M] at U
  have HNI:=O M;clear M;go_upto_region 11 with (fail)
  have e:=O (l.o.below (Below.refl _ _).drew)
  have a:([aH true ([dK [117,112,116,111]]),aH true (gI x.1.n (-1))].flatten).length≤9000000:=by
   have:=D.o;simp [ak]
   omega
  have hlu:([aH true ([dK [117,112,116,111]]),aH true (gI x.1.n (-1))].flatten).length≤1000000:=by unfold gI;split <;> simp [aH]
  refine dx 166 (by kernel_rfl) rfl (by kernel_rfl) (out:=?ou) ?ru ?fu
  case ru =>
   simp only [List.map_cons,List.map_nil];refine .cons (ss [[117,112,116,111]] rfl ⟨rfl,rfl⟩ (by decide) rfl) ?_;refine .cons (stt rfl rfl rfl) ?_;refine .cons (sF rfl rfl (hlo 0 (by first|(simp;done) | exact D.o | exact q.o _ (by have:=g.o;simp;omega)))) ?_;refine .cons (lN rfl rfl (rF _ _ (by decide))) ?_;refine .cons (d_ rfl rfl e.o.l2) ?_;refine .cons (sti rfl rfl pQ) ?_;refine .cons (sF rfl rfl (hlo 0 (by first|(simp;done) | exact D.o | exact q.o _ (by have:=g.o;simp;omega)))) ?_;refine .cons (sr [aH true ([dK [117,112,116,111]]),aH true (gI x.1.n (-1))] rfl ⟨rfl,rfl⟩ (by decide) rfl) ?_;refine .cons (yI rfl rfl rfl (Nat.le_trans a (by decide))) ?_;refine .cons (fM (.inr rfl)) ?_;exact .nil
  case fu =>
  intro fv w4 h P;obtain⟨A9,c9,e9,Z⟩:kJ (.bits ([aH true ([dK [117,112,116,111]]),aH true (gI x.1.n (-1))].flatten)) (fv 9) w4:=h 9 (by decide);have k:=O (l.o.below P);have H:=O (Zn.o.below P);have Vu:=O Z;simp only [List.map_cons,List.map_nil,jC,Act.put,ail,ain,aio,e9];clear h P Z e9 e Zn L l n2 a;have K:=O (show ([aH true ([dK [117,112,116,111]]),aH true (gI x.1.n (-1))].flatten:List Pz).length≤1000000 from hlu);go_upto_region 12 with (fail)
  have e:=O (k.o.below (Below.refl _ _).drew)
  have a:([[dK [102,117,110]],aH true [dK x.1.text],[dK [40]],dD ⟨aj xs,its⟩ (ah ⟨aj xs,its⟩ f) i mp,[dK [41],dK [58]],aH true (bM ⟨aj xs,its⟩ (ah ⟨aj xs,its⟩ f) i mp),[aH true ([dK [117,112,116,111]]),aH true (gI x.1.n (-1))].flatten,aH true ([dK [61]]),aH true (bM ⟨aj xs,its⟩ (ah ⟨aj xs,its⟩ f) i (mp+1))].flatten).length≤9000000:=by
   have:=V.o;have:=q.o mp (by have:=g.o;omega);have:=q.o (mp+1) (by have:=g.o;omega);have:=K.o;simp [ak] at *
   omega
  refine dx 166 (by kernel_rfl) rfl (by kernel_rfl) (out:=?ob1) ?rb1 ?fb1
  case rb1 =>
   simp only [List.map_cons,List.map_nil];refine .cons (ss [[102,117,110]] rfl ⟨rfl,rfl⟩ (by decide) rfl) ?_;refine .cons (stt rfl rfl rfl) ?_;refine .cons (nN (.inl rfl) rfl rfl (H.o.below (Below.refl _ _).drew)) ?_;refine .cons (ss [[40]] rfl ⟨rfl,rfl⟩ (by decide) rfl) ?_;refine .cons (stt rfl rfl rfl) ?_;refine .cons (d_ rfl rfl e.o.lT) ?_;refine .cons (dL (.v (.int .i64 (i:Nat))) (.inl rfl) rfl) ?_;refine .cons (dL (.v (.int .i64 (r:Nat))) (.inl rfl) rfl) ?_;refine .cons (zU rfl rfl rfl (j _ _)) ?_;refine .cons (O_ rfl rfl rfl rfl rfl (J.o.many _ (by have:=F.o;have:=g.o;omega)) e.o.b0) ?_;refine .cons (ss [[41],[58]] rfl ⟨rfl,rfl⟩ (by decide) rfl) ?_;refine .cons (stt rfl rfl rfl) ?_;refine .cons (d_ rfl rfl e.o.lT) ?_;refine .cons (dL (.v (.int .i64 (i:Nat))) (.inl rfl) rfl) ?_;refine .cons (dL (.v (.int .i64 (r:Nat))) (.inl rfl) rfl) ?_;refine .cons (zU rfl rfl rfl (j _ _)) ?_;refine .cons (o7 rfl rfl rfl rfl (by first | decide | omega) (J.o.kids _ (by have:=F.o;have:=g.o;simp;omega)) e.o.b0) ?_;refine .cons (sF rfl rfl (hlo 0 (by first|(simp;done) | exact D.o | exact q.o _ (by have:=g.o;simp;omega)))) ?_;refine .cons (nN (.inl rfl) rfl rfl (Vu.o.below (Below.refl _ _).drew)) ?_;refine .cons (ss [[61]] rfl ⟨rfl,rfl⟩ (by decide) rfl) ?_;refine .cons (stt rfl rfl rfl) ?_;refine .cons (sF rfl rfl (hlo 0 (by first|(simp;done) | exact D.o | exact q.o _ (by have:=g.o;simp;omega)))) ?_;refine .cons (d_ rfl rfl e.o.lT) ?_;refine .cons (dL (.v (.int .i64 (i:Nat))) (.inl rfl) rfl) ?_;refine .cons (dL (.v (.int .i64 (r:Nat))) (.inl rfl) rfl) ?_;refine .cons (zU rfl rfl rfl (abO _ _)) ?_;refine .cons (o7 rfl rfl rfl rfl (by first | decide | omega) (J.o.kids _ (by have:=F.o;have:=g.o;simp;omega)) e.o.b0) ?_;refine .cons (sF rfl rfl (hlo 0 (by first|(simp;done) | exact D.o | exact q.o _ (by have:=g.o;simp;omega)))) ?_;refine .cons (sr [[dK [102,117,110]],aH true [dK x.1.text],[dK [40]],dD ⟨aj xs,its⟩ (ah ⟨aj xs,its⟩ f) i mp,[dK [41],dK [58]],aH true (bM ⟨aj xs,its⟩ (ah ⟨aj xs,its⟩ f) i mp),[aH true ([dK [117,112,116,111]]),aH true (gI x.1.n (-1))].flatten,aH true ([dK [61]]),aH true (bM ⟨aj xs,its⟩ (ah ⟨aj xs,its⟩ f) i (mp+1))] rfl ⟨rfl,rfl⟩ (by decide) rfl) ?_;refine .cons (yI rfl rfl rfl (Nat.le_trans a (by decide))) ?_;refine .cons (fM (.inr rfl)) ?_;exact .nil
  case fb1 =>
  intro fv w6 h C;obtain⟨A5,c5,e5,Y⟩:kJ (.bits ([[dK [102,117,110]],aH true [dK x.1.text],[dK [40]],dD ⟨aj xs,its⟩ (ah ⟨aj xs,its⟩ f) i mp,[dK [41],dK [58]],aH true (bM ⟨aj xs,its⟩ (ah ⟨aj xs,its⟩ f) i mp),[aH true ([dK [117,112,116,111]]),aH true (gI x.1.n (-1))].flatten,aH true ([dK [61]]),aH true (bM ⟨aj xs,its⟩ (ah ⟨aj xs,its⟩ f) i (mp+1))].flatten)) (fv 30) w6:=h 30 (by decide);have BD:=O Y;have Ze:=O (k.o.below C);simp only [List.map_cons,List.map_nil,jC,Act.put,ail,ain,aio,e5];clear h C Y e5 e H Vu k;have k:=Ze;have Zt:=O a;clear a;go_upto_region 21 with (fail)
  have e:=O k.o
  have a:([[[dK [102,117,110]],aH true [dK x.1.text],[dK [40]],dD ⟨aj xs,its⟩ (ah ⟨aj xs,its⟩ f) i mp,[dK [41],dK [58]],aH true (bM ⟨aj xs,its⟩ (ah ⟨aj xs,its⟩ f) i mp),[aH true ([dK [117,112,116,111]]),aH true (gI x.1.n (-1))].flatten,aH true ([dK [61]]),aH true (bM ⟨aj xs,its⟩ (ah ⟨aj xs,its⟩ f) i (mp+1))].flatten,[dK [59]]].flatten).length≤10000000:=by
   rw [List.flatten_cons,aiA]
   have:=Zt.o
   simp at this ⊢
   omega
  refine eU 166 rfl (by kernel_rfl) (out:=?oc1) ?rc1 ?fc1
  case rc1 =>
   simp only [List.map_cons,List.map_nil];refine .cons (nN (.inl rfl) rfl rfl (BD.o.below (Below.refl _ _))) ?_;refine .cons (ss [[59]] rfl ⟨rfl,rfl⟩ (by decide) rfl) ?_;refine .cons (stt rfl rfl rfl) ?_;refine .cons (sr [[[dK [102,117,110]],aH true [dK x.1.text],[dK [40]],dD ⟨aj xs,its⟩ (ah ⟨aj xs,its⟩ f) i mp,[dK [41],dK [58]],aH true (bM ⟨aj xs,its⟩ (ah ⟨aj xs,its⟩ f) i mp),[aH true ([dK [117,112,116,111]]),aH true (gI x.1.n (-1))].flatten,aH true ([dK [61]]),aH true (bM ⟨aj xs,its⟩ (ah ⟨aj xs,its⟩ f) i (mp+1))].flatten,[dK [59]]] rfl ⟨rfl,rfl⟩ (by decide) rfl) ?_;refine .cons (yI rfl rfl rfl (Nat.le_trans a (by decide))) ?_;refine .cons (fM (.inr rfl)) ?_;exact .nil
  case fc1 =>
  intro fv w5 h u;have HE:=O (kJ.re (h 5 (by decide)) (show _=(aW ⟨aj xs,its⟩ (ah ⟨aj xs,its⟩ f) i).map bt by rw [U.o,W.o];simp only [show gI x.1.n (-1)=[tz (Go.Lib.itoa x.1.n) (-1)] by unfold gI;rw [if_neg (by have:=HNI.o;omega)]];simp [bt,dK,tz,lz,aH]));have b_:=O (k.o.b.trans (u.mono k.o.b.size));simp only [List.map_cons,List.map_nil,jC,Act.put,ail,ain,aio];clear h u;go_wp2_with fail;go_ret;exact⟨_,rfl,HE.o,b_.o⟩
 ·have i3:decide (0 < x.1.n)=false:=aiH M;rw [if_neg M] at U
  clear M;have k:=l;have H:=Zn;have Vu:=L;clear l Zn L;have K:=O (show ([]:List Pz).length≤1000000 from by simp);go_upto_region 12 with (fail)
  have e:=O (k.o.below (Below.refl _ _).drew)
  have a:([[dK [102,117,110]],aH true [dK x.1.text],[dK [40]],dD ⟨aj xs,its⟩ (ah ⟨aj xs,its⟩ f) i mp,[dK [41],dK [58]],aH true (bM ⟨aj xs,its⟩ (ah ⟨aj xs,its⟩ f) i mp),[],aH true ([dK [61]]),aH true (bM ⟨aj xs,its⟩ (ah ⟨aj xs,its⟩ f) i (mp+1))].flatten).length≤9000000:=by
   have:=V.o;have:=q.o mp (by have:=g.o;omega);have:=q.o (mp+1) (by have:=g.o;omega);have:=K.o;simp [ak] at *
   omega
  refine dx 166 (by kernel_rfl) rfl (by kernel_rfl) (out:=?ob2) ?rb2 ?fb2
  case rb2 =>
   simp only [List.map_cons,List.map_nil];refine .cons (ss [[102,117,110]] rfl ⟨rfl,rfl⟩ (by decide) rfl) ?_;refine .cons (stt rfl rfl rfl) ?_;refine .cons (nN (.inl rfl) rfl rfl (H.o.below (Below.refl _ _).drew)) ?_;refine .cons (ss [[40]] rfl ⟨rfl,rfl⟩ (by decide) rfl) ?_;refine .cons (stt rfl rfl rfl) ?_;refine .cons (d_ rfl rfl e.o.lT) ?_;refine .cons (dL (.v (.int .i64 (i:Nat))) (.inl rfl) rfl) ?_;refine .cons (dL (.v (.int .i64 (r:Nat))) (.inl rfl) rfl) ?_;refine .cons (zU rfl rfl rfl (j _ _)) ?_;refine .cons (O_ rfl rfl rfl rfl rfl (J.o.many _ (by have:=F.o;have:=g.o;omega)) e.o.b0) ?_;refine .cons (ss [[41],[58]] rfl ⟨rfl,rfl⟩ (by decide) rfl) ?_;refine .cons (stt rfl rfl rfl) ?_;refine .cons (d_ rfl rfl e.o.lT) ?_;refine .cons (dL (.v (.int .i64 (i:Nat))) (.inl rfl) rfl) ?_;refine .cons (dL (.v (.int .i64 (r:Nat))) (.inl rfl) rfl) ?_;refine .cons (zU rfl rfl rfl (j _ _)) ?_;refine .cons (o7 rfl rfl rfl rfl (by first | decide | omega) (J.o.kids _ (by have:=F.o;have:=g.o;simp;omega)) e.o.b0) ?_;refine .cons (sF rfl rfl (hlo 0 (by first|(simp;done) | exact D.o | exact q.o _ (by have:=g.o;simp;omega)))) ?_;refine .cons (nN (.inl rfl) rfl rfl (Vu.o.below (Below.refl _ _).drew)) ?_;refine .cons (ss [[61]] rfl ⟨rfl,rfl⟩ (by decide) rfl) ?_;refine .cons (stt rfl rfl rfl) ?_;refine .cons (sF rfl rfl (hlo 0 (by first|(simp;done) | exact D.o | exact q.o _ (by have:=g.o;simp;omega)))) ?_;refine .cons (d_ rfl rfl e.o.lT) ?_;refine .cons (dL (.v (.int .i64 (i:Nat))) (.inl rfl) rfl) ?_;refine .cons (dL (.v (.int .i64 (r:Nat))) (.inl rfl) rfl) ?_;refine .cons (zU rfl rfl rfl (abO _ _)) ?_;refine .cons (o7 rfl rfl rfl rfl (by first | decide | omega) (J.o.kids _ (by have:=F.o;have:=g.o;simp;omega)) e.o.b0) ?_;refine .cons (sF rfl rfl (hlo 0 (by first|(simp;done) | exact D.o | exact q.o _ (by have:=g.o;simp;omega)))) ?_;refine .cons (sr [[dK [102,117,110]],aH true [dK x.1.text],[dK [40]],dD ⟨aj xs,its⟩ (ah ⟨aj xs,its⟩ f) i mp,[dK [41],dK [58]],aH true (bM ⟨aj xs,its⟩ (ah ⟨aj xs,its⟩ f) i mp),[],aH true ([dK [61]]),aH true (bM ⟨aj xs,its⟩ (ah ⟨aj xs,its⟩ f) i (mp+1))] rfl ⟨rfl,rfl⟩ (by decide) rfl) ?_;refine .cons (yI rfl rfl rfl (Nat.le_trans a (by decide))) ?_;refine .cons (fM (.inr rfl)) ?_;exact .nil
  case fb2 =>
  intro fv w6 h C;obtain⟨A5,c5,e5,Y⟩:kJ (.bits ([[dK [102,117,110]],aH true [dK x.1.text],[dK [40]],dD ⟨aj xs,its⟩ (ah ⟨aj xs,its⟩ f) i mp,[dK [41],dK [58]],aH true (bM ⟨aj xs,its⟩ (ah ⟨aj xs,its⟩ f) i mp),[],aH true ([dK [61]]),aH true (bM ⟨aj xs,its⟩ (ah ⟨aj xs,its⟩ f) i (mp+1))].flatten)) (fv 30) w6:=h 30 (by decide);have BD:=O Y;have Ze:=O (k.o.below C);simp only [List.map_cons,List.map_nil,jC,Act.put,ail,ain,aio,e5];clear h C Y e5 e H Vu k;have k:=Ze;have Zt:=O a;clear a;go_upto_region 21 with (fail)
  have e:=O k.o
  have a:([[[dK [102,117,110]],aH true [dK x.1.text],[dK [40]],dD ⟨aj xs,its⟩ (ah ⟨aj xs,its⟩ f) i mp,[dK [41],dK [58]],aH true (bM ⟨aj xs,its⟩ (ah ⟨aj xs,its⟩ f) i mp),[],aH true ([dK [61]]),aH true (bM ⟨aj xs,its⟩ (ah ⟨aj xs,its⟩ f) i (mp+1))].flatten,[dK [59]]].flatten).length≤10000000:=by
   rw [List.flatten_cons,aiA]
   have:=Zt.o
   simp at this ⊢
   omega
  refine eU 166 rfl (by kernel_rfl) (out:=?oc2) ?rc2 ?fc2
  case rc2 =>
   simp only [List.map_cons,List.map_nil];refine .cons (nN (.inl rfl) rfl rfl (BD.o.below (Below.refl _ _))) ?_;refine .cons (ss [[59]] rfl ⟨rfl,rfl⟩ (by decide) rfl) ?_;refine .cons (stt rfl rfl rfl) ?_;refine .cons (sr [[[dK [102,117,110]],aH true [dK x.1.text],[dK [40]],dD ⟨aj xs,its⟩ (ah ⟨aj xs,its⟩ f) i mp,[dK [41],dK [58]],aH true (bM ⟨aj xs,its⟩ (ah ⟨aj xs,its⟩ f) i mp),[],aH true ([dK [61]]),aH true (bM ⟨aj xs,its⟩ (ah ⟨aj xs,its⟩ f) i (mp+1))].flatten,[dK [59]]] rfl ⟨rfl,rfl⟩ (by decide) rfl) ?_;refine .cons (yI rfl rfl rfl (Nat.le_trans a (by decide))) ?_;refine .cons (fM (.inr rfl)) ?_;exact .nil
  case fc2 =>
  intro fv w5 h u;have HE:=O (kJ.re (h 5 (by decide)) (show _=(aW ⟨aj xs,its⟩ (ah ⟨aj xs,its⟩ f) i).map bt by rw [U.o,W.o];simp [bt,dK,tz,lz,aH]));have b_:=O (k.o.b.trans (u.mono k.o.b.size));simp only [List.map_cons,List.map_nil,jC,Act.put,ail,ain,aio];clear h u;go_wp2_with fail;go_ret;exact⟨_,rfl,HE.o,b_.o⟩
end
set_option linter.all false
section
open Go.RowKit Mist
attribute [local go_sem] au aN aV aM aG
def IC1 (W0:World)(tv:Value)(T:Tr)(B:Nat→List Pz)(i:Nat):Prop:=∀ w,Below W0.heap.size W0 w→Calls Tryz.prog 89 #[tv,.int .i64 (i:Nat)] w (BR (aW T B i) w)
theorem agR {w0 W0:World}{Q:Exit→Act→World→Prop}{E:Operand→SV}{o:Oper}{tv:Value}{T:Tr}{B:Nat→List Pz}{i:Nat}{x y:Operand}{l:Array TypeId}(h:o.op=.call { callee:=.value (.func 89),args:=#[x,y],argTypes:=l })(f:E x=.v tv)(g:E y=.v (.int .i64 (i:Nat)))(j:IC1 W0 tv T B i)(b:Below W0.heap.size W0 w0):iP Tryz.prog w0 Q E o (.bits (aW T B i)) :=
 nE h (fun args w=>by kernel_rfl) fun a w e k=>by
  have h1:=e x (by simp);have h2:=e y (by simp);rw [f] at h1
  rw [g] at h2
  rw [show (#[x,y].map a)=#[a x,a y] by simp,show a x=tv from h1,show a y=.int .i64 (i:Nat) from h2];exact j w (b.trans (k.mono b.size))
theorem aae {W0 w:World}{A Bi:Option Addr}{n c m d i f:Nat}{xs:List NV}{its:List Int}{x:NV}(t:lJ W0 A Bi xs its)(C:xs.length=n)(F:xs[i]? = some x)(X:BX W0 A Bi n c m d i ⟨aj xs,its⟩ (ah ⟨aj xs,its⟩ f) x.1)(D:Below W0.heap.size W0 w)(a:x.1.kind=33∧x.1.kids.length=1)(M:0≤x.1.n∧x.1.n≤9999):Calls Tryz.prog 42 #[.agg #[.slice A n c,.slice Bi m d],.int .i64 (i:Nat)] w (BR (aW ⟨aj xs,its⟩ (ah ⟨aj xs,its⟩ f) i) w):=by
 obtain⟨b,o,P,kc,W,rfl,k0,R,S,U,V,J,Z,y1,H,l,G,N,h⟩:=jr c m d t C F X D;have r:=O X;rw [← l.o] at a
 clear t C F X D;obtain⟨a,y⟩:=a;have q:=O (show (gI x.1.n (-1)).length≤1000000 by unfold gI;split <;> simp);have K:=O (xQ (T:=⟨aj xs,its⟩) (B:=ah ⟨aj xs,its⟩ f) (i:=i) (by rw [H.o];exact a));rw [a] at k0 h
 clear a;have j:=O y;clear y;go_in
 go_upto_region 42 with (fail)
 have k:=O (h.o.below (Below.refl _ _).drew)
 have g:([[dK [91]],bM ⟨aj xs,its⟩ (ah ⟨aj xs,its⟩ f) i 0,[dK [59]],aH true (gI x.1.n (-1)),[dK [93]]].flatten).length≤10000000:=by
  have:=q.o;have:=G.o 0 (by have:=j.o;omega);simp [ak]
  omega
 refine dx 239 (by kernel_rfl) rfl (by kernel_rfl) (out:=?o0) ?r0 ?f0
 case r0 =>
  simp only [List.map_cons,List.map_nil];refine .cons (ss [[91]] rfl ⟨rfl,rfl⟩ (by decide) rfl) ?_;refine .cons (stt rfl rfl rfl) ?_;refine .cons (d_ rfl rfl k.o.lT) ?_;refine .cons (dL (.v (.int .i64 (i:Nat))) (.inl rfl) rfl) ?_;refine .cons (o7 rfl rfl rfl rfl (by decide) (r.o.kids _ (by have:=l.o;have:=j.o;simp;omega)) k.o.b0) ?_;refine .cons (ss [[59]] rfl ⟨rfl,rfl⟩ (by decide) rfl) ?_;refine .cons (stt rfl rfl rfl) ?_;refine .cons (lN rfl rfl (rF _ _ (by decide))) ?_;refine .cons (d_ rfl rfl k.o.l2) ?_;refine .cons (sti rfl rfl ⟨by omega,M.2⟩) ?_;refine .cons (sF rfl rfl (hlo 0 (by first|(simp;done) | exact q.o | exact G.o _ (by have:=j.o;simp;omega)))) ?_;refine .cons (ss [[93]] rfl ⟨rfl,rfl⟩ (by decide) rfl) ?_;refine .cons (stt rfl rfl rfl) ?_;refine .cons (sr [[dK [91]],bM ⟨aj xs,its⟩ (ah ⟨aj xs,its⟩ f) i 0,[dK [59]],aH true (gI x.1.n (-1)),[dK [93]]] rfl ⟨rfl,rfl⟩ (by decide) rfl) ?_;refine .cons (yI rfl rfl rfl g) ?_;refine .cons (fM (.inr rfl)) ?_;exact .nil
 case f0 =>
  intro fv Y u e;have I:=O (kJ.re (u 15 (by decide)) (show _=(aW ⟨aj xs,its⟩ (ah ⟨aj xs,its⟩ f) i).map bt by rw [K.o,H.o,r.o.tight 0 (by have:=j.o;have:=l.o;omega),show gI x.1.n (-1)=[tz (Go.Lib.itoa x.1.n) (-1)] by unfold gI;rw [if_neg (by omega)]];simp [bt,dK,tz,lz,aH]));have L:=O (h.o.b.trans (e.mono h.o.b.size));simp only [List.map_cons,List.map_nil,jC,Act.put,ail,ain,aio];clear u e;go_wp2_with fail;go_ret;exact⟨_,rfl,I.o,L.o⟩
theorem Rq {W0 w:World}{A Bi:Option Addr}{n c m d i f:Nat}{xs:List NV}{its:List Int}{x:NV}(j:lJ W0 A Bi xs its)(l:xs.length=n)(r:xs[i]? = some x)(X:BX W0 A Bi n c m d i ⟨aj xs,its⟩ (ah ⟨aj xs,its⟩ f) x.1)(q:Below W0.heap.size W0 w)(B:40≤x.1.kind∧x.1.kind≤46)(u:IC1 W0 (.agg #[.slice A n c,.slice Bi m d]) ⟨aj xs,its⟩ (ah ⟨aj xs,its⟩ f) i):Calls Tryz.prog 42 #[.agg #[.slice A n c,.slice Bi m d],.int .i64 (i:Nat)] w (BR (aW ⟨aj xs,its⟩ (ah ⟨aj xs,its⟩ f) i) w):=by
 obtain⟨b,o,G,kc,P,rfl,k0,J,K,L,M,y,S,T,N,H,I,D,g⟩:=jr c m d j l r X q;have F:=O X;clear j l r X q;rcases (by omega:x.1.kind=40∨x.1.kind=41∨x.1.kind=42∨x.1.kind=43∨x.1.kind=44∨x.1.kind=45∨x.1.kind=46) with a | a | a | a | a | a | a
 all_goals
  clear B;rw [a] at k0 g
  clear a;go_in
  go_upto_region 44 with (fail)
  have h:=O g.o;refine eU 239 rfl (by kernel_rfl) (out:=[.v (.agg #[.slice (some ⟨b,o,none⟩) n c,.slice Bi m d]),.v (.int .i64 (i:Nat)),.bits (aW ⟨aj xs,its⟩ (ah ⟨aj xs,its⟩ f) i),.bits (aW ⟨aj xs,its⟩ (ah ⟨aj xs,its⟩ f) i)]) ?_ ?_
  ·simp only [List.map_cons,List.map_nil];refine .cons (d_ rfl rfl h.o.lT) ?_;refine .cons (dL (.v (.int .i64 (i:Nat))) (.inl rfl) rfl) ?_;refine .cons (agR rfl rfl rfl u h.o.b0) ?_;refine .cons (fM (.inr rfl)) ?_;exact .nil
  ·intro fv R k e;have t:=O (kJ.re (k 3 (by decide)) (show _=(aW ⟨aj xs,its⟩ (ah ⟨aj xs,its⟩ f) i).map bt by rfl));have C:=O (g.o.b.trans (e.mono g.o.b.size));simp only [List.map_cons,List.map_nil,jC,Act.put,ail,ain,aio];clear k e;go_wp2_with fail;go_ret;exact⟨_,rfl,t.o,C.o⟩
end
set_option linter.all false
section
open Go.RowKit Mist
section
variable {W0:World} {A Bi:Option Addr} {n c m d:Nat} {xs:List NV} {its:List Int}
theorem acF (H:lJ W0 A Bi xs its)(w:xs.length=n)(M:n≤20000)(b:GD ⟨aj xs,its⟩){f i:Nat}{x:NV}(C:xs[i]? = some x)(I:i≤f)(J:∀ q,q < i→BC W0 (.agg #[.slice A n c,.slice Bi m d]) ⟨aj xs,its⟩ f q):BX W0 A Bi n c m d i ⟨aj xs,its⟩ (ah ⟨aj xs,its⟩ f) x.1:=by
 have hi:i < n:=by rw [← w];exact (aiq.1 C).1
 have r:(⟨aj xs,its⟩:Tr).nodes.length=n:=by rw [← w];simp [aj]
 have g:=aY its C;have D:=U5 (b.right i (by rw [r];exact hi));have F:=D.many;rw [g] at F
 obtain⟨t,B⟩:=Kl b (f:=f) (i:=i) (by rw [r];exact hi) I;rw [g] at t B
 have kid:∀ j,j < x.1.kids.length→∃ q y,x.1.kids[j]? = some ((q:Nat):Int)∧xs[q]? = some y∧q < i∧jL x.1 j y.1.kind=true:=by
  intro j a;obtain⟨q,h,G⟩:=b.kid (i:=i) (j:=j) (by rw [r];exact hi) (by rw [g];exact a);rw [g] at h
  obtain⟨y,hy⟩:=iG (xs:=xs) (i:=q) (by rw [w];omega);have h1:=D.kid j (by rw [g];exact a);rw [g,ait,h] at h1
  have h1:jL x.1 j (nd (⟨aj xs,its⟩:Tr) q).kind=true:=h1;rw [aY its hy] at h1
  exact⟨q,y,h,hy,G,h1⟩
 have one:∀ q,q < i→(ah ⟨aj xs,its⟩ f q).length≤900000:=fun q L=>by
  have:=y9 b.right b.fo (i:=q) (f:=f) (by rw [r];omega) (by omega)
  omega
 have e:∀ j,j < x.1.kids.length→aH false (bM ⟨aj xs,its⟩ (ah ⟨aj xs,its⟩ f) i j)=bM ⟨aj xs,its⟩ (ah ⟨aj xs,its⟩ f) i j∧bM ⟨aj xs,its⟩ (ah ⟨aj xs,its⟩ f) i j ≠ []:=fun j a=>by
  obtain⟨q,y,h,hy,h1,_⟩:=kid j a;refine FL ?_;rw [g,ait,h];exact C8 b f q (by omega) (by rw [r];omega)
 have len:∀ j,j < x.1.kids.length→(bM ⟨aj xs,its⟩ (ah ⟨aj xs,its⟩ f) i j).length≤1000000:=fun j a=>by
  obtain⟨q,y,h,hy,h1,_⟩:=kid j a;have h2:=oO ⟨aj xs,its⟩ (ah ⟨aj xs,its⟩ f) i j;rw [g,ait,h] at h2
  have h3:=one q h1;have h2:(bM ⟨aj xs,its⟩ (ah ⟨aj xs,its⟩ f) i j).length≤(ah ⟨aj xs,its⟩ f q).length+2:=h2;omega
 have l:∀ k,k≤x.1.kids.length→(dD ⟨aj xs,its⟩ (ah ⟨aj xs,its⟩ f) i k).length≤1000000:=fun k u=>by
  have h2:=zL ⟨aj xs,its⟩ (ah ⟨aj xs,its⟩ f) i k (by rw [g];exact u);have h3:=UG (ah ⟨aj xs,its⟩ f) x.1.kids k;rw [g] at h2
  unfold dD;omega
 have kc:∀ j,j < x.1.kids.length→KC W0 (.agg #[.slice A n c,.slice Bi m d]) ⟨aj xs,its⟩ (ah ⟨aj xs,its⟩ f) i j:=fun j a=>by
  obtain⟨q,y,h,hy,h1,h2⟩:=kid j a;refine aeL H w C h hy ?_ (aaA fun u=>?_) (J q h1) (Nat.le_trans (one q h1) (by decide)) (C8 b f q (by omega) (by rw [r];omega)).1
  ·by_cases K:6≤x.1.kind∧x.1.kind≤18
   ·have:=qd (by omega) _ rfl F;omega
   ·right;omega
  ·unfold jL at h2
   rwa [if_neg (by omega),if_neg (by omega),if_neg (by omega),if_neg (by omega),if_neg (by omega)] at h2
 exact⟨kc,fun k u=>ac' (fun j a=>kc j (by omega)) (by omega) (fun j a=>l j (by omega)) (fun j a=>len j (by omega)),len,l,fun j a=>(e j a).2,fun j a=>(e j a).1,fun k u=>(Od k fun j a=>e j (by omega)).1⟩
theorem ad1 (e:lJ W0 A Bi xs its)(a:xs.length=n)(W:n≤20000)(t:GD ⟨aj xs,its⟩):∀ f i,i < f→i < n→BC W0 (.agg #[.slice A n c,.slice Bi m d]) ⟨aj xs,its⟩ f i:=by
 intro f
 induction f with
 | zero=>intro i h;omega
 | succ f Y =>
  intro i V r w l;have K:(⟨aj xs,its⟩:Tr).nodes.length=n:=by rw [← a];simp [aj]
  obtain⟨x,b⟩:=iG (xs:=xs) (i:=i) (by rw [a];exact r);have S:=aY its b;have I:=U5 (t.right i (by rw [K];exact r));have H:=t.num i (by rw [K];exact r);have g:=I.many;have M:=I.num;have N:=I.kind;obtain⟨_,J⟩:=Kl t (f:=f) (i:=i) (by rw [K];exact r) (by omega);rw [S] at g M N H J
  have X:BX W0 A Bi n c m d i ⟨aj xs,its⟩ (ah ⟨aj xs,its⟩ f) x.1:=acF e a W t b (by omega) fun q hq=>Y q (by omega) (by omega)
  show Calls _ _ _ _ (BR (aW ⟨aj xs,its⟩ (ah ⟨aj xs,its⟩ f) i) w)
  simp [eZ,gF,dB] at N
  by_cases P:x.1.kind=1
  ·exact Wo e a b X l P (aaN P M)
  by_cases Z:x.1.kind=2
  ·exact Rp e a b X l Z
  by_cases R:x.1.kind=4
  ·exact Wn e a b X l ⟨R,many1 (by decide) _ R g⟩
  by_cases T:x.1.kind=3∨x.1.kind=32∨x.1.kind=5∨x.1.kind=30∨x.1.kind=31
  ·refine aaf e a b X l ?_;rcases T with k | k | k | k | k
   ·exact .inl k
   ·exact .inr (.inl k)
   ·exact .inr (.inr (.inl ⟨k,many1 (by decide) _ k g⟩))
   ·exact .inr (.inr (.inr (.inl k)))
   ·exact .inr (.inr (.inr (.inr k)))
  by_cases y:x.1.kind=19
  ·exact P6 e a b X l (.inl ⟨y,XU _ y g⟩)
  by_cases B:x.1.kind=20
  ·exact P6 e a b X l (.inr ⟨B,qd (by omega) _ B g⟩)
  by_cases U:x.1.kind=21∨x.1.kind=24∨x.1.kind=26
  ·exact aag e a b X l U
  by_cases C:x.1.kind=22
  ·exact BI e a b X l (.inl ⟨C,many1 (by decide) _ C g⟩)
  by_cases D:x.1.kind=23
  ·exact BI e a b X l (.inr (.inl ⟨D,qd (by omega) _ D g⟩))
  by_cases F:x.1.kind=25
  ·exact BI e a b X l (.inr (.inr (.inl ⟨F,many1 (by decide) _ F g⟩)))
  by_cases G:x.1.kind=34
  ·exact BI e a b X l (.inr (.inr (.inr ⟨G,many1 (by decide) _ G g⟩)))
  by_cases u:x.1.kind=33
  ·have:=H.Qn u
   exact aae e a b X l ⟨u,many1 (by decide) _ u g⟩ ⟨by omega,by omega⟩
  by_cases L:6≤x.1.kind∧x.1.kind≤18
  ·exact aah e a b X l ⟨L,qd (by omega) _ rfl g⟩
  refine Rq e a b X l (by omega) fun w' j=>?_
  rcases (by omega:x.1.kind=40∨x.1.kind=41∨x.1.kind=42∨x.1.kind=43∨x.1.kind=44∨x.1.kind=45∨x.1.kind=46) with k | k | k | k | k | k | k
  ·exact nL e a b X j (.inl ⟨k,qd (by omega) _ k g⟩)
  ·exact nL e a b X j (.inr (.inl k))
  ·have h2:=Ol _ k g;have h8:=H.fn k;exact SA e a b X j (mp:=x.1.kids.length - 2) ⟨k,by omega⟩ (by omega) ⟨by omega,by omega⟩
  ·exact nL e a b X j (.inr (.inr (.inl ⟨k,many1 (by decide) _ k g⟩)))
  ·exact nL e a b X j (.inr (.inr (.inr (.inl ⟨k,many1 (by decide) _ k g⟩))))
  ·exact nL e a b X j (.inr (.inr (.inr (.inr k))))
  ·have h8:=X4 k M;exact SB e a b X j k (k:=x.1.n.toNat) (by omega) (by omega)
end
end
