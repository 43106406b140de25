/-
  A part of the proof.
-/
import Derived.Test.YthepmkjggfijoaaGreatDoorSA
import Derived.Test.YthepmkjggfijoaaGreatDoorS31
import Derived.Test.YthepmkjggfijoaaGreatDoorW11
import Derived.Test.YthepmkjggfijoaaGreatDoorW12
import Derived.Test.YthepmkjggfijoaaGreatDoorW13
set_option linter.all false
set_option maxRecDepth 100000
set_option maxHeartbeats 2000000
namespace Go.Proofs.YthepmkjggfijoaaGreatDoor
open Go.RowKit Mist
theorem Ed:strip default=(default:Nd):=rfl
theorem Bt (ns:List Nd)(c:Int):dB (ns.map strip) c=dB ns c:=by
 unfold dB
 have:(ns.map strip).getD c.toNat default=strip (ns.getD c.toNat default):=by
  rw [aaH,aaH,List.getElem?_map]
  cases ns[c.toNat]? with
  | none=>exact Ed.symm
  | some x=>rfl
 rw [this];rfl
theorem Br (x:Nd):∀ (a:List (Nat × Bool)) (i:Nat),oJ (strip x) i a=oJ x i a
 | [],_=>rfl
 | q :: r,i=>by
  show (ru (strip x) i q && oJ (strip x) (i+1) r)=(ru x i q && oJ x (i+1) r)
  rw [Br x r];rfl
theorem O8 {x:Nd}{a:List (Nat × Bool)}(h:okB x a=true):okB (strip x) a=true:=by
 unfold okB at h ⊢
 rw [Br];simp only [aaS] at h ⊢
 obtain⟨⟨⟨⟨⟨⟨h1,h2⟩,h3⟩,h4⟩,h5⟩,h6⟩,h7⟩:=h;exact⟨⟨⟨⟨⟨⟨h1,h2⟩,h3⟩,h4⟩,h5⟩,rfl⟩,h7⟩
theorem Hg {ns:List Nd}(h:jN ns):jN (ns.map strip):=by
 intro i n a;rw [List.getElem?_map] at a
 obtain⟨x,b,rfl⟩:=Option.map_eq_some_iff.1 a
 have:=h i x b
 unfold uP at this ⊢
 rw [show (strip x).kids.map (dB (ns.map strip))=x.kids.map (dB ns) from List.map_congr_left fun c _=>Bt ns c];exact O8 this
theorem Uw {ns:List Nd}(h:Wf ns):Wf (ns.map strip):=by
 intro i n a;rw [List.getElem?_map] at a
 obtain⟨x,b,rfl⟩:=Option.map_eq_some_iff.1 a;exact h i x b
theorem RI {ns:List Nd}{a b:Nat}{c:List Int}(h:Fo ns a b c):Fo (ns.map strip) a b c:=by
 induction h with
 | nil a=>exact .nil a
 | @snoc a m b qs0 n _ _ e i j=>exact .snoc (n:=strip n) i j (by rw [List.getElem?_map,e];rfl)
structure Vg (ay:Bool) (b:Bs) (T:Tr):Prop where
 read:Mist.read (bY ay b)=(fO 0 (grown ay b).pc,0,0)
 pf:PF (fO 0 (grown ay b).pc)
 prog:∃ n,prog (fO 0 (grown ay b).pc) ((bY ay b).length:Int) n 13 0 [] []=some (.ok T.items (fO 0 (grown ay b).pc).length T.nodes)
 items:T.items=(jy ay b).items
 bare:T.nodes.map strip=(jy ay b).nodes
 fine:dX T
 own:dX (jy ay b)
 len:(bY ay b).length≤2000
theorem R5 (c:Bool)(b:Bs)(h:uJ (bY c b)=true):∃ T,Vg c b T:=by
 obtain⟨t,w⟩:=Ky c b h;obtain⟨r,e,A⟩:=Mist.rX t;obtain⟨d,n,j,m,q⟩:=Gm c b ((bY c b).length:Int);obtain⟨h1,h2,h3,h4⟩:=vE (en:=((bY c b).length:Int)) r n 13 0 [] [] _ _ _ (fun i n h=>by simp at h) (fun i n h=>by simp at h) (.nil _) (fun a h=>by cases h) q;have l:=IK c b;have y:(fO 0 (grown c b).pc).length≤800:=by rw [mW];exact w
 have few:d.length≤800:=by
  have h5:=l.few
  have:d.length=(jy c b).nodes.length:=by rw [← List.length_map (f:=strip),j];rfl
  omega
 have C:∀ x ∈ d,JY d x:=fun x e=>by
  refine JY.strip ?_;rw [j];refine l.sz _ ?_
  show strip x ∈ (grown c b).st.ns
  rw [← j];exact List.mem_map.2 ⟨x,e,rfl⟩
 have B:∀ k ∈ (grown c b).ix,q9 d 11 k:=fun k v=>by
  refine q9.strip ?_;rw [j];exact l.ht k v
 have F:dX ⟨d,(grown c b).ix⟩:=⟨h1,h2,h3,h4,fun x e=>(C x e).sized,B,few,m⟩;have g:(⟨d,(grown c b).ix⟩:Tr).nodes.map strip=(jy c b).nodes:=j
 refine⟨⟨d,(grown c b).ix⟩,⟨t,⟨by omega,r.kind,e⟩,⟨n,q⟩,rfl,g,F,?_,A⟩⟩
 refine⟨?_,?_,?_,?_,fun x e=>(l.sz x e).sized,l.ht,?_,m⟩
 ·rw [← g];exact Hg h1
 ·rw [← g];exact Uw h2
 ·rw [← g,List.length_map];exact RI h3
 ·intro a u;rw [← g,Bt];exact h4 a u
 ·rw [← g,List.length_map];exact few
end Go.Proofs.YthepmkjggfijoaaGreatDoor
namespace Go.Proofs.YthepmkjggfijoaaGreatDoor
open Go.RowKit Mist
attribute [local go_sem] aj aH aS aB ak
theorem Yt (w:World):mq w none none [] []:=⟨fun h=>absurd h (by simp),⟨fun h=>absurd h (by simp)⟩⟩
theorem Sn (s:Bs)(w:World)(h:Env w)(f:(Mist.read s).2.2 ≠ 0)(k:s.length≤100000000) :
  Calls Tryz.prog 17 #[.string (aM s)] w fun e m=>e=.returned (.tuple #[.agg #[.slice none 0 0,.slice none 0 0],.int .i64 (Mist.read s).2.1,.int .i64 (Mist.read s).2.2])∧Below w.heap.size w m:=by
 obtain⟨E,b⟩:∃ E,E=(Mist.read s).2.2:=⟨_,rfl⟩;rw [← b] at f
 have g:=O b;clear b;have j:=O h;clear h;have r:((E:Int) == 0)=false:=by simpa using f
 clear f;go_in
 go_wp2_with fail;refine (IG s _ (j.o.alloc _) k).mono ?_;rintro e A⟨v,rfl,l,c⟩;rw [← g.o];have a:=O (gF c);have d:=O ((ah (Below.refl w.heap.size w) (aaJ _) (o:=.cells #[.slice none 0 0,.slice none 0 0] 26)).trans (c.mono (by simp)));clear c l;have t:=a.o.cell 0;have u:=a.o.cell 1;have x:=a.o.frozen 0;have y:=a.o.frozen 1;go_wp2_with fail;have i:=(a.o.d_ 0 (.slice none 0 0)).d_ 1 (.slice none 0 0);have n:=i.cell 0;have q:=i.cell 1;refine bodyPost_ret (v:=.tuple #[.agg #[.slice none 0 0,.slice none 0 0],.int .i64 (Mist.read s).2.1,.int .i64 E]) (by simp [results,Tryz.f17,go_sem,n,q]) rfl ⟨by rw [← g.o],?_⟩
 repeat (first|(with_reducible exact d.o)|(with_reducible refine dx ?_ ?_) | omega)
def Rl (T:Tr)(X E:Int)(w:World)(e:Ending)(w':World):Prop :=
 Below w.heap.size w w'∧∃ (A B:Option Addr) (c d:Nat) (xs:List NV),e=.returned (.tuple #[.agg #[.slice A xs.length c,.slice B T.items.length d],.int .i64 X,.int .i64 E])∧aA xs=T.nodes∧mq w' A B xs T.items
theorem qc {w a:World}{e:Ending}{X E:Int}(h:e=.returned (.tuple #[.agg #[.slice none 0 0,.slice none 0 0],.int .i64 X,.int .i64 E]))(b:Below w.heap.size w a):Rl ⟨[],[]⟩ X E w e a :=
 ⟨b,none,none,0,0,[],h,rfl,Yt _⟩
theorem zG (s:Bs):∀ (f a:Nat) (b l:List Mist.Tok) (x:Nat),dJ f s a b=(l,x,0)→x=0
 | 0,a,b,l,x,h=>by rw [dJ] at h;injection h with _ h;injection h with h _;exact h.symm
 | f+1,a,b,l,x,h=>by
  by_cases c:s.length≤a
  ·rw [jK f s a b c] at h;injection h with _ h;injection h with h _;exact h.symm
  ·by_cases d:(first (s.drop a)).1=0
   ·rw [kR f s a b c d] at h;injection h with _ h;injection h with _ h;cases h
   ·by_cases h8:b.length=800
    ·rw [kQ f s a b c d h8] at h;injection h with _ h;injection h with _ h;cases h
    ·rw [ji f s a b c d h8] at h;exact zG s f _ _ _ _ h
theorem Wu {s:Bs}{l:List Mist.Tok}{a:Nat}(h:Mist.read s=(l,a,0)):a=0:=by
 unfold Mist.read at h
 split at h
 ·rename_i b;injection h with _ h;injection h with _ h;exact absurd h b
 ·exact zG s _ _ _ _ _ h
structure Ve (s:Bs) (k:Nat) (T:Tr) (X E:Int):Prop where
 nl:T.nodes.length≤1000
 il:T.items.length≤1000
 err:E=0∧X=0∧dN T=0∧xO T.nodes∧Wf T.nodes∧(∀ x ∈ T.nodes,x.kids.length≤1000000)∨T=⟨[],[]⟩∧(E=3∨E=5∨E=4∧X < (s.length:Int)∧∀ b:Nat,b≤k→(b=0∨pR (gt s (b - 1))=true)→(b:Int)≤X)
theorem Gy {s:Bs}{l:List Mist.Tok}{n m kk k:Nat}{its:List Int}{ns:List Nd}(hr:Mist.read s=(l,0,0))(hl:l.length≤800)(hn:∀ x ∈ s,x ≠ 35)(hp:prog l (s.length:Int) n m 0 [] []=some (.ok its kk ns))(hk:k < s.length)(hs:s.length≤100000000) :
  ∃ (T:Tr) (X E:Int),Ve s k T X E∧∀ w,Env w→Calls Tryz.prog 17 #[.string (aM (s.take k ++ s.drop (k+1)))] w (Rl T X E w):=by
 have a1:(s.take k ++ s.drop (k+1)).length+1=s.length:=by simp;omega
 obtain⟨t,u⟩:∃ t,t=s.take k ++ s.drop (k+1):=⟨_,rfl⟩;have L:t.length≤100000000:=by rw [u];omega
 by_cases I:(Mist.read t).2.2=0
 case neg =>
  rw [← u]
  refine⟨⟨[],[]⟩,_,_,⟨by simp,by simp,.inr ⟨rfl,?_⟩⟩,fun w G=>(Sn t w G I L).mono fun e w' h=>qc h.1 h.2⟩
  have h1:∀ b:Nat,b≤k→(b=0∨pR (gt s (b - 1))=true)→((Mist.read t).2.2=4∨(Mist.read t).2.2=5)∧b≤(Mist.read t).2.1∧(Mist.read t).2.1 < s.length:=fun b C J=>by
   rcases Bg hr hl hn hk C J with ⟨x,e,h,h1,h2,h3⟩ | ⟨r,q,q',_,h,_⟩
   ·rw [← u] at h
    rw [h];exact⟨h1,h2,h3⟩
   ·rw [← u] at h
    rw [h] at I;exact absurd rfl I
  obtain⟨h2,h3,h4⟩:=h1 0 (by omega) (.inl rfl);rcases h2 with h2 | h2
  ·exact .inr (.inr ⟨by omega,by omega,fun b C J=>by have:=h1 b C J;omega⟩)
  ·exact .inr (.inl (by omega))
 obtain⟨H,a,z,j⟩:∃ H a z,Mist.read t=(H,a,z):=⟨_,_,_,rfl⟩;obtain rfl:z=0:=by rw [j] at I;exact I
 obtain rfl:a=0:=Wu j;have P:H.length≤800:=by have:=Pg t;rw [j] at this;exact this
 obtain⟨U,hx,a2⟩:=Mist.rX j;have hF:PF H:=⟨by omega,U.kind,hx⟩;rcases EK (t.length:Int) U P with ⟨D,f,y,_,hA,S,N,Z,a0⟩ | ⟨k',D,f,y,_,Z⟩
 ·rw [← u]
  have F:∀ x ∈ f,x.kids.length≤1000000∧nJ ⟨f,D⟩ x:=fun x K=>by
   obtain⟨i,W,Y⟩:=List.mem_iff_getElem.1 K;obtain⟨h1,h2,h3⟩:=yJ (T:=⟨f,D⟩) hA S N (i:=i) (x:=x) (by rw [← Y];exact aaD W);exact⟨by omega,h3⟩
  have hG:BD ⟨f,D⟩:=⟨S,fun x K=>(F x K).2,fun x K=>(F x K).1,by show f.length≤1000;omega⟩;have c1:=fun w G=>y9 t H _ _ H.length ⟨f,D⟩ w j hF y G L hG
  by_cases M:(iy ⟨f,D⟩).2=0
  ·obtain⟨_,_,_,hI⟩:=vE (en:=(t.length:Int)) U _ _ 0 [] [] _ _ _ (fun i n h=>by simp at h) (fun i n h=>by simp at h) (.nil _) (fun a h=>by cases h) y;obtain⟨h5,h6⟩:=ML (T:=⟨f,D⟩) hA S N hI M
   refine⟨⟨f,D⟩,0,0,⟨by show f.length≤1000;omega,by show D.length≤1000;omega,.inl ⟨rfl,rfl,h5,h6,S,fun x K=>(F x K).1⟩⟩,fun w G=>(c1 w G).mono fun e w' h=>?_⟩
   obtain⟨C,h | ⟨_,v,xs,g,I,R,_,ht⟩⟩:=h
   ·exact absurd M h.1
   ·obtain⟨A,B,c,d,rfl,V⟩:=ht.UH (fun x hx=>hG.kids x.1 (by rw [← R];exact List.mem_map_of_mem hx));exact⟨C,A,B,c,d,xs,I,R,V⟩
  ·refine⟨⟨[],[]⟩,(iy ⟨f,D⟩).1,(iy ⟨f,D⟩).2,⟨by simp,by simp,.inr ⟨rfl,?_⟩⟩,fun w G=>(c1 w G).mono fun e w' h=>?_⟩
   ·unfold iy at M ⊢
    split
    ·exact .inr (.inl rfl)
    ·rename_i h
     rw [if_neg h] at M
     split
     ·exact .inl rfl
     ·rename_i h2
      rw [if_neg h2] at M
      exact absurd rfl M
   ·obtain⟨C,h | ⟨h,_⟩⟩:=h
    ·exact qc h.2 C
    ·exact absurd h M
 ·have Q:∀ b:Nat,b≤k→(b=0∨pR (gt s (b - 1))=true)→(b:Int)≤pl H (t.length:Int) k'∧pl H (t.length:Int) k' < (s.length:Int):=fun b C J=>by
   rw [u] at j y ⊢
   exact Gb hr hl hn hp hk j y C J
  rw [← u];exact⟨⟨[],[]⟩,_,_,⟨by simp,by simp,.inr ⟨rfl,.inr (.inr ⟨rfl,(Q 0 (by omega) (.inl rfl)).2,fun b C J=>(Q b C J).1⟩)⟩⟩,fun w G=>(Iz t H _ _ k' w j hF y G L).mono fun e w' h=>qc h.1 h.2⟩
end Go.Proofs.YthepmkjggfijoaaGreatDoor
