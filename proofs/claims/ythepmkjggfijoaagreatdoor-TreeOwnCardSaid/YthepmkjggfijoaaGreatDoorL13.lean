/-
  A part of the proof.
-/
import Derived.Test.YthepmkjggfijoaaGreatDoorSA
import Derived.BigQuiet
import Derived.Test.YthepmkjggfijoaaGreatDoorS31
import Derived.Test.YthepmkjggfijoaaGreatDoorS22
import Derived.Test.YthepmkjggfijoaaGreatDoorS29
import Derived.Test.YthepmkjggfijoaaGreatDoorL02
import Derived.Test.YthepmkjggfijoaaGreatDoorL03
import Derived.Test.YthepmkjggfijoaaGreatDoorL04
import Derived.Test.YthepmkjggfijoaaGreatDoorL11
import Derived.Test.YthepmkjggfijoaaGreatDoorL12
set_option linter.all false
set_option maxRecDepth 100000
namespace Go.Proofs.YthepmkjggfijoaaGreatDoor
open Go.RowKit Mist
theorem BJ:strip default=(default:Nd):=rfl
theorem zG (ns:List Nd)(c:Int):dB (ns.map strip) c=dB ns c:=by
 unfold dB
 have:(ns.map strip).getD c.toNat default=strip (ns.getD c.toNat default):=by
  rw [aaH,aaH,List.getElem?_map]
  cases ns[c.toNat]? with
  | none=>exact BJ.symm
  | some x=>rfl
 rw [this];rfl
theorem zF (x:Nd):∀ (a:List (Nat × Bool)) (i:Nat),oJ (strip x) i a=oJ x i a
 | [],_=>rfl
 | q :: r,i=>by
  show (ru (strip x) i q && oJ (strip x) (i+1) r)=(ru x i q && oJ x (i+1) r)
  rw [zF x r];rfl
theorem MH {x:Nd}{a:List (Nat × Bool)}(h:okB x a=true):okB (strip x) a=true:=by
 unfold okB at h ⊢
 rw [zF];simp only [aaS] at h ⊢
 obtain⟨⟨⟨⟨⟨⟨h1,h2⟩,h3⟩,h4⟩,h5⟩,h6⟩,h7⟩:=h;exact⟨⟨⟨⟨⟨⟨h1,h2⟩,h3⟩,h4⟩,h5⟩,rfl⟩,h7⟩
theorem Ej {ns:List Nd}(h:jN ns):jN (ns.map strip):=by
 intro i n a;rw [List.getElem?_map] at a
 obtain⟨x,b,rfl⟩:=Option.map_eq_some_iff.1 a
 have:=h i x b
 unfold uP at this ⊢
 rw [show (strip x).kids.map (dB (ns.map strip))=x.kids.map (dB ns) from List.map_congr_left fun c _=>zG ns c];exact MH this
theorem Sq {ns:List Nd}(h:Wf ns):Wf (ns.map strip):=by
 intro i n a;rw [List.getElem?_map] at a
 obtain⟨x,b,rfl⟩:=Option.map_eq_some_iff.1 a;exact h i x b
theorem Pg {ns:List Nd}{a b:Nat}{c:List Int}(h:Fo ns a b c):Fo (ns.map strip) a b c:=by
 induction h with
 | nil a=>exact .nil a
 | @snoc a m b qs0 n _ _ e i j=>exact .snoc (n:=strip n) i j (by rw [List.getElem?_map,e];rfl)
structure CU (ay:Bool) (b:Bs) (T:Tr):Prop where
 read:Mist.read (bZ ay b)=(fO 0 (grown ay b).pc,0,0)
 pf:PF (fO 0 (grown ay b).pc)
 prog:∃ n,prog (fO 0 (grown ay b).pc) ((bZ ay b).length:Int) n 13 0 [] []=some (.ok T.items (fO 0 (grown ay b).pc).length T.nodes)
 items:T.items=(jr ay b).items
 bare:T.nodes.map strip=(jr ay b).nodes
 fine:dX T
 own:dX (jr ay b)
 len:(bZ ay b).length≤2000
theorem Pw (ay:Bool)(b:Bs)(h:q9 (bZ ay b)=true):∃ T,CU ay b T:=by
 obtain⟨t,w⟩:=GD ay b h;obtain⟨r,d,A⟩:=Mist.rX t;obtain⟨c,n,g,m,q⟩:=CZ ay b ((bZ ay b).length:Int);obtain⟨h1,h2,h3,h4⟩:=vE (en:=((bZ ay b).length:Int)) r n 13 0 [] [] _ _ _ (fun i n h=>by simp at h) (fun i n h=>by simp at h) (.nil _) (fun a h=>by cases h) q;have j:=EW ay b;have y:(fO 0 (grown ay b).pc).length≤800:=by rw [mW];exact w
 have few:c.length≤800:=by
  have h5:=j.few
  have:c.length=(jr ay b).nodes.length:=by rw [← List.length_map (f:=strip),g];rfl
  omega
 have C:∀ x ∈ c,Gn c x:=fun x d=>by
  refine Gn.strip ?_;rw [g];refine j.sz _ ?_
  show strip x ∈ (grown ay b).st.ns
  rw [← g];exact List.mem_map.2 ⟨x,d,rfl⟩
 have B:∀ k ∈ (grown ay b).ix,pU c 11 k:=fun k v=>by
  refine pU.strip ?_;rw [g];exact j.ht k v
 have F:dX ⟨c,(grown ay b).ix⟩:=⟨h1,h2,h3,h4,fun x d=>(C x d).sized,B,few,m⟩;have e:(⟨c,(grown ay b).ix⟩:Tr).nodes.map strip=(jr ay b).nodes:=g
 refine⟨⟨c,(grown ay b).ix⟩,⟨t,⟨by omega,r.kind,d⟩,⟨n,q⟩,rfl,e,F,?_,A⟩⟩
 refine⟨?_,?_,?_,?_,fun x d=>(j.sz x d).sized,j.ht,?_,m⟩
 ·rw [← e];exact Ej h1
 ·rw [← e];exact Sq h2
 ·rw [← e,List.length_map];exact Pg h3
 ·intro a u;rw [← e,zG];exact h4 a u
 ·rw [← e,List.length_map];exact few
theorem ET {ay:Bool}{b:Bs}{T:Tr}(G:CU ay b T)(w:World)(hE:Env w) :
  Calls Tryz.prog 17 #[.string (aM (bZ ay b))] w fun e a=>Below w.heap.size w a∧∃ A B c d xs,e=.returned (.tuple #[.agg #[.slice A T.nodes.length c,.slice B T.items.length d],.int .i64 0,.int .i64 0])∧aA xs=T.nodes∧mq a A B xs T.items:=by
 obtain⟨n,h⟩:=G.prog;have m:=G.len;refine (Mt w G.read G.pf h hE (by omega) G.fine.good G.fine.parsed).mono ?_;rintro e a ⟨g,A,B,c,d,xs,rfl,i,j,k,f⟩;exact⟨g,A,B,c,d,xs,rfl,i,f⟩
def markT (x:Nd):Bs :=
 if x.kind=2 then (if x.n=0 then [102,97,108,115,101] else [116,114,117,101])
 else if x.kind=4 then [45] else if x.kind=5 then [110,111,116]
 else if x.kind=6 then [43] else if x.kind=7 then [45] else if x.kind=8 then [42] else if x.kind=9 then [47] else if x.kind=10 then [37]
 else if x.kind=11 then [61,61] else if x.kind=12 then [33,61] else if x.kind=13 then [60] else if x.kind=14 then [60,61] else if x.kind=15 then [62] else if x.kind=16 then [62,61]
 else if x.kind=17 then [97,110,100] else if x.kind=18 then [111,114]
 else if x.kind=19 then [105,102] else if x.kind=20∨x.kind=43 then [108,101,116]
 else if x.kind=22 then [46] else if x.kind=23∨x.kind=26∨x.kind=33 then [91]
 else if x.kind=30 then [105,110,116] else if x.kind=31 then [98,111,111,108]
 else if x.kind=40 then [99,104,111,111,115,101] else if x.kind=41 then [116,121,112,101] else if x.kind=42 then [102,117,110]
 else if x.kind=44 then [111,98,115,101,114,118,101] else if x.kind=45 then [114,101,116,114,97,99,116] else if x.kind=46 then [97,115,107]
 else x.text
structure yA (l:List Tok) (en:Int) (x:Nd) (p:Nat):Prop where
 lt:p < l.length
 at_:x.at_=pl l en p
 tok:if x.kind=1 then ((tg l p).kind=2∧x.n=(numOf (tx l p):Int))∨(tx l p=[45]∧0 < p∧(tx l (p - 1)=[58]∨tx l (p - 1)=[46,46])∧(tg l (p+1)).kind=2∧x.n=-(numOf (tx l (p+1)):Int)) else tx l p=markT x
def Own (l:List Tok)(en:Int)(k0:Nat)(ns0:List Nd)(k:Nat)(ns:List Nd):Prop :=
 ∃ (t:List Nd) (ps:List Nat),ns=ns0 ++ t∧ps.length=t.length∧ps.Nodup∧(∀ p ∈ ps,k0≤p∧p < k)∧∀ (i:Nat) x p,t[i]? = some x→ps[i]? = some p→yA l en x p
def kM (l:List Tok)(en:Int)(k0:Nat)(ns0:List Nd)(r:Option j6):Prop:=∀ ks k ns,r=some (.ok ks k ns)→k0≤k∧Own l en k0 ns0 k ns
section
variable {l:List Tok} {en:Int}
theorem Own.refl (k a:Nat)(ns:List Nd):Own l en k ns a ns:=⟨[],[],by simp,rfl,by simp,fun p h=>(by cases h),fun i x p h=>by simp at h⟩
theorem Own.more {k0 k:Nat}{ns0 ns:List Nd}(h:Own l en k0 ns0 k ns){a j:Nat}(h0:a≤k0)(h1:k≤j):Own l en a ns0 j ns:=by
 obtain⟨t,g,e,c,hd,b,d⟩:=h;exact⟨t,g,e,c,hd,fun p f=>by have:=b p f;omega,d⟩
theorem Own.trans {k0 j k m:Nat}{ns0 n q:List Nd}(h:Own l en k0 ns0 j n)(g:Own l en k n m q)(h12:j≤k)(h02:k0≤k)(h13:j≤m):Own l en k0 ns0 m q:=by
 obtain⟨t,G,rfl,w,hd,v,F⟩:=h;obtain⟨u,H,rfl,A,y,r,B⟩:=g
 refine⟨t ++ u,G ++ H,by rw [List.append_assoc],by simp [w,A],?_,?_,?_⟩
 ·rw [List.nodup_append]
  refine⟨hd,y,fun a C b f e=>?_⟩
  have:=v a C;have:=r b f;omega
 ·intro p c;rcases List.mem_append.1 c with c | c
  ·have:=v p c;omega
  ·have:=r p c;omega
 ·intro i x p d c;by_cases D:i < t.length
  ·rw [List.getElem?_append_left D] at d
   rw [List.getElem?_append_left (by omega)] at c
   exact F i x p d c
  ·rw [List.getElem?_append_right (by omega)] at d
   rw [List.getElem?_append_right (by omega),w] at c
   exact B _ x p d c
theorem Own.add {k0 v k p j:Nat}{ns0 ns:List Nd}{n:Nd}(h:Own l en v ns0 k ns)(D:k0≤p)(F:p < v)(I:k≤j)(G:p < j)(C:yA l en n p):Own l en k0 ns0 j (ns ++ [n]):=by
 obtain⟨t,H,rfl,u,hd,r,m⟩:=h
 refine⟨t ++ [n],H ++ [p],by rw [List.append_assoc],by simp [u],?_,?_,?_⟩
 ·rw [List.nodup_append]
  refine⟨hd,by simp,fun a A b f e=>?_⟩
  rw [List.mem_singleton] at f
  have:=r a A;omega
 ·intro q c;rcases List.mem_append.1 c with c | c
  ·have:=r q c;omega
  ·rw [List.mem_singleton] at c;omega
 ·intro i x q d c;by_cases B:i < t.length
  ·rw [List.getElem?_append_left B] at d
   rw [List.getElem?_append_left (by omega)] at c
   exact m i x q d c
  ·rw [List.getElem?_append_right (by omega)] at d
   rw [List.getElem?_append_right (by omega),u] at c
   have g:i - t.length=0:=by
    rcases Nat.eq_zero_or_pos (i - t.length) with h2 | h2
    ·exact h2
    ·rw [List.getElem?_eq_none (by simp;omega)] at d;cases d
   rw [g] at d c
   have w:n=x:=by simpa using d
   have y:p=q:=by simpa using c
   rw [← w,← y];exact C
theorem kM.bad {k0 k:Nat}{ns0:List Nd}:kM l en k0 ns0 (some (.bad k)):=fun ks k ns h=>by cases h
theorem kM.none {k0:Nat}{ns0:List Nd}:kM l en k0 ns0 none:=fun ks k ns h=>by cases h
theorem kM.give {k0 k:Nat}{ns0 ns:List Nd}{ks:List Int}(c:k0≤k)(h:Own l en k0 ns0 k ns):kM l en k0 ns0 (some (.ok ks k ns)):=fun d i f e=>by
 injection e with e
 injection e with g a b
 subst a;subst b;exact⟨c,h⟩
theorem kM.need {k0 k:Nat}{ns0:List Nd}{s:Bs}{f:Option j6}(h:tx l k=s→kM l en k0 ns0 f):kM l en k0 ns0 (Mist.need l s k f):=by
 unfold Mist.need;split
 ·rename_i e;exact h e
 ·exact .bad
theorem kM.bI {k0 k c:Nat}{ns0:List Nd}{f:Option j6}(h:(tg l k).kind=c→kM l en k0 ns0 f):kM l en k0 ns0 (Mist.bI l c k f):=by
 unfold Mist.bI;split
 ·rename_i e;exact h e
 ·exact .bad
theorem kM.thn {k0 a:Nat}{ns0 b:List Nd}{r:Option j6}{f:List Int→Nat→List Nd→Option j6}(h:kM l en a b r)(c:∀ ks k ns,a≤k→Own l en a b k ns→kM l en k0 ns0 (f ks k ns)):kM l en k0 ns0 (Mist.thn r f):=by
 cases r with
 | none=>exact .none
 | some y =>
  cases y with
  | bad k=>exact .bad
  | ok ks k ns=>obtain⟨h1,h2⟩:=h _ _ _ rfl;exact c ks k ns h1 h2
theorem kM.add {k0 d k p j:Nat}{ns0 ns:List Nd}{n:Nd}(h:Own l en d ns0 k ns)(a:k0≤p)(b:p < d)(e:k≤j)(c:p < j)(f:yA l en n p):kM l en k0 ns0 (Mist.add n j ns) :=
 .give (by omega) (h.add a b e c f)
theorem kM.on {k0 f c:Nat}{ns0 d:List Nd}{r:Option j6}(h:kM l en c d r)(g:Own l en k0 ns0 f d)(h0:k0≤c)(h1:f≤c):kM l en k0 ns0 r:=fun ks k ns e=>by
 obtain⟨a,b⟩:=h ks k ns e;exact⟨by omega,g.trans b h1 h0 (by omega)⟩
theorem Uz {v:Lv}{s:Bs}(h:¬ fB v s=0)(ks:List Int)(a:Int):fB v s ≠ 1∧s=markT ⟨fB v s,[],0,ks,a⟩:=by
 cases v <;> unfold fB at h ⊢ <;> (repeat' split) <;> first|(simp_all;done)|(subst_vars;exact⟨by decide,rfl⟩)|(rename_i e;rw [e];exact⟨by decide,rfl⟩)|(rename_i _ e;rw [e];exact⟨by decide,rfl⟩)
theorem oL:∀ (m:Nat) (j:Job) (k:Nat) (ns:List Nd),kM l en k ns (run l en m j k ns)
 | 0,_,_,_=>by rw [run];exact .none
 | m+1,j,k,ns=>by
  have d:=fun j k ns=>oL m j k ns
  have R:=fun A=>Own.refl (l:=l) (en:=en) A A ns
  cases j with
  | expr =>
   rw [run];split
   ·rename_i e
    have h1:=aP e (by simp);refine (d .expr (k+1) ns).thn fun a h f i g=>.need fun _=>?_
    refine (d .expr (h+1) f).thn fun b w u t q=>.need fun _=>?_
    refine (d .expr (w+1) u).thn fun c D F r1 r=>?_
    exact .add (p:=k) ((g.trans q (by omega) (by omega) (by omega)).trans r (by omega) (by omega) (by omega)) (aaJ _) (by omega) (aaJ _) (by omega) ⟨h1,rfl,e⟩
   ·split
    ·rename_i e
     have h1:=aP e (by simp);refine .bI fun _=>.need fun _=>?_
     refine (d .expr (k+3) ns).thn fun a h f i g=>.need fun _=>?_
     refine (d .expr (h+1) f).thn fun b w u t q=>?_
     exact .add (p:=k) (g.trans q (by omega) (by omega) (by omega)) (aaJ _) (by omega) (aaJ _) (by omega) ⟨h1,rfl,e⟩
    ·exact d (.lv .or) k ns
  | lv v =>
   have x:∀ v,kM l en k ns (Mist.thn (run l en m (.lv v.below) k ns) fun a h f=>run l en m (.tail v (hd a)) h f):=fun v =>
    (d (.lv v.below) k ns).thn fun a h f i g=>(d (.tail v (hd a)) h f).on g i (aaJ _)
   cases v with
   | not =>
    rw [run];split
    ·rename_i e
     have h1:=aP e (by simp);exact (d (.lv .not) (k+1) ns).thn fun a h f i g=>.add (p:=k) g (aaJ _) (by omega) (aaJ _) (by omega) ⟨h1,rfl,e⟩
    ·exact d (.lv .cmp) k ns
   | unary =>
    rw [run];split
    ·rename_i e
     have h1:=aP e (by simp);exact (d (.lv .unary) (k+1) ns).thn fun a h f i g=>.add (p:=k) g (aaJ _) (by omega) (aaJ _) (by omega) ⟨h1,rfl,e⟩
    ·exact d .post k ns
   | or=>rw [run] <;> first | exact x _ | simp
   | and=>rw [run] <;> first | exact x _ | simp
   | cmp=>rw [run] <;> first | exact x _ | simp
   | sum=>rw [run] <;> first | exact x _ | simp
   | term=>rw [run] <;> first | exact x _ | simp
  | tail v a =>
   rw [run];split
   ·exact .give (aaJ _) (R k)
   ·rename_i e
    obtain⟨h1,hv⟩:=qo e;refine (d (.lv v.below) (k+1) ns).thn fun b h f i g=>?_
    obtain⟨B,C⟩:=Uz e [a,hd b] (pl l en k);have n:kM l en k ns (Mist.add ⟨fB v (tx l k),[],0,[a,hd b],pl l en k⟩ h f):=.add (p:=k) g (aaJ _) (by omega) (aaJ _) (by omega) ⟨h1,rfl,by rw [if_neg B];exact C⟩;refine n.thn fun c w u t q=>?_
    split
    ·exact .give t q
    ·exact (d (.tail v (hd c)) w u).on q t (aaJ _)
  | post =>
   rw [run];exact (d .atom k ns).thn fun a h f i g=>(d (.iq (hd a)) h f).on g i (aaJ _)
  | iq a =>
   rw [run];split
   ·rename_i e
    have h1:=aP e (by simp);refine .bI fun _=>?_
    have n:kM l en k ns (Mist.add ⟨22,tx l (k+1),0,[a],pl l en k⟩ (k+2) ns):=.add (p:=k) (R (k+1)) (aaJ _) (by omega) (by omega) (by omega) ⟨h1,rfl,e⟩;exact n.thn fun c h f t q=>(d (.iq (hd c)) h f).on q t (aaJ _)
   ·split
    ·rename_i e
     have h1:=aP e (by simp);refine (d .expr (k+1) ns).thn fun b h f i g=>.need fun _=>?_
     have n:kM l en k ns (Mist.add ⟨23,[],0,[a,hd b],pl l en k⟩ (h+1) f):=.add (p:=k) g (aaJ _) (by omega) (by omega) (by omega) ⟨h1,rfl,e⟩;exact n.thn fun c w u t q=>(d (.iq (hd c)) w u).on q t (aaJ _)
    ·exact .give (aaJ _) (R k)
  | atom =>
   rw [run];split
   ·rename_i e
    exact .add (p:=k) (R (k+1)) (aaJ _) (by omega) (by omega) (by omega) ⟨fA e (by simp),rfl,.inl ⟨e,rfl⟩⟩
   split
   ·rename_i e
    exact .add (p:=k) (R (k+1)) (aaJ _) (by omega) (by omega) (by omega) ⟨aP e (by simp),rfl,e⟩
   split
   ·rename_i e
    exact .add (p:=k) (R (k+1)) (aaJ _) (by omega) (by omega) (by omega) ⟨aP e (by simp),rfl,e⟩
   split
   ·refine (d .expr (k+1) ns).thn fun a h f i g=>.need fun _=>?_
    exact .give (by omega) (g.more (by omega) (by omega))
   split
   ·rename_i e
    exact (d (.list .expr) (k+1) ns).thn fun ks h f i g=>.need fun _=>.add (p:=k) g (aaJ _) (by omega) (by omega) (by omega) ⟨aP e (by simp),rfl,e⟩
   refine .bI fun e=>?_
   have h1:=fA e (by simp);split
   ·split
    ·exact .add (p:=k) (R (k+1)) (aaJ _) (by omega) (by omega) (by omega) ⟨h1,rfl,rfl⟩
    ·exact (d (.list .expr) (k+2) ns).thn fun ks h f i g=>.need fun _=>.add (p:=k) g (aaJ _) (by omega) (by omega) (by omega) ⟨h1,rfl,rfl⟩
   split
   ·exact (d (.list .put) (k+2) ns).thn fun ks h f i g=>.need fun _=>.add (p:=k) g (aaJ _) (by omega) (by omega) (by omega) ⟨h1,rfl,rfl⟩
   ·exact .add (p:=k) (R (k+1)) (aaJ _) (by omega) (by omega) (by omega) ⟨h1,rfl,rfl⟩
  | put =>
   rw [run];refine .bI fun e=>.need fun _=>?_
   exact (d .expr (k+2) ns).thn fun a h f i g=>.add (p:=k) g (aaJ _) (by omega) (aaJ _) (by omega) ⟨fA e (by simp),rfl,rfl⟩
  | param =>
   rw [run];refine .bI fun e=>.need fun _=>?_
   exact (d .typ (k+2) ns).thn fun a h f i g=>.add (p:=k) g (aaJ _) (by omega) (aaJ _) (by omega) ⟨fA e (by simp),rfl,rfl⟩
  | typ =>
   rw [run];split
   ·rename_i e
    exact .add (p:=k) (R (k+1)) (aaJ _) (by omega) (by omega) (by omega) ⟨aP e (by simp),rfl,e⟩
   split
   ·rename_i e
    exact .add (p:=k) (R (k+1)) (aaJ _) (by omega) (by omega) (by omega) ⟨aP e (by simp),rfl,e⟩
   split
   ·rename_i e
    exact (d .typ (k+1) ns).thn fun a h f i g=>.need fun _=>.bI fun _=>.need fun _=>.add (p:=k) g (aaJ _) (by omega) (by omega) (by omega) ⟨aP e (by simp),rfl,e⟩
   ·refine .bI fun e=>?_
    exact .add (p:=k) (R (k+1)) (aaJ _) (by omega) (by omega) (by omega) ⟨fA e (by simp),rfl,rfl⟩
  | list e =>
   rw [run];exact (d e.job k ns).thn fun a h f i g=>(d (.eu e [hd a]) h f).on g i (aaJ _)
  | eu e y =>
   rw [run];split
   ·exact (d e.job (k+1) ns).thn fun a h f i g=>(d (.eu e (y ++ [hd a])) h f).on (g.more (Nat.le_succ k) (aaJ _)) (by omega) (aaJ _)
   ·exact .give (aaJ _) (R k)
end
section
variable {l:List Tok} {en:Int}
theorem JY (k:Nat)(ns:List Nd)(a:0 < k∧(tx l (k - 1)=[58]∨tx l (k - 1)=[46,46])):kM l en k ns (sN l en k ns):=by
 unfold sN;split
 ·rename_i e
  exact .bI fun b=>.add (p:=k) (Own.refl (k+1) (k+1) ns) (aaJ _) (by omega) (by omega) (by omega) ⟨aP e (by simp),rfl,.inr ⟨e,a.1,a.2,b,rfl⟩⟩
 ·exact .bI fun e=>.add (p:=k) (Own.refl (k+1) (k+1) ns) (aaJ _) (by omega) (by omega) (by omega) ⟨fA e (by simp),rfl,.inl ⟨e,rfl⟩⟩
theorem L8 {s:Bs}{i:It}(h:Hr s=some i):s=(match i with
  | .choose=>[99,104,111,111,115,101] | .record=>[116,121,112,101] | .zu=>[102,117,110] | .yB=>[108,101,116]
  | .observe=>[111,98,115,101,114,118,101] | .kW=>[114,101,116,114,97,99,116] | .ask=>[97,115,107]):=by
 unfold Hr at h
 repeat' (split at h)
 all_goals first
  | (rename_i e;injection h with h;subst h;exact e)
  | (rename_i _ e;injection h with h;subst h;exact e)
  | cases h
theorem Te (n k:Nat)(ns:List Nd)(h1:k < l.length)(e:tx l k=[97,115,107]):kM l en k ns (wT l en n k ns):=by
 unfold wT;split
 ·exact .bad
 split
 ·exact .add (p:=k) (Own.refl (k+1) (k+1) ns) (aaJ _) (by omega) (by omega) (by omega) ⟨h1,rfl,e⟩
 split
 ·exact (oL n (.list .expr) (k+2) ns).thn fun f d b c g=>.add (p:=k) g (aaJ _) (by omega) (aaJ _) (by omega) ⟨h1,rfl,e⟩
 ·exact (oL n .expr (k+2) ns).thn fun a d b c g=>.add (p:=k) g (aaJ _) (by omega) (aaJ _) (by omega) ⟨h1,rfl,e⟩
theorem zx (n k:Nat)(ps:List Int)(t u:Int)(a:Nat){ns0 ns:List Nd}(h1:k < l.length)(e:tx l k=[102,117,110])(g:Own l en (k+1) ns0 a ns)(d:k+1≤a):kM l en k ns0 (kU l en n k ps t u a ns):=by
 unfold kU;refine .need fun _=>?_
 exact (oL n .expr (a+1) ns).thn fun b f c h q=>.add (p:=k) (g.trans q (by omega) (by omega) (by omega)) (aaJ _) (by omega) (aaJ _) (by omega) ⟨h1,rfl,e⟩
theorem zB (n k:Nat)(ps:List Int)(b:Nat){ns0 c:List Nd}(h1:k < l.length)(e:tx l k=[102,117,110])(g:Own l en (k+1) ns0 b c)(h:k+1≤b):kM l en k ns0 (mg l en n k ps b c):=by
 unfold mg;refine .need fun _=>.need fun _=>?_
 refine (oL n .typ (b+2) c).thn fun t d f i q=>?_
 have a:=g.trans q (by omega) (by omega) (by omega);split
 ·split
  ·exact .bad
  ·exact .bI fun _=>zx n k ps _ _ (d+2) h1 e (a.more (aaJ _) (by omega)) (by omega)
 ·exact zx n k ps _ _ d h1 e a (by omega)
theorem GL (n:Nat)(i:It)(k:Nat)(ns:List Nd)(h1:k < l.length)(h:Hr (tx l k)=some i):kM l en k ns (gI l en n i k ns):=by
 have e:=L8 h
 cases i with
 | choose =>
  unfold gI;refine .bI fun _=>.need fun j=>?_
  refine (JY (k+3) ns ⟨by omega,.inl j⟩).thn fun a c d f g=>.need fun m=>?_
  exact (JY (c+1) d ⟨by omega,.inr m⟩).thn fun b u t w q=>.add (p:=k) (g.trans q (by omega) (by omega) (by omega)) (aaJ _) (by omega) (aaJ _) (by omega) ⟨h1,rfl,e⟩
 | record =>
  unfold gI;refine .bI fun _=>.need fun _=>.need fun _=>?_
  exact (oL n (.list .param) (k+4) ns).thn fun v c d f g=>.need fun _=>.add (p:=k) g (aaJ _) (by omega) (by omega) (by omega) ⟨h1,rfl,e⟩
 | zu =>
  unfold gI;refine .bI fun _=>.need fun _=>?_
  split
  ·exact zB n k [] (k+3) h1 e (Own.refl _ _ ns) (by omega)
  ·exact (oL n (.list .param) (k+3) ns).thn fun r c d f g=>zB n k r c h1 e (g.more (by omega) (aaJ _)) (by omega)
 | yB =>
  unfold gI;refine .bI fun _=>.need fun _=>?_
  exact (oL n .expr (k+3) ns).thn fun a c d f g=>.add (p:=k) g (aaJ _) (by omega) (aaJ _) (by omega) ⟨h1,rfl,e⟩
 | observe =>
  unfold gI;refine .bI fun _=>.need fun _=>?_
  exact (oL n .expr (k+3) ns).thn fun a c d f g=>.add (p:=k) g (aaJ _) (by omega) (aaJ _) (by omega) ⟨h1,rfl,e⟩
 | kW =>
  unfold gI;exact .bI fun _=>.add (p:=k) (Own.refl (k+1) (k+1) ns) (aaJ _) (by omega) (by omega) (by omega) ⟨h1,rfl,e⟩
 | ask =>
  unfold gI;exact Te n k ns h1 e
theorem P9 (n k:Nat)(ns:List Nd):kM l en k ns (item l en n k ns):=by
 unfold item;split
 ·rename_i a
  split
  ·rename_i i h
   exact GL n i k ns (fA a (by simp)) h
  ·exact .bad
 ·exact .bad
theorem Ga (n:Nat):∀ (m k:Nat) (ns:List Nd) (its:List Int),kM l en k ns (prog l en n m k ns its)
 | 0,_,_,_=>by rw [prog];exact .none
 | m+1,k,ns,its=>by
  rw [prog];split
  ·exact (P9 n k ns).thn fun a c b d g=>.need fun _=>(Ga n m (c+1) b _).on g (by omega) (by omega)
  ·exact .give (aaJ _) (Own.refl _ _ _)
end
theorem Hz {l:List Tok}{en:Int}{n m:Nat}{its:List Int}{k:Nat}{ns:List Nd}(h:prog l en n m 0 [] []=some (.ok its k ns)):∃ f:Nat→Nat,(∀ i x,ns[i]? = some x→yA l en x (f i))∧∀ i j,i < ns.length→j < ns.length→f i=f j→i=j:=by
 obtain⟨_,t,b,e,u,hd,_,g⟩:=Ga n m 0 [] [] its k ns h;rw [List.nil_append] at e
 subst e
 refine⟨fun i=>b.getD i 0,fun i x c=>?_,fun i j d r a=>?_⟩
 ·have d:=(aaE.1 c).1;have q:b[i]? = some (b.getD i 0):=by rw [aaH,aaD (by omega)];rfl
  exact g i x _ c q
 ·replace a:b.getD i 0=b.getD j 0:=a
  rw [aaH,aaH,aaD (by omega),aaD (by omega)] at a
  exact (List.getElem_inj hd).1 a
structure lF (s:Bs) (l:List Tok) (p q:Nat):Prop where
 at_:(tg l p).at_=(q:Int)
 lt:q < s.length
 first:Mist.first (s.drop q)=((tg l p).kind,(tg l p).text)
 kind:(tg l p).kind ≠ 0
theorem wB:∀ {l:List Tok} {s:Bs} {a:Nat},Placed s a l→∃ g:Nat→Nat,(∀ p,p < l.length→lF s l p (g p)∧a≤g p)∧∀ p r,p < r→r < l.length→g p < g r
 | [],_,_,_=>⟨fun _=>0,fun p h=>by simp at h,fun p r _ h=>by simp at h⟩
 | t :: r,s,a,h=>by
  obtain⟨h1,h2,h3,h4,h5⟩:=h;obtain⟨g,d,f⟩:=wB h5
  have m:0 < t.text.length:=by
   have:=(kr (s.drop a) (by rw [h3];exact h4)).1
   rw [h3] at this;exact this
  refine⟨fun p=>match p with | 0=>a | p+1=>g p,fun p i=>?_,fun p q j k=>?_⟩
  ·cases p with
   | zero=>exact⟨⟨h2,h1,h3,h4⟩,aaJ _⟩
   | succ p =>
    obtain⟨c,n⟩:=d p (by simpa using i);have e:tg (t :: r) (p+1)=tg r p:=by simp [tg]
    exact⟨⟨by rw [e];exact c.at_,c.lt,by rw [e];exact c.first,by rw [e];exact c.kind⟩,by show a≤g p;omega⟩
  ·cases q with
   | zero=>omega
   | succ q =>
    have b:q < r.length:=by simpa using k
    cases p with
    | zero=>have:=(d q b).2;show a < g q;omega
    | succ p=>exact f p q (by omega) b
theorem Hw {s:Bs}{l:List Tok}{en:Int}{n m:Nat}{its:List Int}{k:Nat}{ns:List Nd}(w:(Mist.read s).2.2=0)(v:(Mist.read s).1=l)(h:prog l en n m 0 [] []=some (.ok its k ns)) :
  ∃ (f g:Nat→Nat),(∀ i x,ns[i]? = some x→yA l en x (f i)∧lF s l (f i) (g (f i))∧x.at_=(g (f i):Int))∧∀ i j,i < ns.length→j < ns.length→g (f i)=g (f j)→i=j:=by
 obtain⟨f,h1,h2⟩:=Hz h;have r:=yL s w;rw [v] at r
 obtain⟨g,u,c⟩:=wB r
 have a:∀ i x,ns[i]? = some x→yA l en x (f i)∧lF s l (f i) (g (f i))∧x.at_=(g (f i):Int):=fun i x b=>by
  have o:=h1 i x b;have t:=(u (f i) o.lt).1
  refine⟨o,t,?_⟩
  rw [o.at_];unfold pl;rw [if_pos o.lt];exact t.at_
 refine⟨f,g,a,fun i j d q e=>?_⟩
 obtain⟨x,b⟩:∃ x,ns[i]? = some x:=⟨_,aaD d⟩;obtain⟨y,hy⟩:∃ y,ns[j]? = some y:=⟨_,aaD q⟩;refine h2 i j d q ?_;rcases Nat.lt_trichotomy (f i) (f j) with h | h | h
 ·have:=c _ _ h (a j y hy).1.lt;omega
 ·exact h
 ·have:=c _ _ h (a i x b).1.lt;omega
theorem lF.text {s:Bs}{l:List Tok}{p q:Nat}(h:lF s l p q):tx l p=(s.drop q).take (tx l p).length:=by
 have:=Rz (s.drop q) (by rw [h.first];exact h.kind)
 rw [h.first] at this
 exact this
theorem lF.num {s:Bs}{l:List Tok}{p q:Nat}(h:lF s l p q)(a:(tg l p).kind=2):g_ (tx l p)=true:=by
 have h1:=h.first;rw [a] at h1
 unfold Mist.first at h1
 split at h1
 ·injection h1 with h1;omega
 split at h1
 ·split at h1
  ·injection h1 with h1;omega
  split at h1
  ·injection h1 with h1;omega
  ·injection h1 with h1;omega
 split at h1
 ·split at h1
  ·rename_i b
   injection h1 with _ h2
   unfold tx;rw [← h2];exact b
  ·injection h1 with h1;omega
 ·split at h1
  ·injection h1 with h1;omega
  ·injection h1 with h1;omega
theorem YW {c:UInt8}(h:aQ c=true):48≤c.toNat∧c.toNat≤57:=by
 simpa [aQ,UInt8.le_iff_toNat_le] using h
theorem Nr (p:UInt8→Bool)(s:Bs)(c:UInt8)(h:c ∈ s.take (aV p s)):p c=true:=by
 unfold aV at h
 rw [← List.prefix_iff_eq_take.1 (List.takeWhile_prefix p)] at h
 exact aaR.1 List.all_takeWhile c h
structure Au (s:Bs):Prop where
 ne:s ≠ []
 len:s.length≤4
 O7:∀ c ∈ s,48≤c.toNat∧c.toNat≤57
 lead:s.length=1∨gt s 0 ≠ 48
theorem Au.cases {s:Bs}(h:Au s):(∃ a,s=[a]∧48≤a.toNat∧a.toNat≤57∧numOf s=a.toNat - 48) ∨
  (∃ a b,s=[a,b]∧49≤a.toNat∧a.toNat≤57∧48≤b.toNat∧b.toNat≤57∧numOf s=10 * (a.toNat - 48)+(b.toNat - 48)) ∨
  (∃ a b c,s=[a,b,c]∧49≤a.toNat∧a.toNat≤57∧48≤b.toNat∧b.toNat≤57∧48≤c.toNat∧c.toNat≤57∧numOf s=10 * (10 * (a.toNat - 48)+(b.toNat - 48))+(c.toNat - 48)) ∨
  (∃ a b c d,s=[a,b,c,d]∧49≤a.toNat∧a.toNat≤57∧48≤b.toNat∧b.toNat≤57∧48≤c.toNat∧c.toNat≤57∧48≤d.toNat∧d.toNat≤57∧numOf s=10 * (10 * (10 * (a.toNat - 48)+(b.toNat - 48))+(c.toNat - 48))+(d.toNat - 48)):=by
 have lead:∀ {a:UInt8} {b:UInt8} {r:Bs},Au (a :: b :: r)→49≤a.toNat:=fun {a b r} h=>by
  have h1:=h.O7 a (by simp)
  have h2:a ≠ 48:=by
   rcases h.lead with h3 | h3
   ·simp at h3
   ·exact h3
  have h4:a.toNat ≠ 48:=fun e=>h2 (UInt8.toNat_inj.1 (by rw [e];rfl))
  omega
 rcases s with _ | ⟨a,_ | ⟨b,_ | ⟨c,_ | ⟨d,_ | ⟨e,r⟩⟩⟩⟩⟩
 ·exact absurd rfl h.ne
 ·have h1:=h.O7 a (by simp);exact .inl ⟨a,rfl,h1.1,h1.2,by simp [numOf,digits]⟩
 ·have h1:=h.O7 a (by simp);have h2:=h.O7 b (by simp);have h3:=lead h;exact .inr (.inl ⟨a,b,rfl,h3,h1.2,h2.1,h2.2,by simp [numOf,digits]⟩)
 ·have h1:=h.O7 a (by simp);have h2:=h.O7 b (by simp);have h3:=lead h;have h4:=h.O7 c (by simp);exact .inr (.inr (.inl ⟨a,b,c,rfl,h3,h1.2,h2.1,h2.2,h4.1,h4.2,by simp [numOf,digits]⟩))
 ·have h1:=h.O7 a (by simp);have h2:=h.O7 b (by simp);have h3:=lead h;have h4:=h.O7 c (by simp);have h5:=h.O7 d (by simp);exact .inr (.inr (.inr ⟨a,b,c,d,rfl,h3,h1.2,h2.1,h2.2,h4.1,h4.2,h5.1,h5.2,by simp [numOf,digits]⟩))
 ·have:=h.len;simp at this
theorem vW {a b:UInt8}(h:a.toNat=b.toNat):a=b:=UInt8.toNat_inj.1 h
theorem Au.inj {s t:Bs}(A:Au s)(B:Au t)(h:numOf s=numOf t):s=t:=by
 rcases A.cases with ⟨a,rfl,g,i,e⟩ | ⟨a,b,rfl,g,i,m,n,e⟩ | ⟨a,b,c,rfl,g,i,m,n,v,w,e⟩ | ⟨a,b,c,d,rfl,g,i,m,n,v,w,F,G,e⟩ <;>
  rcases B.cases with ⟨x,rfl,j,k,f⟩ | ⟨x,y,rfl,j,k,q,r,f⟩ | ⟨x,y,z,rfl,j,k,q,r,C,D,f⟩ | ⟨x,y,z,u,rfl,j,k,q,r,C,D,H,I,f⟩ <;> rw [e,f] at h <;> first
  | (exfalso;omega)
  | (rw [vW (show a.toNat=x.toNat by omega)];done)
  | (rw [vW (show a.toNat=x.toNat by omega),vW (show b.toNat=y.toNat by omega)];done)
  | (rw [vW (show a.toNat=x.toNat by omega),vW (show b.toNat=y.toNat by omega),vW (show c.toNat=z.toNat by omega)];done)
  | (rw [vW (show a.toNat=x.toNat by omega),vW (show b.toNat=y.toNat by omega),vW (show c.toNat=z.toNat by omega),vW (show d.toNat=u.toNat by omega)];done)
theorem lF.numT {s:Bs}{l:List Tok}{p q:Nat}(h:lF s l p q)(f:(tg l p).kind=2):Au (tx l p):=by
 have a:=h.num f;unfold g_ at a
 rw [aaS,decide_eq_true_iff,Bool.or_eq_true] at a
 have h1:=h.first;rw [f] at h1
 have b:=(kr (s.drop q) (by rw [h.first];exact h.kind)).1;rw [h.first] at b
 refine⟨fun e=>?_,a.1,?_,?_⟩
 ·have e:(tg l p).text=[]:=e;rw [e] at b;exact absurd b (by simp)
 ·have hd:∃ n,tx l p=(s.drop q).take (aV aQ (s.drop q))∧n=0:=by
   unfold Mist.first at h1
   split at h1
   ·injection h1 with h1;omega
   split at h1
   ·split at h1
    ·injection h1 with h1;omega
    split at h1
    ·injection h1 with h1;omega
    ·injection h1 with h1;omega
   split at h1
   ·split at h1
    ·injection h1 with _ h2
     exact⟨0,h2.symm,rfl⟩
    ·injection h1 with h1;omega
   ·split at h1
    ·injection h1 with h1;omega
    ·injection h1 with h1;omega
  obtain⟨_,hd,_⟩:=hd;intro c d;rw [hd] at d
  exact YW (Nr _ _ c d)
 ·rcases a.2 with h2 | h2
  ·exact .inl (by simpa using h2)
  ·exact .inr (by simpa using h2)
def Kr (s:Bs):Bool:=decide (0 < s.length) && decide (s.length≤4) && s.all (fun c=>decide (48≤c.toNat) && decide (c.toNat≤57)) && (s.length == 1 || gt s 0 != 48)
theorem Kw {s:Bs}(h:Kr s=true):Au s:=by
 unfold Kr at h
 simp only [aaS,decide_eq_true_eq,Bool.or_eq_true,aaR] at h
 obtain⟨⟨⟨h1,h2⟩,h3⟩,h4⟩:=h;exact⟨fun e=>by rw [e] at h1;simp at h1,h2,h3,h4.elim (fun h=>.inl (by simpa using h)) (fun h=>.inr (by simpa using h))⟩
theorem Qh:∀ a b:Fin 100,(Kr (Go.Lib.itoa ((100 * a.val+b.val:Nat):Int)) && numOf (Go.Lib.itoa ((100 * a.val+b.val:Nat):Int)) == 100 * a.val+b.val)=true:=by decide +kernel
theorem JZ {n:Nat}(h:n < 10000):(Kr (Go.Lib.itoa (n:Int)) && numOf (Go.Lib.itoa (n:Int)) == n)=true:=by
 have:=Qh ⟨n / 100,by omega⟩ ⟨n % 100,by omega⟩
 simp only at this
 rw [show 100 * (n / 100)+n % 100=n by omega] at this
 exact this
theorem Mw {s:Bs}(h:Au s):numOf s < 10000:=by
 rcases h.cases with ⟨a,rfl,f,g,e⟩ | ⟨a,b,rfl,f,g,i,j,e⟩ | ⟨a,b,c,rfl,f,g,i,j,k,m,e⟩ | ⟨a,b,c,d,rfl,f,g,i,j,k,m,n,q,e⟩ <;> omega
theorem Au.itoa {s:Bs}(h:Au s):Go.Lib.itoa ((numOf s:Nat):Int)=s:=by
 have h1:=JZ (Mw h);rw [aaS] at h1
 exact (Kw h1.1).inj h (eq_of_beq h1.2)
def bP (st:Nat)(t:Bs):Option Nat :=
 if t=[58]∨t=[46,46] then some 1 else if t=[45]∧st=1 then some 2 else if st=2∧t=[48] then none else some 0
def bY:Nat→bN→Option Nat
 | st,[]=>some st
 | st,(_,_,t) :: r=>(bP st t).bind fun s=>bY s r
theorem cK:∀ (I J:bN) (c:Nat),bY c (I ++ J)=(bY c I).bind fun s=>bY s J
 | [],_,_=>rfl
 | (a,b,t) :: r,J,c=>by
  show ((bP c t).bind fun s=>bY s (r ++ J))=((bP c t).bind fun s=>bY s r).bind fun s=>bY s J
  cases bP c t with
  | none=>rfl
  | some s=>exact cK r J s
theorem iY (g:Bs)(I:bN)(a:Nat):bY a (bN.on g I)=bY a I:=by
 cases I with
 | nil=>rfl
 | cons x r=>rfl
theorem bC (a:Nat)(g:Bs)(k:Nat)(t:Bs)(r:bN):bY a ((g,k,t) :: r)=(bP a t).bind fun s=>bY s r:=rfl
theorem eX (a:Nat)(t:Bs)(r:bN):bY a (bR t :: r)=(bP a t).bind fun s=>bY s r:=rfl
theorem jy (a:Nat):bY a []=some a:=rfl
theorem uJ (b:Nat):bP 0 (aY b)=some 0∧bP 1 (aY b)=some 0:=by
 have:∀ m:Fin 8,bP 0 (sg iX m.val)=some 0∧bP 1 (sg iX m.val)=some 0:=by decide
 exact this ⟨b % 8,Nat.mod_lt _ (by omega)⟩
theorem QX:∀ n:Fin 140,bP 0 (Go.Lib.itoa ((n.val:Nat):Int))=some 0∧bP 1 (Go.Lib.itoa ((n.val:Nat):Int))=some 0∧(0 < n.val→bP 2 (Go.Lib.itoa ((n.val:Nat):Int))=some 0):=by decide +kernel
theorem Uf {n:Nat}(h:n < 140):bP 0 (Go.Lib.itoa (n:Int))=some 0∧bP 1 (Go.Lib.itoa (n:Int))=some 0:=⟨(QX ⟨n,h⟩).1,(QX ⟨n,h⟩).2.1⟩
theorem ops_z:∀ k:Fin 13,bP 0 (sg fD k.val)=some 0:=by decide
theorem MU:∀ k:Fin 9,bP 0 (sg iB k.val)=some 0:=by decide
structure Tc (I:bN):Prop where
 a:bY 0 I=some 0
 b:bY 1 I=some 0
theorem Tc.of {I:bN}(h:∀ a,a=0∨a=1→bY a I=some 0):Tc I:=⟨h 0 (.inl rfl),h 1 (.inr rfl)⟩
theorem DL (ay:Bool){I:bN}(s:bB)(h:bY 0 I=some 0):Tc (fG ay I s):=by
 refine .of fun e c=>?_
 have d:bP e [40]=some 0:=by rcases c with rfl | rfl <;> decide
 have a:bP 0 [40]=some 0:=by decide
 have b:bP 0 [41]=some 0:=by decide
 unfold fG;split <;> simp only [List.cons_append,eX,bC,cK,jy,d,a,b,h,Option.bind_some]
theorem Hg {n:Int}(h1:-15≤n)(h2:n < 140):bY 1 (fE n)=some 0:=by
 unfold fE;split
 ·have:=(QX ⟨(-n).toNat,by omega⟩).2.2 (by show 0 < (-n).toNat;omega)
  rw [show (((-n).toNat:Nat):Int)=-n by omega] at this
  rw [bC,show bP 1 [45]=some 2 by decide]
  show bY 2 [([],2,Go.Lib.itoa (-n))]=some 0
  rw [bC,this];rfl
 ·have:=(Uf (n:=n.toNat) (by omega)).2
  rw [show ((n.toNat:Nat):Int)=n by omega] at this
  rw [bC,this];rfl
theorem Qq (b:Nat)(c:b < 60)(s:bB):Tc (kY b s).pc:=by
 refine .of fun d a=>?_
 unfold kY bJ;split
 ·rw [CF,bC]
  have:=Uf (n:=b * 7) (by omega)
  rcases a with rfl | rfl
  ·rw [this.1];rfl
  ·rw [this.2];rfl
 split
 ·rw [bC];rcases a with rfl | rfl <;> split <;> rfl
 ·rw [bC]
  have:=uJ b
  rcases a with rfl | rfl
  ·rw [this.1];rfl
  ·rw [this.2];rfl
section
variable (ay:Bool) {E:bB→j4} (hE:∀ s,Tc (E s).pc)
include hE
theorem C8:∀ (m:Nat) (r:oG),bY 0 r.pc=some 0→bY 0 (bK ay E m r).pc=some 0
 | 0,_,h=>h
 | m+1,r,h=>by
  rw [bK];split
  ·exact C8 m _ (by show bY 0 (r.pc ++ _)=_;rw [cK,h];exact (hE _).a)
  ·exact C8 m _ (by
    show bY 0 (r.pc ++ (bR [44] :: bN.on _ _))=_
    rw [cK,h]
    show bY 0 (bR [44] :: bN.on _ _)=_
    rw [eX,show bP 0 [44]=some 0 by decide]
    show bY 0 (bN.on _ _)=_
    rw [iY];exact (hE _).a)
theorem RA:∀ (m:Nat) (r:oG),bY 0 r.pc=some 0→bY 0 (dQ ay E m r).pc=some 0
 | 0,_,h=>h
 | m+1,r,h=>by
  rw [dQ];refine RA m _ ?_;have d:=fun b=>(uJ b).1
  have c:bP 0 [58]=some 1:=by decide
  have a:bP 0 [44]=some 0:=by decide
  show bY 0 (r.pc ++ _)=_
  rw [cK,h];simp only [Option.bind_some];split <;> simp only [bC,eX,d,c,a,Option.bind_some] <;> exact (hE _).b
theorem op_z (b:Nat)(s:bB):Tc (Ba ay E b s).pc:=by
 unfold Ba;split
 ·unfold zV;refine DL ay _ ?_;rw [show (if b % 2=0 then (([]:Bs),3,([110,111,116]:Bs)) else bR [45])=(([]:Bs),(if b % 2=0 then 3 else 4),(if b % 2=0 then ([110,111,116]:Bs) else [45])) by split <;> rfl,bC,show bP 0 (if b % 2=0 then ([110,111,116]:Bs) else [45])=some 0 by split <;> decide]
  show bY 0 (bN.on _ _)=_
  rw [iY];exact (hE _).a
 ·unfold CW;refine DL ay _ ?_;have o:bP 0 (sg fD (b % 13))=some 0:=ops_z ⟨b % 13,Nat.mod_lt _ (by omega)⟩;have A:=fun s=>(hE s).a
  simp only [cK,bC,iY,A,o,Option.bind_some]
theorem Yr (b:Nat)(s:bB):Tc (dZ ay E b s).pc:=by
 have A:=fun s=>(hE s).a
 have d:=fun b=>(uJ b).1
 have g:=fun b=>(uJ b).2
 have h:∀ m s,bY 0 (bK ay E m ⟨[],[],s⟩).pc=some 0:=fun m s=>C8 ay hE m _ rfl
 have n:∀ m s,bY 0 (dQ ay E m ⟨[],[],s⟩).pc=some 0:=fun m s=>RA ay hE m _ rfl
 have q:bP 0 [105,102]=some 0:=by decide
 have r:bP 0 [116,104,101,110]=some 0:=by decide
 have t:bP 0 [101,108,115,101]=some 0:=by decide
 have u:bP 0 [108,101,116]=some 0:=by decide
 have v:bP 0 [61]=some 0:=by decide
 have w:bP 0 [105,110]=some 0:=by decide
 have e:bP 0 [40]=some 0:=by decide
 have f:bP 0 [41]=some 0:=by decide
 have x:bP 0 [46]=some 0:=by decide
 have i:bP 0 [91]=some 0:=by decide
 have j:bP 0 [93]=some 0:=by decide
 have y:bP 0 [123]=some 0:=by decide
 have B:bP 0 [125]=some 0:=by decide
 have k:bP 1 [40]=some 0:=by decide
 have C:bP 1 [91]=some 0:=by decide
 unfold dZ;simp only
 split
 ·unfold SH;refine DL ay _ ?_;simp only [bC,cK,iY,A,q,r,t,Option.bind_some]
 split
 ·unfold BF;refine DL ay _ ?_;simp only [bC,cK,iY,A,d,u,v,w,Option.bind_some]
 split
 ·unfold vI bJ;refine .of fun c a=>?_
  rcases a with rfl | rfl <;> simp only [bC,eX,cK,jy,d,g,h,e,f,Option.bind_some]
 split
 ·unfold qz bJ;refine .of fun c a=>?_
  rcases a with rfl | rfl <;> simp only [bC,eX,cK,jy,A,d,g,e,f,x,k,Option.bind_some]
 split
 ·unfold qC bJ;refine .of fun c a=>?_
  rcases a with rfl | rfl <;> simp only [bC,eX,cK,jy,A,e,f,i,j,k,Option.bind_some]
 split
 ·unfold qc bJ;refine .of fun c a=>?_
  rcases a with rfl | rfl <;> simp only [bC,eX,cK,iY,jy,h,i,j,C,Option.bind_some]
 ·unfold BI bJ;refine .of fun c a=>?_
  rcases a with rfl | rfl <;> simp only [bC,eX,cK,jy,d,g,n,y,B,Option.bind_some]
end
theorem AO (ay:Bool):∀ (d:Nat) (s:bB),Tc (bA ay d s).pc
 | 0,s=>by rw [bA];exact Qq _ (Nat.mod_lt _ (by omega)) _
 | d+1,s=>by
  rw [bA];split
  ·rename_i h;exact Qq _ h _
  split
  ·exact op_z ay (AO ay d) _ _
  ·exact Yr ay (AO ay d) _ _
theorem GN (ay:Bool):∀ (d:Nat) (s:bB),Tc (bF ay d s).pc
 | 0,s=>by
  have w:=uJ s.nx;refine .of fun i b=>?_
  rw [bF];unfold bJ;rcases b with rfl | rfl <;> (repeat' split) <;> first | rfl|(simp only [bC,w.1,w.2];rfl)
 | d+1,s=>by
  have w:=uJ s.nx;refine .of fun i b=>?_
  rw [bF];unfold bJ;split
  ·rcases b with rfl | rfl <;> rfl
  split
  ·rcases b with rfl | rfl <;> rfl
  split
  ·rcases b with rfl | rfl <;> (simp only [bC,w.1,w.2];rfl)
  ·have n:=fun n (h:n < 140)=>(Uf h).1
   have c:bP 0 [91]=some 0:=by decide
   have e:bP 1 [91]=some 0:=by decide
   have f:bP 0 [59]=some 0:=by decide
   have g:bP 0 [93]=some 0:=by decide
   have a:=fun s=>(GN ay d s).a
   rcases b with rfl | rfl <;> simp only [eX,bC,cK,jy,c,e,f,g,a,Option.bind_some] <;> rw [n _ (by omega)] <;> rfl
theorem F7 (ay:Bool):∀ (m:Nat) (r:oG),bY 0 r.pc=some 0→bY 0 (bE ay m r).pc=some 0
 | 0,_,h=>h
 | m+1,r,h=>by
  rw [bE];refine F7 ay m _ ?_;have e:=fun b=>(uJ b).1
  have c:bP 0 [58]=some 1:=by decide
  have a:bP 0 [44]=some 0:=by decide
  have d:=fun s=>(GN ay 2 s).b
  show bY 0 (r.pc ++ _)=_
  rw [cK,h];simp only [Option.bind_some];split <;> simp only [bC,eX,iY,e,c,a,d,Option.bind_some]
theorem OD (ay:Bool)(x:Bs)(a:bP 0 x=some 0)(s:bB):bY 0 (mh ay x s).pc=some 0:=by
 have b:bP 0 [99,104,111,111,115,101]=some 0:=by decide
 have c:bP 0 [58]=some 1:=by decide
 have d:bP 0 [46,46]=some 1:=by decide
 have n:=fun m (h1:-15≤m) (h2:m < 140)=>Hg h1 h2
 unfold mh bX bJ;simp only [bC,eX,cK,iY,b,c,a,Option.bind_some];rw [Hg (by omega) (by omega)];simp only [bC,iY,d,Option.bind_some];rw [Hg (by omega) (by omega)]
theorem Qe (ay:Bool)(s:bB):bY 0 (dH ay s).pc=some 0:=by
 have A:=fun d s=>(AO ay d s).a
 have B:=fun d s=>(AO ay d s).b
 have K:=fun s=>(GN ay 2 s).b
 have a:=fun b=>(uJ b).1
 have h:∀ m s,bY 0 (bE ay m ⟨[],[],s⟩).pc=some 0:=fun m s=>F7 ay m _ rfl
 have r:∀ d m s,bY 0 (bK ay (bA ay d) m ⟨[],[],s⟩).pc=some 0:=fun d m s=>C8 ay (AO ay d) m _ rfl
 have t:bP 0 [116,121,112,101]=some 0:=by decide
 have e:bP 0 [61]=some 0:=by decide
 have u:bP 0 [123]=some 0:=by decide
 have v:bP 0 [125]=some 0:=by decide
 have w:bP 0 [102,117,110]=some 0:=by decide
 have x:bP 0 [40]=some 0:=by decide
 have y:bP 0 [41]=some 0:=by decide
 have i:bP 0 [58]=some 1:=by decide
 have C:bP 0 [108,101,116]=some 0:=by decide
 have D:bP 0 [111,98,115,101,114,118,101]=some 0:=by decide
 have F:bP 0 [114,101,116,114,97,99,116]=some 0:=by decide
 have G:bP 0 [97,115,107]=some 0:=by decide
 have H:bP 0 [59]=some 0:=by decide
 have I:bP 0 [117,112,116,111]=some 0:=by decide
 have c:bY 0 (cO ay s).pc=some 0:=by
  unfold cO;simp only
  split
  ·exact OD ay _ (a _) _
  split
  ·unfold xW bJ;simp only [bC,eX,cK,jy,a,h,t,e,u,v,Option.bind_some]
  split
  ·have j:∀ (n:Nat) (g:Bs),n < 9→bY 0 (if 0 < n then [(([32]:Bs),3,([117,112,116,111]:Bs)),(g,2,Go.Lib.itoa (n:Int))] else [])=some 0:=fun n g f=>by
    split
    ·rw [bC,I]
     show bY 0 [(g,2,Go.Lib.itoa (n:Int))]=some 0
     rw [bC,(Uf (show n < 140 by omega)).1];rfl
    ·rfl
   have f:∀ s,mV s < 9:=fun s=>by unfold mV;split <;> omega
   unfold zS bJ;simp only [bC,eX,cK,a,h,K,w,x,y,i,Option.bind_some];rw [j _ _ (f _)];simp only [bC,A,e,Option.bind_some]
  split
  ·unfold mG bJ;simp only [bC,eX,iY,a,A,C,e,Option.bind_some]
  split
  ·unfold mH bJ;simp only [bC,a,B,D,i,Option.bind_some]
  split
  ·unfold mK bJ;simp only [bC,jy,a,F,Option.bind_some]
  ·have q:∀ k,k < 8→bP 0 (sg iB (1+k))=some 0:=fun k J=>MU ⟨1+k,by omega⟩
   unfold o8 bJ;simp only [bC,iY,G,Option.bind_some];rw [q _ (Nat.mod_lt _ (by omega))];simp only [r,Option.bind_some]
 unfold dH
 show bY 0 ((cO ay s).pc ++ _)=_
 rw [cK,c];simp only [bC,jy,H,Option.bind_some]
theorem Pv (ay:Bool):∀ (m:Nat) (r:oG),bY 0 r.pc=some 0→bY 0 (jH ay m r).pc=some 0
 | 0,_,h=>h
 | m+1,r,h=>by
  rw [jH];split
  ·exact h
  ·refine Pv ay m _ ?_
   show bY 0 (r.pc ++ _)=_
   rw [cK,h];simp only [Option.bind_some];split
   ·exact Qe ay _
   ·rw [iY];exact Qe ay _
theorem TJ (ay:Bool)(b:Bs):bY 0 (grown ay b).pc=some 0:=Pv ay 12 _ rfl
theorem KP:∀ {I:bN} {q e:Nat},bY q I=some e→∀ (i:Nat) (f j k:Bs) (g m n:Nat) (t:Bs),I[i]? = some (f,g,t)→(t=[58]∨t=[46,46])→I[i+1]? = some (j,m,[45])→I[i+2]? = some (k,n,[48])→False
 | [],_,_,_,i,_,_,_,_,_,_,_,h,_,_,_=>by simp at h
 | (a,b,u) :: r,q,e,c,i,f,j,k,g,m,n,t,h1,ht,h2,h3=>by
  rw [bC] at c
  cases d:bP q u with
  | none=>rw [d] at c;cases c
  | some v =>
   rw [d] at c
   have c:bY v r=some e:=c
   cases i with
   | succ i=>exact KP c i f j k g m n t h1 ht h2 h3
   | zero =>
    have A:u=t:=by
     have h1:some (a,b,u)=some (f,g,t):=h1;injection h1 with h1;injection h1 with _ h1;injection h1
    have B:v=1:=by
     unfold bP at d
     rw [if_pos (by rw [A];exact ht)] at d
     exact (aaP d).symm
    subst B;rcases r with _ | ⟨⟨H,J,F⟩,_ | ⟨⟨w,y,G⟩,r⟩⟩
    ·simp at h2
    ·simp at h3
    ·have C:F=[45]:=by simpa using congrArg (fun o=>o.map fun x:Bs × Nat × Bs=>x.2.2) h2
     have D:G=[48]:=by simpa using congrArg (fun o=>o.map fun x:Bs × Nat × Bs=>x.2.2) h3
     rw [C,D,bC,show bP 1 [45]=some 2 by decide] at c
     have c:bY 2 ((w,y,[48]) :: r)=some e:=c;rw [bC,show bP 2 [48]=none by decide] at c
     cases c
def sP (x:Nd):Bs:=if x.kind=1 then (Go.Lib.itoa x.n).take 1 else markT x
theorem Rs {I:bN}{i:Nat}(h:i < I.length):∃ g k,I[i]? = some (g,k,tx (fO 0 I) i):=by
 obtain⟨⟨g,k,t⟩,a⟩:∃ x,I[i]? = some x:=⟨_,aaD h⟩
 have:=(En I i g k t a).2
 rw [Nat.zero_add] at this
 exact⟨g,k,by rw [this];exact a⟩
structure N8 (s:Bs) (x:Nd) (q:Nat):Prop where
 at_:x.at_=(q:Int)
 lt:q < s.length
 len:(sP x).length≤(s.drop q).length
 text:(s.drop q).take (sP x).length=sP x
theorem T9 {s:Bs}{x:Nd}{q:Nat}{t:Bs}(h1:x.at_=(q:Int))(h2:q < s.length)(c:t=(s.drop q).take t.length)(d:∃ r,t=sP x ++ r):N8 s x q:=by
 obtain⟨r,b⟩:=d
 have f:t.length≤(s.drop q).length:=by
  have:=congrArg List.length c
  rw [List.length_take] at this;omega
 have a:(sP x).length≤t.length:=by rw [b,aaO];omega
 refine⟨h1,h2,by omega,?_⟩
 have e:((s.drop q).take t.length).take (sP x).length=(s.drop q).take (sP x).length:=by rw [List.take_take,Nat.min_eq_left a]
 rw [← e,← c,b];simp
theorem MR {b:Bs}{T:Tr}{ay:Bool}(G:CU ay b T):∃ g:Nat→Nat,(∀ i x,T.nodes[i]? = some x→N8 (bZ ay b) x (g i))∧∀ i j,i < T.nodes.length→j < T.nodes.length→g i=g j→i=j:=by
 obtain⟨n,J⟩:=G.prog;obtain⟨f,g,h1,h2⟩:=Hw (s:=bZ ay b) (by rw [G.read]) (by rw [G.read]) J
 refine⟨fun i=>g (f i),fun i x K=>?_,h2⟩
 obtain⟨o,k,C⟩:=h1 i x K;refine T9 C k.lt k.text ?_;have c:=o.tok;unfold sP;by_cases r:x.kind=1
 ·rw [if_pos r] at c ⊢
  rcases c with ⟨h,e⟩ | ⟨m,N,v,q,w⟩
  ·have:=(k.numT h).itoa
   rw [e,this];exact⟨_,(List.take_append_drop 1 _).symm⟩
  ·have F:=fA q (by simp);have H:=mW 0 (grown ay b).pc;obtain⟨A,h,t⟩:=Rs (I:=(grown ay b).pc) (i:=f i) (by omega);obtain⟨y,L,p1⟩:=Rs (I:=(grown ay b).pc) (i:=f i - 1) (by omega);obtain⟨B,M,u⟩:=Rs (I:=(grown ay b).pc) (i:=f i+1) (by omega)
   have Q:numOf (tx (fO 0 (grown ay b).pc) (f i+1)) ≠ 0:=fun h0=>by
    have a:=yL (bZ ay b) (by rw [G.read]);rw [G.read] at a
    obtain⟨P,D,_⟩:=wB a
    have:=((D (f i+1) F).1.numT q).itoa
    rw [h0] at this
    have d:tx (fO 0 (grown ay b).pc) (f i+1)=[48]:=by rw [← this];decide +kernel
    rw [d] at u
    rw [m] at t
    exact KP (TJ ay b) (f i - 1) y A B L h M _ p1 v (by rw [show f i - 1+1=f i by omega];exact t) (by rw [show f i - 1+2=f i+1 by omega];exact u)
   rw [w,m];unfold Go.Lib.itoa;rw [if_pos (by omega)];exact⟨[],rfl⟩
 ·rw [if_neg r] at c ⊢
  exact⟨[],by rw [List.append_nil];exact c⟩
end Go.Proofs.YthepmkjggfijoaaGreatDoor
namespace Go.Proofs.YthepmkjggfijoaaGreatDoor
end Go.Proofs.YthepmkjggfijoaaGreatDoor
namespace Go.Proofs.YthepmkjggfijoaaGreatDoor
open Go.RowKit Mist
attribute [local go_sem] aj aH aS aB ak
end Go.Proofs.YthepmkjggfijoaaGreatDoor
