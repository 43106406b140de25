/-
  A part of the proof.
-/
import Derived.Test.YthepmkjggfijoaaGreatDoorSA
import Derived.Test.YthepmkjggfijoaaGreatDoorW04
set_option linter.all false
set_option maxRecDepth 100000
namespace Mist
def Far (j:Nat):Option j6→Prop
 | none=>True
 | some (.bad k)=>j≤k
 | some (.ok _ k _)=>j≤k
theorem Far.le {a b:Nat}:∀ {r:Option j6},Far b r→a≤b→Far a r
 | none,_,_=>trivial
 | some (.bad _),h,k=>Nat.le_trans k h
 | some (.ok _ _ _),h,k=>Nat.le_trans k h
structure Agree (j:Nat) (l l':List Tok) (en en':Int):Prop where
 tg:∀ k,k < j→Mist.tg l k=Mist.tg l' k
 pl:∀ k,k < j→Mist.pl l en k=Mist.pl l' en' k
 le:j≤l.length
 le':j≤l'.length
theorem Agree.tx {j:Nat}{l l':List Tok}{en en':Int}(A:Agree j l l' en en')(k:Nat)(h:k < j):Mist.tx l k=Mist.tx l' k:=by
 unfold Mist.tx;rw [A.tg k h]
structure Two (j a:Nat) (r r':Option j6):Prop where
 two:r=r'∨Far j r∧Far j r'
 one:Far a r
 one':Far a r'
theorem Two.le {j a b:Nat}{r c:Option j6}(h:Two j b r c)(k:a≤b):Two j a r c:=⟨h.two,h.one.le k,h.one'.le k⟩
theorem Two.none {j a:Nat}:Two j a none none:=⟨.inl rfl,trivial,trivial⟩
theorem Two.bad {j a k:Nat}(h:a≤k):Two j a (some (.bad k)) (some (.bad k)):=⟨.inl rfl,h,h⟩
theorem Two.give {j a k:Nat}{b:List Int}{ns:List Nd}(h:a≤k):Two j a (some (.ok b k ns)) (some (.ok b k ns)):=⟨.inl rfl,h,h⟩
theorem Two.add {j a k:Nat}{n b:Nd}{ns:List Nd}(h:a≤k)(e:k≤j→n=b):Two j a (Mist.add n k ns) (Mist.add b k ns):=by
 refine⟨?_,h,h⟩
 by_cases c:k≤j
 ·rw [e c];exact .inl rfl
 ·exact .inr ⟨by show j≤k;omega,by show j≤k;omega⟩
theorem Far.thn {a b:Nat}{r:Option j6}{f:List Int→Nat→List Nd→Option j6}(h:Far b r)(c:a≤b)(e:∀ d k ns,b≤k→Far k (f d k ns)):Far a (Mist.thn r f):=by
 cases r with
 | none=>trivial
 | some x =>
  cases x with
  | bad k=>exact Nat.le_trans c h
  | ok d k ns=>exact (e d k ns h).le (Nat.le_trans c h)
theorem Two.thn {j a b:Nat}{r m:Option j6}{f n:List Int→Nat→List Nd→Option j6}(h:Two j b r m)(d:a≤b)(g:∀ c k ns,b≤k→Two j k (f c k ns) (n c k ns)):Two j a (Mist.thn r f) (Mist.thn m n):=by
 refine⟨?_,h.one.thn d fun c k ns i=>(g c k ns i).one,h.one'.thn d fun c k ns i=>(g c k ns i).one'⟩
 rcases h.two with e | ⟨h1,h2⟩
 ·subst e
  cases r with
  | none=>exact .inl rfl
  | some x =>
   cases x with
   | bad k=>exact .inl rfl
   | ok c k ns=>exact (g c k ns h.one).two
 ·right
  constructor
  ·cases r with
   | none=>trivial
   | some x =>
    cases x with
    | bad k=>exact h1
    | ok c k ns=>exact (g c k ns h.one).one.le h1
  ·cases m with
   | none=>trivial
   | some x =>
    cases x with
    | bad k=>exact h2
    | ok c k ns=>exact (g c k ns h.one').one'.le h2
theorem Two.ite {j a:Nat}(k:Nat){p g:Prop}[Decidable p][Decidable g]{x t y u:Option j6}(b:a≤k)(e:k < j→(p↔g))(h1:Two j k x t)(h2:Two j k y u):Two j a (if p then x else y) (if g then t else u):=by
 have r:=h1.one.le b;have c:=h1.one'.le b;have hy:=h2.one.le b;have d:=h2.one'.le b;by_cases v:k < j
 ·have e:=e v;by_cases f:p
  ·rw [if_pos f,if_pos (e.1 f)];exact h1.le b
  ·rw [if_neg f,if_neg (fun h=>f (e.2 h))];exact h2.le b
 ·have i:=h1.one.le (show j≤k by omega);have m:=h2.one.le (show j≤k by omega);have n:=h1.one'.le (show j≤k by omega);have q:=h2.one'.le (show j≤k by omega);split <;> split
  ·exact⟨.inr ⟨i,n⟩,r,c⟩
  ·exact⟨.inr ⟨i,q⟩,r,d⟩
  ·exact⟨.inr ⟨m,n⟩,hy,c⟩
  ·exact⟨.inr ⟨m,q⟩,hy,d⟩
theorem Two.same {j a:Nat}{p:Prop}[Decidable p]{x b y c:Option j6}(h1:Two j a x b)(h2:Two j a y c):Two j a (if p then x else y) (if p then b else c):=by
 split
 ·exact h1
 ·exact h2
section
variable {l l':List Tok} {en en':Int} {j:Nat}
theorem Two.qY (A:Agree j l l' en en'){a k:Nat}{s:Bs}{x b y c:Option j6}(d:a≤k)(h1:Two j k x b)(h2:Two j k y c):Two j a (if tx l k=s then x else y) (if tx l' k=s then b else c) :=
 .ite k d (fun h=>by rw [A.tx k h]) h1 h2
theorem Two.iteK (A:Agree j l l' en en'){a k c:Nat}{x b y d:Option j6}(e:a≤k)(h1:Two j k x b)(h2:Two j k y d):Two j a (if (tg l k).kind=c then x else y) (if (tg l' k).kind=c then b else d) :=
 .ite k e (fun h=>by rw [A.tg k h]) h1 h2
theorem Two.iteO (A:Agree j l l' en en'){a k:Nat}{v:Lv}{x b y c:Option j6}(d:a≤k)(h1:Two j k x b)(h2:Two j k y c):Two j a (if fB v (tx l k)=0 then x else y) (if fB v (tx l' k)=0 then b else c) :=
 .ite k d (fun h=>by rw [A.tx k h]) h1 h2
theorem Two.iteQ (A:Agree j l l' en en'){a k c:Nat}{x b y d:Option j6}(e:a≤k)(h1:Two j k x b)(h2:Two j k y d):Two j a (if gy (tx l k)=c then x else y) (if gy (tx l' k)=c then b else d) :=
 .ite k e (fun h=>by rw [A.tx k h]) h1 h2
theorem Two.need (A:Agree j l l' en en'){a k:Nat}{s:Bs}{f b:Option j6}(c:a≤k)(h:Two j k f b):Two j a (Mist.need l s k f) (Mist.need l' s k b) :=
 .qY A c h (.bad (aaJ _))
theorem Two.bI (A:Agree j l l' en en'){a k c:Nat}{f b:Option j6}(d:a≤k)(h:Two j k f b):Two j a (Mist.bI l c k f) (Mist.bI l' c k b) :=
 .iteK A d h (.bad (aaJ _))
theorem pU (A:Agree j l l' en en'):∀ (n:Nat) (b:Job) (k:Nat) (ns:List Nd),Two j k (run l en n b k ns) (run l' en' n b k ns)
 | 0,b,k,ns=>by rw [run,run];exact .none
 | n+1,b,k,ns=>by
  have f:=pU A n;have P:∀ i m,i < m→m≤j→pl l en i=pl l' en' i:=fun i m h1 h2=>A.pl i (by omega)
  have X:∀ i m,i < m→m≤j→tx l i=tx l' i:=fun i m h1 h2=>A.tx i (by omega)
  have lv:∀ v,Two j k (Mist.thn (run l en n (.lv v.below) k ns) fun a d g=>run l en n (.tail v (hd a)) d g) (Mist.thn (run l' en' n (.lv v.below) k ns) fun a d g=>run l' en' n (.tail v (hd a)) d g):=fun v =>
   .thn (f _ _ _) (aaJ _) fun _ _ _ _=>f _ _ _
  match b with
  | .expr =>
   rw [run,run];refine .qY A (aaJ _) (.thn (f _ (k+1) _) (by omega) fun a d g h1=>.need A (aaJ _) (.thn (f _ (d+1) _) (by omega) fun b q r h2=>.need A (aaJ _) (.thn (f _ (q+1) _) (by omega) fun c u w h3=>.add (aaJ _) fun h=>by rw [P k u (by omega) h]))) ?_;refine .qY A (aaJ _) (.bI A (by omega) (.need A (by omega) (.thn (f _ (k+3) _) (by omega) fun a d g h1=>.need A (aaJ _) (.thn (f _ (d+1) _) (by omega) fun b q r h2=>.add (aaJ _) fun h=>by rw [P k q (by omega) h,X (k+1) q (by omega) h])))) (f _ _ _)
  | .lv .not =>
   rw [run,run];exact .qY A (aaJ _) (.thn (f _ (k+1) _) (by omega) fun a d g h1=>.add (aaJ _) fun h=>by rw [P k d (by omega) h]) (f _ _ _)
  | .lv .unary =>
   rw [run,run];exact .qY A (aaJ _) (.thn (f _ (k+1) _) (by omega) fun a d g h1=>.add (aaJ _) fun h=>by rw [P k d (by omega) h]) (f _ _ _)
  | .lv .or=>rw [run,run] <;> first|(intro e;cases e;done) | exact lv _
  | .lv .and=>rw [run,run] <;> first|(intro e;cases e;done) | exact lv _
  | .lv .cmp=>rw [run,run] <;> first|(intro e;cases e;done) | exact lv _
  | .lv .sum=>rw [run,run] <;> first|(intro e;cases e;done) | exact lv _
  | .lv .term=>rw [run,run] <;> first|(intro e;cases e;done) | exact lv _
  | .tail v a =>
   rw [run,run];refine .iteO A (aaJ _) (.give (aaJ _)) (.thn (f _ (k+1) _) (by omega) fun b d g h1=>.thn (.add (aaJ d) fun h=>by rw [P k d (by omega) h,X k d (by omega) h]) (aaJ _) fun c q r h2=>.same (.give (aaJ _)) (f _ _ _))
  | .post =>
   rw [run,run];exact .thn (f _ _ _) (aaJ _) fun _ _ _ _=>f _ _ _
  | .iq a =>
   rw [run,run];refine .qY A (aaJ _) (.bI A (by omega) (.thn (.add (k:=k+2) (Nat.le_succ _) fun h=>by rw [P k (k+2) (by omega) h,X (k+1) (k+2) (by omega) h]) (by omega) fun c d g h1=>f _ _ _)) ?_;exact .qY A (aaJ _) (.thn (f _ (k+1) _) (by omega) fun b d g h1=>.need A (aaJ _) (.thn (.add (k:=d+1) (Nat.le_succ _) fun h=>by rw [P k (d+1) (by omega) h]) (by omega) fun c q r h2=>f _ _ _)) (.give (aaJ _))
  | .atom =>
   rw [run,run];refine .iteK A (aaJ _) (.add (by omega) fun h=>by rw [P k (k+1) (by omega) h,X k (k+1) (by omega) h]) ?_;refine .qY A (aaJ _) (.add (by omega) fun h=>by rw [P k (k+1) (by omega) h]) ?_;refine .qY A (aaJ _) (.add (by omega) fun h=>by rw [P k (k+1) (by omega) h]) ?_;refine .qY A (aaJ _) (.thn (f _ (k+1) _) (by omega) fun a d g h1=>.need A (aaJ _) (.give (by omega))) ?_;refine .qY A (aaJ _) (.thn (f _ (k+1) _) (by omega) fun a d g h1=>.need A (aaJ _) (.add (by omega) fun h=>by rw [P k (d+1) (by omega) h])) ?_;refine .bI A (aaJ _) (.le (b:=k+1) ?_ (by omega));refine .qY A (aaJ _) (.le (b:=k+2) (.qY A (aaJ _) (.add (by omega) fun h=>by rw [P k (k+3) (by omega) h,X k (k+3) (by omega) h]) (.thn (f _ (k+2) _) (by omega) fun a d g h1=>.need A (aaJ _) (.add (by omega) fun h=>by rw [P k (d+1) (by omega) h,X k (d+1) (by omega) h]))) (by omega)) ?_;exact .qY A (aaJ _) (.thn (f _ (k+2) _) (by omega) fun a d g h1=>.need A (aaJ _) (.add (by omega) fun h=>by rw [P k (d+1) (by omega) h,X k (d+1) (by omega) h])) (.add (aaJ _) fun h=>by rw [P k (k+1) (by omega) h,X k (k+1) (by omega) h])
  | .put =>
   rw [run,run];exact .bI A (aaJ _) (.need A (by omega) (.thn (f _ (k+2) _) (by omega) fun a d g h1=>.add (aaJ _) fun h=>by rw [P k d (by omega) h,X k d (by omega) h]))
  | .param =>
   rw [run,run];exact .bI A (aaJ _) (.need A (by omega) (.thn (f _ (k+2) _) (by omega) fun a d g h1=>.add (aaJ _) fun h=>by rw [P k d (by omega) h,X k d (by omega) h]))
  | .typ =>
   rw [run,run];refine .qY A (aaJ _) (.add (by omega) fun h=>by rw [P k (k+1) (by omega) h]) ?_;refine .qY A (aaJ _) (.add (by omega) fun h=>by rw [P k (k+1) (by omega) h]) ?_;refine .qY A (aaJ _) (.thn (f _ (k+1) _) (by omega) fun a d g h1=>.need A (aaJ _) (.bI A (by omega) (.need A (by omega) (.add (by omega) fun h=>by rw [P k (d+3) (by omega) h,X (d+1) (d+3) (by omega) h])))) ?_;exact .bI A (aaJ _) (.add (by omega) fun h=>by rw [P k (k+1) (by omega) h,X k (k+1) (by omega) h])
  | .list e =>
   rw [run,run];exact .thn (f _ _ _) (aaJ _) fun _ _ _ _=>f _ _ _
  | .eu e t =>
   rw [run,run];exact .qY A (aaJ _) (.thn (f _ (k+1) _) (by omega) fun a d g h1=>f _ _ _) (.give (aaJ _))
theorem MS (A:Agree j l l' en en')(k:Nat)(ns:List Nd):Two j k (sN l en k ns) (sN l' en' k ns):=by
 have P:∀ i m,i < m→m≤j→pl l en i=pl l' en' i:=fun i m h1 h2=>A.pl i (by omega)
 have X:∀ i m,i < m→m≤j→tx l i=tx l' i:=fun i m h1 h2=>A.tx i (by omega)
 unfold sN;exact .qY A (aaJ _) (.bI A (by omega) (.add (by omega) fun h=>by rw [P k (k+2) (by omega) h,X (k+1) (k+2) (by omega) h])) (.bI A (aaJ _) (.add (by omega) fun h=>by rw [P k (k+1) (by omega) h,X k (k+1) (by omega) h]))
theorem Bj (A:Agree j l l' en en')(n k:Nat)(ps:List Int)(t u d:Int)(a:Nat)(ns:List Nd)(g:k+1 < a)(e:a≤j→u=d):Two j a (kU l en n k ps t u a ns) (kU l' en' n k ps t d a ns):=by
 have P:∀ i m,i < m→m≤j→pl l en i=pl l' en' i:=fun i m h1 h2=>A.pl i (by omega)
 have X:∀ i m,i < m→m≤j→tx l i=tx l' i:=fun i m h1 h2=>A.tx i (by omega)
 unfold kU;exact .need A (aaJ _) (.thn (pU A n _ (a+1) _) (by omega) fun b c f h4=>.add (aaJ _) fun h=>by rw [P k c (by omega) h,X (k+1) c (by omega) h,e (by omega)])
theorem Bp (A:Agree j l l' en en')(n k:Nat)(ps:List Int)(a:Nat)(d:List Nd)(f:k+1 < a):Two j a (mg l en n k ps a d) (mg l' en' n k ps a d):=by
 have X:∀ i m,i < m→m≤j→tx l i=tx l' i:=fun i m h1 h2=>A.tx i (by omega)
 unfold mg;refine .need A (aaJ _) (.need A (by omega) (.thn (pU A n _ (a+2) _) (by omega) fun t c e h2=>?_));refine .qY A (aaJ _) (.le (b:=c+1) (.qY A (aaJ _) (.bad (aaJ _)) (.bI A (aaJ _) (.le (b:=c+2) (Bj A n k ps _ _ _ _ _ (by omega) fun h=>by rw [X (c+1) (c+2) (by omega) h]) (by omega)))) (by omega)) (Bj A n k ps _ _ _ _ _ (by omega) fun _=>rfl)
theorem Vy (A:Agree j l l' en en')(n k:Nat)(ns:List Nd):Two j k (wT l en n k ns) (wT l' en' n k ns):=by
 have P:∀ i m,i < m→m≤j→pl l en i=pl l' en' i:=fun i m h1 h2=>A.pl i (by omega)
 have X:∀ i m,i < m→m≤j→tx l i=tx l' i:=fun i m h1 h2=>A.tx i (by omega)
 unfold wT;refine .le (b:=k+1) ?_ (by omega);refine .iteQ A (aaJ _) (.bad (aaJ _)) ?_;refine .iteQ A (aaJ _) (.add (by omega) fun h=>by rw [P k (k+2) (by omega) h]) ?_;refine .iteQ A (aaJ _) (.thn (pU A n _ (k+2) _) (by omega) fun d a c h1=>.add (aaJ _) fun h=>by rw [P k a (by omega) h]) ?_;exact .thn (pU A n _ (k+2) _) (by omega) fun d a c h1=>.add (aaJ _) fun h=>by rw [P k a (by omega) h,X (k+1) a (by omega) h]
theorem yK (A:Agree j l l' en en')(n:Nat)(i:It)(k:Nat)(ns:List Nd):Two j k (gI l en n i k ns) (gI l' en' n i k ns):=by
 have P:∀ i m,i < m→m≤j→pl l en i=pl l' en' i:=fun i m h1 h2=>A.pl i (by omega)
 have X:∀ i m,i < m→m≤j→tx l i=tx l' i:=fun i m h1 h2=>A.tx i (by omega)
 cases i with
 | choose =>
  unfold gI;exact .bI A (by omega) (.need A (by omega) (.thn (MS A (k+3) _) (by omega) fun a c d h1=>.need A (aaJ _) (.thn (MS A (c+1) _) (by omega) fun b e f h2=>.add (aaJ _) fun h=>by rw [P k e (by omega) h,X (k+1) e (by omega) h])))
 | record =>
  unfold gI;exact .bI A (by omega) (.need A (by omega) (.need A (by omega) (.thn (pU A n _ (k+4) _) (by omega) fun a c d h1=>.need A (aaJ _) (.add (by omega) fun h=>by rw [P k (c+1) (by omega) h,X (k+1) (c+1) (by omega) h]))))
 | zu =>
  unfold gI;exact .bI A (by omega) (.need A (by omega) (.le (b:=k+3) (.qY A (aaJ _) (Bp A n k _ _ _ (by omega)) (.thn (pU A n _ (k+3) _) (by omega) fun a c d h1=>Bp A n k _ _ _ (by omega))) (by omega)))
 | yB =>
  unfold gI;exact .bI A (by omega) (.need A (by omega) (.thn (pU A n _ (k+3) _) (by omega) fun a c d h1=>.add (aaJ _) fun h=>by rw [P k c (by omega) h,X (k+1) c (by omega) h]))
 | observe =>
  unfold gI;exact .bI A (by omega) (.need A (by omega) (.thn (pU A n _ (k+3) _) (by omega) fun a c d h1=>.add (aaJ _) fun h=>by rw [P k c (by omega) h,X (k+1) c (by omega) h]))
 | kW =>
  unfold gI;exact .bI A (by omega) (.add (by omega) fun h=>by rw [P k (k+2) (by omega) h,X (k+1) (k+2) (by omega) h])
 | ask =>
  unfold gI;exact Vy A n k ns
theorem Sr (A:Agree j l l' en en')(n k:Nat)(ns:List Nd):Two j k (item l en n k ns) (item l' en' n k ns):=by
 unfold item;refine .iteK A (aaJ _) ?_ (.bad (aaJ _))
 have far:∀ (l:List Tok) (en:Int) (o:Option It),(∀ i,Far k (gI l en n i k ns))→Far k (match o with
   | some i=>gI l en n i k ns
   | none=>some (.bad k)):=fun l en o h=>by
  cases o with
  | none=>exact aaJ _
  | some i=>exact h i
 have a:=far l en (Hr (tx l k)) fun i=>(yK A n i k ns).one
 have b:=far l' en' (Hr (tx l' k)) fun i=>(yK A n i k ns).one'
 refine⟨?_,a,b⟩
 by_cases c:k < j
 ·rw [A.tx k c]
  cases Hr (tx l' k) with
  | none=>exact .inl rfl
  | some i=>exact (yK A n i k ns).two
 ·exact .inr ⟨a.le (by omega),b.le (by omega)⟩
theorem JE (A:Agree j l l' en en')(n:Nat):∀ (m k:Nat) (ns:List Nd) (its:List Int),Two j k (prog l en n m k ns its) (prog l' en' n m k ns its)
 | 0,k,ns,its=>by rw [prog,prog];exact .none
 | m+1,k,ns,its=>by
  rw [prog,prog];refine .ite k (aaJ _) (fun h=>by have h1:=A.le;have h2:=A.le';constructor <;> intro <;> omega) ?_ (.give (aaJ _));exact .thn (Sr A n k ns) (aaJ _) fun a c b h1=>.need A (aaJ _) ((JE A n m (c+1) b _).le (by omega))
theorem Wz (n k:Nat)(ns:List Nd):fE (item l en n k ns) (item l en (n+1) k ns):=by
 have a:=Lf (l:=l) (en:=en) n
 have e:∀ k b t u d ns,fE (kU l en n k b t u d ns) (kU l en (n+1) k b t u d ns):=fun k b t u d ns=>by
  unfold kU;exact .need (.thn (a _ _ _) fun _ _ _=>.refl _)
 have f:∀ k b c ns,fE (mg l en n k b c ns) (mg l en (n+1) k b c ns):=fun k b c ns=>by
  unfold mg;exact .need (.need (.thn (a _ _ _) fun _ _ _=>.ite (.ite (.refl _) (.bI (e _ _ _ _ _ _))) (e _ _ _ _ _ _)))
 unfold item;refine .ite ?_ (.refl _)
 cases Hr (tx l k) with
 | none=>exact .refl _
 | some i =>
  cases i with
  | choose=>exact .refl _
  | record=>exact .bI (.need (.need (.thn (a _ _ _) fun _ _ _=>.refl _)))
  | zu=>exact .bI (.need (.ite (f _ _ _ _) (.thn (a _ _ _) fun _ _ _=>f _ _ _ _)))
  | yB=>exact .bI (.need (.thn (a _ _ _) fun _ _ _=>.refl _))
  | observe=>exact .bI (.need (.thn (a _ _ _) fun _ _ _=>.refl _))
  | kW=>exact .refl _
  | ask =>
   show fE (wT l en n k ns) (wT l en (n+1) k ns)
   unfold wT;exact .ite (.refl _) (.ite (.refl _) (.ite (.thn (a _ _ _) fun _ _ _=>.refl _) (.thn (a _ _ _) fun _ _ _=>.refl _)))
theorem CB (n:Nat):∀ (m k:Nat) (ns:List Nd) (its:List Int),fE (prog l en n m k ns its) (prog l en (n+1) m k ns its)∧fE (prog l en n m k ns its) (prog l en n (m+1) k ns its)
 | 0,k,ns,its=>⟨by rw [prog];exact .none _,by rw [prog];exact .none _⟩
 | m+1,k,ns,its=>by
  constructor
  ·rw [prog,prog];exact .ite (.thn (Wz n _ _) fun _ _ _=>.need (CB n m _ _ _).1) (.refl _)
  ·rw [prog,prog];exact .ite (.thn (.refl _) fun _ _ _=>.need (CB n m _ _ _).2) (.refl _)
theorem Nv {n m a d k:Nat}{ns:List Nd}{its:List Int}{x:j6}(h:prog l en n m k ns its=some x)(c:n≤a)(e:m≤d):prog l en a d k ns its=some x:=by
 have h1:prog l en a m k ns its=some x:=by
  induction c with
  | refl=>exact h
  | step _ b=>exact (CB _ m k ns its).1 _ b
 clear h c
 induction e with
 | refl=>exact h1
 | step _ b=>exact (CB a _ k ns its).2 _ b
theorem Ki (A:Agree j l l' en en'){n m b a k c:Nat}{its:List Int}{ns:List Nd}(h:prog l en n m 0 [] []=some (.ok its k ns))(d:prog l' en' b a 0 [] []=some (.bad c)):j≤c:=by
 have h1:=Nv h (Nat.le_max_left n b) (Nat.le_max_left m a);have h2:=Nv d (Nat.le_max_right n b) (Nat.le_max_right m a);have h3:=(JE A (max n b) (max m a) 0 [] []).two;rw [h1,h2] at h3
 rcases h3 with h3 | h3
 ·cases h3
 ·exact h3.2
end
end Mist
namespace Mist
theorem Bb (p:UInt8→Bool)(s:Bs)(c:UInt8)(h:c ∈ s.take (aV p s)):p c=true:=by
 unfold aV at h
 rw [← List.prefix_iff_eq_take.1 (List.takeWhile_prefix p)] at h
 exact aaR.1 List.all_takeWhile c h
def ownB (c:UInt8):Bool:=!pR c && !(c == 35)
theorem CZ (c:UInt8)(h:dI c=true):ownB c=true:=by
 have:∀ n:Fin 256,dI (UInt8.ofNat n.val)=true→ownB (UInt8.ofNat n.val)=true:=by decide +kernel
 have h2:=this ⟨c.toNat,c.toNat_lt⟩;simp only [UInt8.ofNat_toNat] at h2
 exact h2 h
theorem OB (c:UInt8)(h:aQ c=true):ownB c=true:=CZ c (by unfold dI;rw [h];simp)
theorem TY:∀ g ∈ signs,∀ c ∈ g,ownB c=true:=by decide +kernel
theorem Eu (s:Bs)(h:(first s).1 ≠ 0):∀ c ∈ (first s).2,ownB c=true:=by
 by_cases h0:s.length=0
 ·rw [lH s h0] at h;exact absurd rfl h
 by_cases a:dP (gt s 0)=true
 ·by_cases f:hasB keywords (s.take (aV dI s))=true
  ·rw [jI s h0 a f];exact fun c b=>CZ c (Bb _ s c b)
  ·by_cases d:aV dI s≤12
   ·rw [iD s h0 a f d];exact fun c b=>CZ c (Bb _ s c b)
   ·rw [jE s h0 a f d] at h;exact absurd rfl h
 ·by_cases hd:aQ (gt s 0)=true
  ·by_cases d:g_ (s.take (aV aQ s))=true
   ·rw [iJ s h0 a hd d];exact fun c b=>OB c (Bb _ s c b)
   ·rw [jm s h0 a hd d] at h;exact absurd rfl h
  ·cases e:jL s with
   | none=>rw [iM s h0 a hd e] at h;exact absurd rfl h
   | some g=>rw [iN s h0 a hd g e];exact TY g (List.mem_of_find?_eq_some e)
theorem lG (p:UInt8→Bool)(c:UInt8)(d:p c=false)(v:Bs):∀ u:Bs,aV p (u ++ c :: v)=aV p u
 | []=>by show ((c :: v).takeWhile p).length=0;rw [List.takeWhile_cons_of_neg (by simp [d])];rfl
 | b :: u=>by
  have e:=lG p c d v u;unfold aV at e ⊢
  rw [List.cons_append];by_cases a:p b=true
  ·rw [List.takeWhile_cons_of_pos a,List.takeWhile_cons_of_pos a,List.length_cons,List.length_cons,e]
  ·rw [List.takeWhile_cons_of_neg a,List.takeWhile_cons_of_neg a]
theorem IJ {c:UInt8}(h:pR c=true):dI c=false∧aQ c=false∧dP c=false:=by
 have:∀ n:Fin 256,pR (UInt8.ofNat n.val)=true→dI (UInt8.ofNat n.val)=false∧aQ (UInt8.ofNat n.val)=false∧dP (UInt8.ofNat n.val)=false:=by decide +kernel
 have h2:=this ⟨c.toNat,c.toNat_lt⟩;simp only [UInt8.ofNat_toNat] at h2
 exact h2 h
theorem OO {c:UInt8}(h:pR c=true)(v:Bs):(first (c :: v)).1=0:=by
 obtain⟨_,h2,h3⟩:=IJ h;have f:c=32∨c=10:=by simpa [pR] using h
 have e:jL (c :: v)=none:=by
  unfold jL;rw [List.find?_eq_none];intro g e
  have:∀ g ∈ signs,∃ x r,g=x :: r∧x ≠ 32∧x ≠ 10:=by
   intro g e;have h8:∀ g ∈ signs,g ≠ []∧g.headD 0 ≠ 32∧g.headD 0 ≠ 10:=by decide +kernel
   obtain⟨a,b,d⟩:=h8 g e
   cases g with
   | nil=>exact absurd rfl a
   | cons x r=>exact⟨x,r,rfl,b,d⟩
  obtain⟨x,r,rfl,a,b⟩:=this g e;unfold mO;simp only [List.isPrefixOf,aaS,beq_iff_eq,not_and];rintro rfl;rcases f with rfl | rfl
  ·exact absurd rfl a
  ·exact absurd rfl b
 rw [iM (c :: v) (by simp) (by show ¬ dP c=true;simp [h3]) (by show ¬ aQ c=true;simp [h2]) e]
theorem Il (b:UInt8)(u:Bs){c:UInt8}(n:pR c=true)(v f:Bs):first (b :: u ++ c :: v)=first (b :: u ++ c :: f):=by
 obtain⟨a,k,c3⟩:=IJ n
 have take (p:UInt8→Bool) (q:p c=false) (v:Bs):(b :: u ++ c :: v).take (aV p (b :: u ++ c :: v))=(b :: u).take (aV p (b :: u)):=by
  rw [lG p c q];exact List.take_append_of_le_length (mR p _)
 have e:∀ v,¬ (b :: u ++ c :: v).length=0:=fun v=>by simp
 by_cases d:dP b=true
 ·by_cases m:hasB keywords ((b :: u).take (aV dI (b :: u)))=true
  ·rw [jI _ (e v) d (by rw [take dI a];exact m),jI _ (e f) d (by rw [take dI a];exact m),take dI a,take dI a]
  ·by_cases h:aV dI (b :: u)≤12
   ·rw [iD _ (e v) d (by rw [take dI a];exact m) (by rw [lG dI c a];exact h),iD _ (e f) d (by rw [take dI a];exact m) (by rw [lG dI c a];exact h),take dI a,take dI a]
   ·rw [jE _ (e v) d (by rw [take dI a];exact m) (by rw [lG dI c a];exact h),jE _ (e f) d (by rw [take dI a];exact m) (by rw [lG dI c a];exact h)]
 ·by_cases hd:aQ b=true
  ·by_cases h:g_ ((b :: u).take (aV aQ (b :: u)))=true
   ·rw [iJ _ (e v) d hd (by rw [take aQ k];exact h),iJ _ (e f) d hd (by rw [take aQ k];exact h),take aQ k,take aQ k]
   ·rw [jm _ (e v) d hd (by rw [take aQ k];exact h),jm _ (e f) d hd (by rw [take aQ k];exact h)]
  ·have i:dP b=false:=by simpa using d
   have g:aQ b=false:=by simpa using hd
   cases u with
   | nil =>
    show first (b :: c :: v)=first (b :: c :: f)
    rw [oo _ _ _ i g,oo _ _ f i g]
   | cons y u =>
    show first (b :: y :: (u ++ c :: v))=first (b :: y :: (u ++ c :: f))
    rw [oo _ _ _ i g,oo _ _ (u ++ c :: f) i g]
theorem A9 (v:Bs):∀ w:Bs,w.all pR=true→skip (w ++ v)=w.length+skip v
 | [],_=>by simp
 | b :: w,h=>by
  rw [List.all_cons,aaS] at h
  have a:=A9 v w h.2;unfold skip at a ⊢
  rw [List.cons_append,gK,if_pos h.1,a,List.length_cons];omega
theorem vD (v e:Bs):∀ w:Bs,(∀ c ∈ w,c ≠ 35)→w.all pR=false→skip (w ++ v)=skip (w ++ e)∧skip (w ++ v) < w.length
 | [],_,h=>by cases h
 | b :: w,hn,h=>by
  have d:¬ (b == 35)=true:=by simpa using hn b (List.mem_cons_self ..)
  by_cases a:pR b=true
  ·have g:=vD v e w (fun c f=>hn c (List.mem_cons_of_mem _ f)) (by rw [List.all_cons,a] at h;simpa using h);unfold skip at g ⊢
   rw [List.cons_append,List.cons_append,gK,if_pos a,gK,if_pos a,List.length_cons];omega
  ·unfold skip;rw [List.cons_append,List.cons_append,gK,if_neg a,if_neg d,gK,if_neg a,if_neg d,List.length_cons];omega
theorem CP {u:Bs}{c:UInt8}(B:pR c=true)(H:∀ x ∈ u ++ [c],x ≠ 35)(v:Bs):∀ (l:List Tok) (a:Nat),a < u.length+1→Placed (u ++ c :: v) a l →
  ∃ r q,l=r ++ q∧r.length+a≤u.length+1∧∀ g f d,d.length+r.length≤800→dJ (f+r.length) (u ++ c :: g) a d=dJ f (u ++ c :: g) (u.length+1+skip g) (d ++ r)
 | [],a,ha,h=>by
  exfalso
  have h:(u ++ c :: v).length≤a:=h;simp at h;omega
 | t :: l,a,ha,⟨h1,h2,h3,h4,h5⟩=>by
  have C:a < u.length:=by
   rcases Nat.lt_or_ge a u.length with h | h
   ·exact h
   ·exfalso
    obtain rfl:a=u.length:=by omega
    rw [List.drop_left] at h3
    have:=OO B v
    rw [h3] at this
    exact h4 this
  obtain⟨b,i,K⟩:∃ b i,u.drop a=b :: i:=⟨_,_,nQ u a C⟩;have hd:∀ v,(u ++ c :: v).drop a=b :: i ++ c :: v:=fun v=>by rw [List.drop_append_of_le_length (by omega),K]
  have G:∀ g,first ((u ++ c :: g).drop a)=(t.kind,t.text):=fun g=>by rw [hd,Il b i B g v,← hd,h3]
  have N:i.length+1=u.length - a:=by
   have:=congrArg List.length K
   rw [List.length_drop,List.length_cons] at this;omega
  have I:=Eu _ (by rw [h3];exact h4);have m:=Rz _ (by rw [h3];exact h4);rw [h3] at I m
  have L:a+t.text.length≤u.length:=by
   rcases Nat.lt_or_ge (i.length+1) t.text.length with h | h
   ·exfalso
    have M:c ∈ t.text:=by
     have m:t.text=((u ++ c :: v).drop a).take t.text.length:=m;rw [hd] at m
     rw [m,List.mem_take_iff_getElem]
     refine⟨i.length+1,?_,?_⟩
     ·simp;omega
     ·simp
    have:=I c M
    unfold ownB at this
    rw [B] at this;simp at this
   ·omega
  have J:0 < t.text.length:=by
   have:=(kr _ (show (first ((u ++ c :: v).drop a)).1 ≠ 0 by rw [h3];exact h4)).1
   rwa [h3] at this
  obtain⟨w,F⟩:∃ w,w=u.drop (a+t.text.length) ++ [c]:=⟨_,rfl⟩;have P:w.length+(a+t.text.length)=u.length+1:=by rw [F];simp;omega
  have y:∀ v,(u ++ c :: v).drop (a+t.text.length)=w ++ v:=fun v=>by rw [List.drop_append_of_le_length (by omega),F];simp
  have A:∀ x ∈ w,x ≠ 35:=fun x k=>H x (by
   rw [F] at k
   rcases List.mem_append.1 k with k | k
   ·exact List.mem_append_left _ (List.mem_of_mem_drop k)
   ·exact List.mem_append_right _ k)
  have step:∀ g f (d:List Tok),d.length+1≤800→dJ (f+1) (u ++ c :: g) a d=dJ f (u ++ c :: g) (a+t.text.length+skip (w ++ g)) (d ++ [t]):=fun g f d h8=>by
   have n:¬ (u ++ c :: g).length≤a:=by simp;omega
   rw [ji f _ a d n (by rw [G];exact h4) (by omega),G,y,← h2]
  rw [y] at h5
  cases D:w.all pR
  case true =>
   refine⟨[t],l,rfl,by simp;omega,fun g f d h8=>?_⟩
   rw [show f+[t].length=f+1 from rfl,step g f d h8,A9 g w D,show a+t.text.length+(w.length+skip g)=u.length+1+skip g by omega]
  case false =>
   obtain⟨_,S⟩:=vD v v w A D;obtain⟨r,q,e,R,Q⟩:=CP B H v l (a+t.text.length+skip (w ++ v)) (by omega) h5
   refine⟨t :: r,q,by rw [e];rfl,by rw [List.length_cons];omega,fun g f d h8=>?_⟩
   rw [List.length_cons] at h8
   rw [show f+(t :: r).length=(f+r.length)+1 by rw [List.length_cons];omega,step g _ d (by omega),← (vD v g w A D).1,Q g f (d ++ [t]) (by rw [aaO];simp;omega),List.append_assoc];rfl
theorem Bv (s:Bs):∀ (f a:Nat) (b:List Tok),(∃ q,dJ f s a b=(b ++ q,0,0)∧∀ t ∈ q,(a:Int)≤t.at_∧t.at_ < (s.length:Int))∨∃ x e,dJ f s a b=([],x,e)∧(e=4∨e=5)∧a≤x∧x < s.length
 | 0,a,b=>.inl ⟨[],by rw [dJ];simp,fun t h=>by cases h⟩
 | f+1,a,b=>by
  by_cases c:s.length≤a
  ·exact .inl ⟨[],by rw [jK f s a b c];simp,fun t h=>by cases h⟩
  ·by_cases d:(first (s.drop a)).1=0
   ·exact .inr ⟨a,4,kR f s a b c d,.inl rfl,aaJ _,by omega⟩
   ·by_cases h8:b.length=800
    ·exact .inr ⟨a,5,kQ f s a b c d h8,.inr rfl,aaJ _,by omega⟩
    ·rw [ji f s a b c d h8];rcases Bv s f (a+(first (s.drop a)).2.length+skip (s.drop (a+(first (s.drop a)).2.length))) (b ++ [⟨(first (s.drop a)).1,(first (s.drop a)).2,(a:Int)⟩]) with ⟨q,e,i⟩ | ⟨x,e,h1,h2,h3,h4⟩
     ·refine .inl ⟨⟨(first (s.drop a)).1,(first (s.drop a)).2,(a:Int)⟩ :: q,by rw [e];simp,fun t g=>?_⟩;rcases List.mem_cons.1 g with rfl | g
      ·exact⟨Int.le_refl _,by show (a:Int) < _;omega⟩
      ·have:=i t g;omega
     ·exact .inr ⟨x,e,h1,h2,by omega,h4⟩
theorem Hw {s:Bs}(h1:s.length≤2000)(h2:∀ c ∈ s,gV c=true):(check s).2=0:=by
 unfold check;rw [if_neg (by omega)]
 have:s.findIdx? (fun b=>!gV b)=none:=by
  rw [List.findIdx?_eq_none_iff];intro x a;rw [h2 x a];rfl
 rw [this]
theorem QX {s:Bs}(h:(check s).2=0):s.length≤2000∧∀ c ∈ s,gV c=true:=by
 unfold check at h
 split at h
 ·cases h
 ·refine⟨by omega,fun c d=>?_⟩
  cases a:s.findIdx? (fun b=>!gV b) with
  | none =>
   rw [List.findIdx?_eq_none_iff] at a
   have:=a c d
   simpa using this
  | some i=>rw [a] at h;cases h
theorem Bg {s:Bs}{l:List Tok}(i:Mist.read s=(l,0,0))(P:l.length≤800)(Z:∀ x ∈ s,x ≠ 35){k:Nat}(hk:k < s.length){b:Nat}(hb:b≤k)(H:b=0∨pR (gt s (b - 1))=true) :
  (∃ x e,Mist.read (s.take k ++ s.drop (k+1))=([],x,e)∧(e=4∨e=5)∧b≤x∧x < s.length) ∨
   ∃ r q I,l=r ++ q∧Mist.read (s.take k ++ s.drop (k+1))=(r ++ I,0,0)∧∀ t ∈ I,(b:Int)≤t.at_∧t.at_ < (s.length:Int):=by
 have D:=yL s (by rw [i]);rw [i] at D
 have D:Placed s (skip s) l:=D
 have W:(check s).2=0:=by
  rcases Decidable.em ((check s).2=0) with h | h
  ·exact h
  ·exfalso
   unfold Mist.read at i
   rw [if_pos h] at i
   injection i with _ i
   injection i with _ i
   exact h i
 obtain⟨X,L⟩:=QX W;obtain⟨d,m⟩:∃ d,d=s.take k ++ s.drop (k+1):=⟨_,rfl⟩;have Y:d.length+1=s.length:=by rw [m];simp;omega
 have K:(check d).2=0:=Hw (by omega) fun c B=>L c (by
  rw [m] at B
  rcases List.mem_append.1 B with h | h
  ·exact List.mem_of_mem_take h
  ·exact List.mem_of_mem_drop h)
 have M:Mist.read d=dJ (d.length+1) d (skip d) []:=by unfold Mist.read;rw [if_neg (by simpa using K)]
 rw [← m,M]
 have F:∃ r q a f,l=r ++ q∧b≤a∧dJ (d.length+1) d (skip d) []=dJ f d a r:=by
  rcases Nat.eq_zero_or_pos b with J | J
  ·exact⟨[],l,skip d,d.length+1,rfl,by omega,rfl⟩
  have H:pR (gt s (b - 1))=true:=by
   rcases H with h | h
   ·omega
   ·exact h
  obtain⟨u,Q⟩:∃ u,u=s.take (b - 1):=⟨_,rfl⟩;obtain⟨c,A⟩:∃ c,c=gt s (b - 1):=⟨_,rfl⟩;rw [← A] at H
  have a1:u.length+1=b:=by rw [Q,List.length_take];omega
  have G:s=u ++ c :: s.drop b:=by
   have:=nQ s (b - 1) (by omega)
   rw [show b - 1+1=b by omega] at this
   rw [Q,A,← this,List.take_append_drop]
  have U:s.take k=u ++ c :: (s.drop b).take (k - b):=by
   rw [show s.take k=(u ++ c :: s.drop b).take k from congrArg (List.take k) G];rw [List.take_append,aaN (by omega),show k - u.length=(k - b)+1 by omega,List.take_succ_cons]
  have g:d=u ++ c :: ((s.drop b).take (k - b) ++ s.drop (k+1)):=by rw [m,U];simp
  have C:∀ x ∈ u ++ [c],x ≠ 35:=fun x hx=>Z x (by
   rw [G];rcases List.mem_append.1 hx with h | h
   ·exact List.mem_append_left _ h
   ·exact List.mem_append_right _ (by rw [List.mem_singleton] at h;rw [h];exact List.mem_cons_self ..))
  obtain⟨v,hv⟩:∃ v,v=s.drop b:=⟨_,rfl⟩;obtain⟨y,N⟩:∃ y,y=(s.drop b).take (k - b) ++ s.drop (k+1):=⟨_,rfl⟩;rw [← N] at g
  rw [← hv] at G
  have n:∀ v,u ++ c :: v=(u ++ [c]) ++ v:=fun v=>by simp
  rw [G] at D
  cases w:(u ++ [c]).all pR
  case true =>
   refine⟨[],l,skip d,d.length+1,rfl,?_,rfl⟩
   rw [g,n,A9 y _ w];simp;omega
  case false =>
   obtain⟨h1,h2⟩:=vD v y _ C w;rw [← n,← n] at h1
   rw [← n] at h2
   obtain⟨r,q,e,a0,ih⟩:=CP H C v l (skip (u ++ c :: v)) (by simpa using h2) D
   refine⟨r,q,u.length+1+skip y,d.length+1 - r.length,e,by omega,?_⟩
   have R:r.length≤800:=by rw [e] at P;simp at P;omega
   have:=ih y (d.length+1 - r.length) [] (by simpa using R)
   rw [← g,show d.length+1 - r.length+r.length=d.length+1 by omega,List.nil_append] at this
   rw [← this,h1,← g]
 obtain⟨r,q,a,f,e,V,h⟩:=F;rw [h];rcases Bv d f a r with ⟨I,n,h2⟩ | ⟨x,T,n,S,h2,h3⟩
 ·exact .inr ⟨r,q,I,e,n,fun t ht=>by have:=h2 t ht;omega⟩
 ·exact .inl ⟨x,T,n,S,by omega,by omega⟩
theorem Gb {s:Bs}{l l':List Tok}{n m M L K g:Nat}{its:List Int}{ns:List Nd}(J:Mist.read s=(l,0,0))(C:l.length≤800)(G:∀ x ∈ s,x ≠ 35)(H:prog l (s.length:Int) n m 0 [] []=some (.ok its K ns))
  {k:Nat} (B:k < s.length) (d:Mist.read (s.take k ++ s.drop (k+1))=(l',0,0)) (u:prog l' ((s.take k ++ s.drop (k+1)).length:Int) M L 0 [] []=some (.bad g)) {b:Nat} (v:b≤k) (w:b=0∨pR (gt s (b - 1))=true) :
  (b:Int)≤pl l' ((s.take k ++ s.drop (k+1)).length:Int) g∧pl l' ((s.take k ++ s.drop (k+1)).length:Int) g < (s.length:Int):=by
 have D:(s.take k ++ s.drop (k+1)).length+1=s.length:=by simp;omega
 rcases Bg J C G B v w with ⟨x,e,h,N,_⟩ | ⟨r,q,f,e,h,I⟩
 ·rw [d] at h
  injection h with _ h
  injection h with _ h
  omega
 ·rw [d] at h
  injection h with h _
  subst e h
  have A:Agree r.length (r ++ q) (r ++ f) (s.length:Int) ((s.take k ++ s.drop (k+1)).length:Int):=by
   have a:∀ i q,i < r.length→tg (r ++ q) i=tg r i:=fun i q c=>by unfold tg;simp only [aaH];rw [List.getElem?_append_left c]
   refine⟨fun i c=>by rw [a i q c,a i f c],fun i c=>?_,by simp,by simp⟩
   unfold pl;rw [if_pos (by simp;omega),if_pos (by simp;omega),a i q c,a i f c]
  have y:=Ki A H u;unfold pl;split
  ·rename_i t
   have F:tg (r ++ f) g ∈ f:=by
    unfold tg;rw [aaO] at t
    rw [aaH,List.getElem?_append_right y,aaD (by omega)];exact List.getElem_mem _
   exact I _ F
  ·omega
end Mist
set_option linter.all false
namespace Mist
def qC (I:bN):Bool:=I.all fun x=>x.1.all pR
theorem kK:qC []=true:=rfl
theorem dZ (I J:bN):qC (I ++ J)=(qC I && qC J):=List.all_append
theorem dz (g:Bs)(k:Nat)(t:Bs)(r:bN):qC ((g,k,t) :: r)=(g.all pR && qC r):=rfl
theorem iQ (t:Bs)(r:bN):qC (bP t :: r)=qC r:=rfl
theorem Q5 (g:Bs)(a:g.all pR=true)(I:bN):qC (bN.on g I)=qC I:=by
 cases I with
 | nil=>rfl
 | cons x r =>
  obtain⟨h,k,t⟩:=x
  show ((g ++ h).all pR && qC r)=(h.all pR && qC r)
  rw [List.all_append,a];rfl
theorem sZ (s:bC):bG false s=[32]:=rfl
theorem oL:([32]:Bs).all pR=true:=rfl
theorem Au (I:bN):qC (bN.on [32] I)=qC I:=Q5 _ rfl I
theorem on10 (I:bN):qC (bN.on [10] I)=qC I:=Q5 _ rfl I
theorem GJ (I:bN)(s:bC):qC (fK false I s)=qC I:=by
 unfold fK;rw [if_neg (by simp)];simp only [List.cons_append,iQ,dZ,kK,Bool.and_true]
theorem Zq (n:Int):qC (fI n)=true:=by unfold fI;split <;> rfl
theorem SC (b:Nat)(s:bC):qC (lF b s).pc=true:=by
 unfold lF bH;split
 ·exact Zq ((b * 7:Nat):Int)
 split
 ·rfl
 ·rfl
section
variable {E:bC→kJ} (hE:∀ s,qC (E s).pc=true)
include hE
theorem Gn:∀ (m:Nat) (r:pz),qC r.pc=true→qC (bK false E m r).pc=true
 | 0,_,h=>h
 | m+1,r,h=>by
  rw [bK];split
  ·exact Gn m _ (by show qC (r.pc ++ _)=_;rw [dZ,h,hE];rfl)
  ·exact Gn m _ (by show qC (r.pc ++ (bP [44] :: bN.on _ _))=_;rw [dZ,h,iQ,sZ,Au,hE];rfl)
theorem Tz:∀ (m:Nat) (r:pz),qC r.pc=true→qC (eD false E m r).pc=true
 | 0,_,h=>h
 | m+1,r,h=>by
  rw [eD];refine Tz m _ ?_
  show qC (r.pc ++ _)=_
  rw [dZ,h,Bool.true_and];split <;> simp only [dz,iQ,sZ,oL,List.all_nil,hE,Bool.and_true]
theorem op_c (b:Nat)(s:bC):qC (CW false E b s).pc=true:=by
 unfold CW;split
 ·unfold BN bH
  dsimp only
  rw [GJ];rw [show (if b % 2=0 then (([]:Bs),3,([110,111,116]:Bs)) else bP [45])=(([]:Bs),(if b % 2=0 then 3 else 4),(if b % 2=0 then ([110,111,116]:Bs) else [45])) by split <;> rfl];rw [dz,sZ,Au,hE];rfl
 ·unfold Ga bH
  dsimp only
  rw [GJ];simp only [dZ,dz,sZ,Au,oL,hE,Bool.and_true]
theorem comp_c (b:Nat)(s:bC):qC (eF false E b s).pc=true:=by
 have a:∀ m s,qC (bK false E m ⟨[],[],s⟩).pc=true:=fun m s=>Gn hE m _ rfl
 have c:∀ m s,qC (eD false E m ⟨[],[],s⟩).pc=true:=fun m s=>Tz hE m _ rfl
 unfold eF;simp only
 split
 ·unfold Va bH
  dsimp only
  rw [GJ];simp only [dZ,dz,sZ,Au,oL,List.all_nil,hE,Bool.and_true]
 split
 ·unfold DW bH
  dsimp only
  rw [GJ];simp only [dZ,dz,sZ,Au,oL,List.all_nil,hE,Bool.and_true]
 split
 ·unfold xJ bH;simp only [dZ,dz,iQ,kK,sZ,oL,List.all_nil,a,Bool.and_true]
 split
 ·unfold sI bH;simp only [dZ,dz,iQ,kK,sZ,oL,List.all_nil,hE,Bool.and_true]
 split
 ·unfold sP bH;simp only [dZ,dz,iQ,kK,sZ,oL,List.all_nil,hE,Bool.and_true]
 split
 ·unfold rQ bH;simp only [dZ,dz,iQ,kK,sZ,Au,oL,List.all_nil,a,Bool.and_true]
 ·unfold D_ bH;simp only [dZ,dz,iQ,kK,sZ,oL,List.all_nil,c,Bool.and_true]
end
theorem Ar:∀ (d:Nat) (s:bC),qC (bB false d s).pc=true
 | 0,s=>by rw [bB];exact SC _ _
 | d+1,s=>by
  rw [bB];split
  ·exact SC _ _
  split
  ·exact op_c (Ar d) _ _
  ·exact comp_c (Ar d) _ _
theorem KE:∀ (d:Nat) (s:bC),qC (bF false d s).pc=true
 | 0,s=>by
  rw [bF];unfold bH
  (repeat' split) <;> rfl
 | d+1,s=>by
  rw [bF];unfold bH;split
  ·rfl
  split
  ·rfl
  split
  ·rfl
  ·simp only [dZ,dz,iQ,kK,sZ,oL,List.all_nil,KE d,Bool.and_true]
theorem JC:∀ (m:Nat) (r:pz),qC r.pc=true→qC (bE false m r).pc=true
 | 0,_,h=>h
 | m+1,r,h=>by
  rw [bE];refine JC m _ ?_
  show qC (r.pc ++ _)=_
  rw [dZ,h,Bool.true_and];have a:∀ (p:Prop) [Decidable p],(if p then ([]:Bs) else [32]).all pR=true:=fun p _=>by split <;> rfl
  simp only [sZ];split <;> simp only [dz,iQ,Au,a,List.all_nil,oL,KE,Bool.and_true]
theorem Sq (s:bC):qC (dM false s).pc=true:=by
 have b:∀ m s,qC (bE false m ⟨[],[],s⟩).pc=true:=fun m s=>JC m _ rfl
 have f:∀ d m s,qC (bK false (bB false d) m ⟨[],[],s⟩).pc=true:=fun d m s=>Gn (Ar d) m _ rfl
 have a:qC (bZ false s).pc=true:=by
  unfold bZ;simp only
  split
  ·unfold oG bX bH;simp only [dZ,dz,iQ,kK,sZ,Au,oL,List.all_nil,Zq,Bool.and_true]
  split
  ·unfold Ah bH;simp only [dZ,dz,iQ,kK,sZ,Au,oL,List.all_nil,b,Bool.and_true]
  split
  ·have e:∀ (n:Nat),qC (if 0 < n then [(([32]:Bs),3,([117,112,116,111]:Bs)),(([32]:Bs),2,Go.Lib.itoa (n:Int))] else [])=true:=fun n=>by split <;> rfl
   unfold BG bH;simp only [dZ,dz,iQ,kK,sZ,Au,oL,List.all_nil,b,KE,Ar,e,Bool.and_true]
  split
  ·unfold mM bH;simp only [dZ,dz,iQ,kK,sZ,Au,oL,List.all_nil,Ar,Bool.and_true]
  split
  ·unfold ng bH;simp only [dZ,dz,iQ,kK,sZ,Au,oL,List.all_nil,Ar,Bool.and_true]
  split
  ·rfl
  ·unfold qz bH;simp only [dZ,dz,iQ,kK,sZ,Au,oL,List.all_nil,f,Bool.and_true]
 unfold dM
 show qC ((bZ false s).pc ++ _)=_
 rw [dZ,a,dz,sZ];have c:(dQ s ++ ([32]:Bs)).all pR=true:=by unfold dQ;split <;> rfl
 rw [c];rfl
theorem RP:∀ (m:Nat) (r:pz),qC r.pc=true→qC (jR false m r).pc=true
 | 0,_,h=>h
 | m+1,r,h=>by
  rw [jR];split
  ·exact h
  ·refine RP m _ ?_
   show qC (r.pc ++ _)=_
   rw [dZ,h,Bool.true_and];split
   ·exact Sq _
   ·rw [on10];exact Sq _
theorem Uf:∀ (I:bN) (E:Bs),lu I E→qC I=true→∀ x ∈ aN I,x ≠ 35
 | [],_,_,_,x,a=>by cases a
 | (g,k,t) :: I,E,⟨_,h2,h3⟩,hc,x,a=>by
  rw [dz,aaS] at hc
  have a:x ∈ g ++ (t ++ aN I):=a;rcases List.mem_append.1 a with a | a
  ·rintro rfl;exact absurd (aaR.1 hc.1 35 a) (by decide)
  rcases List.mem_append.1 a with a | a
  ·have h4:=Eu (t ++ (aN I ++ E)) (by rw [h2.first];exact h2.kind);rw [h2.first] at h4
   rintro rfl;exact absurd (h4 35 a) (by decide)
  ·exact Uf I E h3 hc.2 x a
theorem V9 (b:Bs):∀ x ∈ bY false b,x ≠ 35:=by
 intro x a;unfold bY at a
 rcases List.mem_append.1 a with a | a
 ·exact Uf _ [] (uU false b []) (RP 12 _ rfl) x a
 ·rintro rfl;split at a
  ·cases a
  ·exact absurd a (by decide)
end Mist
