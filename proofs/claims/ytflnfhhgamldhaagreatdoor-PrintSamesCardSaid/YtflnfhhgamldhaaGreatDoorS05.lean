/-
  A part of the proof.
-/
import Derived.Test.YtflnfhhgamldhaaGreatDoorS04
set_option linter.all false
set_option maxRecDepth 100000
namespace Mist
theorem FM (p:UInt8→Bool)(s:Bs):bY p (s.take (bY p s))=bY p s:=by
 induction s with
 | nil=>rfl
 | cons b r a =>
  by_cases h:p b=true
  ·unfold bY at a ⊢
   rw [List.takeWhile_cons_of_pos h,List.length_cons,List.take_succ_cons,List.takeWhile_cons_of_pos h,List.length_cons,a]
  ·unfold bY;rw [List.takeWhile_cons_of_neg h];rfl
theorem Nw:∀ g ∈ signs,first g=(4,g):=by decide +kernel
theorem DN (s:Bs)(n:Nat)(h:0 < n):gt (s.take n) 0=gt s 0:=by
 cases n with
 | zero=>omega
 | succ n=>cases s <;> simp [gt]
theorem Pt (s:Bs)(h:(first s).1 ≠ 0):first (first s).2=first s:=by
 by_cases h0:s.length=0
 ·rw [oU s h0] at h;exact absurd rfl h
 by_cases c:fZ (gt s 0)=true
 ·have j:=vI eG s h0 (by simp [eG,c]);have m:=qL eG s;have i:¬ (s.take (bY eG s)).length=0:=by rw [List.length_take];omega
  have d:fZ (gt (s.take (bY eG s)) 0)=true:=by rw [DN s _ j];exact c
  have a:=FM eG s;have b:(s.take (bY eG s)).take (bY eG s)=s.take (bY eG s):=by rw [List.take_take,Nat.min_self]
  by_cases f:hasB keywords (s.take (bY eG s))=true
  ·rw [qx s h0 c f];rw [qx _ i d (by rw [a,b];exact f),a,b]
  ·by_cases e:bY eG s≤12
   ·rw [lS s h0 c f e];rw [lS _ i d (by rw [a,b];exact f) (by rw [a];exact e),a,b]
   ·rw [nZ s h0 c f e] at h;exact absurd rfl h
 ·by_cases hd:dw (gt s 0)=true
  ·have j:=vI dw s h0 hd;have m:=qL dw s;have i:¬ (s.take (bY dw s)).length=0:=by rw [List.length_take];omega
   have d:dw (gt (s.take (bY dw s)) 0)=true:=by rw [DN s _ j];exact hd
   have k:¬ fZ (gt (s.take (bY dw s)) 0)=true:=by rw [DN s _ j];exact c
   have a:=FM dw s;have b:(s.take (bY dw s)).take (bY dw s)=s.take (bY dw s):=by rw [List.take_take,Nat.min_self]
   by_cases e:iP (s.take (bY dw s))=true
   ·rw [mg s h0 c hd e];rw [mg _ i k d (by rw [a,b];exact e),a,b]
   ·rw [lT s h0 c hd e] at h;exact absurd rfl h
  ·cases d:pK s with
   | none=>rw [n_ s h0 c hd d] at h;exact absurd rfl h
   | some g =>
    rw [oh s h0 c hd g d];exact Nw g (List.mem_of_find?_eq_some d)
theorem F7 (s:Bs)(h:(first s).1 ≠ 0):kind (first s).2=(first s).1:=by
 unfold kind;rw [Pt s h,if_pos rfl]
def Placed (s:Bs):Nat→List Tok→Prop
 | a,[]=>s.length≤a
 | a,t :: r=>a < s.length∧t.at_=(a:Int)∧first (s.drop a)=(t.kind,t.text)∧t.kind ≠ 0∧Placed s (a+t.text.length+skip (s.drop (a+t.text.length))) r
theorem tL (s:Bs):∀ (f a:Nat) (b l:List Tok) (x:Nat),s.length < f+a→gY f s a b=(l,x,0)→∃ r,l=b ++ r∧Placed s a r
 | 0,a,b,l,x,hf,h=>by
  rw [gY] at h
  simp only [Prod.mk.injEq] at h
  exact⟨[],by rw [h.1];simp,by show s.length≤a;omega⟩
 | f+1,a,b,l,x,hf,h=>by
  by_cases c:s.length≤a
  ·rw [qd f s a b c] at h
   simp only [Prod.mk.injEq] at h
   exact⟨[],by rw [h.1];simp,c⟩
  ·by_cases d:(first (s.drop a)).1=0
   ·rw [oL f s a b c d] at h
    simp at h
   ·by_cases h8:b.length=800
    ·rw [oK f s a b c d h8] at h
     simp at h
    ·rw [oM f s a b c d h8] at h
     have i:=rX _ d;obtain⟨r,g,e⟩:=tL s f _ _ l x (by omega) h
     refine⟨⟨(first (s.drop a)).1,(first (s.drop a)).2,(a:Int)⟩ :: r,by rw [g];simp,by omega,rfl,rfl,d,e⟩
theorem M_ (s:Bs)(h:(Mist.read s).2.2=0):Placed s (skip s) (Mist.read s).1:=by
 by_cases a:(check s).2=0
 ·have e:Mist.read s=gY (s.length+1) s (skip s) []:=by unfold Mist.read;rw [if_neg (by simpa using a)]
  obtain⟨r,c,b⟩:=tL s (s.length+1) (skip s) [] (Mist.read s).1 (Mist.read s).2.1 (by omega) (by rw [← e,← h]);rw [c];exact b
 ·have e:Mist.read s=([],(check s).1,(check s).2):=by unfold Mist.read;rw [if_pos a]
  rw [e] at h
  exact absurd h a
end Mist
namespace Mist
theorem BG (s:Bs):∀ (l:List Tok) (a:Nat),Placed s a l→∀ t ∈ l,Mist.kind t.text=t.kind∧0≤t.at_∧t.at_≤(s.length:Int)∧t.text.length≤s.length
 | [],_,_,t,b=>by cases b
 | x :: r,a,h,t,b=>by
  obtain⟨h1,h2,h3,h4,h5⟩:=h;rcases List.mem_cons.1 b with rfl | b
  ·have h6:(first (s.drop a)).1 ≠ 0:=by rw [h3];exact h4
   have h7:=F7 _ h6;have h8:=(rX _ h6).2;rw [h3] at h7 h8
   rw [List.length_drop] at h8
   exact⟨h7,by omega,by omega,by simp only at h8;omega⟩
  ·exact BG s r _ h5 t b
theorem vD {s:Bs}{l:List Tok}(h:Mist.read s=(l,0,0)):Cn l∧(∀ t ∈ l,t.text.length≤2000)∧s.length≤2000:=by
 have h0:(Mist.read s).2.2=0:=by rw [h]
 have c:=M_ s h0;rw [h] at c
 have d:s.length≤2000:=by
  rcases Nat.lt_or_ge 2000 s.length with h1 | h1
  ·exfalso
   have e:check s=(2000,5):=by unfold check;rw [if_pos h1]
   have:Mist.read s=([],2000,5):=by unfold Mist.read;rw [e];rfl
   rw [this] at h0
   cases h0
  ·exact h1
 have b:=BG s l _ c;exact⟨⟨fun t a=>(b t a).1,fun t a=>⟨(b t a).2.1,by have:=(b t a).2.2.1;omega⟩⟩,fun t a=>Nat.le_trans (b t a).2.2.2 d,d⟩
theorem Fo.few {ns:List Nd}{a b:Nat}{as:List Int}(h:Fo ns a b as):as.length+a≤b:=by
 induction h with
 | nil=>simp
 | snoc h k e i j=>rw [ak5,ak_];have:=Fo.le k;omega
theorem abk {t:Tr}{x:Nd}(a:jv x=true):sized t x=jL t x:=by
 unfold sized jL;by_cases b:x.kind=40
 ·rw [if_pos b,if_pos b];rw [akZ];simp [within];omega
 rw [if_neg b,if_neg b];by_cases h46:x.kind=46
 ·simp only [h46];simp [jv,h46] at a
  by_cases h7:x.n=7
  ·simp [h7] at a;simp [h7,a]
  ·by_cases h8:x.n=8
   ·simp [h8]
   ·simp [h7,h8] at a;simp [a]
 ·simp [h46]
theorem Mx {T:Tr}(v:mX T.nodes)(w:Wf T.nodes)(hF:Fo T.nodes 0 T.nodes.length T.items){i:Nat}{x:Nd}(g:T.nodes[i]? = some x) :
  x.kids.length≤i∧sized T x=jL T x∧(x.kind=40→∃ k0 j:Nat,x.kids=[(k0:Int),(j:Int)]∧k0 < T.nodes.length∧j < T.nodes.length∧(-9999≤(nd T k0).n∧(nd T k0).n≤9999)∧(-9999≤(nd T j).n∧(nd T j).n≤9999)):=by
 have hi:i < T.nodes.length:=(akV.1 g).1;have d:=v i x g;unfold wH okB at d
 simp only [ak9] at d
 obtain⟨⟨⟨⟨⟨⟨_,_⟩,_⟩,y⟩,_⟩,_⟩,h⟩:=d
 refine⟨?_,abk y,fun A=>?_⟩
 ·obtain⟨n,m,D,_,B⟩:=hF.each i (ak2 _) hi;obtain rfl:=ak6 (D.symm.trans g)
  have:=B.few
  omega
 ·have h2:x.kids.length=2:=by simpa [jv,A] using y
  obtain⟨a,b,e⟩:∃ a b,x.kids=[a,b]:=by
   rcases f:x.kids with _ | ⟨a,_ | ⟨b,_ | ⟨c,r⟩⟩⟩
   ·rw [f] at h2;simp at h2
   ·rw [f] at h2;simp at h2
   ·exact⟨a,b,rfl⟩
   ·rw [f] at h2;simp at h2
  have k:=w i x g a (by rw [e];simp);have o:=w i x g b (by rw [e];simp);rw [e] at h
  simp only [List.map_cons,List.map_nil,tJ,yH,jY,A,ak9] at h
  have num:∀ c:Int,0≤c→c < (i:Int)→(fV T.nodes c).1=1→-9999≤(nd T c.toNat).n∧(nd T c.toNat).n≤9999:=by
   intro c h0 h1 f;have C:c.toNat < T.nodes.length:=by omega
   have q:(nd T c.toNat).kind=1:=f;have d:=v c.toNat _ (yL C);unfold wH okB at d
   simp only [ak9] at d
   have E:=d.1.1.2
   simpa [gU,q,within] using E
  refine⟨a.toNat,b.toNat,by rw [e,Int.toNat_of_nonneg k.1,Int.toNat_of_nonneg o.1],by omega,by omega,num a k.1 k.2 ?_,num b o.1 o.2 ?_⟩
  ·have:=h.1.1;simpa using this
  ·have:=h.2.1;simpa using this
end Mist
namespace Mist
theorem aaU (l:Bs):(Mist.read l).1.length≤800:=by
 have c:∀ (f:Nat) (l:Bs) (a:Nat) (b:List Tok),b.length≤800→(gY f l a b).1.length≤800:=by
  intro f
  induction f with
  | zero=>intro l a b h;exact h
  | succ f d =>
   intro l a b h;rw [gY];split
   ·exact h
   ·split
    ·simp
    ·split
     ·simp
     ·exact d _ _ _ (by simp;omega)
 unfold Mist.read;split
 ·simp
 ·exact c _ _ _ _ (by simp)
theorem Mt {l:List Tok}(en:Int)(e:Cn l)(v:l.length≤800) :
  (∃ b ns,prog l en (13 * l.length+41) (l.length+1) 0 [] []=some (.ok b l.length ns)∧qI l (13 * l.length+41) (l.length+1) ⟨0,false,[]⟩ []=some (b,⟨l.length,false,ns⟩)∧mX ns∧Wf ns∧Fo ns 0 ns.length b∧ns.length≤l.length∧b.length≤l.length) ∨
  (∃ k b ns,prog l en (13 * l.length+41) (l.length+1) 0 [] []=some (.bad k)∧qI l (13 * l.length+41) (l.length+1) ⟨0,false,[]⟩ []=some (b,⟨k,true,ns⟩)∧ns.length≤100000):=by
 have w0:Wf ([]:List Nd):=fun i n h=>by simp at h
 obtain⟨r,c,h1,h2⟩:=Ig (l:=l) (en:=en) (13 * l.length+41) (by omega) (l.length+1) 0 [] [] (ak2 _) w0 (by omega) (Ids.nil _);have f:=Mi (l:=l) (en:=en) (M:=100000) e.kind (13 * l.length+41) (by omega) (by omega) (l.length+1) 0 [] [] (ak2 _) (ak2 _) w0 (by omega)
 cases r with
 | ok b k ns =>
  left
  obtain⟨rfl,d,_,_,_,j⟩:=h1 b k ns rfl;obtain⟨m,o,q,_⟩:=EW (en:=en) e (13 * l.length+41) (l.length+1) 0 [] [] b l.length ns (fun i n h=>by simp at h) w0 (.nil _) (fun a h=>by cases h) c;exact⟨b,ns,c,f.1 b l.length ns c,m,o,q,by simpa using d,by simpa using j⟩
 | bad k =>
  right
  obtain⟨b,ns,g,d⟩:=f.2 k c;exact⟨k,b,ns,c,g,d⟩
end Mist
namespace Mist
def qB:List (Bs × Nat × Bs)→Bs
 | []=>[]
 | (g,_,t) :: r=>g ++ (t ++ qB r)
end Mist
namespace Mist
theorem ze (s t:Bs)(n:Nat)(h:t.length < n)(a:n≤s.length):s.take n ≠ t:=by
 intro e
 have:=congrArg List.length e
 rw [List.length_take] at this
 omega
def items:List (Bs × Tok)→List (Bs × Nat × Bs)
 | []=>[]
 | (g,t) :: r=>(g,t.kind,t.text) :: items r
end Mist
namespace Mist
structure To (l:List Tok) (s t:RS):Prop where
 k:s.k≤t.k
 few:s.ns.length≤t.ns.length
 le:s.k≤l.length→t.k≤l.length
section
variable {l:List Tok} {s t u:RS}
theorem To.refl:To l s s:=⟨ak0 _,ak0 _,id⟩
theorem To.trans (h:To l s t)(h2:To l t u):To l s u:=⟨Nat.le_trans h.k h2.k,Nat.le_trans h.few h2.few,fun x=>h2.le (h.le x)⟩
theorem dM (h:s.next l ≠ []):s.bad=false∧s.k < l.length:=by
 unfold RS.next at h
 cases a:s.bad
 ·rw [a] at h
  refine⟨rfl,?_⟩
  rcases Nat.lt_or_ge s.k l.length with h1 | h1
  ·exact h1
  ·exfalso;apply h;unfold tx;rw [mU l s.k h1];rfl
 ·rw [a] at h;exact absurd rfl h
theorem yX (h:s.kind l ≠ 0):s.bad=false∧s.k < l.length:=by
 unfold RS.kind at h
 cases a:s.bad
 ·rw [a] at h
  refine⟨rfl,?_⟩
  rcases Nat.lt_or_ge s.k l.length with h1 | h1
  ·exact h1
  ·exfalso;apply h;rw [mU l s.k h1];rfl
 ·rw [a] at h;exact absurd rfl h
theorem To.aex (h:s.k < l.length):To l s s.dU:=⟨Nat.le_succ _,ak0 _,fun _=>h⟩
theorem To.dU (h:To l s t){x:Bs}(a:t.next l=x)(h0:x ≠ []):To l s t.dU:=h.trans (To.aex (dM (a ▸ h0)).2)
theorem To.fail (h:To l s t):To l s t.fail:=⟨h.k,h.few,h.le⟩
theorem To.put (h:To l s t)(n:Nd):To l s (t.put n).2:=⟨h.k,by have:=h.few;show _≤(t.ns ++ [n]).length;simp;omega,h.le⟩
theorem To.take (h:To l s t){x:Bs}(h0:x ≠ []):To l s (t.take l x):=by
 unfold RS.take;split
 ·rename_i e;exact h.dU e h0
 ·exact h.fail
theorem To.word (h:To l s t){c:Nat}(h0:c ≠ 0):To l s (t.word l c).2:=by
 unfold RS.word;split
 ·rename_i e;exact h.trans (To.aex (yX (by rw [e];exact h0)).2)
 ·exact h.fail
theorem aN {q:Option (List Int × RS)}{f:List Int→RS→Option (List Int × RS)}{r:List Int × RS}(h:jF q f=some r):∃ a t,q=some (a,t)∧f a t=some r:=by
 cases q with
 | none=>cases h
 | some x=>obtain⟨a,t⟩:=x;exact⟨a,t,rfl,h⟩
theorem bG {n:Nd}{a:List Int}(h:some (RS.put n t)=some (a,u)):a=[(t.ns.length:Int)]∧u=(t.put n).2:=by
 injection h with h
 exact⟨(congrArg Prod.fst h).symm,(congrArg Prod.snd h).symm⟩
theorem dX {a b:List Int}(h:some (a,t)=some (b,u)):b=a∧u=t:=by
 injection h with h
 exact⟨(congrArg Prod.fst h).symm,(congrArg Prod.snd h).symm⟩
end
theorem acF {v:Lv}{x:Bs}(h:¬ iJ v x=0):x ≠ []:=fun e=>h (by rw [e];exact Mk v)
theorem bQ {l:List Tok}:∀ (n:Nat) (j:Job) (s g:RS) (i:List Int),bH l n j s=some (i,g)→To l s g
 | 0,_,_,_,_,h=>by cases h
 | n+1,.expr,s,g,i,h=>by
  rw [bH] at h
  split at h
  ·rename_i e
   obtain⟨d,f,b,h⟩:=aN h;obtain⟨q,w,m,h⟩:=aN h;obtain⟨D,E,A,h⟩:=aN h;obtain⟨rfl,rfl⟩:=bG h;have o:=(To.refl.dU e (by simp)).trans (bQ n _ _ _ _ b);have B:=(o.take (by simp)).trans (bQ n _ _ _ _ m);exact ((B.take (by simp)).trans (bQ n _ _ _ _ A)).put _
  ·split at h
   ·rename_i e
    obtain⟨d,f,b,h⟩:=aN h;obtain⟨q,w,m,h⟩:=aN h;obtain⟨rfl,rfl⟩:=bG h;have o:=(((To.refl.dU e (by simp)).word (c:=1) (by simp)).take (by simp)).trans (bQ n _ _ _ _ b);exact ((o.take (by simp)).trans (bQ n _ _ _ _ m)).put _
   ·exact bQ n _ _ _ _ h
 | n+1,.lv v,s,g,i,h=>by
  have k:∀ v:Lv,jF (bH l n (.lv v.below) s) (fun a C=>bH l n (.tail v (hd a)) C)=some (i,g)→To l s g:=by
   intro v h;obtain⟨d,f,b,h⟩:=aN h;exact (bQ n _ _ _ _ b).trans (bQ n _ _ _ _ h)
  cases v with
  | not =>
   rw [bH] at h
   split at h
   ·rename_i e
    obtain⟨d,f,b,h⟩:=aN h;obtain⟨rfl,rfl⟩:=bG h;exact ((To.refl.dU e (by simp)).trans (bQ n _ _ _ _ b)).put _
   ·exact bQ n _ _ _ _ h
  | unary =>
   rw [bH] at h
   split at h
   ·rename_i e
    obtain⟨d,f,b,h⟩:=aN h;obtain⟨rfl,rfl⟩:=bG h;exact ((To.refl.dU e (by simp)).trans (bQ n _ _ _ _ b)).put _
   ·exact bQ n _ _ _ _ h
  | or=>rw [bH] at h;exact k .or h;all_goals simp
  | and=>rw [bH] at h;exact k .and h;all_goals simp
  | cmp=>rw [bH] at h;exact k .cmp h;all_goals simp
  | sum=>rw [bH] at h;exact k .sum h;all_goals simp
  | term=>rw [bH] at h;exact k .term h;all_goals simp
 | n+1,.tail v a,s,g,i,h=>by
  rw [bH] at h
  split at h
  ·obtain⟨rfl,rfl⟩:=dX h;exact To.refl
  ·rename_i e
   obtain⟨d,f,b,h⟩:=aN h;obtain⟨q,w,m,h⟩:=aN h;obtain⟨rfl,rfl⟩:=bG m;have o:=((To.refl.dU rfl (acF e)).trans (bQ n _ _ _ _ b)).put ⟨iJ v (s.next l),[],0,[a,hd d],s.place l⟩;split at h
   ·obtain⟨rfl,rfl⟩:=dX h;exact o
   ·exact o.trans (bQ n _ _ _ _ h)
 | n+1,.post,s,g,i,h=>by
  rw [bH] at h
  obtain⟨d,f,b,h⟩:=aN h;exact (bQ n _ _ _ _ b).trans (bQ n _ _ _ _ h)
 | n+1,.jq a,s,g,i,h=>by
  rw [bH] at h
  split at h
  ·rename_i e
   obtain⟨d,f,b,h⟩:=aN h;obtain⟨rfl,rfl⟩:=bG b;exact (((To.refl.dU e (by simp)).word (c:=1) (by simp)).put _).trans (bQ n _ _ _ _ h)
  ·split at h
   ·rename_i e
    obtain⟨d,f,b,h⟩:=aN h;obtain⟨q,w,m,h⟩:=aN h;obtain⟨rfl,rfl⟩:=bG m;exact (((((To.refl.dU e (by simp)).trans (bQ n _ _ _ _ b)).take (by simp))).put _).trans (bQ n _ _ _ _ h)
   ·obtain⟨rfl,rfl⟩:=dX h;exact To.refl
 | n+1,.atom,s,g,i,h=>by
  rw [bH] at h
  have r:To l s (s.word l 1).2:=To.refl.word (by simp);split at h
  ·obtain⟨rfl,rfl⟩:=bG h;exact (To.refl.word (by simp)).put _
  split at h
  ·rename_i e;obtain⟨rfl,rfl⟩:=bG h;exact (To.refl.dU e (by simp)).put _
  split at h
  ·rename_i e;obtain⟨rfl,rfl⟩:=bG h;exact (To.refl.dU e (by simp)).put _
  split at h
  ·rename_i e
   obtain⟨d,f,b,h⟩:=aN h;obtain⟨rfl,rfl⟩:=dX h;exact ((To.refl.dU e (by simp)).trans (bQ n _ _ _ _ b)).take (by simp)
  split at h
  ·rename_i e
   obtain⟨d,f,b,h⟩:=aN h;obtain⟨rfl,rfl⟩:=bG h;exact (((To.refl.dU e (by simp)).trans (bQ n _ _ _ _ b)).take (by simp)).put _
  split at h
  ·rename_i e
   have x:=r.dU e (by simp);split at h
   ·obtain⟨rfl,rfl⟩:=bG h;exact (x.take (by simp)).put _
   ·obtain⟨d,f,b,h⟩:=aN h;obtain⟨rfl,rfl⟩:=bG h;exact ((x.trans (bQ n _ _ _ _ b)).take (by simp)).put _
  split at h
  ·rename_i e
   obtain⟨d,f,b,h⟩:=aN h;obtain⟨rfl,rfl⟩:=bG h;exact (((r.dU e (by simp)).trans (bQ n _ _ _ _ b)).take (by simp)).put _
  ·obtain⟨rfl,rfl⟩:=bG h;exact r.put _
 | n+1,.put,s,g,i,h=>by
  rw [bH] at h
  obtain⟨d,f,b,h⟩:=aN h;obtain⟨rfl,rfl⟩:=bG h;exact (((To.refl.word (by simp)).take (by simp)).trans (bQ n _ _ _ _ b)).put _
 | n+1,.param,s,g,i,h=>by
  rw [bH] at h
  obtain⟨d,f,b,h⟩:=aN h;obtain⟨rfl,rfl⟩:=bG h;exact (((To.refl.word (by simp)).take (by simp)).trans (bQ n _ _ _ _ b)).put _
 | n+1,.typ,s,g,i,h=>by
  rw [bH] at h
  split at h
  ·rename_i e;obtain⟨rfl,rfl⟩:=bG h;exact (To.refl.dU e (by simp)).put _
  split at h
  ·rename_i e;obtain⟨rfl,rfl⟩:=bG h;exact (To.refl.dU e (by simp)).put _
  split at h
  ·rename_i e
   obtain⟨d,f,b,h⟩:=aN h;obtain⟨rfl,rfl⟩:=bG h;exact (((((To.refl.dU e (by simp)).trans (bQ n _ _ _ _ b)).take (by simp)).word (by simp)).take (by simp)).put _
  ·obtain⟨rfl,rfl⟩:=bG h;exact (To.refl.word (by simp)).put _
 | n+1,.list e,s,g,i,h=>by
  rw [bH] at h
  obtain⟨d,f,b,h⟩:=aN h;exact (bQ n _ _ _ _ b).trans (bQ n _ _ _ _ h)
 | n+1,.gQ e acc,s,g,i,h=>by
  rw [bH] at h
  split at h
  ·rename_i y
   obtain⟨d,f,b,h⟩:=aN h;exact ((To.refl.dU y (by simp)).trans (bQ n _ _ _ _ b)).trans (bQ n _ _ _ _ h)
  ·obtain⟨rfl,rfl⟩:=dX h;exact To.refl
theorem SC {l:List Tok}(s:RS):To l s (rO l s).2:=by
 unfold rO;split
 ·rename_i e;exact ((To.refl.dU e (by simp)).word (by simp)).put _
 ·exact (To.refl.word (by simp)).put _
end Mist
