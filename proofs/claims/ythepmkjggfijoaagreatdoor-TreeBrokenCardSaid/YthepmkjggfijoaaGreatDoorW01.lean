/-
  A part of the proof.
-/
import Derived.Test.YthepmkjggfijoaaGreatDoorSA
import Derived.Test.YthepmkjggfijoaaGreatDoorS04
set_option linter.all false
set_option maxRecDepth 100000
namespace Mist
section
variable (l:List Tok) (en:Int)
end
section
variable {l:List Tok} {en:Int}
end
end Mist
namespace Mist
section
variable (l:List Tok)
end
section
variable {l:List Tok} {k M M1:Nat} {ns:List Nd}
theorem fG:RS.next l ⟨k,true,ns⟩=[]:=rfl
theorem yA:RS.kind l ⟨k,true,ns⟩=0:=rfl
theorem aO {t:Bs}(h:t ≠ []):RS.take l t ⟨k,true,ns⟩=⟨k,true,ns⟩:=by
 unfold RS.take;rw [fG,if_neg (fun e=>h e.symm)];rfl
theorem jA {c:Nat}(h:c ≠ 0):RS.word l c ⟨k,true,ns⟩=([],⟨k,true,ns⟩):=by
 unfold RS.word;rw [yA,if_neg (fun e=>h e.symm)];rfl
theorem xQ (m:Nat)(v:Lv)(a:Int):aK l (m+1) (.tail v a) ⟨k,true,ns⟩=some ([a],⟨k,true,ns⟩):=by
 rw [aK,fG,if_pos (Ii v)]
theorem uS (m:Nat)(a:Int):aK l (m+1) (.iq a) ⟨k,true,ns⟩=some ([a],⟨k,true,ns⟩):=by
 rw [aK,fG,if_neg (by simp),if_neg (by simp)]
theorem uR (m:Nat)(e:El)(a:List Int):aK l (m+1) (.eu e a) ⟨k,true,ns⟩=some (a,⟨k,true,ns⟩):=by
 rw [aK,fG,if_neg (by simp)]
theorem Gr (m:Nat):au k (ns.length+1) (aK l (m+1) .atom ⟨k,true,ns⟩):=by
 rw [aK,fG,yA,jA (by simp)]
 repeat rw [if_neg (by simp)]
 exact au.put _ (Nat.lt_succ_self _)
theorem BM (m:Nat):au k (ns.length+1) (aK l (m+1) .typ ⟨k,true,ns⟩):=by
 rw [aK,fG,jA (by simp)]
 repeat rw [if_neg (by simp)]
 exact au.put _ (Nat.lt_succ_self _)
theorem Gv (m:Nat):au k (ns.length+1) (aK l (m+2) .post ⟨k,true,ns⟩):=by
 rw [aK];exact (Gr m).gY fun as ns h=>by rw [uS];exact au.give _ h
theorem uT (m:Nat):au k (ns.length+1) (aK l (m+3) (.lv .unary) ⟨k,true,ns⟩):=by
 rw [aK,fG,if_neg (by simp)];exact Gv m
theorem sG (m:Nat)(v:Lv)(hv:v=.or∨v=.and∨v=.cmp∨v=.sum∨v=.term)(h:au k (ns.length+1) (aK l (m+1) (.lv v.below) ⟨k,true,ns⟩)):au k (ns.length+1) (aK l (m+2) (.lv v) ⟨k,true,ns⟩):=by
 have e:aK l (m+2) (.lv v) ⟨k,true,ns⟩=Mist.gY (aK l (m+1) (.lv v.below) ⟨k,true,ns⟩) fun a b=>aK l (m+1) (.tail v (hd a)) b:=by
  rcases hv with rfl | rfl | rfl | rfl | rfl <;> rw [aK] <;> simp
 rw [e];exact h.gY fun as ns h=>by rw [xQ];exact au.give _ h
theorem xR (m:Nat):au k (ns.length+1) (aK l (m+4) (.lv .term) ⟨k,true,ns⟩):=sG (m+2) .term (by simp) (uT m)
theorem BL (m:Nat):au k (ns.length+1) (aK l (m+5) (.lv .sum) ⟨k,true,ns⟩):=sG (m+3) .sum (by simp) (xR m)
theorem BJ (m:Nat):au k (ns.length+1) (aK l (m+6) (.lv .cmp) ⟨k,true,ns⟩):=sG (m+4) .cmp (by simp) (BL m)
theorem BK (m:Nat):au k (ns.length+1) (aK l (m+7) (.lv .not) ⟨k,true,ns⟩):=by
 rw [aK,fG,if_neg (by simp)];exact BJ m
theorem BI (m:Nat):au k (ns.length+1) (aK l (m+8) (.lv .and) ⟨k,true,ns⟩):=sG (m+6) .and (by simp) (BK m)
theorem Gu (m:Nat):au k (ns.length+1) (aK l (m+9) (.lv .or) ⟨k,true,ns⟩):=sG (m+7) .or (by simp) (BI m)
theorem sD (m:Nat):au k (ns.length+1) (aK l (m+10) .expr ⟨k,true,ns⟩):=by
 rw [aK,fG,if_neg (by simp),if_neg (by simp)];exact Gu m
theorem LU (m:Nat):au k (ns.length+2) (aK l (m+11) .put ⟨k,true,ns⟩):=by
 rw [aK,jA (by simp),aO (by simp)];exact (sD m).gY fun as ns h=>au.put _ (by omega)
theorem DL (m:Nat):au k (ns.length+2) (aK l (m+11) .param ⟨k,true,ns⟩):=by
 rw [aK,jA (by simp),aO (by simp)];exact (BM (m+9)).gY fun as ns h=>au.put _ (by omega)
theorem Gs (m:Nat)(e:El):au k (ns.length+2) (aK l (m+11) e.job ⟨k,true,ns⟩):=by
 cases e
 ·exact (sD (m+1)).mono (by omega)
 ·exact LU m
 ·exact DL m
theorem Gt (m:Nat)(e:El):au k (ns.length+2) (aK l (m+12) (.list e) ⟨k,true,ns⟩):=by
 rw [aK];exact (Gs m e).gY fun as ns h=>by rw [uR];exact au.give _ h
theorem cO:RS.next l ⟨k,false,ns⟩=tx l k:=rfl
theorem vk:RS.kind l ⟨k,false,ns⟩=(tg l k).kind:=rfl
theorem dG {en:Int}{b:Bool}(h:k < l.length):RS.place l ⟨k,b,ns⟩=pl l en k:=by unfold RS.place pl;rw [if_pos h]
theorem bW (m:Nat)(h:10≤m):au k (ns.length+1) (aK l m .expr ⟨k,true,ns⟩):=by
 obtain⟨m,rfl⟩:∃ n,m=n+10:=⟨m - 10,by omega⟩;exact sD m
theorem mI (m:Nat)(h:1≤m):au k (ns.length+1) (aK l m .typ ⟨k,true,ns⟩):=by
 obtain⟨m,rfl⟩:∃ n,m=n+1:=⟨m - 1,by omega⟩;exact BM m
theorem kY (m:Nat)(e:El)(h:12≤m):au k (ns.length+2) (aK l m (.list e) ⟨k,true,ns⟩):=by
 obtain⟨m,rfl⟩:∃ n,m=n+12:=⟨m - 12,by omega⟩;exact Gt m e
theorem pK (m:Nat)(v:Lv)(a:Int)(h:1≤m):aK l m (.tail v a) ⟨k,true,ns⟩=some ([a],⟨k,true,ns⟩):=by
 obtain⟨m,rfl⟩:∃ n,m=n+1:=⟨m - 1,by omega⟩;exact xQ m v a
theorem iX (m:Nat)(a:Int)(h:1≤m):aK l m (.iq a) ⟨k,true,ns⟩=some ([a],⟨k,true,ns⟩):=by
 obtain⟨m,rfl⟩:∃ n,m=n+1:=⟨m - 1,by omega⟩;exact uS m a
theorem sF (m:Nat)(e:El)(a:List Int)(h:1≤m):aK l m (.eu e a) ⟨k,true,ns⟩=some (a,⟨k,true,ns⟩):=by
 obtain⟨m,rfl⟩:∃ n,m=n+1:=⟨m - 1,by omega⟩;exact uR m e a
variable {en:Int}
theorem mP (hK:∀ t ∈ l,Mist.kind t.text=t.kind)(h:(tg l k).kind=2):j_ (tx l k)=numOf (tx l k):=by
 have h1:k < l.length:=fA h (by simp);have h2:=hK _ (lN l k h1);unfold j_ tx;rw [mY _ (by rw [h2,h])]
theorem yN (hK:∀ t ∈ l,Mist.kind t.text=t.kind):∀ (m:Nat) (j:Job) (k:Nat) (ns:List Nd),k≤l.length→ns.length≤k→Wf ns→Ids j.args ns.length→(∀ e K,j=.eu e K→K ≠ [])→13 * (l.length - k)+j.rank+16 < m →
  eG (l.length+4 * m) (run l en m j k ns) (aK l m j ⟨k,false,ns⟩)
 | 0,_,_,_,_,_,_,_,_,h=>by omega
 | m+1,j,k,ns,hk,L,n,hi,S,u=>by
  have r:=fun j k ns h1 L n hi S u=>yN hK m j k ns h1 L n hi S u
  cases j with
  | expr =>
   simp only [Job.rank] at u
   rw [run,aK,cO];by_cases e:tx l k=[105,102]
   ·rw [if_pos e,if_pos e];have h1:=aP e (by simp);refine (r .expr (k+1) ns (by omega) (by omega) n (Ids.nil _) (by simp) (by simp only [Job.rank];omega)).thn (fun a f d r1=>?_) (fun as f d i=>?_)
    ·have g:=aW r1 (by omega) n (Ids.nil _) (by simp);have B:=g.lo;have F:=g.few;have G:=g.le;simp only [Job.reads] at B
     refine eG.need (ns:=d) (fun A E=>?_) (fun E=>?_)
     ·have h2:=aP A (by simp)
      (try dsimp only);rw [E]
      refine (r .expr (f+1) d (by omega) (by omega) g.wf (Ids.nil _) (by simp) (by simp only [Job.rank];omega)).thn (fun b J D r2=>?_) (fun P J D i=>?_)
      ·have q:=aW r2 (by omega) g.wf (Ids.nil _) (by simp);have q1:=q.lo;have q2:=q.few;have q3:=q.le;simp only [Job.reads] at q1
       refine eG.need (ns:=D) (fun w y=>?_) (fun y=>?_)
       ·have h3:=aP w (by simp)
        (try dsimp only);rw [y]
        refine (r .expr (J+1) D (by omega) (by omega) q.wf (Ids.nil _) (by simp) (by simp only [Job.rank];omega)).thn (fun c k3 H Q=>?_) (fun cs k3 H i=>?_)
        ·rw [dG h1];exact eG.add _
        ·exact au.put _ (by omega)
       ·(try dsimp only);rw [y]
        exact (bW m (by omega)).gY fun cs H i=>au.put _ (by omega)
      ·(try dsimp only);rw [aO (by simp)]
       exact (bW m (by omega)).gY fun cs H i=>au.put _ (by omega)
     ·(try dsimp only);rw [E]
      refine (bW m (by omega)).gY fun P D i=>?_
      (try dsimp only);rw [aO (by simp)]
      exact (bW m (by omega)).gY fun cs H i=>au.put _ (by omega)
    ·(try dsimp only);rw [aO (by simp)]
     refine (bW m (by omega)).gY fun P D i=>?_
     (try dsimp only);rw [aO (by simp)]
     exact (bW m (by omega)).gY fun cs H i=>au.put _ (by omega)
   ·rw [if_neg e,if_neg e];by_cases e:tx l k=[108,101,116]
    ·rw [if_pos e,if_pos e];have h1:=aP e (by simp)
     have W:∀ (x:Bs) f d,d.length≤l.length+4 * m+1→au f (l.length+4 * (m+1)) (Mist.gY (aK l m .expr ⟨f,true,d⟩) fun a V=>Mist.gY (aK l m .expr (V.take l [105,110])) fun b s2=>some (s2.put ⟨20,x,0,[hd a,hd b],RS.place l ⟨k,false,ns⟩⟩)):=by
      intro x f d i;refine (bW m (by omega)).gY fun P D i=>?_
      (try dsimp only);rw [aO (by simp)]
      exact (bW m (by omega)).gY fun cs H i=>au.put _ (by omega)
     have ad:RS.dR ⟨k,false,ns⟩=⟨k+1,false,ns⟩:=rfl;rw [ad];refine eG.bI (ns:=ns) (fun A E=>?_) (fun E=>?_)
     ·rw [E];refine eG.need (ns:=ns) (fun w y=>?_) (fun y=>?_)
      ·have h2:=aP w (by simp)
       (try dsimp only);rw [y]
       refine (r .expr (k+3) ns (by omega) (by omega) n (Ids.nil _) (by simp) (by simp only [Job.rank];omega)).thn (fun a f d r1=>?_) (fun as f d i=>?_)
       ·have g:=aW r1 (by omega) n (Ids.nil _) (by simp);have B:=g.lo;have F:=g.few;have G:=g.le;simp only [Job.reads] at B
        refine eG.need (ns:=d) (fun C N=>?_) (fun N=>?_)
        ·have h3:=aP C (by simp)
         (try dsimp only);rw [N]
         refine (r .expr (f+1) d (by omega) (by omega) g.wf (Ids.nil _) (by simp) (by simp only [Job.rank];omega)).thn (fun b J D r2=>?_) (fun P J D i=>?_)
         ·rw [dG h1];exact eG.add _
         ·exact au.put _ (by omega)
        ·(try dsimp only);rw [N]
         exact (bW m (by omega)).gY fun cs H i=>au.put _ (by omega)
       ·(try dsimp only);rw [aO (by simp)]
        exact (bW m (by omega)).gY fun cs H i=>au.put _ (by omega)
      ·(try dsimp only);rw [y]
       exact W _ _ _ (by omega)
     ·rw [E];(try dsimp only);rw [aO (by simp)];exact W _ _ _ (by omega)
    ·rw [if_neg e,if_neg e];exact (r (.lv .or) k ns hk L n (Ids.nil _) (by simp) (by simp only [Job.rank];omega)).mono (by omega)
  | lv v =>
   have R:∀ v,(v=.or∨v=.and∨v=.cmp∨v=.sum∨v=.term)→13 * (l.length - k)+(Job.lv v).rank+16 < m+1→eG (l.length+4 * (m+1)) (Mist.thn (run l en m (.lv v.below) k ns) fun a f d=>run l en m (.tail v (hd a)) f d) (Mist.gY (aK l m (.lv v.below) ⟨k,false,ns⟩) fun a V=>aK l m (.tail v (hd a)) V):=by
    intro v hv u;have Z:3≤(Job.lv v).rank:=by cases v <;> decide
    have Y:(Job.lv v.below).rank+1=(Job.lv v).rank:=by
     rcases hv with rfl | rfl | rfl | rfl | rfl <;> rfl
    refine (r (.lv v.below) k ns hk L n (Ids.nil _) (by simp) (by omega)).thn (fun a f d r1=>?_) (fun as f d i=>?_)
    ·have g:=aW r1 hk n (Ids.nil _) (by simp);have B:=g.lo;have F:=g.few;have G:=g.le;simp only [Job.reads] at B
     exact (r (.tail v (hd a)) f d g.le (by omega) g.wf (Ids.cons g.hd (Ids.nil _)) (by simp) (by show 13 * (l.length - f)+1+16 < m;omega)).mono (by omega)
    ·(try dsimp only);rw [pK m v _ (by omega)]
     exact au.give _ (by omega)
   cases v with
   | not =>
    simp only [Job.rank] at u
    rw [run,aK,cO];by_cases e:tx l k=[110,111,116]
    ·rw [if_pos e,if_pos e];have h1:=aP e (by simp);refine (r (.lv .not) (k+1) ns (by omega) (by omega) n (Ids.nil _) (by simp) (by simp only [Job.rank];omega)).thn (fun a f d r1=>?_) (fun as f d i=>?_)
     ·rw [dG h1];exact eG.add _
     ·exact au.put _ (by omega)
    ·rw [if_neg e,if_neg e];exact (r (.lv .cmp) k ns hk L n (Ids.nil _) (by simp) (by simp only [Job.rank];omega)).mono (by omega)
   | unary =>
    simp only [Job.rank] at u
    rw [run,aK,cO];by_cases e:tx l k=[45]
    ·rw [if_pos e,if_pos e];have h1:=aP e (by simp);refine (r (.lv .unary) (k+1) ns (by omega) (by omega) n (Ids.nil _) (by simp) (by simp only [Job.rank];omega)).thn (fun a f d r1=>?_) (fun as f d i=>?_)
     ·rw [dG h1];exact eG.add _
     ·exact au.put _ (by omega)
    ·rw [if_neg e,if_neg e];exact (r .post k ns hk L n (Ids.nil _) (by simp) (by simp only [Job.rank];omega)).mono (by omega)
   | or=>rw [run,aK] <;> first | exact R _ (by simp) u | simp
   | and=>rw [run,aK] <;> first | exact R _ (by simp) u | simp
   | cmp=>rw [run,aK] <;> first | exact R _ (by simp) u | simp
   | sum=>rw [run,aK] <;> first | exact R _ (by simp) u | simp
   | term=>rw [run,aK] <;> first | exact R _ (by simp) u | simp
  | tail v a =>
   have u:13 * (l.length - k)+1+16 < m+1:=u;simp only [Job.args] at hi
   rw [run,aK,cO];by_cases e:fB v (tx l k)=0
   ·rw [if_pos e,if_pos e];exact eG.give _
   ·rw [if_neg e,if_neg e];obtain⟨h1,hv⟩:=qo e;have Y:(Job.lv v.below).rank≤9:=by rcases hv with rfl | rfl | rfl | rfl | rfl <;> decide
    refine (r (.lv v.below) (k+1) ns (by omega) (by omega) n (Ids.nil _) (by simp) (by omega)).thn (fun b f d r1=>?_) (fun P f d i=>?_)
    ·have g:=aW r1 (by omega) n (Ids.nil _) (by simp);have B:=g.lo;have F:=g.few;have G:=g.le;have U:=g.len;simp only [Job.reads] at B
     have X:=hi a (List.mem_cons_self ..);rw [dG (en:=en) h1];refine (eG.add (M:=0) _).thn (fun c J D r2=>?_) (fun as J D i=>?_)
     ·injection r2 with r2;injection r2 with r2 Q T
      subst r2;subst Q;subst T;by_cases I:v=.cmp
      ·rw [if_pos I];(try dsimp only);rw [if_pos I];exact eG.give _
      ·rw [if_neg I];(try dsimp only);rw [if_neg I];refine (r (.tail v _) f _ g.le ?_ ?_ ?_ (by simp) (by show 13 * (l.length - f)+1+16 < m;omega)).mono (by omega)
       ·simp;omega
       ·exact g.wf.add (Ids.cons (by omega) (Ids.cons g.hd (Ids.nil _)))
       ·exact Ids.cons ⟨by simp [hd],by simp [hd];omega⟩ (Ids.nil _)
     ·by_cases I:v=.cmp
      ·(try dsimp only);rw [if_pos I];exact au.give _ (by omega)
      ·(try dsimp only);rw [if_neg I,pK m v _ (by omega)];exact au.give _ (by omega)
    ·show au f _ (if v=.cmp then _ else aK l m (.tail v _) _)
     by_cases I:v=.cmp
     ·rw [if_pos I];exact au.give _ (by simp;omega)
     ·rw [if_neg I,pK m v _ (by omega)];exact au.give _ (by simp;omega)
  | post =>
   simp only [Job.rank] at u
   rw [run,aK];refine (r .atom k ns hk L n (Ids.nil _) (by simp) (by simp only [Job.rank];omega)).thn (fun a f d r1=>?_) (fun as f d i=>?_)
   ·have g:=aW r1 hk n (Ids.nil _) (by simp);have B:=g.lo;have F:=g.few;have G:=g.le;simp only [Job.reads] at B
    exact (r (.iq (hd a)) f d g.le (by omega) g.wf (Ids.cons g.hd (Ids.nil _)) (by simp) (by show 13 * (l.length - f)+1+16 < m;omega)).mono (by omega)
   ·(try dsimp only);rw [iX m _ (by omega)]
    exact au.give _ (by omega)
  | iq a =>
   have u:13 * (l.length - k)+1+16 < m+1:=u;simp only [Job.args] at hi
   have X:=hi a (List.mem_cons_self ..);have ad:RS.dR ⟨k,false,ns⟩=⟨k+1,false,ns⟩:=rfl;rw [run,aK,cO,ad];by_cases e:tx l k=[46]
   ·rw [if_pos e,if_pos e];have h1:=aP e (by simp);refine eG.bI (ns:=ns) (fun A E=>?_) (fun E=>?_)
    ·have h2:=fA A (by simp);rw [E,dG (en:=en) h1];refine (eG.add (M:=0) _).thn (fun c J D r2=>?_) (fun as J D i=>?_)
     ·injection r2 with r2;injection r2 with r2 Q T
      subst r2;subst Q;subst T;refine (r (.iq _) (k+2) _ (by omega) ?_ ?_ ?_ (by simp) (by show 13 * (l.length - (k+2))+1+16 < m;omega)).mono (by omega)
      ·simp;omega
      ·exact n.add (Ids.cons X (Ids.nil _))
      ·exact Ids.cons ⟨by simp [hd],by simp [hd];omega⟩ (Ids.nil _)
     ·(try dsimp only);rw [iX m _ (by omega)];exact au.give _ (by omega)
    ·rw [E]
     show au (k+1) _ (aK l m (.iq _) ⟨k+1,true,ns ++ [_]⟩)
     rw [iX m _ (by omega)];exact au.give _ (by simp;omega)
   ·rw [if_neg e,if_neg e];by_cases e:tx l k=[91]
    ·rw [if_pos e,if_pos e];have h1:=aP e (by simp);refine (r .expr (k+1) ns (by omega) (by omega) n (Ids.nil _) (by simp) (by simp only [Job.rank];omega)).thn (fun b f d r1=>?_) (fun P f d i=>?_)
     ·have g:=aW r1 (by omega) n (Ids.nil _) (by simp);have B:=g.lo;have F:=g.few;have G:=g.le;have U:=g.len;simp only [Job.reads] at B
      refine eG.need (ns:=d) (fun A E=>?_) (fun E=>?_)
      ·have h2:=aP A (by simp)
       (try dsimp only);rw [E,dG (en:=en) h1]
       refine (eG.add (M:=0) _).thn (fun c J D r2=>?_) (fun as J D i=>?_)
       ·injection r2 with r2;injection r2 with r2 Q T
        subst r2;subst Q;subst T;refine (r (.iq _) (f+1) _ (by omega) ?_ ?_ ?_ (by simp) (by show 13 * (l.length - (f+1))+1+16 < m;omega)).mono (by omega)
        ·simp;omega
        ·exact g.wf.add (Ids.cons (by omega) (Ids.cons g.hd (Ids.nil _)))
        ·exact Ids.cons ⟨by simp [hd],by simp [hd];omega⟩ (Ids.nil _)
       ·(try dsimp only);rw [iX m _ (by omega)];exact au.give _ (by omega)
      ·(try dsimp only);rw [E]
       show au f _ (aK l m (.iq _) ⟨f,true,d ++ [_]⟩)
       rw [iX m _ (by omega)];exact au.give _ (by simp;omega)
     ·(try dsimp only);rw [aO (by simp)]
      show au f _ (aK l m (.iq _) ⟨f,true,d ++ [_]⟩)
      rw [iX m _ (by omega)];exact au.give _ (by simp;omega)
    ·rw [if_neg e,if_neg e];exact eG.give _
  | atom =>
   simp only [Job.rank] at u
   have ad:RS.dR ⟨k,false,ns⟩=⟨k+1,false,ns⟩:=rfl;rw [run,aK,cO,vk,ad];by_cases e:(tg l k).kind=2
   ·rw [if_pos e,if_pos e];have h1:=fA e (by simp);rw [show RS.word l 2 ⟨k,false,ns⟩=(tx l k,⟨k+1,false,ns⟩) from if_pos e,mP hK e,dG (en:=en) h1];exact eG.add _
   rw [if_neg e,if_neg e];by_cases e:tx l k=[116,114,117,101]
   ·rw [if_pos e,if_pos e,dG (en:=en) (aP e (by simp))];exact eG.add _
   rw [if_neg e,if_neg e];by_cases e:tx l k=[102,97,108,115,101]
   ·rw [if_pos e,if_pos e,dG (en:=en) (aP e (by simp))];exact eG.add _
   rw [if_neg e,if_neg e];by_cases e:tx l k=[40]
   ·rw [if_pos e,if_pos e];have h1:=aP e (by simp);refine (r .expr (k+1) ns (by omega) (by omega) n (Ids.nil _) (by simp) (by simp only [Job.rank];omega)).thn (fun a f d r1=>?_) (fun as f d i=>?_)
    ·refine eG.need (ns:=d) (fun A E=>?_) (fun E=>?_)
     ·(try dsimp only);rw [E];exact eG.give _
     ·have g:=aW r1 (by omega) n (Ids.nil _) (by simp);have F:=g.few;have G:=g.le
      (try dsimp only);rw [E];exact au.give _ (by omega)
    ·(try dsimp only);rw [aO (by simp)];exact au.give _ (by omega)
   rw [if_neg e,if_neg e];by_cases e:tx l k=[91]
   ·rw [if_pos e,if_pos e];have h1:=aP e (by simp);refine (r (.list .expr) (k+1) ns (by omega) (by omega) n (Ids.nil _) (by simp) (by simp only [Job.rank];omega)).thn (fun a f d r1=>?_) (fun as f d i=>?_)
    ·have g:=aW r1 (by omega) n (Ids.nil _) (by simp);have F:=g.few;have G:=g.le;refine eG.need (ns:=d) (fun A E=>?_) (fun E=>?_)
     ·(try dsimp only);rw [E,dG (en:=en) h1];exact eG.add _
     ·(try dsimp only);rw [E];exact au.put _ (by omega)
    ·(try dsimp only);rw [aO (by simp)];exact au.put _ (by omega)
   rw [if_neg e,if_neg e];refine eG.bI (ns:=ns) (fun A E=>?_) (fun E=>?_)
   ·have h1:=fA A (by simp);rw [E]
    try dsimp only
    rw [cO,show RS.dR ⟨k+1,false,ns⟩=⟨k+2,false,ns⟩ from rfl,cO,dG (en:=en) h1];by_cases w:tx l (k+1)=[40]
    ·have h2:=aP w (by simp);rw [if_pos w,if_pos w];by_cases C:tx l (k+2)=[41]
     ·rw [if_pos C,if_pos C,show RS.take l [41] ⟨k+2,false,ns⟩=⟨k+3,false,ns⟩ from if_pos C];exact eG.add _
     ·rw [if_neg C,if_neg C];refine (r (.list .expr) (k+2) ns (by omega) (by omega) n (Ids.nil _) (by simp) (by simp only [Job.rank];omega)).thn (fun a f d r1=>?_) (fun as f d i=>?_)
      ·have g:=aW r1 (by omega) n (Ids.nil _) (by simp);have F:=g.few;have G:=g.le;refine eG.need (ns:=d) (fun A E=>?_) (fun E=>?_)
       ·(try dsimp only);rw [E];exact eG.add _
       ·(try dsimp only);rw [E];exact au.put _ (by omega)
      ·(try dsimp only);rw [aO (by simp)];exact au.put _ (by omega)
    ·rw [if_neg w,if_neg w];by_cases C:tx l (k+1)=[123]
     ·have h2:=aP C (by simp);rw [if_pos C,if_pos C];refine (r (.list .put) (k+2) ns (by omega) (by omega) n (Ids.nil _) (by simp) (by simp only [Job.rank];omega)).thn (fun a f d r1=>?_) (fun as f d i=>?_)
      ·have g:=aW r1 (by omega) n (Ids.nil _) (by simp);have F:=g.few;have G:=g.le;refine eG.need (ns:=d) (fun A E=>?_) (fun E=>?_)
       ·(try dsimp only);rw [E];exact eG.add _
       ·(try dsimp only);rw [E];exact au.put _ (by omega)
      ·(try dsimp only);rw [aO (by simp)];exact au.put _ (by omega)
     ·rw [if_neg C,if_neg C];exact eG.add _
   ·rw [E]
    try dsimp only
    rw [fG,if_neg (by simp),if_neg (by simp)];exact au.put _ (by omega)
  | put =>
   simp only [Job.rank] at u
   rw [run,aK];refine eG.bI (ns:=ns) (fun A E=>?_) (fun E=>?_)
   ·have h1:=fA A (by simp);rw [E];(try dsimp only);refine eG.need (ns:=ns) (fun w y=>?_) (fun y=>?_)
    ·have h2:=aP w (by simp);rw [y];refine (r .expr (k+2) ns (by omega) (by omega) n (Ids.nil _) (by simp) (by simp only [Job.rank];omega)).thn (fun a f d r1=>?_) (fun as f d i=>?_)
     ·rw [dG (en:=en) h1];exact eG.add _
     ·exact au.put _ (by omega)
    ·rw [y];exact (bW m (by omega)).gY fun cs H i=>au.put _ (by omega)
   ·rw [E];(try dsimp only);rw [aO (by simp)];exact (bW m (by omega)).gY fun cs H i=>au.put _ (by omega)
  | param =>
   simp only [Job.rank] at u
   rw [run,aK];refine eG.bI (ns:=ns) (fun A E=>?_) (fun E=>?_)
   ·have h1:=fA A (by simp);rw [E];(try dsimp only);refine eG.need (ns:=ns) (fun w y=>?_) (fun y=>?_)
    ·have h2:=aP w (by simp);rw [y];refine (r .typ (k+2) ns (by omega) (by omega) n (Ids.nil _) (by simp) (by simp only [Job.rank];omega)).thn (fun a f d r1=>?_) (fun as f d i=>?_)
     ·rw [dG (en:=en) h1];exact eG.add _
     ·exact au.put _ (by omega)
    ·rw [y];exact (mI m (by omega)).gY fun cs H i=>au.put _ (by omega)
   ·rw [E];(try dsimp only);rw [aO (by simp)];exact (mI m (by omega)).gY fun cs H i=>au.put _ (by omega)
  | typ =>
   simp only [Job.rank] at u
   have ad:RS.dR ⟨k,false,ns⟩=⟨k+1,false,ns⟩:=rfl;rw [run,aK,cO,ad];by_cases e:tx l k=[105,110,116]
   ·rw [if_pos e,if_pos e,dG (en:=en) (aP e (by simp))];exact eG.add _
   rw [if_neg e,if_neg e];by_cases e:tx l k=[98,111,111,108]
   ·rw [if_pos e,if_pos e,dG (en:=en) (aP e (by simp))];exact eG.add _
   rw [if_neg e,if_neg e];by_cases e:tx l k=[91]
   ·rw [if_pos e,if_pos e];have h1:=aP e (by simp);refine (r .typ (k+1) ns (by omega) (by omega) n (Ids.nil _) (by simp) (by simp only [Job.rank];omega)).thn (fun a f d r1=>?_) (fun as f d i=>?_)
    ·have g:=aW r1 (by omega) n (Ids.nil _) (by simp);have F:=g.few;have G:=g.le;refine eG.need (ns:=d) (fun A E=>?_) (fun E=>?_)
     ·(try dsimp only);rw [E]
      refine eG.bI (ns:=d) (fun w y=>?_) (fun y=>?_)
      ·rw [y];try dsimp only;refine eG.need (ns:=d) (fun C N=>?_) (fun N=>?_)
       ·rw [N,dG (en:=en) h1,mP hK w];exact eG.add _
       ·rw [N];exact au.put _ (by omega)
      ·rw [y];(try dsimp only);rw [aO (by simp)];exact au.put _ (by omega)
     ·(try dsimp only);rw [E,jA (by simp)];try dsimp only;rw [aO (by simp)];exact au.put _ (by omega)
    ·(try dsimp only);rw [aO (by simp),jA (by simp)];try dsimp only;rw [aO (by simp)];exact au.put _ (by omega)
   rw [if_neg e,if_neg e];refine eG.bI (ns:=ns) (fun A E=>?_) (fun E=>?_)
   ·rw [E,dG (en:=en) (fA A (by simp))];exact eG.add _
   ·rw [E];exact au.put _ (by omega)
  | list e =>
   simp only [Job.rank] at u
   rw [run,aK];refine (r e.job k ns hk L n (by cases e <;> exact Ids.nil _) (by cases e <;> simp [El.job]) (by rw [El.u_];omega)).thn (fun a f d r1=>?_) (fun as f d i=>?_)
   ·have g:=aW r1 hk n (by cases e <;> exact Ids.nil _) (by cases e <;> simp [El.job]);have B:=g.lo;have F:=g.few;have G:=g.le;rw [El.rU] at B
    exact (r (.eu e [hd a]) f d g.le (by omega) g.wf (Ids.cons g.hd (Ids.nil _)) (by intro _ _ h;injection h with _ h;rw [← h];simp) (by simp only [Job.rank];omega)).mono (by omega)
   ·(try dsimp only);rw [sF m e _ (by omega)];exact au.give _ (by omega)
  | eu e K =>
   simp only [Job.rank,Job.args] at u hi
   have ad:RS.dR ⟨k,false,ns⟩=⟨k+1,false,ns⟩:=rfl;rw [run,aK,cO,ad];by_cases w:tx l k=[44]
   ·rw [if_pos w,if_pos w];have h1:=aP w (by simp);refine (r e.job (k+1) ns (by omega) (by omega) n (by cases e <;> exact Ids.nil _) (by cases e <;> simp [El.job]) (by rw [El.u_];omega)).thn (fun a f d r1=>?_) (fun as f d i=>?_)
    ·have g:=aW r1 (by omega) n (by cases e <;> exact Ids.nil _) (by cases e <;> simp [El.job]);have B:=g.lo;have F:=g.few;have G:=g.le;have U:=g.len;rw [El.rU] at B
     exact (r (.eu e (K ++ [hd a])) f d g.le (by omega) g.wf ((hi.mono U).app (Ids.cons g.hd (Ids.nil _))) (by intro _ _ h;injection h with _ h;rw [← h];simp) (by simp only [Job.rank];omega)).mono (by omega)
    ·(try dsimp only);rw [sF m e _ (by omega)];exact au.give _ (by omega)
   ·rw [if_neg w,if_neg w];exact eG.give _
end
end Mist
namespace Mist
section
variable {l:List Tok} {en:Int}
end
section
variable (l:List Tok)
end
section
variable {l:List Tok} {en:Int} {k M:Nat} {ns:List Nd}
theorem mV (h:ns.length < M):au k M (some (rz l ⟨k,true,ns⟩)):=by
 unfold rz;rw [fG,if_neg (by simp),jA (by simp)];exact au.put _ h
theorem vY:rup l ⟨k,true,ns⟩=(0,⟨k,true,ns⟩):=by unfold rup;rw [fG,if_neg (by simp)]
theorem mH (n:Nat)(x:Bs)(at_:Int)(ps:List Int)(d:20≤n)(h:ns.length+3≤M):au k M (iW l n x at_ ps ⟨k,true,ns⟩):=by
 unfold iW;rw [aO (by simp),aO (by simp)];refine (mI n (by omega)).gY fun t a h1=>?_
 rw [vY];(try dsimp only);rw [aO (by simp)];exact (bW n (by omega)).gY fun b c h2=>au.put _ (by omega)
theorem Cv (hK:∀ t ∈ l,Mist.kind t.text=t.kind)(b:ns.length < M):eG M (sN l en k ns) (some (rz l ⟨k,false,ns⟩)):=by
 unfold sN rz;rw [cO,show RS.dR ⟨k,false,ns⟩=⟨k+1,false,ns⟩ from rfl];by_cases e:tx l k=[45]
 ·rw [if_pos e,if_pos e];refine eG.bI (ns:=ns) (fun a E=>?_) (fun E=>?_)
  ·rw [E,dG (en:=en) (aP e (by simp)),mP hK a];exact eG.add _
  ·rw [E];exact au.put _ b
 ·rw [if_neg e,if_neg e];refine eG.bI (ns:=ns) (fun a E=>?_) (fun E=>?_)
  ·rw [E,dG (en:=en) (fA a (by simp)),mP hK a];exact eG.add _
  ·rw [E];exact au.put _ b
section
variable (hK:∀ t ∈ l,Mist.kind t.text=t.kind)
include hK
theorem kG (n:Nat)(j:Job)(c:k≤l.length)(d:ns.length≤k)(f:Wf ns)(hi:Ids j.args ns.length)(b:∀ e a,j=.eu e a→a ≠ [])(g:13 * l.length+40 < n):eG (l.length+4 * n) (run l en n j k ns) (aK l n j ⟨k,false,ns⟩):=by
 refine yN hK n j k ns c d f hi b ?_
 have:j.rank≤12:=by
  cases j with
  | lv v=>cases v <;> decide
  | _=>first | decide | simp [Job.rank]
 omega
theorem qE (n k a:Nat)(ps:List Int)(t u:Int)(w:ns.length≤a)(v:a≤l.length)(g:Wf ns)(d:13 * l.length+40 < n)(q:l.length+4 * n+20≤M) :
  eG M (kU l en n k ps t u a ns) (gY (aK l n .expr (RS.take l [61] ⟨a,false,ns⟩)) fun b i=>some (i.put ⟨42,tx l (k+1),u,ps ++ [t] ++ [hd b],pl l en k⟩)):=by
 unfold kU;refine eG.need (ns:=ns) (fun e E=>?_) (fun E=>?_)
 ·have h1:=aP e (by simp);rw [E];exact (kG hK n .expr (by omega) (by omega) g (Ids.nil _) (by simp) d).thn (fun b h c r=>eG.add _) (fun j h c f=>au.put _ (by omega))
 ·rw [E];exact (bW n (by omega)).gY fun b m f=>au.put _ (by omega)
theorem qF (n k i:Nat)(ps:List Int)(F:ns.length≤i)(D:i≤l.length)(x:Wf ns)(q:13 * l.length+40 < n)(w:l.length+4 * n+20≤M) :
  eG M (mg l en n k ps i ns) (iW l n (tx l (k+1)) (pl l en k) ps ⟨i,false,ns⟩):=by
 unfold mg;refine eG.need (ns:=ns) (fun e E=>?_) (fun E=>?_)
 ·have h1:=aP e (by simp);refine eG.need (ns:=ns) (fun A j=>?_) (fun j=>?_)
  ·have h2:=aP A (by simp);unfold iW;rw [E,j];refine (kG hK n .typ (by omega) (by omega) x (Ids.nil _) (by simp) q).thn (fun t c a r=>?_) (fun G c a u=>?_)
   ·have g:=aW r (by omega) x (Ids.nil _) (by simp);have C:=g.few;have B:=g.le
    try dsimp only
    by_cases d:tx l c=[117,112,116,111]
    ·have h3:=aP d (by simp);rw [if_pos d];by_cases h:tx l (c+1)=[48]
     ·rw [if_pos h]
      have f:rup l ⟨c,false,a⟩=(j_ [],⟨c+1,true,a⟩):=by
       unfold rup;rw [cO,if_pos d,show RS.dR ⟨c,false,a⟩=⟨c+1,false,a⟩ from rfl,cO,if_pos h,show RS.fail ⟨c+1,false,a⟩=⟨c+1,true,a⟩ from rfl,jA (by simp)]
      rw [f];refine eG.bad ?_
      (try dsimp only);rw [aO (by simp)]
      exact (bW n (by omega)).gY fun b a u=>au.put _ (by omega)
     ·rw [if_neg h];refine eG.bI (ns:=a) (fun v m=>?_) (fun m=>?_)
      ·have f:rup l ⟨c,false,a⟩=(j_ (tx l (c+1)),⟨c+2,false,a⟩):=by
        unfold rup;rw [cO,if_pos d,show RS.dR ⟨c,false,a⟩=⟨c+1,false,a⟩ from rfl,cO,if_neg h,m]
       rw [f,mP hK v];have h5:=fA v (by simp);exact qE hK n k (c+2) ps (hd t) _ (by omega) (by omega) g.wf q w
      ·have f:rup l ⟨c,false,a⟩=(j_ [],⟨c+1,true,a⟩):=by
        unfold rup;rw [cO,if_pos d,show RS.dR ⟨c,false,a⟩=⟨c+1,false,a⟩ from rfl,cO,if_neg h,m]
       rw [f]
       (try dsimp only);rw [aO (by simp)]
       exact (bW n (by omega)).gY fun b a u=>au.put _ (by omega)
    ·rw [if_neg d]
     have f:rup l ⟨c,false,a⟩=(0,⟨c,false,a⟩):=by
      unfold rup;rw [cO,if_neg d]
     rw [f];exact qE hK n k c ps (hd t) 0 (by omega) B g.wf q w
   ·try dsimp only
    rw [vY];(try dsimp only);rw [aO (by simp)];exact (bW n (by omega)).gY fun b a u=>au.put _ (by omega)
  ·unfold iW;rw [E,j];refine (mI n (by omega)).gY fun t y h1=>?_
   rw [vY];(try dsimp only);rw [aO (by simp)];exact (bW n (by omega)).gY fun b a h2=>au.put _ (by omega)
 ·unfold iW;rw [E,aO (by simp)];refine (mI n (by omega)).gY fun t y h1=>?_
  rw [vY];(try dsimp only);rw [aO (by simp)];exact (bW n (by omega)).gY fun b a h2=>au.put _ (by omega)
theorem Ie (n:Nat)(T:k≤l.length)(B:ns.length≤k)(j:Wf ns)(v:13 * l.length+40 < n)(R:l.length+4 * n+30≤M):eG M (item l en n k ns) (C9 l n ⟨k,false,ns⟩):=by
 unfold item C9;rw [vk,cO];by_cases e:(tg l k).kind=3
 case neg=>rw [if_neg e,if_neg e];exact eG.bad (au.give _ (show ns.length≤M by omega))
 rw [if_pos e,if_pos e];have h1:=fA e (by simp);rw [show RS.dR ⟨k,false,ns⟩=⟨k+1,false,ns⟩ from rfl,dG (en:=en) h1]
 have A:∀ (at_:Int) (x:Bs) (C:It),C ≠ .ask→∀ K i,i.length≤k→au K M (d9 l n at_ x C ⟨K,true,i⟩):=by
  intro at_ x C J K i w
  cases C with
  | choose =>
   unfold d9;dsimp only;rw [aO (by simp)];refine (mV (M:=i.length+1) (by omega)).gY fun a d h1=>?_
   rw [aO (by simp)];refine (mV (M:=i.length+2) (by omega)).gY fun b m h2=>au.put _ (by omega)
  | record =>
   unfold d9;dsimp only;rw [aO (by simp),aO (by simp)];refine (kY n .param (by omega)).gY fun as d h1=>?_
   rw [aO (by simp)];exact au.put _ (by omega)
  | zu =>
   unfold d9;dsimp only;rw [aO (by simp),fG,if_neg (by simp)];exact (kY n .param (by omega)).gY fun as d h1=>mH n x at_ as (by omega) (by omega)
  | yB =>
   unfold d9;dsimp only;rw [aO (by simp)];exact (bW n (by omega)).gY fun b m h2=>au.put _ (by omega)
  | observe =>
   unfold d9;dsimp only;rw [aO (by simp)];exact (bW n (by omega)).gY fun b m h2=>au.put _ (by omega)
  | kW=>exact au.put _ (by omega)
  | ask=>exact absurd rfl J
 cases S:Hr (tx l k) with
 | none=>exact eG.bad (au.give _ (show ns.length≤M by omega))
 | some C =>
  cases C with
  | choose =>
   unfold gI
   try dsimp only
   refine eG.bI (ns:=ns) (fun D c=>?_) (fun c=>?_)
   ·rw [c];(try dsimp only);unfold d9;dsimp only;refine eG.need (ns:=ns) (fun q f=>?_) (fun f=>?_)
    ·have h2:=aP q (by simp);rw [f];refine (Cv hK (M:=M - 3) (by omega)).thn (fun a h d r=>?_) (fun as h d w=>?_)
     ·have g:=((xY (en:=en) (by omega) j).2 _ r).1 _ _ _ rfl;have L:=g.few;have I:=g.le;refine eG.need (ns:=d) (fun u y=>?_) (fun y=>?_)
      ·have h3:=aP u (by simp)
       (try dsimp only);rw [y]
       refine (Cv hK (M:=M - 1) (by omega)).thn (fun b N m U=>eG.add _) (fun P N m w=>au.put _ (by omega))
      ·(try dsimp only);rw [y]
       exact (mV (M:=M - 1) (by omega)).gY fun b m h2=>au.put _ (by omega)
     ·(try dsimp only);rw [aO (by simp)]
      exact (mV (M:=M - 2) (by omega)).gY fun b m h2=>au.put _ (by omega)
    ·rw [f];refine (mV (M:=ns.length+1) (by omega)).gY fun a d h1=>?_
     rw [aO (by simp)];refine (mV (M:=ns.length+2) (by omega)).gY fun b m h2=>au.put _ (by omega)
   ·rw [c];exact A _ _ .choose (by simp) _ _ B
  | record =>
   unfold gI
   try dsimp only
   refine eG.bI (ns:=ns) (fun D c=>?_) (fun c=>?_)
   ·rw [c];(try dsimp only);unfold d9;dsimp only;refine eG.need (ns:=ns) (fun q f=>?_) (fun f=>?_)
    ·refine eG.need (ns:=ns) (fun u y=>?_) (fun y=>?_)
     ·have h3:=aP u (by simp);rw [f,y];refine (kG hK n (.list .param) (by omega) (by omega) j (Ids.nil _) (by simp) v).thn (fun as h d r=>?_) (fun as h d w=>?_)
      ·have g:=aW r (by omega) j (Ids.nil _) (by simp);have L:=g.few;have I:=g.le;refine eG.need (ns:=d) (fun Q H=>?_) (fun H=>?_)
       ·(try dsimp only);rw [H];exact eG.add _
       ·(try dsimp only);rw [H];exact au.put _ (by omega)
      ·(try dsimp only);rw [aO (by simp)];exact au.put _ (by omega)
     ·rw [f,y];refine (kY n .param (by omega)).gY fun as d h1=>?_
      rw [aO (by simp)];exact au.put _ (by omega)
    ·rw [f,aO (by simp)];refine (kY n .param (by omega)).gY fun as d h1=>?_
     rw [aO (by simp)];exact au.put _ (by omega)
   ·rw [c];exact A _ _ .record (by simp) _ _ B
  | zu =>
   unfold gI
   try dsimp only
   refine eG.bI (ns:=ns) (fun D c=>?_) (fun c=>?_)
   ·rw [c];(try dsimp only);unfold d9;dsimp only;refine eG.need (ns:=ns) (fun q f=>?_) (fun f=>?_)
    ·have h2:=aP q (by simp);rw [f,cO];by_cases u:tx l (k+3)=[41]
     ·rw [if_pos u,if_pos u];exact qF hK n k (k+3) [] (by omega) (by omega) j v (by omega)
     ·rw [if_neg u,if_neg u];refine (kG hK n (.list .param) (by omega) (by omega) j (Ids.nil _) (by simp) v).thn (fun as h d r=>?_) (fun as h d w=>?_)
      ·have g:=aW r (by omega) j (Ids.nil _) (by simp);have L:=g.few;have I:=g.le;exact qF hK n k h as (by omega) I g.wf v (by omega)
      ·exact mH n _ _ as (by omega) (by omega)
    ·rw [f,fG,if_neg (by simp)];exact (kY n .param (by omega)).gY fun as d h1=>mH n _ _ as (by omega) (by omega)
   ·rw [c];exact A _ _ .zu (by simp) _ _ B
  | yB =>
   unfold gI
   try dsimp only
   refine eG.bI (ns:=ns) (fun D c=>?_) (fun c=>?_)
   ·rw [c];(try dsimp only);unfold d9;dsimp only;refine eG.need (ns:=ns) (fun q f=>?_) (fun f=>?_)
    ·have h2:=aP q (by simp);rw [f];exact (kG hK n .expr (by omega) (by omega) j (Ids.nil _) (by simp) v).thn (fun as h d r=>eG.add _) (fun as h d w=>au.put _ (by omega))
    ·rw [f];exact (bW n (by omega)).gY fun b m h2=>au.put _ (by omega)
   ·rw [c];exact A _ _ .yB (by simp) _ _ B
  | observe =>
   unfold gI
   try dsimp only
   refine eG.bI (ns:=ns) (fun D c=>?_) (fun c=>?_)
   ·rw [c];(try dsimp only);unfold d9;dsimp only;refine eG.need (ns:=ns) (fun q f=>?_) (fun f=>?_)
    ·have h2:=aP q (by simp);rw [f];exact (kG hK n .expr (by omega) (by omega) j (Ids.nil _) (by simp) v).thn (fun as h d r=>eG.add _) (fun as h d w=>au.put _ (by omega))
    ·rw [f];exact (bW n (by omega)).gY fun b m h2=>au.put _ (by omega)
   ·rw [c];exact A _ _ .observe (by simp) _ _ B
  | kW =>
   unfold gI
   try dsimp only
   refine eG.bI (ns:=ns) (fun D c=>?_) (fun c=>?_)
   ·rw [c];exact eG.add _
   ·rw [c];exact A _ _ .kW (by simp) _ _ B
  | ask =>
   show eG M (wT l en n k ns) (JF l n (pl l en k) ⟨k+1,false,ns⟩)
   unfold wT JF;rw [cO,show RS.dR ⟨k+1,false,ns⟩=⟨k+2,false,ns⟩ from rfl,show RS.fail ⟨k+1,false,ns⟩=⟨k+1,true,ns⟩ from rfl];by_cases E:gy (tx l (k+1))=0
   ·rw [if_pos E,if_pos E];exact eG.bad (au.give _ (by omega))
   have h2:=Aw E;rw [if_neg E,if_neg E];by_cases F:gy (tx l (k+1))=7
   ·rw [if_pos F,if_pos F];exact eG.add _
   rw [if_neg F,if_neg F];by_cases G:gy (tx l (k+1))=8
   ·rw [if_pos G,if_pos G];exact (kG hK n (.list .expr) (by omega) (by omega) j (Ids.nil _) (by simp) v).thn (fun as h d r=>eG.add _) (fun as h d w=>au.put _ (by omega))
   rw [if_neg G,if_neg G];exact (kG hK n .expr (by omega) (by omega) j (Ids.nil _) (by simp) v).thn (fun as h d r=>eG.add _) (fun as h d w=>au.put _ (by omega))
theorem yC (n:Nat)(q:13 * l.length+40 < n)(i:l.length+4 * n+30≤M):∀ (m k:Nat) (ns:List Nd) (its:List Int),k≤l.length→ns.length≤k→Wf ns→l.length < k+m→eG M (prog l en n m k ns its) (nM l n m ⟨k,false,ns⟩ its)
 | 0,_,_,_,h1,_,_,h2=>by omega
 | m+1,k,ns,its,hk,hn,hw,hm=>by
  rw [prog,nM];by_cases b:k < l.length
  case neg =>
   rw [if_neg b,if_neg (by simpa using b)];exact eG.give _
  rw [if_pos b,if_pos ⟨rfl,b⟩]
  have j:∀ (its:List Int) h c,c.length≤M→au h M (nM l n m ⟨h,true,c⟩ its):=by
   intro its h c f;obtain⟨m,rfl⟩:∃ v,m=v+1:=⟨m - 1,by omega⟩;rw [nM,if_neg (by simp)];exact au.give _ f
  refine (Ie hK n hk hn hw q i).thn (fun a u d r=>?_) (fun as u d f=>?_)
  ·have g:=u6 hk hw r;have w:=g.lo;have x:=g.few;have y:=g.le;refine eG.need (ns:=d) (fun e E=>?_) (fun E=>?_)
   ·have h1:=aP e (by simp)
    (try dsimp only);rw [E]
    exact yC n q i m (u+1) d _ (by omega) (by omega) g.wf (by omega)
   ·(try dsimp only);rw [E];exact j _ _ _ (by omega)
  ·(try dsimp only);rw [aO (by simp)];exact j _ _ _ f
end
theorem vF (n:Nat)(C:13 * l.length+40 < n):∀ (m k:Nat) (ns:List Nd) (its:List Int),k≤l.length→Wf ns→l.length < k+m→Ids its ns.length →
  ∃ r,prog l en n m k ns its=some r∧(∀ d c b,r=.ok d c b→c=l.length∧b.length+k≤ns.length+l.length∧(∃ t,b=ns ++ t)∧Wf b∧Ids d b.length∧d.length+k≤its.length+l.length)∧∀ c,r=.bad c→c≤l.length
 | 0,_,_,_,h1,_,h2,_=>by omega
 | m+1,k,ns,its,hk,hw,hm,hi=>by
  rw [prog];by_cases f:k < l.length
  case neg =>
   rw [if_neg f]
   refine⟨_,rfl,fun d c b e=>?_,fun c e=>by cases e⟩
   injection e with v w y
   subst v;subst w;subst y;exact⟨by omega,by omega,bQ _,hw,hi,by omega⟩
  rw [if_pos f];obtain⟨x,j⟩:=(uW (l:=l) (en:=en) (n:=n) hk hw).1 (by omega);rw [j]
  cases x with
  | bad i =>
   refine⟨_,rfl,fun _ _ _ e=>(by cases e),fun c e=>?_⟩
   injection e with e
   subst e;exact ((uW (l:=l) (en:=en) (n:=n) hk hw).2 _ j).2 _ rfl
  | ok a i u =>
   have g:=u6 hk hw j;have H:=g.lo;have I:=g.few;have A:=g.le;have B:=g.len
   show ∃ r,need l [59] i _=some r∧_
   unfold need;by_cases e:tx l i=[59]
   ·rw [if_pos e];have h1:=aP e (by simp);obtain⟨r,h,p,q⟩:=vF n C m (i+1) u (its ++ [hd a]) (by omega) g.wf (by omega) ((hi.mono B).app (Ids.cons g.hd (Ids.nil _)))
    refine⟨r,h,fun d c b e=>?_,q⟩
    obtain⟨p1,J,D,E,F,G⟩:=p d c b e;rw [aaO,aaT] at G
    exact⟨p1,by omega,dK g.more D,E,F,by omega⟩
   ·rw [if_neg e];exact⟨_,rfl,fun _ _ _ e=>(by cases e),fun c e=>by injection e with e;subst e;exact A⟩
end
end Mist
