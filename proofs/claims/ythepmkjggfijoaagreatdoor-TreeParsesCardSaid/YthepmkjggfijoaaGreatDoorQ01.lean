/-
  A part of the proof.
-/
import Derived.Test.YthepmkjggfijoaaGreatDoorSA
import Derived.Test.YthepmkjggfijoaaGreatDoorS04
set_option linter.all false
set_option maxRecDepth 100000
namespace Mist
section
variable (l:List Tok) (en:Int)
end
section
variable {l:List Tok} {en:Int}
end
end Mist
namespace Mist
section
variable (l:List Tok)
end
section
variable {l:List Tok} {k M M1:Nat} {ns:List Nd}
theorem fG:RS.next l ⟨k,true,ns⟩=[]:=rfl
theorem yA:RS.kind l ⟨k,true,ns⟩=0:=rfl
theorem aO {t:Bs}(h:t ≠ []):RS.take l t ⟨k,true,ns⟩=⟨k,true,ns⟩:=by
 unfold RS.take;rw [fG,if_neg (fun e=>h e.symm)];rfl
theorem jA {c:Nat}(h:c ≠ 0):RS.word l c ⟨k,true,ns⟩=([],⟨k,true,ns⟩):=by
 unfold RS.word;rw [yA,if_neg (fun e=>h e.symm)];rfl
theorem xQ (m:Nat)(v:Lv)(a:Int):aK l (m+1) (.tail v a) ⟨k,true,ns⟩=some ([a],⟨k,true,ns⟩):=by
 rw [aK,fG,if_pos (Ii v)]
theorem uS (m:Nat)(a:Int):aK l (m+1) (.iq a) ⟨k,true,ns⟩=some ([a],⟨k,true,ns⟩):=by
 rw [aK,fG,if_neg (by simp),if_neg (by simp)]
theorem uR (m:Nat)(e:El)(acc:List Int):aK l (m+1) (.eu e acc) ⟨k,true,ns⟩=some (acc,⟨k,true,ns⟩):=by
 rw [aK,fG,if_neg (by simp)]
theorem Gr (m:Nat):au k (ns.length+1) (aK l (m+1) .atom ⟨k,true,ns⟩):=by
 rw [aK,fG,yA,jA (by simp)]
 repeat rw [if_neg (by simp)]
 exact au.put _ (Nat.lt_succ_self _)
theorem BM (m:Nat):au k (ns.length+1) (aK l (m+1) .typ ⟨k,true,ns⟩):=by
 rw [aK,fG,jA (by simp)]
 repeat rw [if_neg (by simp)]
 exact au.put _ (Nat.lt_succ_self _)
theorem Gv (m:Nat):au k (ns.length+1) (aK l (m+2) .post ⟨k,true,ns⟩):=by
 rw [aK];exact (Gr m).gY fun as ns h=>by rw [uS];exact au.give _ h
theorem uT (m:Nat):au k (ns.length+1) (aK l (m+3) (.lv .unary) ⟨k,true,ns⟩):=by
 rw [aK,fG,if_neg (by simp)];exact Gv m
theorem sG (m:Nat)(v:Lv)(hv:v=.or∨v=.and∨v=.cmp∨v=.sum∨v=.term)(h:au k (ns.length+1) (aK l (m+1) (.lv v.below) ⟨k,true,ns⟩)):au k (ns.length+1) (aK l (m+2) (.lv v) ⟨k,true,ns⟩):=by
 have e:aK l (m+2) (.lv v) ⟨k,true,ns⟩=Mist.gY (aK l (m+1) (.lv v.below) ⟨k,true,ns⟩) fun a s1=>aK l (m+1) (.tail v (hd a)) s1:=by
  rcases hv with rfl | rfl | rfl | rfl | rfl <;> rw [aK] <;> simp
 rw [e];exact h.gY fun as ns h=>by rw [xQ];exact au.give _ h
theorem xR (m:Nat):au k (ns.length+1) (aK l (m+4) (.lv .term) ⟨k,true,ns⟩):=sG (m+2) .term (by simp) (uT m)
theorem BL (m:Nat):au k (ns.length+1) (aK l (m+5) (.lv .sum) ⟨k,true,ns⟩):=sG (m+3) .sum (by simp) (xR m)
theorem BJ (m:Nat):au k (ns.length+1) (aK l (m+6) (.lv .cmp) ⟨k,true,ns⟩):=sG (m+4) .cmp (by simp) (BL m)
theorem BK (m:Nat):au k (ns.length+1) (aK l (m+7) (.lv .not) ⟨k,true,ns⟩):=by
 rw [aK,fG,if_neg (by simp)];exact BJ m
theorem BI (m:Nat):au k (ns.length+1) (aK l (m+8) (.lv .and) ⟨k,true,ns⟩):=sG (m+6) .and (by simp) (BK m)
theorem Gu (m:Nat):au k (ns.length+1) (aK l (m+9) (.lv .or) ⟨k,true,ns⟩):=sG (m+7) .or (by simp) (BI m)
theorem sD (m:Nat):au k (ns.length+1) (aK l (m+10) .expr ⟨k,true,ns⟩):=by
 rw [aK,fG,if_neg (by simp),if_neg (by simp)];exact Gu m
theorem LU (m:Nat):au k (ns.length+2) (aK l (m+11) .put ⟨k,true,ns⟩):=by
 rw [aK,jA (by simp),aO (by simp)];exact (sD m).gY fun as ns h=>au.put _ (by omega)
theorem DL (m:Nat):au k (ns.length+2) (aK l (m+11) .param ⟨k,true,ns⟩):=by
 rw [aK,jA (by simp),aO (by simp)];exact (BM (m+9)).gY fun as ns h=>au.put _ (by omega)
theorem Gs (m:Nat)(e:El):au k (ns.length+2) (aK l (m+11) e.job ⟨k,true,ns⟩):=by
 cases e
 ·exact (sD (m+1)).mono (by omega)
 ·exact LU m
 ·exact DL m
theorem Gt (m:Nat)(e:El):au k (ns.length+2) (aK l (m+12) (.list e) ⟨k,true,ns⟩):=by
 rw [aK];exact (Gs m e).gY fun as ns h=>by rw [uR];exact au.give _ h
theorem cO:RS.next l ⟨k,false,ns⟩=tx l k:=rfl
theorem vk:RS.kind l ⟨k,false,ns⟩=(tg l k).kind:=rfl
theorem dG {en:Int}{b:Bool}(h:k < l.length):RS.place l ⟨k,b,ns⟩=pl l en k:=by unfold RS.place pl;rw [if_pos h]
theorem bW (m:Nat)(h:10≤m):au k (ns.length+1) (aK l m .expr ⟨k,true,ns⟩):=by
 obtain⟨m,rfl⟩:∃ n,m=n+10:=⟨m - 10,by omega⟩;exact sD m
theorem mI (m:Nat)(h:1≤m):au k (ns.length+1) (aK l m .typ ⟨k,true,ns⟩):=by
 obtain⟨m,rfl⟩:∃ n,m=n+1:=⟨m - 1,by omega⟩;exact BM m
theorem kY (m:Nat)(e:El)(h:12≤m):au k (ns.length+2) (aK l m (.list e) ⟨k,true,ns⟩):=by
 obtain⟨m,rfl⟩:∃ n,m=n+12:=⟨m - 12,by omega⟩;exact Gt m e
theorem pK (m:Nat)(v:Lv)(a:Int)(h:1≤m):aK l m (.tail v a) ⟨k,true,ns⟩=some ([a],⟨k,true,ns⟩):=by
 obtain⟨m,rfl⟩:∃ n,m=n+1:=⟨m - 1,by omega⟩;exact xQ m v a
theorem iX (m:Nat)(a:Int)(h:1≤m):aK l m (.iq a) ⟨k,true,ns⟩=some ([a],⟨k,true,ns⟩):=by
 obtain⟨m,rfl⟩:∃ n,m=n+1:=⟨m - 1,by omega⟩;exact uS m a
theorem sF (m:Nat)(e:El)(acc:List Int)(h:1≤m):aK l m (.eu e acc) ⟨k,true,ns⟩=some (acc,⟨k,true,ns⟩):=by
 obtain⟨m,rfl⟩:∃ n,m=n+1:=⟨m - 1,by omega⟩;exact uR m e acc
variable {en:Int}
theorem mP (hK:∀ t ∈ l,Mist.kind t.text=t.kind)(h:(tg l k).kind=2):j_ (tx l k)=numOf (tx l k):=by
 have h1:k < l.length:=fA h (by simp);have h2:=hK _ (lN l k h1);unfold j_ tx;rw [mY _ (by rw [h2,h])]
theorem yN (hK:∀ t ∈ l,Mist.kind t.text=t.kind):∀ (m:Nat) (j:Job) (k:Nat) (ns:List Nd),k≤l.length→ns.length≤k→Wf ns→Ids j.args ns.length→(∀ e acc,j=.eu e acc→acc ≠ [])→13 * (l.length - k)+j.rank+16 < m →
  eG (l.length+4 * m) (run l en m j k ns) (aK l m j ⟨k,false,ns⟩)
 | 0,_,_,_,_,_,_,_,_,h=>by omega
 | m+1,j,k,ns,hk,hn,hw,hi,hne,hm=>by
  have ih:=fun j k ns h1 hn hw hi hne hm=>yN hK m j k ns h1 hn hw hi hne hm
  cases j with
  | expr =>
   simp only [Job.rank] at hm
   rw [run,aK,cO];by_cases e:tx l k=[105,102]
   ·rw [if_pos e,if_pos e];have h1:=aP e (by simp);refine (ih .expr (k+1) ns (by omega) (by omega) hw (Ids.nil _) (by simp) (by simp only [Job.rank];omega)).thn (fun a k1 aJ r1=>?_) (fun as k1 aJ hl=>?_)
    ·have g:=aW r1 (by omega) hw (Ids.nil _) (by simp);have g1:=g.lo;have g2:=g.few;have g3:=g.le;simp only [Job.reads] at g1
     refine eG.need (ns:=aJ) (fun e1 E=>?_) (fun E=>?_)
     ·have h2:=aP e1 (by simp)
      (try dsimp only);rw [E]
      refine (ih .expr (k1+1) aJ (by omega) (by omega) g.wf (Ids.nil _) (by simp) (by simp only [Job.rank];omega)).thn (fun b k2 fF r2=>?_) (fun bs k2 fF hl=>?_)
      ·have q:=aW r2 (by omega) g.wf (Ids.nil _) (by simp);have q1:=q.lo;have q2:=q.few;have q3:=q.le;simp only [Job.reads] at q1
       refine eG.need (ns:=fF) (fun e2 E2=>?_) (fun E2=>?_)
       ·have h3:=aP e2 (by simp)
        (try dsimp only);rw [E2]
        refine (ih .expr (k2+1) fF (by omega) (by omega) q.wf (Ids.nil _) (by simp) (by simp only [Job.rank];omega)).thn (fun c k3 uK r3=>?_) (fun cs k3 uK hl=>?_)
        ·rw [dG h1];exact eG.add _
        ·exact au.put _ (by omega)
       ·(try dsimp only);rw [E2]
        exact (bW m (by omega)).gY fun cs uK hl=>au.put _ (by omega)
      ·(try dsimp only);rw [aO (by simp)]
       exact (bW m (by omega)).gY fun cs uK hl=>au.put _ (by omega)
     ·(try dsimp only);rw [E]
      refine (bW m (by omega)).gY fun bs fF hl=>?_
      (try dsimp only);rw [aO (by simp)]
      exact (bW m (by omega)).gY fun cs uK hl=>au.put _ (by omega)
    ·(try dsimp only);rw [aO (by simp)]
     refine (bW m (by omega)).gY fun bs fF hl=>?_
     (try dsimp only);rw [aO (by simp)]
     exact (bW m (by omega)).gY fun cs uK hl=>au.put _ (by omega)
   ·rw [if_neg e,if_neg e];by_cases e:tx l k=[108,101,116]
    ·rw [if_pos e,if_pos e];have h1:=aP e (by simp)
     have NK:∀ (x:Bs) k1 aJ,aJ.length≤l.length+4 * m+1→au k1 (l.length+4 * (m+1)) (Mist.gY (aK l m .expr ⟨k1,true,aJ⟩) fun a s1=>Mist.gY (aK l m .expr (s1.take l [105,110])) fun b s2=>some (s2.put ⟨20,x,0,[hd a,hd b],RS.place l ⟨k,false,ns⟩⟩)):=by
      intro x k1 aJ hl;refine (bW m (by omega)).gY fun bs fF hl=>?_
      (try dsimp only);rw [aO (by simp)]
      exact (bW m (by omega)).gY fun cs uK hl=>au.put _ (by omega)
     have ad:RS.dR ⟨k,false,ns⟩=⟨k+1,false,ns⟩:=rfl;rw [ad];refine eG.bI (ns:=ns) (fun e1 E=>?_) (fun E=>?_)
     ·rw [E];refine eG.need (ns:=ns) (fun e2 E2=>?_) (fun E2=>?_)
      ·have h2:=aP e2 (by simp)
       (try dsimp only);rw [E2]
       refine (ih .expr (k+3) ns (by omega) (by omega) hw (Ids.nil _) (by simp) (by simp only [Job.rank];omega)).thn (fun a k1 aJ r1=>?_) (fun as k1 aJ hl=>?_)
       ·have g:=aW r1 (by omega) hw (Ids.nil _) (by simp);have g1:=g.lo;have g2:=g.few;have g3:=g.le;simp only [Job.reads] at g1
        refine eG.need (ns:=aJ) (fun e3 E3=>?_) (fun E3=>?_)
        ·have h3:=aP e3 (by simp)
         (try dsimp only);rw [E3]
         refine (ih .expr (k1+1) aJ (by omega) (by omega) g.wf (Ids.nil _) (by simp) (by simp only [Job.rank];omega)).thn (fun b k2 fF r2=>?_) (fun bs k2 fF hl=>?_)
         ·rw [dG h1];exact eG.add _
         ·exact au.put _ (by omega)
        ·(try dsimp only);rw [E3]
         exact (bW m (by omega)).gY fun cs uK hl=>au.put _ (by omega)
       ·(try dsimp only);rw [aO (by simp)]
        exact (bW m (by omega)).gY fun cs uK hl=>au.put _ (by omega)
      ·(try dsimp only);rw [E2]
       exact NK _ _ _ (by omega)
     ·rw [E];(try dsimp only);rw [aO (by simp)];exact NK _ _ _ (by omega)
    ·rw [if_neg e,if_neg e];exact (ih (.lv .or) k ns hk hn hw (Ids.nil _) (by simp) (by simp only [Job.rank];omega)).mono (by omega)
  | lv v =>
   have go:∀ v,(v=.or∨v=.and∨v=.cmp∨v=.sum∨v=.term)→13 * (l.length - k)+(Job.lv v).rank+16 < m+1→eG (l.length+4 * (m+1)) (Mist.thn (run l en m (.lv v.below) k ns) fun a k1 aJ=>run l en m (.tail v (hd a)) k1 aJ) (Mist.gY (aK l m (.lv v.below) ⟨k,false,ns⟩) fun a s1=>aK l m (.tail v (hd a)) s1):=by
    intro v hv hm;have hr3:3≤(Job.lv v).rank:=by cases v <;> decide
    have hr:(Job.lv v.below).rank+1=(Job.lv v).rank:=by
     rcases hv with rfl | rfl | rfl | rfl | rfl <;> rfl
    refine (ih (.lv v.below) k ns hk hn hw (Ids.nil _) (by simp) (by omega)).thn (fun a k1 aJ r1=>?_) (fun as k1 aJ hl=>?_)
    ·have g:=aW r1 hk hw (Ids.nil _) (by simp);have g1:=g.lo;have g2:=g.few;have g3:=g.le;simp only [Job.reads] at g1
     exact (ih (.tail v (hd a)) k1 aJ g.le (by omega) g.wf (Ids.cons g.hd (Ids.nil _)) (by simp) (by show 13 * (l.length - k1)+1+16 < m;omega)).mono (by omega)
    ·(try dsimp only);rw [pK m v _ (by omega)]
     exact au.give _ (by omega)
   cases v with
   | not =>
    simp only [Job.rank] at hm
    rw [run,aK,cO];by_cases e:tx l k=[110,111,116]
    ·rw [if_pos e,if_pos e];have h1:=aP e (by simp);refine (ih (.lv .not) (k+1) ns (by omega) (by omega) hw (Ids.nil _) (by simp) (by simp only [Job.rank];omega)).thn (fun a k1 aJ r1=>?_) (fun as k1 aJ hl=>?_)
     ·rw [dG h1];exact eG.add _
     ·exact au.put _ (by omega)
    ·rw [if_neg e,if_neg e];exact (ih (.lv .cmp) k ns hk hn hw (Ids.nil _) (by simp) (by simp only [Job.rank];omega)).mono (by omega)
   | unary =>
    simp only [Job.rank] at hm
    rw [run,aK,cO];by_cases e:tx l k=[45]
    ·rw [if_pos e,if_pos e];have h1:=aP e (by simp);refine (ih (.lv .unary) (k+1) ns (by omega) (by omega) hw (Ids.nil _) (by simp) (by simp only [Job.rank];omega)).thn (fun a k1 aJ r1=>?_) (fun as k1 aJ hl=>?_)
     ·rw [dG h1];exact eG.add _
     ·exact au.put _ (by omega)
    ·rw [if_neg e,if_neg e];exact (ih .post k ns hk hn hw (Ids.nil _) (by simp) (by simp only [Job.rank];omega)).mono (by omega)
   | or=>rw [run,aK] <;> first | exact go _ (by simp) hm | simp
   | and=>rw [run,aK] <;> first | exact go _ (by simp) hm | simp
   | cmp=>rw [run,aK] <;> first | exact go _ (by simp) hm | simp
   | sum=>rw [run,aK] <;> first | exact go _ (by simp) hm | simp
   | term=>rw [run,aK] <;> first | exact go _ (by simp) hm | simp
  | tail v a =>
   have hm:13 * (l.length - k)+1+16 < m+1:=hm;simp only [Job.args] at hi
   rw [run,aK,cO];by_cases e:fB v (tx l k)=0
   ·rw [if_pos e,if_pos e];exact eG.give _
   ·rw [if_neg e,if_neg e];obtain⟨h1,hv⟩:=qo e;have hr:(Job.lv v.below).rank≤9:=by rcases hv with rfl | rfl | rfl | rfl | rfl <;> decide
    refine (ih (.lv v.below) (k+1) ns (by omega) (by omega) hw (Ids.nil _) (by simp) (by omega)).thn (fun b k1 aJ r1=>?_) (fun bs k1 aJ hl=>?_)
    ·have g:=aW r1 (by omega) hw (Ids.nil _) (by simp);have g1:=g.lo;have g2:=g.few;have g3:=g.le;have l1:=g.len;simp only [Job.reads] at g1
     have ha:=hi a (List.mem_cons_self ..);rw [dG (en:=en) h1];refine (eG.add (M:=0) _).thn (fun c k2 fF r2=>?_) (fun as k2 fF hl=>?_)
     ·injection r2 with r2;injection r2 with r2 r3 r4
      subst r2;subst r3;subst r4;by_cases hc:v=.cmp
      ·rw [if_pos hc];(try dsimp only);rw [if_pos hc];exact eG.give _
      ·rw [if_neg hc];(try dsimp only);rw [if_neg hc];refine (ih (.tail v _) k1 _ g.le ?_ ?_ ?_ (by simp) (by show 13 * (l.length - k1)+1+16 < m;omega)).mono (by omega)
       ·simp;omega
       ·exact g.wf.add (Ids.cons (by omega) (Ids.cons g.hd (Ids.nil _)))
       ·exact Ids.cons ⟨by simp [hd],by simp [hd];omega⟩ (Ids.nil _)
     ·by_cases hc:v=.cmp
      ·(try dsimp only);rw [if_pos hc];exact au.give _ (by omega)
      ·(try dsimp only);rw [if_neg hc,pK m v _ (by omega)];exact au.give _ (by omega)
    ·show au k1 _ (if v=.cmp then _ else aK l m (.tail v _) _)
     by_cases hc:v=.cmp
     ·rw [if_pos hc];exact au.give _ (by simp;omega)
     ·rw [if_neg hc,pK m v _ (by omega)];exact au.give _ (by simp;omega)
  | post =>
   simp only [Job.rank] at hm
   rw [run,aK];refine (ih .atom k ns hk hn hw (Ids.nil _) (by simp) (by simp only [Job.rank];omega)).thn (fun a k1 aJ r1=>?_) (fun as k1 aJ hl=>?_)
   ·have g:=aW r1 hk hw (Ids.nil _) (by simp);have g1:=g.lo;have g2:=g.few;have g3:=g.le;simp only [Job.reads] at g1
    exact (ih (.iq (hd a)) k1 aJ g.le (by omega) g.wf (Ids.cons g.hd (Ids.nil _)) (by simp) (by show 13 * (l.length - k1)+1+16 < m;omega)).mono (by omega)
   ·(try dsimp only);rw [iX m _ (by omega)]
    exact au.give _ (by omega)
  | iq a =>
   have hm:13 * (l.length - k)+1+16 < m+1:=hm;simp only [Job.args] at hi
   have ha:=hi a (List.mem_cons_self ..);have ad:RS.dR ⟨k,false,ns⟩=⟨k+1,false,ns⟩:=rfl;rw [run,aK,cO,ad];by_cases e:tx l k=[46]
   ·rw [if_pos e,if_pos e];have h1:=aP e (by simp);refine eG.bI (ns:=ns) (fun e1 E=>?_) (fun E=>?_)
    ·have h2:=fA e1 (by simp);rw [E,dG (en:=en) h1];refine (eG.add (M:=0) _).thn (fun c k2 fF r2=>?_) (fun as k2 fF hl=>?_)
     ·injection r2 with r2;injection r2 with r2 r3 r4
      subst r2;subst r3;subst r4;refine (ih (.iq _) (k+2) _ (by omega) ?_ ?_ ?_ (by simp) (by show 13 * (l.length - (k+2))+1+16 < m;omega)).mono (by omega)
      ·simp;omega
      ·exact hw.add (Ids.cons ha (Ids.nil _))
      ·exact Ids.cons ⟨by simp [hd],by simp [hd];omega⟩ (Ids.nil _)
     ·(try dsimp only);rw [iX m _ (by omega)];exact au.give _ (by omega)
    ·rw [E]
     show au (k+1) _ (aK l m (.iq _) ⟨k+1,true,ns ++ [_]⟩)
     rw [iX m _ (by omega)];exact au.give _ (by simp;omega)
   ·rw [if_neg e,if_neg e];by_cases e:tx l k=[91]
    ·rw [if_pos e,if_pos e];have h1:=aP e (by simp);refine (ih .expr (k+1) ns (by omega) (by omega) hw (Ids.nil _) (by simp) (by simp only [Job.rank];omega)).thn (fun b k1 aJ r1=>?_) (fun bs k1 aJ hl=>?_)
     ·have g:=aW r1 (by omega) hw (Ids.nil _) (by simp);have g1:=g.lo;have g2:=g.few;have g3:=g.le;have l1:=g.len;simp only [Job.reads] at g1
      refine eG.need (ns:=aJ) (fun e1 E=>?_) (fun E=>?_)
      ·have h2:=aP e1 (by simp)
       (try dsimp only);rw [E,dG (en:=en) h1]
       refine (eG.add (M:=0) _).thn (fun c k2 fF r2=>?_) (fun as k2 fF hl=>?_)
       ·injection r2 with r2;injection r2 with r2 r3 r4
        subst r2;subst r3;subst r4;refine (ih (.iq _) (k1+1) _ (by omega) ?_ ?_ ?_ (by simp) (by show 13 * (l.length - (k1+1))+1+16 < m;omega)).mono (by omega)
        ·simp;omega
        ·exact g.wf.add (Ids.cons (by omega) (Ids.cons g.hd (Ids.nil _)))
        ·exact Ids.cons ⟨by simp [hd],by simp [hd];omega⟩ (Ids.nil _)
       ·(try dsimp only);rw [iX m _ (by omega)];exact au.give _ (by omega)
      ·(try dsimp only);rw [E]
       show au k1 _ (aK l m (.iq _) ⟨k1,true,aJ ++ [_]⟩)
       rw [iX m _ (by omega)];exact au.give _ (by simp;omega)
     ·(try dsimp only);rw [aO (by simp)]
      show au k1 _ (aK l m (.iq _) ⟨k1,true,aJ ++ [_]⟩)
      rw [iX m _ (by omega)];exact au.give _ (by simp;omega)
    ·rw [if_neg e,if_neg e];exact eG.give _
  | atom =>
   simp only [Job.rank] at hm
   have ad:RS.dR ⟨k,false,ns⟩=⟨k+1,false,ns⟩:=rfl;rw [run,aK,cO,vk,ad];by_cases e:(tg l k).kind=2
   ·rw [if_pos e,if_pos e];have h1:=fA e (by simp);rw [show RS.word l 2 ⟨k,false,ns⟩=(tx l k,⟨k+1,false,ns⟩) from if_pos e,mP hK e,dG (en:=en) h1];exact eG.add _
   rw [if_neg e,if_neg e];by_cases e:tx l k=[116,114,117,101]
   ·rw [if_pos e,if_pos e,dG (en:=en) (aP e (by simp))];exact eG.add _
   rw [if_neg e,if_neg e];by_cases e:tx l k=[102,97,108,115,101]
   ·rw [if_pos e,if_pos e,dG (en:=en) (aP e (by simp))];exact eG.add _
   rw [if_neg e,if_neg e];by_cases e:tx l k=[40]
   ·rw [if_pos e,if_pos e];have h1:=aP e (by simp);refine (ih .expr (k+1) ns (by omega) (by omega) hw (Ids.nil _) (by simp) (by simp only [Job.rank];omega)).thn (fun a k1 aJ r1=>?_) (fun as k1 aJ hl=>?_)
    ·refine eG.need (ns:=aJ) (fun e1 E=>?_) (fun E=>?_)
     ·(try dsimp only);rw [E];exact eG.give _
     ·have g:=aW r1 (by omega) hw (Ids.nil _) (by simp);have g2:=g.few;have g3:=g.le
      (try dsimp only);rw [E];exact au.give _ (by omega)
    ·(try dsimp only);rw [aO (by simp)];exact au.give _ (by omega)
   rw [if_neg e,if_neg e];by_cases e:tx l k=[91]
   ·rw [if_pos e,if_pos e];have h1:=aP e (by simp);refine (ih (.list .expr) (k+1) ns (by omega) (by omega) hw (Ids.nil _) (by simp) (by simp only [Job.rank];omega)).thn (fun a k1 aJ r1=>?_) (fun as k1 aJ hl=>?_)
    ·have g:=aW r1 (by omega) hw (Ids.nil _) (by simp);have g2:=g.few;have g3:=g.le;refine eG.need (ns:=aJ) (fun e1 E=>?_) (fun E=>?_)
     ·(try dsimp only);rw [E,dG (en:=en) h1];exact eG.add _
     ·(try dsimp only);rw [E];exact au.put _ (by omega)
    ·(try dsimp only);rw [aO (by simp)];exact au.put _ (by omega)
   rw [if_neg e,if_neg e];refine eG.bI (ns:=ns) (fun e1 E=>?_) (fun E=>?_)
   ·have h1:=fA e1 (by simp);rw [E]
    try dsimp only
    rw [cO,show RS.dR ⟨k+1,false,ns⟩=⟨k+2,false,ns⟩ from rfl,cO,dG (en:=en) h1];by_cases e2:tx l (k+1)=[40]
    ·have h2:=aP e2 (by simp);rw [if_pos e2,if_pos e2];by_cases e3:tx l (k+2)=[41]
     ·rw [if_pos e3,if_pos e3,show RS.take l [41] ⟨k+2,false,ns⟩=⟨k+3,false,ns⟩ from if_pos e3];exact eG.add _
     ·rw [if_neg e3,if_neg e3];refine (ih (.list .expr) (k+2) ns (by omega) (by omega) hw (Ids.nil _) (by simp) (by simp only [Job.rank];omega)).thn (fun a k1 aJ r1=>?_) (fun as k1 aJ hl=>?_)
      ·have g:=aW r1 (by omega) hw (Ids.nil _) (by simp);have g2:=g.few;have g3:=g.le;refine eG.need (ns:=aJ) (fun e1 E=>?_) (fun E=>?_)
       ·(try dsimp only);rw [E];exact eG.add _
       ·(try dsimp only);rw [E];exact au.put _ (by omega)
      ·(try dsimp only);rw [aO (by simp)];exact au.put _ (by omega)
    ·rw [if_neg e2,if_neg e2];by_cases e3:tx l (k+1)=[123]
     ·have h2:=aP e3 (by simp);rw [if_pos e3,if_pos e3];refine (ih (.list .put) (k+2) ns (by omega) (by omega) hw (Ids.nil _) (by simp) (by simp only [Job.rank];omega)).thn (fun a k1 aJ r1=>?_) (fun as k1 aJ hl=>?_)
      ·have g:=aW r1 (by omega) hw (Ids.nil _) (by simp);have g2:=g.few;have g3:=g.le;refine eG.need (ns:=aJ) (fun e1 E=>?_) (fun E=>?_)
       ·(try dsimp only);rw [E];exact eG.add _
       ·(try dsimp only);rw [E];exact au.put _ (by omega)
      ·(try dsimp only);rw [aO (by simp)];exact au.put _ (by omega)
     ·rw [if_neg e3,if_neg e3];exact eG.add _
   ·rw [E]
    try dsimp only
    rw [fG,if_neg (by simp),if_neg (by simp)];exact au.put _ (by omega)
  | put =>
   simp only [Job.rank] at hm
   rw [run,aK];refine eG.bI (ns:=ns) (fun e1 E=>?_) (fun E=>?_)
   ·have h1:=fA e1 (by simp);rw [E];(try dsimp only);refine eG.need (ns:=ns) (fun e2 E2=>?_) (fun E2=>?_)
    ·have h2:=aP e2 (by simp);rw [E2];refine (ih .expr (k+2) ns (by omega) (by omega) hw (Ids.nil _) (by simp) (by simp only [Job.rank];omega)).thn (fun a k1 aJ r1=>?_) (fun as k1 aJ hl=>?_)
     ·rw [dG (en:=en) h1];exact eG.add _
     ·exact au.put _ (by omega)
    ·rw [E2];exact (bW m (by omega)).gY fun cs uK hl=>au.put _ (by omega)
   ·rw [E];(try dsimp only);rw [aO (by simp)];exact (bW m (by omega)).gY fun cs uK hl=>au.put _ (by omega)
  | param =>
   simp only [Job.rank] at hm
   rw [run,aK];refine eG.bI (ns:=ns) (fun e1 E=>?_) (fun E=>?_)
   ·have h1:=fA e1 (by simp);rw [E];(try dsimp only);refine eG.need (ns:=ns) (fun e2 E2=>?_) (fun E2=>?_)
    ·have h2:=aP e2 (by simp);rw [E2];refine (ih .typ (k+2) ns (by omega) (by omega) hw (Ids.nil _) (by simp) (by simp only [Job.rank];omega)).thn (fun a k1 aJ r1=>?_) (fun as k1 aJ hl=>?_)
     ·rw [dG (en:=en) h1];exact eG.add _
     ·exact au.put _ (by omega)
    ·rw [E2];exact (mI m (by omega)).gY fun cs uK hl=>au.put _ (by omega)
   ·rw [E];(try dsimp only);rw [aO (by simp)];exact (mI m (by omega)).gY fun cs uK hl=>au.put _ (by omega)
  | typ =>
   simp only [Job.rank] at hm
   have ad:RS.dR ⟨k,false,ns⟩=⟨k+1,false,ns⟩:=rfl;rw [run,aK,cO,ad];by_cases e:tx l k=[105,110,116]
   ·rw [if_pos e,if_pos e,dG (en:=en) (aP e (by simp))];exact eG.add _
   rw [if_neg e,if_neg e];by_cases e:tx l k=[98,111,111,108]
   ·rw [if_pos e,if_pos e,dG (en:=en) (aP e (by simp))];exact eG.add _
   rw [if_neg e,if_neg e];by_cases e:tx l k=[91]
   ·rw [if_pos e,if_pos e];have h1:=aP e (by simp);refine (ih .typ (k+1) ns (by omega) (by omega) hw (Ids.nil _) (by simp) (by simp only [Job.rank];omega)).thn (fun a k1 aJ r1=>?_) (fun as k1 aJ hl=>?_)
    ·have g:=aW r1 (by omega) hw (Ids.nil _) (by simp);have g2:=g.few;have g3:=g.le;refine eG.need (ns:=aJ) (fun e1 E=>?_) (fun E=>?_)
     ·(try dsimp only);rw [E]
      refine eG.bI (ns:=aJ) (fun e2 E2=>?_) (fun E2=>?_)
      ·rw [E2];try dsimp only;refine eG.need (ns:=aJ) (fun e3 E3=>?_) (fun E3=>?_)
       ·rw [E3,dG (en:=en) h1,mP hK e2];exact eG.add _
       ·rw [E3];exact au.put _ (by omega)
      ·rw [E2];(try dsimp only);rw [aO (by simp)];exact au.put _ (by omega)
     ·(try dsimp only);rw [E,jA (by simp)];try dsimp only;rw [aO (by simp)];exact au.put _ (by omega)
    ·(try dsimp only);rw [aO (by simp),jA (by simp)];try dsimp only;rw [aO (by simp)];exact au.put _ (by omega)
   rw [if_neg e,if_neg e];refine eG.bI (ns:=ns) (fun e1 E=>?_) (fun E=>?_)
   ·rw [E,dG (en:=en) (fA e1 (by simp))];exact eG.add _
   ·rw [E];exact au.put _ (by omega)
  | list e =>
   simp only [Job.rank] at hm
   rw [run,aK];refine (ih e.job k ns hk hn hw (by cases e <;> exact Ids.nil _) (by cases e <;> simp [El.job]) (by rw [El.u_];omega)).thn (fun a k1 aJ r1=>?_) (fun as k1 aJ hl=>?_)
   ·have g:=aW r1 hk hw (by cases e <;> exact Ids.nil _) (by cases e <;> simp [El.job]);have g1:=g.lo;have g2:=g.few;have g3:=g.le;rw [El.rU] at g1
    exact (ih (.eu e [hd a]) k1 aJ g.le (by omega) g.wf (Ids.cons g.hd (Ids.nil _)) (by intro _ _ h;injection h with _ h;rw [← h];simp) (by simp only [Job.rank];omega)).mono (by omega)
   ·(try dsimp only);rw [sF m e _ (by omega)];exact au.give _ (by omega)
  | eu e acc =>
   simp only [Job.rank,Job.args] at hm hi
   have ad:RS.dR ⟨k,false,ns⟩=⟨k+1,false,ns⟩:=rfl;rw [run,aK,cO,ad];by_cases e2:tx l k=[44]
   ·rw [if_pos e2,if_pos e2];have h1:=aP e2 (by simp);refine (ih e.job (k+1) ns (by omega) (by omega) hw (by cases e <;> exact Ids.nil _) (by cases e <;> simp [El.job]) (by rw [El.u_];omega)).thn (fun a k1 aJ r1=>?_) (fun as k1 aJ hl=>?_)
    ·have g:=aW r1 (by omega) hw (by cases e <;> exact Ids.nil _) (by cases e <;> simp [El.job]);have g1:=g.lo;have g2:=g.few;have g3:=g.le;have l1:=g.len;rw [El.rU] at g1
     exact (ih (.eu e (acc ++ [hd a])) k1 aJ g.le (by omega) g.wf ((hi.mono l1).app (Ids.cons g.hd (Ids.nil _))) (by intro _ _ h;injection h with _ h;rw [← h];simp) (by simp only [Job.rank];omega)).mono (by omega)
    ·(try dsimp only);rw [sF m e _ (by omega)];exact au.give _ (by omega)
   ·rw [if_neg e2,if_neg e2];exact eG.give _
end
end Mist
namespace Mist
section
variable {l:List Tok} {en:Int}
end
section
variable (l:List Tok)
end
section
variable {l:List Tok} {en:Int} {k M:Nat} {ns:List Nd}
theorem mV (h:ns.length < M):au k M (some (rz l ⟨k,true,ns⟩)):=by
 unfold rz;rw [fG,if_neg (by simp),jA (by simp)];exact au.put _ h
theorem vY:rup l ⟨k,true,ns⟩=(0,⟨k,true,ns⟩):=by unfold rup;rw [fG,if_neg (by simp)]
theorem mH (n:Nat)(x:Bs)(at_:Int)(ps:List Int)(hn:20≤n)(h:ns.length+3≤M):au k M (iW l n x at_ ps ⟨k,true,ns⟩):=by
 unfold iW;rw [aO (by simp),aO (by simp)];refine (mI n (by omega)).gY fun t aJ h1=>?_
 rw [vY];(try dsimp only);rw [aO (by simp)];exact (bW n (by omega)).gY fun b fF h2=>au.put _ (by omega)
theorem Cv (hK:∀ t ∈ l,Mist.kind t.text=t.kind)(hM:ns.length < M):eG M (sN l en k ns) (some (rz l ⟨k,false,ns⟩)):=by
 unfold sN rz;rw [cO,show RS.dR ⟨k,false,ns⟩=⟨k+1,false,ns⟩ from rfl];by_cases e:tx l k=[45]
 ·rw [if_pos e,if_pos e];refine eG.bI (ns:=ns) (fun e1 E=>?_) (fun E=>?_)
  ·rw [E,dG (en:=en) (aP e (by simp)),mP hK e1];exact eG.add _
  ·rw [E];exact au.put _ hM
 ·rw [if_neg e,if_neg e];refine eG.bI (ns:=ns) (fun e1 E=>?_) (fun E=>?_)
  ·rw [E,dG (en:=en) (fA e1 (by simp)),mP hK e1];exact eG.add _
  ·rw [E];exact au.put _ hM
section
variable (hK:∀ t ∈ l,Mist.kind t.text=t.kind)
include hK
theorem kG (n:Nat)(j:Job)(hk:k≤l.length)(hn:ns.length≤k)(hw:Wf ns)(hi:Ids j.args ns.length)(hne:∀ e acc,j=.eu e acc→acc ≠ [])(hf:13 * l.length+40 < n):eG (l.length+4 * n) (run l en n j k ns) (aK l n j ⟨k,false,ns⟩):=by
 refine yN hK n j k ns hk hn hw hi hne ?_
 have:j.rank≤12:=by
  cases j with
  | lv v=>cases v <;> decide
  | _=>first | decide | simp [Job.rank]
 omega
theorem qE (n k k3:Nat)(ps:List Int)(t u:Int)(hn:ns.length≤k3)(hk:k3≤l.length)(hw:Wf ns)(hf:13 * l.length+40 < n)(hM:l.length+4 * n+20≤M) :
  eG M (kU l en n k ps t u k3 ns) (gY (aK l n .expr (RS.take l [61] ⟨k3,false,ns⟩)) fun b s2=>some (s2.put ⟨42,tx l (k+1),u,ps ++ [t] ++ [hd b],pl l en k⟩)):=by
 unfold kU;refine eG.need (ns:=ns) (fun e E=>?_) (fun E=>?_)
 ·have h1:=aP e (by simp);rw [E];exact (kG hK n .expr (by omega) (by omega) hw (Ids.nil _) (by simp) hf).thn (fun b k4 MG r=>eG.add _) (fun bs k4 MG hl=>au.put _ (by omega))
 ·rw [E];exact (bW n (by omega)).gY fun b fF hl=>au.put _ (by omega)
theorem qF (n k k1:Nat)(ps:List Int)(hn:ns.length≤k1)(hk:k1≤l.length)(hw:Wf ns)(hf:13 * l.length+40 < n)(hM:l.length+4 * n+20≤M) :
  eG M (mg l en n k ps k1 ns) (iW l n (tx l (k+1)) (pl l en k) ps ⟨k1,false,ns⟩):=by
 unfold mg;refine eG.need (ns:=ns) (fun e E=>?_) (fun E=>?_)
 ·have h1:=aP e (by simp);refine eG.need (ns:=ns) (fun e2 E2=>?_) (fun E2=>?_)
  ·have h2:=aP e2 (by simp);unfold iW;rw [E,E2];refine (kG hK n .typ (by omega) (by omega) hw (Ids.nil _) (by simp) hf).thn (fun t k2 fF r=>?_) (fun ts k2 fF hl=>?_)
   ·have g:=aW r (by omega) hw (Ids.nil _) (by simp);have g2:=g.few;have g3:=g.le
    try dsimp only
    by_cases e3:tx l k2=[117,112,116,111]
    ·have h3:=aP e3 (by simp);rw [if_pos e3];by_cases e4:tx l (k2+1)=[48]
     ·rw [if_pos e4]
      have hu:rup l ⟨k2,false,fF⟩=(j_ [],⟨k2+1,true,fF⟩):=by
       unfold rup;rw [cO,if_pos e3,show RS.dR ⟨k2,false,fF⟩=⟨k2+1,false,fF⟩ from rfl,cO,if_pos e4,show RS.fail ⟨k2+1,false,fF⟩=⟨k2+1,true,fF⟩ from rfl,jA (by simp)]
      rw [hu];refine eG.bad ?_
      (try dsimp only);rw [aO (by simp)]
      exact (bW n (by omega)).gY fun b fF hl=>au.put _ (by omega)
     ·rw [if_neg e4];refine eG.bI (ns:=fF) (fun e5 E5=>?_) (fun E5=>?_)
      ·have hu:rup l ⟨k2,false,fF⟩=(j_ (tx l (k2+1)),⟨k2+2,false,fF⟩):=by
        unfold rup;rw [cO,if_pos e3,show RS.dR ⟨k2,false,fF⟩=⟨k2+1,false,fF⟩ from rfl,cO,if_neg e4,E5]
       rw [hu,mP hK e5];have h5:=fA e5 (by simp);exact qE hK n k (k2+2) ps (hd t) _ (by omega) (by omega) g.wf hf hM
      ·have hu:rup l ⟨k2,false,fF⟩=(j_ [],⟨k2+1,true,fF⟩):=by
        unfold rup;rw [cO,if_pos e3,show RS.dR ⟨k2,false,fF⟩=⟨k2+1,false,fF⟩ from rfl,cO,if_neg e4,E5]
       rw [hu]
       (try dsimp only);rw [aO (by simp)]
       exact (bW n (by omega)).gY fun b fF hl=>au.put _ (by omega)
    ·rw [if_neg e3]
     have hu:rup l ⟨k2,false,fF⟩=(0,⟨k2,false,fF⟩):=by
      unfold rup;rw [cO,if_neg e3]
     rw [hu];exact qE hK n k k2 ps (hd t) 0 (by omega) g3 g.wf hf hM
   ·try dsimp only
    rw [vY];(try dsimp only);rw [aO (by simp)];exact (bW n (by omega)).gY fun b fF hl=>au.put _ (by omega)
  ·unfold iW;rw [E,E2];refine (mI n (by omega)).gY fun t aJ h1=>?_
   rw [vY];(try dsimp only);rw [aO (by simp)];exact (bW n (by omega)).gY fun b fF h2=>au.put _ (by omega)
 ·unfold iW;rw [E,aO (by simp)];refine (mI n (by omega)).gY fun t aJ h1=>?_
  rw [vY];(try dsimp only);rw [aO (by simp)];exact (bW n (by omega)).gY fun b fF h2=>au.put _ (by omega)
theorem Ie (n:Nat)(hk:k≤l.length)(hn:ns.length≤k)(hw:Wf ns)(hf:13 * l.length+40 < n)(hM:l.length+4 * n+30≤M):eG M (item l en n k ns) (C9 l n ⟨k,false,ns⟩):=by
 unfold item C9;rw [vk,cO];by_cases e:(tg l k).kind=3
 case neg=>rw [if_neg e,if_neg e];exact eG.bad (au.give _ (show ns.length≤M by omega))
 rw [if_pos e,if_pos e];have h1:=fA e (by simp);rw [show RS.dR ⟨k,false,ns⟩=⟨k+1,false,ns⟩ from rfl,dG (en:=en) h1]
 have bt:∀ (at_:Int) (x:Bs) (it:It),it ≠ .ask→∀ k' ns',ns'.length≤k→au k' M (d9 l n at_ x it ⟨k',true,ns'⟩):=by
  intro at_ x it hit k' ns' hl
  cases it with
  | choose =>
   unfold d9;dsimp only;rw [aO (by simp)];refine (mV (M:=ns'.length+1) (by omega)).gY fun a aJ h1=>?_
   rw [aO (by simp)];refine (mV (M:=ns'.length+2) (by omega)).gY fun b fF h2=>au.put _ (by omega)
  | record =>
   unfold d9;dsimp only;rw [aO (by simp),aO (by simp)];refine (kY n .param (by omega)).gY fun as aJ h1=>?_
   rw [aO (by simp)];exact au.put _ (by omega)
  | zu =>
   unfold d9;dsimp only;rw [aO (by simp),fG,if_neg (by simp)];exact (kY n .param (by omega)).gY fun as aJ h1=>mH n x at_ as (by omega) (by omega)
  | yB =>
   unfold d9;dsimp only;rw [aO (by simp)];exact (bW n (by omega)).gY fun b fF h2=>au.put _ (by omega)
  | observe =>
   unfold d9;dsimp only;rw [aO (by simp)];exact (bW n (by omega)).gY fun b fF h2=>au.put _ (by omega)
  | kW=>exact au.put _ (by omega)
  | ask=>exact absurd rfl hit
 cases hi:Hr (tx l k) with
 | none=>exact eG.bad (au.give _ (show ns.length≤M by omega))
 | some it =>
  cases it with
  | choose =>
   unfold gI
   try dsimp only
   refine eG.bI (ns:=ns) (fun e1 E1=>?_) (fun E1=>?_)
   ·rw [E1];(try dsimp only);unfold d9;dsimp only;refine eG.need (ns:=ns) (fun e2 E2=>?_) (fun E2=>?_)
    ·have h2:=aP e2 (by simp);rw [E2];refine (Cv hK (M:=M - 3) (by omega)).thn (fun a k1 aJ r=>?_) (fun as k1 aJ hl=>?_)
     ·have g:=((xY (en:=en) (by omega) hw).2 _ r).1 _ _ _ rfl;have g2:=g.few;have g3:=g.le;refine eG.need (ns:=aJ) (fun e3 E3=>?_) (fun E3=>?_)
      ·have h3:=aP e3 (by simp)
       (try dsimp only);rw [E3]
       refine (Cv hK (M:=M - 1) (by omega)).thn (fun b k2 fF r2=>eG.add _) (fun bs k2 fF hl=>au.put _ (by omega))
      ·(try dsimp only);rw [E3]
       exact (mV (M:=M - 1) (by omega)).gY fun b fF h2=>au.put _ (by omega)
     ·(try dsimp only);rw [aO (by simp)]
      exact (mV (M:=M - 2) (by omega)).gY fun b fF h2=>au.put _ (by omega)
    ·rw [E2];refine (mV (M:=ns.length+1) (by omega)).gY fun a aJ h1=>?_
     rw [aO (by simp)];refine (mV (M:=ns.length+2) (by omega)).gY fun b fF h2=>au.put _ (by omega)
   ·rw [E1];exact bt _ _ .choose (by simp) _ _ hn
  | record =>
   unfold gI
   try dsimp only
   refine eG.bI (ns:=ns) (fun e1 E1=>?_) (fun E1=>?_)
   ·rw [E1];(try dsimp only);unfold d9;dsimp only;refine eG.need (ns:=ns) (fun e2 E2=>?_) (fun E2=>?_)
    ·refine eG.need (ns:=ns) (fun e3 E3=>?_) (fun E3=>?_)
     ·have h3:=aP e3 (by simp);rw [E2,E3];refine (kG hK n (.list .param) (by omega) (by omega) hw (Ids.nil _) (by simp) hf).thn (fun as k1 aJ r=>?_) (fun as k1 aJ hl=>?_)
      ·have g:=aW r (by omega) hw (Ids.nil _) (by simp);have g2:=g.few;have g3:=g.le;refine eG.need (ns:=aJ) (fun e4 E4=>?_) (fun E4=>?_)
       ·(try dsimp only);rw [E4];exact eG.add _
       ·(try dsimp only);rw [E4];exact au.put _ (by omega)
      ·(try dsimp only);rw [aO (by simp)];exact au.put _ (by omega)
     ·rw [E2,E3];refine (kY n .param (by omega)).gY fun as aJ h1=>?_
      rw [aO (by simp)];exact au.put _ (by omega)
    ·rw [E2,aO (by simp)];refine (kY n .param (by omega)).gY fun as aJ h1=>?_
     rw [aO (by simp)];exact au.put _ (by omega)
   ·rw [E1];exact bt _ _ .record (by simp) _ _ hn
  | zu =>
   unfold gI
   try dsimp only
   refine eG.bI (ns:=ns) (fun e1 E1=>?_) (fun E1=>?_)
   ·rw [E1];(try dsimp only);unfold d9;dsimp only;refine eG.need (ns:=ns) (fun e2 E2=>?_) (fun E2=>?_)
    ·have h2:=aP e2 (by simp);rw [E2,cO];by_cases e3:tx l (k+3)=[41]
     ·rw [if_pos e3,if_pos e3];exact qF hK n k (k+3) [] (by omega) (by omega) hw hf (by omega)
     ·rw [if_neg e3,if_neg e3];refine (kG hK n (.list .param) (by omega) (by omega) hw (Ids.nil _) (by simp) hf).thn (fun as k1 aJ r=>?_) (fun as k1 aJ hl=>?_)
      ·have g:=aW r (by omega) hw (Ids.nil _) (by simp);have g2:=g.few;have g3:=g.le;exact qF hK n k k1 as (by omega) g3 g.wf hf (by omega)
      ·exact mH n _ _ as (by omega) (by omega)
    ·rw [E2,fG,if_neg (by simp)];exact (kY n .param (by omega)).gY fun as aJ h1=>mH n _ _ as (by omega) (by omega)
   ·rw [E1];exact bt _ _ .zu (by simp) _ _ hn
  | yB =>
   unfold gI
   try dsimp only
   refine eG.bI (ns:=ns) (fun e1 E1=>?_) (fun E1=>?_)
   ·rw [E1];(try dsimp only);unfold d9;dsimp only;refine eG.need (ns:=ns) (fun e2 E2=>?_) (fun E2=>?_)
    ·have h2:=aP e2 (by simp);rw [E2];exact (kG hK n .expr (by omega) (by omega) hw (Ids.nil _) (by simp) hf).thn (fun as k1 aJ r=>eG.add _) (fun as k1 aJ hl=>au.put _ (by omega))
    ·rw [E2];exact (bW n (by omega)).gY fun b fF h2=>au.put _ (by omega)
   ·rw [E1];exact bt _ _ .yB (by simp) _ _ hn
  | observe =>
   unfold gI
   try dsimp only
   refine eG.bI (ns:=ns) (fun e1 E1=>?_) (fun E1=>?_)
   ·rw [E1];(try dsimp only);unfold d9;dsimp only;refine eG.need (ns:=ns) (fun e2 E2=>?_) (fun E2=>?_)
    ·have h2:=aP e2 (by simp);rw [E2];exact (kG hK n .expr (by omega) (by omega) hw (Ids.nil _) (by simp) hf).thn (fun as k1 aJ r=>eG.add _) (fun as k1 aJ hl=>au.put _ (by omega))
    ·rw [E2];exact (bW n (by omega)).gY fun b fF h2=>au.put _ (by omega)
   ·rw [E1];exact bt _ _ .observe (by simp) _ _ hn
  | kW =>
   unfold gI
   try dsimp only
   refine eG.bI (ns:=ns) (fun e1 E1=>?_) (fun E1=>?_)
   ·rw [E1];exact eG.add _
   ·rw [E1];exact bt _ _ .kW (by simp) _ _ hn
  | ask =>
   show eG M (wT l en n k ns) (JF l n (pl l en k) ⟨k+1,false,ns⟩)
   unfold wT JF;rw [cO,show RS.dR ⟨k+1,false,ns⟩=⟨k+2,false,ns⟩ from rfl,show RS.fail ⟨k+1,false,ns⟩=⟨k+1,true,ns⟩ from rfl];by_cases q0:gy (tx l (k+1))=0
   ·rw [if_pos q0,if_pos q0];exact eG.bad (au.give _ (by omega))
   have h2:=Aw q0;rw [if_neg q0,if_neg q0];by_cases q7:gy (tx l (k+1))=7
   ·rw [if_pos q7,if_pos q7];exact eG.add _
   rw [if_neg q7,if_neg q7];by_cases q8:gy (tx l (k+1))=8
   ·rw [if_pos q8,if_pos q8];exact (kG hK n (.list .expr) (by omega) (by omega) hw (Ids.nil _) (by simp) hf).thn (fun as k1 aJ r=>eG.add _) (fun as k1 aJ hl=>au.put _ (by omega))
   rw [if_neg q8,if_neg q8];exact (kG hK n .expr (by omega) (by omega) hw (Ids.nil _) (by simp) hf).thn (fun as k1 aJ r=>eG.add _) (fun as k1 aJ hl=>au.put _ (by omega))
theorem yC (n:Nat)(hf:13 * l.length+40 < n)(hM:l.length+4 * n+30≤M):∀ (m k:Nat) (ns:List Nd) (its:List Int),k≤l.length→ns.length≤k→Wf ns→l.length < k+m→eG M (prog l en n m k ns its) (nM l n m ⟨k,false,ns⟩ its)
 | 0,_,_,_,h1,_,_,h2=>by omega
 | m+1,k,ns,its,hk,hn,hw,hm=>by
  rw [prog,nM];by_cases hlt:k < l.length
  case neg =>
   rw [if_neg hlt,if_neg (by simpa using hlt)];exact eG.give _
  rw [if_pos hlt,if_pos ⟨rfl,hlt⟩]
  have hb:∀ (its:List Int) k' ns',ns'.length≤M→au k' M (nM l n m ⟨k',true,ns'⟩ its):=by
   intro its k' ns' hl;obtain⟨m,rfl⟩:∃ m',m=m'+1:=⟨m - 1,by omega⟩;rw [nM,if_neg (by simp)];exact au.give _ hl
  refine (Ie hK n hk hn hw hf hM).thn (fun a k1 aJ r=>?_) (fun as k1 aJ hl=>?_)
  ·have g:=u6 hk hw r;have g1:=g.lo;have g2:=g.few;have g3:=g.le;refine eG.need (ns:=aJ) (fun e E=>?_) (fun E=>?_)
   ·have h1:=aP e (by simp)
    (try dsimp only);rw [E]
    exact yC n hf hM m (k1+1) aJ _ (by omega) (by omega) g.wf (by omega)
   ·(try dsimp only);rw [E];exact hb _ _ _ (by omega)
  ·(try dsimp only);rw [aO (by simp)];exact hb _ _ _ hl
end
theorem vF (n:Nat)(hf:13 * l.length+40 < n):∀ (m k:Nat) (ns:List Nd) (its:List Int),k≤l.length→Wf ns→l.length < k+m→Ids its ns.length →
  ∃ r,prog l en n m k ns its=some r∧(∀ lV k' ns',r=.ok lV k' ns'→k'=l.length∧ns'.length+k≤ns.length+l.length∧(∃ t,ns'=ns ++ t)∧Wf ns'∧Ids lV ns'.length∧lV.length+k≤its.length+l.length)∧∀ k',r=.bad k'→k'≤l.length
 | 0,_,_,_,h1,_,h2,_=>by omega
 | m+1,k,ns,its,hk,hw,hm,hi=>by
  rw [prog];by_cases hlt:k < l.length
  case neg =>
   rw [if_neg hlt]
   refine⟨_,rfl,fun lV k' ns' e=>?_,fun k' e=>by cases e⟩
   injection e with e1 e2 e3
   subst e1;subst e2;subst e3;exact⟨by omega,by omega,bQ _,hw,hi,by omega⟩
  rw [if_pos hlt];obtain⟨x,hx⟩:=(uW (l:=l) (en:=en) (n:=n) hk hw).1 (by omega);rw [hx]
  cases x with
  | bad k1 =>
   refine⟨_,rfl,fun _ _ _ e=>(by cases e),fun k' e=>?_⟩
   injection e with e
   subst e;exact ((uW (l:=l) (en:=en) (n:=n) hk hw).2 _ hx).2 _ rfl
  | ok a k1 aJ =>
   have g:=u6 hk hw hx;have g1:=g.lo;have g2:=g.few;have g3:=g.le;have g4:=g.len
   show ∃ r,need l [59] k1 _=some r∧_
   unfold need;by_cases e:tx l k1=[59]
   ·rw [if_pos e];have h1:=aP e (by simp);obtain⟨r,h,p,q⟩:=vF n hf m (k1+1) aJ (its ++ [hd a]) (by omega) g.wf (by omega) ((hi.mono g4).app (Ids.cons g.hd (Ids.nil _)))
    refine⟨r,h,fun lV k' ns' e=>?_,q⟩
    obtain⟨p1,p2,p3,p4,p5,p6⟩:=p lV k' ns' e;rw [aaO,aaT] at p6
    exact⟨p1,by omega,dK g.more p3,p4,p5,by omega⟩
   ·rw [if_neg e];exact⟨_,rfl,fun _ _ _ e=>(by cases e),fun k' e=>by injection e with e;subst e;exact g3⟩
end
end Mist
namespace Mist
structure To (l:List Tok) (s t:RS):Prop where
 k:s.k≤t.k
 few:s.ns.length≤t.ns.length
 le:s.k≤l.length→t.k≤l.length
section
variable {l:List Tok} {s t u:RS}
theorem To.refl:To l s s:=⟨aaJ _,aaJ _,id⟩
theorem To.trans (h:To l s t)(h2:To l t u):To l s u:=⟨Nat.le_trans h.k h2.k,Nat.le_trans h.few h2.few,fun x=>h2.le (h.le x)⟩
theorem dF (h:s.next l ≠ []):s.bad=false∧s.k < l.length:=by
 unfold RS.next at h
 cases hb:s.bad
 ·rw [hb] at h
  refine⟨rfl,?_⟩
  rcases Nat.lt_or_ge s.k l.length with h1 | h1
  ·exact h1
  ·exfalso;apply h;unfold tx;rw [nS l s.k h1];rfl
 ·rw [hb] at h;exact absurd rfl h
theorem Da (h:s.kind l ≠ 0):s.bad=false∧s.k < l.length:=by
 unfold RS.kind at h
 cases hb:s.bad
 ·rw [hb] at h
  refine⟨rfl,?_⟩
  rcases Nat.lt_or_ge s.k l.length with h1 | h1
  ·exact h1
  ·exfalso;apply h;rw [nS l s.k h1];rfl
 ·rw [hb] at h;exact absurd rfl h
theorem To.adv1 (h:s.k < l.length):To l s s.dR:=⟨Nat.le_succ _,aaJ _,fun _=>h⟩
theorem To.dR (h:To l s t){x:Bs}(hx:t.next l=x)(h0:x ≠ []):To l s t.dR:=h.trans (To.adv1 (dF (hx ▸ h0)).2)
theorem To.fail (h:To l s t):To l s t.fail:=⟨h.k,h.few,h.le⟩
theorem To.put (h:To l s t)(n:Nd):To l s (t.put n).2:=⟨h.k,by have:=h.few;show _≤(t.ns ++ [n]).length;simp;omega,h.le⟩
theorem To.take (h:To l s t){x:Bs}(h0:x ≠ []):To l s (t.take l x):=by
 unfold RS.take;split
 ·rename_i e;exact h.dR e h0
 ·exact h.fail
theorem To.word (h:To l s t){c:Nat}(h0:c ≠ 0):To l s (t.word l c).2:=by
 unfold RS.word;split
 ·rename_i e;exact h.trans (To.adv1 (Da (by rw [e];exact h0)).2)
 ·exact h.fail
theorem aF {q:Option (List Int × RS)}{f:List Int→RS→Option (List Int × RS)}{r:List Int × RS}(h:gY q f=some r):∃ a t,q=some (a,t)∧f a t=some r:=by
 cases q with
 | none=>cases h
 | some x=>obtain⟨a,t⟩:=x;exact⟨a,t,rfl,h⟩
theorem bn {n:Nd}{qs:List Int}(h:some (RS.put n t)=some (qs,u)):qs=[(t.ns.length:Int)]∧u=(t.put n).2:=by
 injection h with h
 exact⟨(congrArg Prod.fst h).symm,(congrArg Prod.snd h).symm⟩
theorem dY {a qs:List Int}(h:some (a,t)=some (qs,u)):qs=a∧u=t:=by
 injection h with h
 exact⟨(congrArg Prod.fst h).symm,(congrArg Prod.snd h).symm⟩
end
theorem opOf_ne {v:Lv}{x:Bs}(h:¬ fB v x=0):x ≠ []:=fun e=>h (by rw [e];exact Ii v)
theorem bG {l:List Tok}:∀ (n:Nat) (j:Job) (s s':RS) (qs:List Int),aK l n j s=some (qs,s')→To l s s'
 | 0,_,_,_,_,h=>by cases h
 | n+1,.expr,s,s',qs,h=>by
  rw [aK] at h
  split at h
  ·rename_i e
   obtain⟨a1,t1,e1,h⟩:=aF h;obtain⟨a2,t2,e2,h⟩:=aF h;obtain⟨a3,t3,e3,h⟩:=aF h;obtain⟨rfl,rfl⟩:=bn h;have i1:=(To.refl.dR e (by simp)).trans (bG n _ _ _ _ e1);have i2:=(i1.take (by simp)).trans (bG n _ _ _ _ e2);exact ((i2.take (by simp)).trans (bG n _ _ _ _ e3)).put _
  ·split at h
   ·rename_i e
    obtain⟨a1,t1,e1,h⟩:=aF h;obtain⟨a2,t2,e2,h⟩:=aF h;obtain⟨rfl,rfl⟩:=bn h;have i1:=(((To.refl.dR e (by simp)).word (c:=1) (by simp)).take (by simp)).trans (bG n _ _ _ _ e1);exact ((i1.take (by simp)).trans (bG n _ _ _ _ e2)).put _
   ·exact bG n _ _ _ _ h
 | n+1,.lv v,s,s',qs,h=>by
  have key:∀ v:Lv,gY (aK l n (.lv v.below) s) (fun a s1=>aK l n (.tail v (hd a)) s1)=some (qs,s')→To l s s':=by
   intro v h;obtain⟨a1,t1,e1,h⟩:=aF h;exact (bG n _ _ _ _ e1).trans (bG n _ _ _ _ h)
  cases v with
  | not =>
   rw [aK] at h
   split at h
   ·rename_i e
    obtain⟨a1,t1,e1,h⟩:=aF h;obtain⟨rfl,rfl⟩:=bn h;exact ((To.refl.dR e (by simp)).trans (bG n _ _ _ _ e1)).put _
   ·exact bG n _ _ _ _ h
  | unary =>
   rw [aK] at h
   split at h
   ·rename_i e
    obtain⟨a1,t1,e1,h⟩:=aF h;obtain⟨rfl,rfl⟩:=bn h;exact ((To.refl.dR e (by simp)).trans (bG n _ _ _ _ e1)).put _
   ·exact bG n _ _ _ _ h
  | or=>rw [aK] at h;exact key .or h;all_goals simp
  | and=>rw [aK] at h;exact key .and h;all_goals simp
  | cmp=>rw [aK] at h;exact key .cmp h;all_goals simp
  | sum=>rw [aK] at h;exact key .sum h;all_goals simp
  | term=>rw [aK] at h;exact key .term h;all_goals simp
 | n+1,.tail v a,s,s',qs,h=>by
  rw [aK] at h
  split at h
  ·obtain⟨rfl,rfl⟩:=dY h;exact To.refl
  ·rename_i e
   obtain⟨a1,t1,e1,h⟩:=aF h;obtain⟨a2,t2,e2,h⟩:=aF h;obtain⟨rfl,rfl⟩:=bn e2;have i1:=((To.refl.dR rfl (opOf_ne e)).trans (bG n _ _ _ _ e1)).put ⟨fB v (s.next l),[],0,[a,hd a1],s.place l⟩;split at h
   ·obtain⟨rfl,rfl⟩:=dY h;exact i1
   ·exact i1.trans (bG n _ _ _ _ h)
 | n+1,.post,s,s',qs,h=>by
  rw [aK] at h
  obtain⟨a1,t1,e1,h⟩:=aF h;exact (bG n _ _ _ _ e1).trans (bG n _ _ _ _ h)
 | n+1,.iq a,s,s',qs,h=>by
  rw [aK] at h
  split at h
  ·rename_i e
   obtain⟨a1,t1,e1,h⟩:=aF h;obtain⟨rfl,rfl⟩:=bn e1;exact (((To.refl.dR e (by simp)).word (c:=1) (by simp)).put _).trans (bG n _ _ _ _ h)
  ·split at h
   ·rename_i e
    obtain⟨a1,t1,e1,h⟩:=aF h;obtain⟨a2,t2,e2,h⟩:=aF h;obtain⟨rfl,rfl⟩:=bn e2;exact (((((To.refl.dR e (by simp)).trans (bG n _ _ _ _ e1)).take (by simp))).put _).trans (bG n _ _ _ _ h)
   ·obtain⟨rfl,rfl⟩:=dY h;exact To.refl
 | n+1,.atom,s,s',qs,h=>by
  rw [aK] at h
  have hw:To l s (s.word l 1).2:=To.refl.word (by simp);split at h
  ·obtain⟨rfl,rfl⟩:=bn h;exact (To.refl.word (by simp)).put _
  split at h
  ·rename_i e;obtain⟨rfl,rfl⟩:=bn h;exact (To.refl.dR e (by simp)).put _
  split at h
  ·rename_i e;obtain⟨rfl,rfl⟩:=bn h;exact (To.refl.dR e (by simp)).put _
  split at h
  ·rename_i e
   obtain⟨a1,t1,e1,h⟩:=aF h;obtain⟨rfl,rfl⟩:=dY h;exact ((To.refl.dR e (by simp)).trans (bG n _ _ _ _ e1)).take (by simp)
  split at h
  ·rename_i e
   obtain⟨a1,t1,e1,h⟩:=aF h;obtain⟨rfl,rfl⟩:=bn h;exact (((To.refl.dR e (by simp)).trans (bG n _ _ _ _ e1)).take (by simp)).put _
  split at h
  ·rename_i e
   have ha:=hw.dR e (by simp);split at h
   ·obtain⟨rfl,rfl⟩:=bn h;exact (ha.take (by simp)).put _
   ·obtain⟨a1,t1,e1,h⟩:=aF h;obtain⟨rfl,rfl⟩:=bn h;exact ((ha.trans (bG n _ _ _ _ e1)).take (by simp)).put _
  split at h
  ·rename_i e
   obtain⟨a1,t1,e1,h⟩:=aF h;obtain⟨rfl,rfl⟩:=bn h;exact (((hw.dR e (by simp)).trans (bG n _ _ _ _ e1)).take (by simp)).put _
  ·obtain⟨rfl,rfl⟩:=bn h;exact hw.put _
 | n+1,.put,s,s',qs,h=>by
  rw [aK] at h
  obtain⟨a1,t1,e1,h⟩:=aF h;obtain⟨rfl,rfl⟩:=bn h;exact (((To.refl.word (by simp)).take (by simp)).trans (bG n _ _ _ _ e1)).put _
 | n+1,.param,s,s',qs,h=>by
  rw [aK] at h
  obtain⟨a1,t1,e1,h⟩:=aF h;obtain⟨rfl,rfl⟩:=bn h;exact (((To.refl.word (by simp)).take (by simp)).trans (bG n _ _ _ _ e1)).put _
 | n+1,.typ,s,s',qs,h=>by
  rw [aK] at h
  split at h
  ·rename_i e;obtain⟨rfl,rfl⟩:=bn h;exact (To.refl.dR e (by simp)).put _
  split at h
  ·rename_i e;obtain⟨rfl,rfl⟩:=bn h;exact (To.refl.dR e (by simp)).put _
  split at h
  ·rename_i e
   obtain⟨a1,t1,e1,h⟩:=aF h;obtain⟨rfl,rfl⟩:=bn h;exact (((((To.refl.dR e (by simp)).trans (bG n _ _ _ _ e1)).take (by simp)).word (by simp)).take (by simp)).put _
  ·obtain⟨rfl,rfl⟩:=bn h;exact (To.refl.word (by simp)).put _
 | n+1,.list e,s,s',qs,h=>by
  rw [aK] at h
  obtain⟨a1,t1,e1,h⟩:=aF h;exact (bG n _ _ _ _ e1).trans (bG n _ _ _ _ h)
 | n+1,.eu e acc,s,s',qs,h=>by
  rw [aK] at h
  split at h
  ·rename_i e0
   obtain⟨a1,t1,e1,h⟩:=aF h;exact ((To.refl.dR e0 (by simp)).trans (bG n _ _ _ _ e1)).trans (bG n _ _ _ _ h)
  ·obtain⟨rfl,rfl⟩:=dY h;exact To.refl
theorem UA {l:List Tok}(s:RS):To l s (rz l s).2:=by
 unfold rz;split
 ·rename_i e;exact ((To.refl.dR e (by simp)).word (by simp)).put _
 ·exact (To.refl.word (by simp)).put _
end Mist
