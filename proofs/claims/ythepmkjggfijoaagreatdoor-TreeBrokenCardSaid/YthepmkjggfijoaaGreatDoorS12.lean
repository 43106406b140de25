/-
  A part of the proof.
-/
import Derived.Test.YthepmkjggfijoaaGreatDoorSA
import Derived.Test.YthepmkjggfijoaaGreatDoorS08
set_option linter.all false
set_option maxRecDepth 100000
set_option maxHeartbeats 4000000
namespace Go.Proofs.YthepmkjggfijoaaGreatDoor
open Go.RowKit Mist
attribute [local go_sem] aj aH aS aB ak
section
variable {g:Nat} {tv:Value} {l:List Tok} {en:Int} {iv:Value} (hF:PF l)
include hF
theorem aan (m:Nat)(C:∀ f,f≤m→IC g tv l en iv f El.put.job):LC g tv l en iv (m+1) .put:=by
 intro w k xs nv r h hk hn hw hr;have HC:=O C;clear C;have H:=O h;clear h;have HW:=O hw;clear hw;have HR:=O (show thn (run l en m El.put.job k (aA xs)) (fun a y G=>run l en m (.eu .put [hd a]) y G)=some r by rw [run] at hr;exact hr);clear hr;have hlen:=hF.len;obtain⟨i0,hi0,hz0,hz1,hz2⟩:=info_parts gN;unfold elFn;go_enter Tryz.func205,Tryz.ntmps205
 go_wp2_with fail;rcases d:run l en m El.put.job k (aA xs) with _ | x
 ·have:=HR.o;rw [d] at this;cases this
 have E:=O d;clear d;have I:=O (show thn (some x) (fun a y G=>run l en m (.eu .put [hd a]) y G)=some r by have:=HR.o;rwa [E.o] at this);clear HR
 cases x with
 | bad kb =>
  obtain rfl:j6.bad kb=r:=aaP I.o;refine (HC.o m (aaJ _) _ k xs nv _ H.o hk hn HW.o E.o).mono ?_;rintro e w1⟨rfl,hb⟩;unfold aI;go_wp2_with fail;exact⟨rfl,tQ.bad rfl hb⟩
 | ok ks y G =>
  have A:=O (aW E.o hk HW.o (Ids.nil _) (by simp [El.job]));refine (HC.o m (aaJ _) _ k xs nv _ H.o hk hn HW.o E.o).mono ?_;rintro e w1⟨rfl,ext,gW,ha⟩;have j:=O ha;clear ha;have J:=O (show run l en m (.eu .put [hd ks]) y (aA (xs ++ ext))=some r by rw [j.o.ns];exact I.o);clear I E;have Z:=A.o.le;have V:=A.o.few;have W:=A.o.lo;simp only [Job.reads,El.job] at W
  rw [aD] at V
  have hl1:=j.o.len;have Q:=O (show Wf (aA (xs ++ ext)) by rw [j.o.ns];exact A.o.wf);have qP:=O (show Ids [hd ks] (xs ++ ext).length by rw [hl1];exact Ids.cons A.o.hd (Ids.nil _));have U:(xs ++ ext).length≤y:=by omega
  have hsz:=j.o.mv.size;have B:=O (show (w1.alloc (.cells #[.int .i64 (hd ks)] 3)).ownsRow w.heap.size 3 1 (.slice (some ⟨w1.heap.size,0,none⟩) 1 1) 1 (intCells [hd ks]) from World.ownsRow_lit w1 _ 1 hsz (by simp [maxLen]) rfl);have R:=O (show ∀ x ∈ ext,x.2.ownBlock=none∨x.2.ownBlock ≠ (Value.slice (some ⟨w1.heap.size,0,none⟩) 1 1).ownBlock from fun x d=>j.o.ps.Mx d (aaJ _));have F:=O (j.o.alloc (.cells #[.int .i64 (hd ks)] 3));have Y:1≤y:=by omega
  clear hl1 V A j W;obtain⟨av,EF⟩:∃ av,av=hd ks:=⟨_,rfl⟩;rw [← EF] at J qP B F ⊢
  clear EF;have rC:=O F.o.ns;go_wp2_with fail
  go_loopw [5] (fun v wr=>∃ (f t:Nat) (ext:List NV) (eO:Value) (c:List Int) (q:Nat),f≤m∧t≤l.length∧(xs ++ ext).length≤t∧q≤t∧Hid (c.length=q)∧0 < q∧Hid (run l en f (.eu .put c) t (aA (xs ++ ext))=some r)∧Hid (Wf (aA (xs ++ ext)))∧Hid (Ids c (xs ++ ext).length) ∧
    Hid (At g tv l en iv w xs nv t (aA (xs ++ ext)) wr ext eO)∧wr.ownsRow w.heap.size 3 1 v q (intCells c)∧Hid (∀ x ∈ ext,x.2.ownBlock=none∨x.2.ownBlock ≠ v.ownBlock)) (fun _ wr=>nG g l.length wr)
  case atStart=>exact⟨m,y,ext,gW,[av],1,aaJ _,Z,U,Y,O rfl,by omega,J,Q,qP,by rw [rC.o];exact F,B.o,R⟩
  case round =>
   clear F B R J Q qP U Z rC Y;obtain⟨f,t,ext,eO,c,q,hfm,X,hn',hq',HQ,hq0,nH,Q,qP,j,D,R⟩:=hrel
   obtain⟨f,rfl⟩:∃ f0,f=f0+1:=⟨f - 1,by
    rcases Nat.eq_zero_or_pos f with h | h
    ·subst h;have:=nH.o;rw [run] at this;cases this
    ·omega⟩
   have Lp:=O (j.o.ps.nG (n:=l.length));obtain⟨A5,c5,rfl⟩:=dh D;have B:=O D;clear D;by_cases P:tx l t=[44]
   case neg =>
    have HST:=O (show r=.ok c t (aA (xs ++ ext)) by have:=nH.o;rw [run,if_neg P] at this;exact (aaP this).symm);go_wp2_with fail;refine (kN g tv l en iv hF [44] (.inr (by decide +kernel)) _ t _ eO j.o.ps X P).mono ?_;rintro e w2⟨rfl,K⟩;have i:=O (j.o.below K);have Ew:=O (own_below B.o K);clear K;go_wp2_with fail;go_ret;rw [HST.o];exact tQ.ok rfl (by rw [HQ.o];exact Ew.o) i.o R.o
   case pos =>
    have hkl:=aP P (by simp);have xE:=O (show thn (run l en f El.put.job (t+1) (aA (xs ++ ext))) (fun a y G=>run l en f (.eu .put (c ++ [hd a])) y G)=some r by have:=nH.o;rw [run,if_pos P] at this;exact this);go_wp2_with fail;refine (jg g tv l en iv hF [44] (.inr (by decide +kernel)) _ t _ eO j.o.ps X P).mono ?_;rintro e w2⟨rfl,p2,m2⟩;have i:=O (j.o.step p2 m2);have Ew:=O (j.o.ps.iI m2 B.o (by decide) (by decide));clear p2 m2;clear P nH;go_wp2_with fail;rcases d:run l en f El.put.job (t+1) (aA (xs ++ ext)) with _ | x
    ·have:=xE.o;rw [d] at this;cases this
    have E:=O d;clear d;have S:=O (show thn (some x) (fun a y G=>run l en f (.eu .put (c ++ [hd a])) y G)=some r by have:=xE.o;rw [E.o] at this;exact this);clear xE
    cases x with
    | bad kb =>
     obtain rfl:j6.bad kb=r:=aaP S.o;have xA:=O (H.o.low i.o.mv);refine (HC.o f (by omega) _ (t+1) (xs ++ ext) eO _ i.o.ps (by omega) (by omega) Q.o E.o).mono ?_;rintro e w4⟨rfl,hb4⟩;unfold aI;go_wp2_with fail;exact⟨rfl,tQ.bad rfl (xA.o.trans hb4)⟩
    | ok kb y G =>
     have A:=O (aW E.o (by omega) Q.o (Ids.nil _) (by simp [El.job]));refine (HC.o f (by omega) _ (t+1) (xs ++ ext) eO _ i.o.ps (by omega) (by omega) Q.o E.o).mono ?_;rintro e w4⟨rfl,j5,yH,vM⟩;have fq:=O vM;clear vM;have T:=O (i.o.ps.iI fq.o.mv Ew.o (by decide) (by decide));have N:=O (i.o.trans fq.o);have hsz4:=N.o.mv.size
     have E8:=O (show ∀ x ∈ ext ++ j5,x.2.ownBlock=none∨x.2.ownBlock ≠ (Value.slice A5 q c5).ownBlock from fun x d=>by
      rcases List.mem_append.1 d with d | d
      ·exact R.o x d
      ·exact Cg fq.o.fresh d (fun b hb=>(Ew.o.lt b hb).2))
     have g1:=A.o.lo;have g2:=A.o.few;have g3:=A.o.le;have g4:=N.o.len;have g5:=A.o.len;simp only [aD] at g2 g5
     simp only [Job.reads,El.job] at g1
     have hqm:q+1≤100000:=by omega
     have Jf:=O g4;clear g4
     go_wp2_with (at_builtin
                  refine wpList_append_lies _ rfl (.tmp 12) (.tmp 16) 24 rfl w.heap.size 3 i0 _ 1 8 Tryz.underlying24 hi0 hz0 hz1 hz2 rfl (by decide) _ q (intCells c) rfl
                    (T.o.alloc _) ⟨w4.heap.size,0,none⟩ 1 1 [.int .i64 (hd kb)] rfl rfl (iP _ _ _) (by intro u hu;simp at hu;subst hu;rfl) (by omega) (by simp only [maxLen];omega) (by omega) (by simp;omega) (w4.heap.size+1) (by simp) ?_
                  intro gg cap w5 M L Jz hgl)
     have jX:=O ((N.o.alloc (.cells #[.int .i64 (hd kb)] 3)).grown H.o T.o (by decide) L E8.o);have HAT:=O Jz;clear Jz;have HGR:=O L;clear L
     refine⟨⟨f,y,ext ++ j5,yH,c ++ [hd kb],q+1,by omega,g3,by rw [Jf.o];omega,by omega,O (by rw [aaO,HQ.o];rfl),by omega,O (by rw [N.o.ns];exact S.o),O (by rw [N.o.ns];exact A.o.wf),O (by rw [Jf.o];exact (qP.o.mono g5).app (Ids.cons A.o.hd (Ids.nil _))),
      O (by rw [N.o.ns];exact jX.o),by rw [eT];exact M,O (fun x d=>?_)⟩,?_⟩
     ·show x.2.ownBlock=none∨x.2.ownBlock ≠ some gg
      rcases HAT.o with e | e
      ·rw [← e];exact E8.o x d
      ·rcases h9:x.2.ownBlock with _ | b
       ·exact .inl rfl
       ·right
        intro e2;injection e2 with e2
        have:=(World.ownsRow.lt (N.o.ps.kids x (List.mem_append_right _ d)) b h9).2
        omega
     ·rw [Lp.o,jX.o.ps.nG];omega
end
section
variable {g:Nat} {tv:Value} {l:List Tok} {en:Int} {iv:Value} (hF:PF l)
include hF
theorem Sc (m:Nat)(C:∀ f,f≤m→IC g tv l en iv f El.param.job):LC g tv l en iv (m+1) .param:=by
 intro w k xs nv r h hk hn hw hr;have HC:=O C;clear C;have H:=O h;clear h;have HW:=O hw;clear hw;have HR:=O (show thn (run l en m El.param.job k (aA xs)) (fun a y G=>run l en m (.eu .param [hd a]) y G)=some r by rw [run] at hr;exact hr);clear hr;have hlen:=hF.len;obtain⟨i0,hi0,hz0,hz1,hz2⟩:=info_parts gN;unfold elFn;go_enter Tryz.func205,Tryz.ntmps205
 go_wp2_with fail;rcases d:run l en m El.param.job k (aA xs) with _ | x
 ·have:=HR.o;rw [d] at this;cases this
 have E:=O d;clear d;have I:=O (show thn (some x) (fun a y G=>run l en m (.eu .param [hd a]) y G)=some r by have:=HR.o;rwa [E.o] at this);clear HR
 cases x with
 | bad kb =>
  obtain rfl:j6.bad kb=r:=aaP I.o;refine (HC.o m (aaJ _) _ k xs nv _ H.o hk hn HW.o E.o).mono ?_;rintro e w1⟨rfl,hb⟩;unfold aI;go_wp2_with fail;exact⟨rfl,tQ.bad rfl hb⟩
 | ok ks y G =>
  have A:=O (aW E.o hk HW.o (Ids.nil _) (by simp [El.job]));refine (HC.o m (aaJ _) _ k xs nv _ H.o hk hn HW.o E.o).mono ?_;rintro e w1⟨rfl,ext,gW,ha⟩;have j:=O ha;clear ha;have J:=O (show run l en m (.eu .param [hd ks]) y (aA (xs ++ ext))=some r by rw [j.o.ns];exact I.o);clear I E;have Z:=A.o.le;have V:=A.o.few;have W:=A.o.lo;simp only [Job.reads,El.job] at W
  rw [aD] at V
  have hl1:=j.o.len;have Q:=O (show Wf (aA (xs ++ ext)) by rw [j.o.ns];exact A.o.wf);have qP:=O (show Ids [hd ks] (xs ++ ext).length by rw [hl1];exact Ids.cons A.o.hd (Ids.nil _));have U:(xs ++ ext).length≤y:=by omega
  have hsz:=j.o.mv.size;have B:=O (show (w1.alloc (.cells #[.int .i64 (hd ks)] 3)).ownsRow w.heap.size 3 1 (.slice (some ⟨w1.heap.size,0,none⟩) 1 1) 1 (intCells [hd ks]) from World.ownsRow_lit w1 _ 1 hsz (by simp [maxLen]) rfl);have R:=O (show ∀ x ∈ ext,x.2.ownBlock=none∨x.2.ownBlock ≠ (Value.slice (some ⟨w1.heap.size,0,none⟩) 1 1).ownBlock from fun x d=>j.o.ps.Mx d (aaJ _));have F:=O (j.o.alloc (.cells #[.int .i64 (hd ks)] 3));have Y:1≤y:=by omega
  clear hl1 V A j W;obtain⟨av,EF⟩:∃ av,av=hd ks:=⟨_,rfl⟩;rw [← EF] at J qP B F ⊢
  clear EF;have rC:=O F.o.ns;go_wp2_with fail
  go_loopw [5] (fun v wr=>∃ (f t:Nat) (ext:List NV) (eO:Value) (c:List Int) (q:Nat),f≤m∧t≤l.length∧(xs ++ ext).length≤t∧q≤t∧Hid (c.length=q)∧0 < q∧Hid (run l en f (.eu .param c) t (aA (xs ++ ext))=some r)∧Hid (Wf (aA (xs ++ ext)))∧Hid (Ids c (xs ++ ext).length) ∧
    Hid (At g tv l en iv w xs nv t (aA (xs ++ ext)) wr ext eO)∧wr.ownsRow w.heap.size 3 1 v q (intCells c)∧Hid (∀ x ∈ ext,x.2.ownBlock=none∨x.2.ownBlock ≠ v.ownBlock)) (fun _ wr=>nG g l.length wr)
  case atStart=>exact⟨m,y,ext,gW,[av],1,aaJ _,Z,U,Y,O rfl,by omega,J,Q,qP,by rw [rC.o];exact F,B.o,R⟩
  case round =>
   clear F B R J Q qP U Z rC Y;obtain⟨f,t,ext,eO,c,q,hfm,X,hn',hq',HQ,hq0,nH,Q,qP,j,D,R⟩:=hrel
   obtain⟨f,rfl⟩:∃ f0,f=f0+1:=⟨f - 1,by
    rcases Nat.eq_zero_or_pos f with h | h
    ·subst h;have:=nH.o;rw [run] at this;cases this
    ·omega⟩
   have Lp:=O (j.o.ps.nG (n:=l.length));obtain⟨A5,c5,rfl⟩:=dh D;have B:=O D;clear D;by_cases P:tx l t=[44]
   case neg =>
    have HST:=O (show r=.ok c t (aA (xs ++ ext)) by have:=nH.o;rw [run,if_neg P] at this;exact (aaP this).symm);go_wp2_with fail;refine (kN g tv l en iv hF [44] (.inr (by decide +kernel)) _ t _ eO j.o.ps X P).mono ?_;rintro e w2⟨rfl,K⟩;have i:=O (j.o.below K);have Ew:=O (own_below B.o K);clear K;go_wp2_with fail;go_ret;rw [HST.o];exact tQ.ok rfl (by rw [HQ.o];exact Ew.o) i.o R.o
   case pos =>
    have hkl:=aP P (by simp);have xE:=O (show thn (run l en f El.param.job (t+1) (aA (xs ++ ext))) (fun a y G=>run l en f (.eu .param (c ++ [hd a])) y G)=some r by have:=nH.o;rw [run,if_pos P] at this;exact this);go_wp2_with fail;refine (jg g tv l en iv hF [44] (.inr (by decide +kernel)) _ t _ eO j.o.ps X P).mono ?_;rintro e w2⟨rfl,p2,m2⟩;have i:=O (j.o.step p2 m2);have Ew:=O (j.o.ps.iI m2 B.o (by decide) (by decide));clear p2 m2;clear P nH;go_wp2_with fail;rcases d:run l en f El.param.job (t+1) (aA (xs ++ ext)) with _ | x
    ·have:=xE.o;rw [d] at this;cases this
    have E:=O d;clear d;have S:=O (show thn (some x) (fun a y G=>run l en f (.eu .param (c ++ [hd a])) y G)=some r by have:=xE.o;rw [E.o] at this;exact this);clear xE
    cases x with
    | bad kb =>
     obtain rfl:j6.bad kb=r:=aaP S.o;have xA:=O (H.o.low i.o.mv);refine (HC.o f (by omega) _ (t+1) (xs ++ ext) eO _ i.o.ps (by omega) (by omega) Q.o E.o).mono ?_;rintro e w4⟨rfl,hb4⟩;unfold aI;go_wp2_with fail;exact⟨rfl,tQ.bad rfl (xA.o.trans hb4)⟩
    | ok kb y G =>
     have A:=O (aW E.o (by omega) Q.o (Ids.nil _) (by simp [El.job]));refine (HC.o f (by omega) _ (t+1) (xs ++ ext) eO _ i.o.ps (by omega) (by omega) Q.o E.o).mono ?_;rintro e w4⟨rfl,j5,yH,vM⟩;have fq:=O vM;clear vM;have T:=O (i.o.ps.iI fq.o.mv Ew.o (by decide) (by decide));have N:=O (i.o.trans fq.o);have hsz4:=N.o.mv.size
     have E8:=O (show ∀ x ∈ ext ++ j5,x.2.ownBlock=none∨x.2.ownBlock ≠ (Value.slice A5 q c5).ownBlock from fun x d=>by
      rcases List.mem_append.1 d with d | d
      ·exact R.o x d
      ·exact Cg fq.o.fresh d (fun b hb=>(Ew.o.lt b hb).2))
     have g1:=A.o.lo;have g2:=A.o.few;have g3:=A.o.le;have g4:=N.o.len;have g5:=A.o.len;simp only [aD] at g2 g5
     simp only [Job.reads,El.job] at g1
     have hqm:q+1≤100000:=by omega
     have Jf:=O g4;clear g4
     go_wp2_with (at_builtin
                  refine wpList_append_lies _ rfl (.tmp 12) (.tmp 16) 24 rfl w.heap.size 3 i0 _ 1 8 Tryz.underlying24 hi0 hz0 hz1 hz2 rfl (by decide) _ q (intCells c) rfl
                    (T.o.alloc _) ⟨w4.heap.size,0,none⟩ 1 1 [.int .i64 (hd kb)] rfl rfl (iP _ _ _) (by intro u hu;simp at hu;subst hu;rfl) (by omega) (by simp only [maxLen];omega) (by omega) (by simp;omega) (w4.heap.size+1) (by simp) ?_
                  intro gg cap w5 M L Jz hgl)
     have jX:=O ((N.o.alloc (.cells #[.int .i64 (hd kb)] 3)).grown H.o T.o (by decide) L E8.o);have HAT:=O Jz;clear Jz;have HGR:=O L;clear L
     refine⟨⟨f,y,ext ++ j5,yH,c ++ [hd kb],q+1,by omega,g3,by rw [Jf.o];omega,by omega,O (by rw [aaO,HQ.o];rfl),by omega,O (by rw [N.o.ns];exact S.o),O (by rw [N.o.ns];exact A.o.wf),O (by rw [Jf.o];exact (qP.o.mono g5).app (Ids.cons A.o.hd (Ids.nil _))),
      O (by rw [N.o.ns];exact jX.o),by rw [eT];exact M,O (fun x d=>?_)⟩,?_⟩
     ·show x.2.ownBlock=none∨x.2.ownBlock ≠ some gg
      rcases HAT.o with e | e
      ·rw [← e];exact E8.o x d
      ·rcases h9:x.2.ownBlock with _ | b
       ·exact .inl rfl
       ·right
        intro e2;injection e2 with e2
        have:=(World.ownsRow.lt (N.o.ps.kids x (List.mem_append_right _ d)) b h9).2
        omega
     ·rw [Lp.o,jX.o.ps.nG];omega
end
section
variable {g:Nat} {tv:Value} {l:List Tok} {en:Int} {iv:Value} (hF:PF l)
include hF
theorem part_not (m:Nat)(C:∀ f,f≤m→∀ j,isFn j=true→IC g tv l en iv f j)(CL:∀ f,f≤m→∀ e,LC g tv l en iv f e):IC g tv l en iv (m+1) (.lv .not):=by
 intro w k xs nv r h hk hn hw Z;have H:=O h;clear h;have uD:=O (At.refl H.o);have t:=O hw;clear hw;have hn0:(aA xs).length≤k:=by rw [aD];exact hn
 have J:=hF.len;rw [run] at Z
 unfold t_;go_enter Tryz.func238,Tryz.ntmps238
 have qm:=O Z;clear Z;go_wp2_with fail;refine (h_ g tv l en iv _ k _ _ uD.o.ps (by omega) J).mono ?_;rintro e w1⟨rfl,I⟩;have F:=O (uD.o.below I);skip;clear I;have N:=O (aC.new w1 68 #[.int .u8 (tg l k).kind,.string (aM (tx l k)),.int .i64 (pl l en k)]);have x:=O (F.o.alloc (.cells #[.int .u8 (tg l k).kind,.string (aM (tx l k)),.int .i64 (pl l en k)] 68));clear F;rcases gG qm.o with ⟨c,i⟩ | ⟨c,i⟩
 ·skip;have hlt2:=aP c (by simp);have v:=O c;clear c;have q:=O i;clear i;go_wp2_with fail;refine (jg g tv l en iv hF [110,111,116] (.inl (by decide +kernel)) _ k _ _ x.o.ps (by omega) v.o).mono ?_;rintro e w3⟨rfl,p3,m3⟩;have u:=O (x.o.ps.aU m3 N.o);clear N;have d:=O (x.o.step p3 m3);clear x;clear p3 m3;rcases dW q.o with ⟨M,k4,MG,n,L⟩ | ⟨kb4,n,rfl⟩
  rotate_left
  ·have R:=O n;clear n;have fH:=u.o.cell 0;have fQ:=u.o.cell 1;have fT:=u.o.cell 2;have sl0:=u.o.lt;go_wp2_with fail;refine wp_region_held_drew (S:=fun A=>A.cell? ⟨w1.heap.size,0,none⟩=some (.int .u8 (tg l k).kind)∧A.cell? ⟨w1.heap.size,1,none⟩=some (.string (aM (tx l k)))∧A.cell? ⟨w1.heap.size,2,none⟩=some (.int .i64 (pl l en k))) (by kernel_rfl) ⟨fH,fQ,fT⟩ (fun a=>?_);refine bf 0 rfl a ?_;simp only [Act.put,aaA,aaB,aaC];refine bf 1 rfl a ?_;simp only [Act.put,aaA,aaB,aaC];refine bf 2 rfl a ?_;simp only [Act.put,aaA,aaB,aaC];refine wpAnyH_ready (rs:=[3]) (by kernel_rfl) (by simp) ?_;refine fJ (.s (.s (.s .z))) (fun K hK=>?_);go_simp;refine (C m (aaJ _) (.lv .not) rfl _ (k+1) _ _ _ d.o.ps.drew (by omega) (by rw [d.o.len];omega) (by rw [d.o.ns];exact t.o) (by rw [d.o.ns];exact R.o)).mono ?_;rintro e w4⟨rfl,X⟩;unfold aI;go_wp2_with fail;exact⟨rfl,aR.bad rfl ((Below.drew (H.o.low d.o.mv)).trans X)⟩
  have R:=O n;clear n;have V:=O L;clear L q;have Q:=O (aW R.o (by omega) t.o (Ids.nil _) (by simp));have W:=Q.o.lo;have gf4:=Q.o.few;have ge4:=Q.o.le;have gn4:=Q.o.len;simp only [Job.reads] at W
  have fH:=u.o.cell 0;have fQ:=u.o.cell 1;have fT:=u.o.cell 2;have sl0:=u.o.lt;go_wp2_with fail
  go_region_held3 (fun A=>A.cell? ⟨w1.heap.size,0,none⟩=some (.int .u8 (tg l k).kind)∧A.cell? ⟨w1.heap.size,1,none⟩=some (.string (aM (tx l k)))∧A.cell? ⟨w1.heap.size,2,none⟩=some (.int .i64 (pl l en k)))
   (first | go_keep|(go_split_ands;refine⟨?_,?_,?_⟩ <;> assumption))
   (first
    | (go_at_call 238;refine (C m (aaJ _) (.lv .not) rfl _ (k+1) _ _ _ d.o.ps.drew (by omega) (by rw [d.o.len];omega) (by rw [d.o.ns];exact t.o) (by rw [d.o.ns];exact R.o)).mono ?_;rintro e w4⟨rfl,j5,yH,vM⟩;have B:=O (d.o.drew.trans vM);have E:=vM.blk d.o.ps.drew u.o.drew (by decide) (by decide);have wV:=E.cell 0;have wW:=E.cell 1;have wX:=E.cell 2;have Xx:=E.lt;have T:=O E;clear E;have hz4:=B.o.mv.size;clear vM)
    | (go_at_call 204;refine (gB g tv l en iv MG.length 5 _ _ _ [] 0 _ [hd M] _ k4 _ _ (B.o.ps.alloc _) (rH w4 (hd M)) B.o.len (by omega)).mono ?_;rintro e w5⟨rfl,Fu,p5,m5⟩;have P:=m5.blk (T.o.alloc _) (B.o.ps.tag T.o (by decide) (by decide)).1 (B.o.ps.tag T.o (by decide) (by decide)).2;have wY:=P.cell 0;have wZ:=P.cell 1;have w_:=P.cell 2;clear P;have jX:=O ((At.alloc B.o _).add p5 m5 (by intro b hb;simp [Value.ownBlock] at hb;omega));clear p5 m5))
  all_goals
   obtain rfl:=dV V.o;go_wp2_with fail;go_ret;exact aR.ok rfl jX.o
 ·skip;have v:=O c;clear c;have q:=O i;clear i;go_wp2_with fail;refine (kN g tv l en iv hF [110,111,116] (.inl (by decide +kernel)) _ k _ _ x.o.ps (by omega) v.o).mono ?_;rintro e w6⟨rfl,y⟩;have n_:=O (N.o.below y N.o.lt);clear N;have D:=O (x.o.below y);clear x;clear y;have HX:=O q.o;go_wp2_with fail;have HQ:=O (C m (aaJ _) (.lv .cmp) rfl _ k _ _ r D.o.ps (by omega) (by rw [D.o.len];omega) (by rw [D.o.ns];exact t.o) (by rw [D.o.ns];exact HX.o))
  cases r with
  | bad kb =>
   refine HQ.o.mono ?_;rintro e wq⟨rfl,Y⟩;unfold aI;go_wp2_with fail;exact⟨rfl,aR.bad rfl ((H.o.low D.o.mv).trans Y)⟩
  | ok ksq kq nsq =>
   refine HQ.o.mono ?_;rintro e wq⟨rfl,extq,nvq,G⟩;have U:=O (D.o.trans G);clear G;go_wp2_with fail;go_ret;exact aR.ok rfl U.o
end
section
variable {g:Nat} {tv:Value} {l:List Tok} {en:Int} {iv:Value} (hF:PF l)
include hF
theorem Sy (m:Nat)(C:∀ f,f≤m→∀ j,isFn j=true→IC g tv l en iv f j)(CL:∀ f,f≤m→∀ e,LC g tv l en iv f e):IC g tv l en iv (m+1) (.lv .unary):=by
 intro w k xs nv r h hk hn hw Z;have H:=O h;clear h;have uD:=O (At.refl H.o);have t:=O hw;clear hw;have hn0:(aA xs).length≤k:=by rw [aD];exact hn
 have J:=hF.len;rw [run] at Z
 unfold t_;go_enter Tryz.func256,Tryz.ntmps256
 have qm:=O Z;clear Z;go_wp2_with fail;refine (h_ g tv l en iv _ k _ _ uD.o.ps (by omega) J).mono ?_;rintro e w1⟨rfl,I⟩;have F:=O (uD.o.below I);skip;clear I;have N:=O (aC.new w1 68 #[.int .u8 (tg l k).kind,.string (aM (tx l k)),.int .i64 (pl l en k)]);have x:=O (F.o.alloc (.cells #[.int .u8 (tg l k).kind,.string (aM (tx l k)),.int .i64 (pl l en k)] 68));clear F;rcases gG qm.o with ⟨c,i⟩ | ⟨c,i⟩
 ·skip;have hlt2:=aP c (by simp);have v:=O c;clear c;have q:=O i;clear i;go_wp2_with fail;refine (jg g tv l en iv hF [45] (.inr (by decide +kernel)) _ k _ _ x.o.ps (by omega) v.o).mono ?_;rintro e w3⟨rfl,p3,m3⟩;have u:=O (x.o.ps.aU m3 N.o);clear N;have d:=O (x.o.step p3 m3);clear x;clear p3 m3;rcases dW q.o with ⟨M,k4,MG,n,L⟩ | ⟨kb4,n,rfl⟩
  rotate_left
  ·have R:=O n;clear n;have fH:=u.o.cell 0;have fQ:=u.o.cell 1;have fT:=u.o.cell 2;have sl0:=u.o.lt;go_wp2_with fail;refine wp_region_held_drew (S:=fun A=>A.cell? ⟨w1.heap.size,0,none⟩=some (.int .u8 (tg l k).kind)∧A.cell? ⟨w1.heap.size,1,none⟩=some (.string (aM (tx l k)))∧A.cell? ⟨w1.heap.size,2,none⟩=some (.int .i64 (pl l en k))) (by kernel_rfl) ⟨fH,fQ,fT⟩ (fun a=>?_);refine bf 0 rfl a ?_;simp only [Act.put,aaA,aaB,aaC];refine bf 1 rfl a ?_;simp only [Act.put,aaA,aaB,aaC];refine bf 2 rfl a ?_;simp only [Act.put,aaA,aaB,aaC];refine wpAnyH_ready (rs:=[3]) (by kernel_rfl) (by simp) ?_;refine fJ (.s (.s (.s .z))) (fun K hK=>?_);go_simp;refine (C m (aaJ _) (.lv .unary) rfl _ (k+1) _ _ _ d.o.ps.drew (by omega) (by rw [d.o.len];omega) (by rw [d.o.ns];exact t.o) (by rw [d.o.ns];exact R.o)).mono ?_;rintro e w4⟨rfl,X⟩;unfold aI;go_wp2_with fail;exact⟨rfl,aR.bad rfl ((Below.drew (H.o.low d.o.mv)).trans X)⟩
  have R:=O n;clear n;have V:=O L;clear L q;have Q:=O (aW R.o (by omega) t.o (Ids.nil _) (by simp));have W:=Q.o.lo;have gf4:=Q.o.few;have ge4:=Q.o.le;have gn4:=Q.o.len;simp only [Job.reads] at W
  have fH:=u.o.cell 0;have fQ:=u.o.cell 1;have fT:=u.o.cell 2;have sl0:=u.o.lt;go_wp2_with fail
  go_region_held3 (fun A=>A.cell? ⟨w1.heap.size,0,none⟩=some (.int .u8 (tg l k).kind)∧A.cell? ⟨w1.heap.size,1,none⟩=some (.string (aM (tx l k)))∧A.cell? ⟨w1.heap.size,2,none⟩=some (.int .i64 (pl l en k)))
   (first | go_keep|(go_split_ands;refine⟨?_,?_,?_⟩ <;> assumption))
   (first
    | (go_at_call 256;refine (C m (aaJ _) (.lv .unary) rfl _ (k+1) _ _ _ d.o.ps.drew (by omega) (by rw [d.o.len];omega) (by rw [d.o.ns];exact t.o) (by rw [d.o.ns];exact R.o)).mono ?_;rintro e w4⟨rfl,j5,yH,vM⟩;have B:=O (d.o.drew.trans vM);have E:=vM.blk d.o.ps.drew u.o.drew (by decide) (by decide);have wV:=E.cell 0;have wW:=E.cell 1;have wX:=E.cell 2;have Xx:=E.lt;have T:=O E;clear E;have hz4:=B.o.mv.size;clear vM)
    | (go_at_call 204;refine (gB g tv l en iv MG.length 4 _ _ _ [] 0 _ [hd M] _ k4 _ _ (B.o.ps.alloc _) (rH w4 (hd M)) B.o.len (by omega)).mono ?_;rintro e w5⟨rfl,Fu,p5,m5⟩;have P:=m5.blk (T.o.alloc _) (B.o.ps.tag T.o (by decide) (by decide)).1 (B.o.ps.tag T.o (by decide) (by decide)).2;have wY:=P.cell 0;have wZ:=P.cell 1;have w_:=P.cell 2;clear P;have jX:=O ((At.alloc B.o _).add p5 m5 (by intro b hb;simp [Value.ownBlock] at hb;omega));clear p5 m5))
  all_goals
   obtain rfl:=dV V.o;go_wp2_with fail;go_ret;exact aR.ok rfl jX.o
 ·skip;have v:=O c;clear c;have q:=O i;clear i;go_wp2_with fail;refine (kN g tv l en iv hF [45] (.inr (by decide +kernel)) _ k _ _ x.o.ps (by omega) v.o).mono ?_;rintro e w6⟨rfl,y⟩;have n_:=O (N.o.below y N.o.lt);clear N;have D:=O (x.o.below y);clear x;clear y;have HX:=O q.o;go_wp2_with fail;have HQ:=O (C m (aaJ _) .post rfl _ k _ _ r D.o.ps (by omega) (by rw [D.o.len];omega) (by rw [D.o.ns];exact t.o) (by rw [D.o.ns];exact HX.o))
  cases r with
  | bad kb =>
   refine HQ.o.mono ?_;rintro e wq⟨rfl,Y⟩;unfold aI;go_wp2_with fail;exact⟨rfl,aR.bad rfl ((H.o.low D.o.mv).trans Y)⟩
  | ok ksq kq nsq =>
   refine HQ.o.mono ?_;rintro e wq⟨rfl,extq,nvq,G⟩;have U:=O (D.o.trans G);clear G;go_wp2_with fail;go_ret;exact aR.ok rfl U.o
end
end Go.Proofs.YthepmkjggfijoaaGreatDoor
