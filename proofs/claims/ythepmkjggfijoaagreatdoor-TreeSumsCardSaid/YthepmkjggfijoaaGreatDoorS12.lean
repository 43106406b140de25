/-
  A part of the proof.
-/
import Derived.Test.YthepmkjggfijoaaGreatDoorSA
import Derived.Test.YthepmkjggfijoaaGreatDoorS08
set_option linter.all false
set_option maxRecDepth 100000
set_option maxHeartbeats 4000000
open Go.Lib (hid)
namespace Go.Proofs.YthepmkjggfijoaaGreatDoor
open Go.RowKit Mist
attribute [local go_sem] aj aH aS aB ak
section
variable {g:Nat} {tv:Value} {l:List Tok} {en:Int} {iv:Value} (hF:PF l)
include hF
theorem aan (m:Nat)(C:∀ f,f≤m→IC g tv l en iv f El.put.job):LC g tv l en iv (m+1) .put:=by
 intro w k xs nv r h hk hn hw hr;have HC:=hid C;clear C;have H:=hid h;clear h;have HW:=hid hw;clear hw;have HR:=hid (show thn (run l en m El.put.job k (aA xs)) (fun a k1 aJ=>run l en m (.eu .put [hd a]) k1 aJ)=some r by rw [run] at hr;exact hr);clear hr;have hlen:=hF.len;obtain⟨i0,hi0,hz0,hz1,hz2⟩:=info_parts gN;unfold elFn;go_enter Tryz.func205,Tryz.ntmps205
 go_wp2_with fail;rcases hx:run l en m El.put.job k (aA xs) with _ | x
 ·have:=HR.out;rw [hx] at this;cases this
 have HX:=hid hx;clear hx;have HR2:=hid (show thn (some x) (fun a k1 aJ=>run l en m (.eu .put [hd a]) k1 aJ)=some r by have:=HR.out;rwa [HX.out] at this);clear HR
 cases x with
 | bad kb =>
  obtain rfl:j6.bad kb=r:=aaP HR2.out;refine (HC.out m (aaJ _) _ k xs nv _ H.out hk hn HW.out HX.out).mono ?_;rintro e w1⟨rfl,hb⟩;unfold aI;go_wp2_with fail;exact⟨rfl,tQ.bad rfl hb⟩
 | ok ks k1 aJ =>
  have GO:=hid (aW HX.out hk HW.out (Ids.nil _) (by simp [El.job]));refine (HC.out m (aaJ _) _ k xs nv _ H.out hk hn HW.out HX.out).mono ?_;rintro e w1⟨rfl,ext,gW,ha⟩;have HA:=hid ha;clear ha;have HR3:=hid (show run l en m (.eu .put [hd ks]) k1 (aA (xs ++ ext))=some r by rw [HA.out.ns];exact HR2.out);clear HR2 HX;have hk1:=GO.out.le;have hf1:=GO.out.few;have hg1:=GO.out.lo;simp only [Job.reads,El.job] at hg1
  rw [aD] at hf1
  have hl1:=HA.out.len;have nA:=hid (show Wf (aA (xs ++ ext)) by rw [HA.out.ns];exact GO.out.wf);have qP:=hid (show Ids [hd ks] (xs ++ ext).length by rw [hl1];exact Ids.cons GO.out.hd (Ids.nil _));have hcn:(xs ++ ext).length≤k1:=by omega
  have hsz:=HA.out.mv.size;have HOW:=hid (show (w1.alloc (.cells #[.int .i64 (hd ks)] 3)).ownsRow w.heap.size 3 1 (.slice (some ⟨w1.heap.size,0,none⟩) 1 1) 1 (intCells [hd ks]) from World.ownsRow_lit w1 _ 1 hsz (by simp [maxLen]) rfl);have F7:=hid (show ∀ x ∈ ext,x.2.ownBlock=none∨x.2.ownBlock ≠ (Value.slice (some ⟨w1.heap.size,0,none⟩) 1 1).ownBlock from fun x hx=>HA.out.ps.Mx hx (aaJ _));have HA1:=hid (HA.out.alloc (.cells #[.int .i64 (hd ks)] 3));have hk0:1≤k1:=by omega
  clear hl1 hf1 GO HA hg1;obtain⟨av,EF⟩:∃ av,av=hd ks:=⟨_,rfl⟩;rw [← EF] at HR3 qP HOW HA1 ⊢
  clear EF;have rC:=hid HA1.out.ns;go_wp2_with fail
  go_loopw [5] (fun v wr=>∃ (f k':Nat) (ext:List NV) (eO:Value) (acc:List Int) (q:Nat),f≤m∧k'≤l.length∧(xs ++ ext).length≤k'∧q≤k'∧Hid (acc.length=q)∧0 < q∧Hid (run l en f (.eu .put acc) k' (aA (xs ++ ext))=some r)∧Hid (Wf (aA (xs ++ ext)))∧Hid (Ids acc (xs ++ ext).length) ∧
    Hid (At g tv l en iv w xs nv k' (aA (xs ++ ext)) wr ext eO)∧wr.ownsRow w.heap.size 3 1 v q (intCells acc)∧Hid (∀ x ∈ ext,x.2.ownBlock=none∨x.2.ownBlock ≠ v.ownBlock)) (fun _ wr=>nG g l.length wr)
  case atStart=>exact⟨m,k1,ext,gW,[av],1,aaJ _,hk1,hcn,hk0,hid rfl,by omega,HR3,nA,qP,by rw [rC.out];exact HA1,HOW.out,F7⟩
  case round =>
   clear HA1 HOW F7 HR3 nA qP hcn hk1 rC hk0;obtain⟨f,k',ext,eO,acc,q,hfm,hk',hn',hq',HQ,hq0,nH,nA,qP,HA,hown,F7⟩:=hrel
   obtain⟨f,rfl⟩:∃ f0,f=f0+1:=⟨f - 1,by
    rcases Nat.eq_zero_or_pos f with h | h
    ·subst h;have:=nH.out;rw [run] at this;cases this
    ·omega⟩
   have Lp:=hid (HA.out.ps.nG (n:=l.length));obtain⟨A5,c5,rfl⟩:=dh hown;have HOW:=hid hown;clear hown;by_cases hc:tx l k'=[44]
   case neg =>
    have HST:=hid (show r=.ok acc k' (aA (xs ++ ext)) by have:=nH.out;rw [run,if_neg hc] at this;exact (aaP this).symm);go_wp2_with fail;refine (kN g tv l en iv hF [44] (.inr (by decide +kernel)) _ k' _ eO HA.out.ps hk' hc).mono ?_;rintro e w2⟨rfl,hb2⟩;have HA2:=hid (HA.out.below hb2);have Ew:=hid (own_below HOW.out hb2);clear hb2;go_wp2_with fail;go_ret;rw [HST.out];exact tQ.ok rfl (by rw [HQ.out];exact Ew.out) HA2.out F7.out
   case pos =>
    have hkl:=aP hc (by simp);have xE:=hid (show thn (run l en f El.put.job (k'+1) (aA (xs ++ ext))) (fun a k1 aJ=>run l en f (.eu .put (acc ++ [hd a])) k1 aJ)=some r by have:=nH.out;rw [run,if_pos hc] at this;exact this);go_wp2_with fail;refine (jg g tv l en iv hF [44] (.inr (by decide +kernel)) _ k' _ eO HA.out.ps hk' hc).mono ?_;rintro e w2⟨rfl,p2,m2⟩;have HA2:=hid (HA.out.step p2 m2);have Ew:=hid (HA.out.ps.iI m2 HOW.out (by decide) (by decide));clear p2 m2;clear hc nH;go_wp2_with fail;rcases hx:run l en f El.put.job (k'+1) (aA (xs ++ ext)) with _ | x
    ·have:=xE.out;rw [hx] at this;cases this
    have HX:=hid hx;clear hx;have HG2:=hid (show thn (some x) (fun a k1 aJ=>run l en f (.eu .put (acc ++ [hd a])) k1 aJ)=some r by have:=xE.out;rw [HX.out] at this;exact this);clear xE
    cases x with
    | bad kb =>
     obtain rfl:j6.bad kb=r:=aaP HG2.out;have xA:=hid (H.out.low HA2.out.mv);refine (HC.out f (by omega) _ (k'+1) (xs ++ ext) eO _ HA2.out.ps (by omega) (by omega) nA.out HX.out).mono ?_;rintro e w4⟨rfl,hb4⟩;unfold aI;go_wp2_with fail;exact⟨rfl,tQ.bad rfl (xA.out.trans hb4)⟩
    | ok kb k1 aJ =>
     have GO:=hid (aW HX.out (by omega) nA.out (Ids.nil _) (by simp [El.job]));refine (HC.out f (by omega) _ (k'+1) (xs ++ ext) eO _ HA2.out.ps (by omega) (by omega) nA.out HX.out).mono ?_;rintro e w4⟨rfl,j5,yH,vM⟩;have fq:=hid vM;clear vM;have HO4:=hid (HA2.out.ps.iI fq.out.mv Ew.out (by decide) (by decide));have iT:=hid (HA2.out.trans fq.out);have hsz4:=iT.out.mv.size
     have E8:=hid (show ∀ x ∈ ext ++ j5,x.2.ownBlock=none∨x.2.ownBlock ≠ (Value.slice A5 q c5).ownBlock from fun x hx=>by
      rcases List.mem_append.1 hx with hx | hx
      ·exact F7.out x hx
      ·exact Cg fq.out.fresh hx (fun b hb=>(Ew.out.lt b hb).2))
     have g1:=GO.out.lo;have g2:=GO.out.few;have g3:=GO.out.le;have g4:=iT.out.len;have g5:=GO.out.len;simp only [aD] at g2 g5
     simp only [Job.reads,El.job] at g1
     have hqm:q+1≤100000:=by omega
     have Jf:=hid g4;clear g4
     go_wp2_with (at_builtin
                  refine wpList_append_lies _ rfl (.tmp 12) (.tmp 16) 24 rfl w.heap.size 3 i0 _ 1 8 Tryz.underlying24 hi0 hz0 hz1 hz2 rfl (by decide) _ q (intCells acc) rfl
                    (HO4.out.alloc _) ⟨w4.heap.size,0,none⟩ 1 1 [.int .i64 (hd kb)] rfl rfl (iP _ _ _) (by intro u hu;simp at hu;subst hu;rfl) (by omega) (by simp only [maxLen];omega) (by omega) (by simp;omega) (w4.heap.size+1) (by simp) ?_
                  intro gg cap w5 hown2 hg5 Jz hgl)
     have jX:=hid ((iT.out.alloc (.cells #[.int .i64 (hd kb)] 3)).grown H.out HO4.out (by decide) hg5 E8.out);have HAT:=hid Jz;clear Jz;have HGR:=hid hg5;clear hg5
     refine⟨⟨f,k1,ext ++ j5,yH,acc ++ [hd kb],q+1,by omega,g3,by rw [Jf.out];omega,by omega,hid (by rw [aaO,HQ.out];rfl),by omega,hid (by rw [iT.out.ns];exact HG2.out),hid (by rw [iT.out.ns];exact GO.out.wf),hid (by rw [Jf.out];exact (qP.out.mono g5).app (Ids.cons GO.out.hd (Ids.nil _))),
      hid (by rw [iT.out.ns];exact jX.out),by rw [eT];exact hown2,hid (fun x hx=>?_)⟩,?_⟩
     ·show x.2.ownBlock=none∨x.2.ownBlock ≠ some gg
      rcases HAT.out with e | e
      ·rw [← e];exact E8.out x hx
      ·rcases h9:x.2.ownBlock with _ | b
       ·exact .inl rfl
       ·right
        intro e2;injection e2 with e2
        have:=(World.ownsRow.lt (iT.out.ps.kids x (List.mem_append_right _ hx)) b h9).2
        omega
     ·rw [Lp.out,jX.out.ps.nG];omega
end
section
variable {g:Nat} {tv:Value} {l:List Tok} {en:Int} {iv:Value} (hF:PF l)
include hF
theorem Sc (m:Nat)(C:∀ f,f≤m→IC g tv l en iv f El.param.job):LC g tv l en iv (m+1) .param:=by
 intro w k xs nv r h hk hn hw hr;have HC:=hid C;clear C;have H:=hid h;clear h;have HW:=hid hw;clear hw;have HR:=hid (show thn (run l en m El.param.job k (aA xs)) (fun a k1 aJ=>run l en m (.eu .param [hd a]) k1 aJ)=some r by rw [run] at hr;exact hr);clear hr;have hlen:=hF.len;obtain⟨i0,hi0,hz0,hz1,hz2⟩:=info_parts gN;unfold elFn;go_enter Tryz.func205,Tryz.ntmps205
 go_wp2_with fail;rcases hx:run l en m El.param.job k (aA xs) with _ | x
 ·have:=HR.out;rw [hx] at this;cases this
 have HX:=hid hx;clear hx;have HR2:=hid (show thn (some x) (fun a k1 aJ=>run l en m (.eu .param [hd a]) k1 aJ)=some r by have:=HR.out;rwa [HX.out] at this);clear HR
 cases x with
 | bad kb =>
  obtain rfl:j6.bad kb=r:=aaP HR2.out;refine (HC.out m (aaJ _) _ k xs nv _ H.out hk hn HW.out HX.out).mono ?_;rintro e w1⟨rfl,hb⟩;unfold aI;go_wp2_with fail;exact⟨rfl,tQ.bad rfl hb⟩
 | ok ks k1 aJ =>
  have GO:=hid (aW HX.out hk HW.out (Ids.nil _) (by simp [El.job]));refine (HC.out m (aaJ _) _ k xs nv _ H.out hk hn HW.out HX.out).mono ?_;rintro e w1⟨rfl,ext,gW,ha⟩;have HA:=hid ha;clear ha;have HR3:=hid (show run l en m (.eu .param [hd ks]) k1 (aA (xs ++ ext))=some r by rw [HA.out.ns];exact HR2.out);clear HR2 HX;have hk1:=GO.out.le;have hf1:=GO.out.few;have hg1:=GO.out.lo;simp only [Job.reads,El.job] at hg1
  rw [aD] at hf1
  have hl1:=HA.out.len;have nA:=hid (show Wf (aA (xs ++ ext)) by rw [HA.out.ns];exact GO.out.wf);have qP:=hid (show Ids [hd ks] (xs ++ ext).length by rw [hl1];exact Ids.cons GO.out.hd (Ids.nil _));have hcn:(xs ++ ext).length≤k1:=by omega
  have hsz:=HA.out.mv.size;have HOW:=hid (show (w1.alloc (.cells #[.int .i64 (hd ks)] 3)).ownsRow w.heap.size 3 1 (.slice (some ⟨w1.heap.size,0,none⟩) 1 1) 1 (intCells [hd ks]) from World.ownsRow_lit w1 _ 1 hsz (by simp [maxLen]) rfl);have F7:=hid (show ∀ x ∈ ext,x.2.ownBlock=none∨x.2.ownBlock ≠ (Value.slice (some ⟨w1.heap.size,0,none⟩) 1 1).ownBlock from fun x hx=>HA.out.ps.Mx hx (aaJ _));have HA1:=hid (HA.out.alloc (.cells #[.int .i64 (hd ks)] 3));have hk0:1≤k1:=by omega
  clear hl1 hf1 GO HA hg1;obtain⟨av,EF⟩:∃ av,av=hd ks:=⟨_,rfl⟩;rw [← EF] at HR3 qP HOW HA1 ⊢
  clear EF;have rC:=hid HA1.out.ns;go_wp2_with fail
  go_loopw [5] (fun v wr=>∃ (f k':Nat) (ext:List NV) (eO:Value) (acc:List Int) (q:Nat),f≤m∧k'≤l.length∧(xs ++ ext).length≤k'∧q≤k'∧Hid (acc.length=q)∧0 < q∧Hid (run l en f (.eu .param acc) k' (aA (xs ++ ext))=some r)∧Hid (Wf (aA (xs ++ ext)))∧Hid (Ids acc (xs ++ ext).length) ∧
    Hid (At g tv l en iv w xs nv k' (aA (xs ++ ext)) wr ext eO)∧wr.ownsRow w.heap.size 3 1 v q (intCells acc)∧Hid (∀ x ∈ ext,x.2.ownBlock=none∨x.2.ownBlock ≠ v.ownBlock)) (fun _ wr=>nG g l.length wr)
  case atStart=>exact⟨m,k1,ext,gW,[av],1,aaJ _,hk1,hcn,hk0,hid rfl,by omega,HR3,nA,qP,by rw [rC.out];exact HA1,HOW.out,F7⟩
  case round =>
   clear HA1 HOW F7 HR3 nA qP hcn hk1 rC hk0;obtain⟨f,k',ext,eO,acc,q,hfm,hk',hn',hq',HQ,hq0,nH,nA,qP,HA,hown,F7⟩:=hrel
   obtain⟨f,rfl⟩:∃ f0,f=f0+1:=⟨f - 1,by
    rcases Nat.eq_zero_or_pos f with h | h
    ·subst h;have:=nH.out;rw [run] at this;cases this
    ·omega⟩
   have Lp:=hid (HA.out.ps.nG (n:=l.length));obtain⟨A5,c5,rfl⟩:=dh hown;have HOW:=hid hown;clear hown;by_cases hc:tx l k'=[44]
   case neg =>
    have HST:=hid (show r=.ok acc k' (aA (xs ++ ext)) by have:=nH.out;rw [run,if_neg hc] at this;exact (aaP this).symm);go_wp2_with fail;refine (kN g tv l en iv hF [44] (.inr (by decide +kernel)) _ k' _ eO HA.out.ps hk' hc).mono ?_;rintro e w2⟨rfl,hb2⟩;have HA2:=hid (HA.out.below hb2);have Ew:=hid (own_below HOW.out hb2);clear hb2;go_wp2_with fail;go_ret;rw [HST.out];exact tQ.ok rfl (by rw [HQ.out];exact Ew.out) HA2.out F7.out
   case pos =>
    have hkl:=aP hc (by simp);have xE:=hid (show thn (run l en f El.param.job (k'+1) (aA (xs ++ ext))) (fun a k1 aJ=>run l en f (.eu .param (acc ++ [hd a])) k1 aJ)=some r by have:=nH.out;rw [run,if_pos hc] at this;exact this);go_wp2_with fail;refine (jg g tv l en iv hF [44] (.inr (by decide +kernel)) _ k' _ eO HA.out.ps hk' hc).mono ?_;rintro e w2⟨rfl,p2,m2⟩;have HA2:=hid (HA.out.step p2 m2);have Ew:=hid (HA.out.ps.iI m2 HOW.out (by decide) (by decide));clear p2 m2;clear hc nH;go_wp2_with fail;rcases hx:run l en f El.param.job (k'+1) (aA (xs ++ ext)) with _ | x
    ·have:=xE.out;rw [hx] at this;cases this
    have HX:=hid hx;clear hx;have HG2:=hid (show thn (some x) (fun a k1 aJ=>run l en f (.eu .param (acc ++ [hd a])) k1 aJ)=some r by have:=xE.out;rw [HX.out] at this;exact this);clear xE
    cases x with
    | bad kb =>
     obtain rfl:j6.bad kb=r:=aaP HG2.out;have xA:=hid (H.out.low HA2.out.mv);refine (HC.out f (by omega) _ (k'+1) (xs ++ ext) eO _ HA2.out.ps (by omega) (by omega) nA.out HX.out).mono ?_;rintro e w4⟨rfl,hb4⟩;unfold aI;go_wp2_with fail;exact⟨rfl,tQ.bad rfl (xA.out.trans hb4)⟩
    | ok kb k1 aJ =>
     have GO:=hid (aW HX.out (by omega) nA.out (Ids.nil _) (by simp [El.job]));refine (HC.out f (by omega) _ (k'+1) (xs ++ ext) eO _ HA2.out.ps (by omega) (by omega) nA.out HX.out).mono ?_;rintro e w4⟨rfl,j5,yH,vM⟩;have fq:=hid vM;clear vM;have HO4:=hid (HA2.out.ps.iI fq.out.mv Ew.out (by decide) (by decide));have iT:=hid (HA2.out.trans fq.out);have hsz4:=iT.out.mv.size
     have E8:=hid (show ∀ x ∈ ext ++ j5,x.2.ownBlock=none∨x.2.ownBlock ≠ (Value.slice A5 q c5).ownBlock from fun x hx=>by
      rcases List.mem_append.1 hx with hx | hx
      ·exact F7.out x hx
      ·exact Cg fq.out.fresh hx (fun b hb=>(Ew.out.lt b hb).2))
     have g1:=GO.out.lo;have g2:=GO.out.few;have g3:=GO.out.le;have g4:=iT.out.len;have g5:=GO.out.len;simp only [aD] at g2 g5
     simp only [Job.reads,El.job] at g1
     have hqm:q+1≤100000:=by omega
     have Jf:=hid g4;clear g4
     go_wp2_with (at_builtin
                  refine wpList_append_lies _ rfl (.tmp 12) (.tmp 16) 24 rfl w.heap.size 3 i0 _ 1 8 Tryz.underlying24 hi0 hz0 hz1 hz2 rfl (by decide) _ q (intCells acc) rfl
                    (HO4.out.alloc _) ⟨w4.heap.size,0,none⟩ 1 1 [.int .i64 (hd kb)] rfl rfl (iP _ _ _) (by intro u hu;simp at hu;subst hu;rfl) (by omega) (by simp only [maxLen];omega) (by omega) (by simp;omega) (w4.heap.size+1) (by simp) ?_
                  intro gg cap w5 hown2 hg5 Jz hgl)
     have jX:=hid ((iT.out.alloc (.cells #[.int .i64 (hd kb)] 3)).grown H.out HO4.out (by decide) hg5 E8.out);have HAT:=hid Jz;clear Jz;have HGR:=hid hg5;clear hg5
     refine⟨⟨f,k1,ext ++ j5,yH,acc ++ [hd kb],q+1,by omega,g3,by rw [Jf.out];omega,by omega,hid (by rw [aaO,HQ.out];rfl),by omega,hid (by rw [iT.out.ns];exact HG2.out),hid (by rw [iT.out.ns];exact GO.out.wf),hid (by rw [Jf.out];exact (qP.out.mono g5).app (Ids.cons GO.out.hd (Ids.nil _))),
      hid (by rw [iT.out.ns];exact jX.out),by rw [eT];exact hown2,hid (fun x hx=>?_)⟩,?_⟩
     ·show x.2.ownBlock=none∨x.2.ownBlock ≠ some gg
      rcases HAT.out with e | e
      ·rw [← e];exact E8.out x hx
      ·rcases h9:x.2.ownBlock with _ | b
       ·exact .inl rfl
       ·right
        intro e2;injection e2 with e2
        have:=(World.ownsRow.lt (iT.out.ps.kids x (List.mem_append_right _ hx)) b h9).2
        omega
     ·rw [Lp.out,jX.out.ps.nG];omega
end
section
variable {g:Nat} {tv:Value} {l:List Tok} {en:Int} {iv:Value} (hF:PF l)
include hF
theorem part_not (m:Nat)(C:∀ f,f≤m→∀ j,isFn j=true→IC g tv l en iv f j)(CL:∀ f,f≤m→∀ e,LC g tv l en iv f e):IC g tv l en iv (m+1) (.lv .not):=by
 intro w k xs nv r h hk hn hw hr;have H:=hid h;clear h;have uD:=hid (At.refl H.out);have HW0:=hid hw;clear hw;have hn0:(aA xs).length≤k:=by rw [aD];exact hn
 have hlen:=hF.len;rw [run] at hr
 unfold t_;go_enter Tryz.func238,Tryz.ntmps238
 have qm:=hid hr;clear hr;go_wp2_with fail;refine (h_ g tv l en iv _ k _ _ uD.out.ps (by omega) hlen).mono ?_;rintro e w1⟨rfl,hb1⟩;have HA1:=hid (uD.out.below hb1);skip;clear hb1;have og:=hid (aC.new w1 68 #[.int .u8 (tg l k).kind,.string (aM (tx l k)),.int .i64 (pl l en k)]);have aZ:=hid (HA1.out.alloc (.cells #[.int .u8 (tg l k).kind,.string (aM (tx l k)),.int .i64 (pl l en k)] 68));clear HA1;rcases gG qm.out with ⟨he2,hr2⟩ | ⟨he2,hr2⟩
 ·skip;have hlt2:=aP he2 (by simp);have HE2:=hid he2;clear he2;have HR2:=hid hr2;clear hr2;go_wp2_with fail;refine (jg g tv l en iv hF [110,111,116] (.inl (by decide +kernel)) _ k _ _ aZ.out.ps (by omega) HE2.out).mono ?_;rintro e w3⟨rfl,p3,m3⟩;have iG:=hid (aZ.out.ps.aU m3 og.out);clear og;have gM:=hid (aZ.out.step p3 m3);clear aZ;clear p3 m3;rcases dW HR2.out with ⟨ks4,k4,MG,hx4,hr4⟩ | ⟨kb4,hx4,rfl⟩
  rotate_left
  ·have Js:=hid hx4;clear hx4;have fH:=iG.out.cell 0;have fQ:=iG.out.cell 1;have fT:=iG.out.cell 2;have sl0:=iG.out.lt;go_wp2_with fail;refine wp_region_held_drew (S:=fun w'=>w'.cell? ⟨w1.heap.size,0,none⟩=some (.int .u8 (tg l k).kind)∧w'.cell? ⟨w1.heap.size,1,none⟩=some (.string (aM (tx l k)))∧w'.cell? ⟨w1.heap.size,2,none⟩=some (.int .i64 (pl l en k))) (by kernel_rfl) ⟨fH,fQ,fT⟩ (fun hHeld=>?_);refine bf 0 rfl hHeld ?_;simp only [Act.put,aaA,aaB,aaC];refine bf 1 rfl hHeld ?_;simp only [Act.put,aaA,aaB,aaC];refine bf 2 rfl hHeld ?_;simp only [Act.put,aaA,aaB,aaC];refine wpAnyH_ready (rs:=[3]) (by kernel_rfl) (by simp) ?_;refine fJ (.s (.s (.s .z))) (fun K hK=>?_);go_simp;refine (C m (aaJ _) (.lv .not) rfl _ (k+1) _ _ _ gM.out.ps.drew (by omega) (by rw [gM.out.len];omega) (by rw [gM.out.ns];exact HW0.out) (by rw [gM.out.ns];exact Js.out)).mono ?_;rintro e w4⟨rfl,hb4⟩;unfold aI;go_wp2_with fail;exact⟨rfl,aR.bad rfl ((Below.drew (H.out.low gM.out.mv)).trans hb4)⟩
  have Js:=hid hx4;clear hx4;have HR4:=hid hr4;clear hr4 HR2;have Jm:=hid (aW Js.out (by omega) HW0.out (Ids.nil _) (by simp));have gl4:=Jm.out.lo;have gf4:=Jm.out.few;have ge4:=Jm.out.le;have gn4:=Jm.out.len;simp only [Job.reads] at gl4
  have fH:=iG.out.cell 0;have fQ:=iG.out.cell 1;have fT:=iG.out.cell 2;have sl0:=iG.out.lt;go_wp2_with fail
  go_region_held3 (fun w'=>w'.cell? ⟨w1.heap.size,0,none⟩=some (.int .u8 (tg l k).kind)∧w'.cell? ⟨w1.heap.size,1,none⟩=some (.string (aM (tx l k)))∧w'.cell? ⟨w1.heap.size,2,none⟩=some (.int .i64 (pl l en k)))
   (first | go_keep|(go_split_ands;refine⟨?_,?_,?_⟩ <;> assumption))
   (first
    | (go_at_call 238;refine (C m (aaJ _) (.lv .not) rfl _ (k+1) _ _ _ gM.out.ps.drew (by omega) (by rw [gM.out.len];omega) (by rw [gM.out.ns];exact HW0.out) (by rw [gM.out.ns];exact Js.out)).mono ?_;rintro e w4⟨rfl,j5,yH,vM⟩;have fq:=hid (gM.out.drew.trans vM);have uU:=vM.blk gM.out.ps.drew iG.out.drew (by decide) (by decide);have wV:=uU.cell 0;have wW:=uU.cell 1;have wX:=uU.cell 2;have Xx:=uU.lt;have Gc:=hid uU;clear uU;have hz4:=fq.out.mv.size;clear vM)
    | (go_at_call 204;refine (gB g tv l en iv MG.length 5 _ _ _ [] 0 _ [hd ks4] _ k4 _ _ (fq.out.ps.alloc _) (rH w4 (hd ks4)) fq.out.len (by omega)).mono ?_;rintro e w5⟨rfl,Fu,p5,m5⟩;have BQ:=m5.blk (Gc.out.alloc _) (fq.out.ps.tag Gc.out (by decide) (by decide)).1 (fq.out.ps.tag Gc.out (by decide) (by decide)).2;have wY:=BQ.cell 0;have wZ:=BQ.cell 1;have w_:=BQ.cell 2;clear BQ;have jX:=hid ((At.alloc fq.out _).add p5 m5 (by intro b hb;simp [Value.ownBlock] at hb;omega));clear p5 m5))
  all_goals
   obtain rfl:=dV HR4.out;go_wp2_with fail;go_ret;exact aR.ok rfl jX.out
 ·skip;have HE2:=hid he2;clear he2;have HR2:=hid hr2;clear hr2;go_wp2_with fail;refine (kN g tv l en iv hF [110,111,116] (.inl (by decide +kernel)) _ k _ _ aZ.out.ps (by omega) HE2.out).mono ?_;rintro e w6⟨rfl,hb6⟩;have n_:=hid (og.out.below hb6 og.out.lt);clear og;have ow:=hid (aZ.out.below hb6);clear aZ;clear hb6;have HX:=hid HR2.out;go_wp2_with fail;have HQ:=hid (C m (aaJ _) (.lv .cmp) rfl _ k _ _ r ow.out.ps (by omega) (by rw [ow.out.len];omega) (by rw [ow.out.ns];exact HW0.out) (by rw [ow.out.ns];exact HX.out))
  cases r with
  | bad kb =>
   refine HQ.out.mono ?_;rintro e wq⟨rfl,hbq⟩;unfold aI;go_wp2_with fail;exact⟨rfl,aR.bad rfl ((H.out.low ow.out.mv).trans hbq)⟩
  | ok ksq kq nsq =>
   refine HQ.out.mono ?_;rintro e wq⟨rfl,extq,nvq,haq⟩;have HAQ:=hid (ow.out.trans haq);clear haq;go_wp2_with fail;go_ret;exact aR.ok rfl HAQ.out
end
section
variable {g:Nat} {tv:Value} {l:List Tok} {en:Int} {iv:Value} (hF:PF l)
include hF
theorem Sy (m:Nat)(C:∀ f,f≤m→∀ j,isFn j=true→IC g tv l en iv f j)(CL:∀ f,f≤m→∀ e,LC g tv l en iv f e):IC g tv l en iv (m+1) (.lv .unary):=by
 intro w k xs nv r h hk hn hw hr;have H:=hid h;clear h;have uD:=hid (At.refl H.out);have HW0:=hid hw;clear hw;have hn0:(aA xs).length≤k:=by rw [aD];exact hn
 have hlen:=hF.len;rw [run] at hr
 unfold t_;go_enter Tryz.func256,Tryz.ntmps256
 have qm:=hid hr;clear hr;go_wp2_with fail;refine (h_ g tv l en iv _ k _ _ uD.out.ps (by omega) hlen).mono ?_;rintro e w1⟨rfl,hb1⟩;have HA1:=hid (uD.out.below hb1);skip;clear hb1;have og:=hid (aC.new w1 68 #[.int .u8 (tg l k).kind,.string (aM (tx l k)),.int .i64 (pl l en k)]);have aZ:=hid (HA1.out.alloc (.cells #[.int .u8 (tg l k).kind,.string (aM (tx l k)),.int .i64 (pl l en k)] 68));clear HA1;rcases gG qm.out with ⟨he2,hr2⟩ | ⟨he2,hr2⟩
 ·skip;have hlt2:=aP he2 (by simp);have HE2:=hid he2;clear he2;have HR2:=hid hr2;clear hr2;go_wp2_with fail;refine (jg g tv l en iv hF [45] (.inr (by decide +kernel)) _ k _ _ aZ.out.ps (by omega) HE2.out).mono ?_;rintro e w3⟨rfl,p3,m3⟩;have iG:=hid (aZ.out.ps.aU m3 og.out);clear og;have gM:=hid (aZ.out.step p3 m3);clear aZ;clear p3 m3;rcases dW HR2.out with ⟨ks4,k4,MG,hx4,hr4⟩ | ⟨kb4,hx4,rfl⟩
  rotate_left
  ·have Js:=hid hx4;clear hx4;have fH:=iG.out.cell 0;have fQ:=iG.out.cell 1;have fT:=iG.out.cell 2;have sl0:=iG.out.lt;go_wp2_with fail;refine wp_region_held_drew (S:=fun w'=>w'.cell? ⟨w1.heap.size,0,none⟩=some (.int .u8 (tg l k).kind)∧w'.cell? ⟨w1.heap.size,1,none⟩=some (.string (aM (tx l k)))∧w'.cell? ⟨w1.heap.size,2,none⟩=some (.int .i64 (pl l en k))) (by kernel_rfl) ⟨fH,fQ,fT⟩ (fun hHeld=>?_);refine bf 0 rfl hHeld ?_;simp only [Act.put,aaA,aaB,aaC];refine bf 1 rfl hHeld ?_;simp only [Act.put,aaA,aaB,aaC];refine bf 2 rfl hHeld ?_;simp only [Act.put,aaA,aaB,aaC];refine wpAnyH_ready (rs:=[3]) (by kernel_rfl) (by simp) ?_;refine fJ (.s (.s (.s .z))) (fun K hK=>?_);go_simp;refine (C m (aaJ _) (.lv .unary) rfl _ (k+1) _ _ _ gM.out.ps.drew (by omega) (by rw [gM.out.len];omega) (by rw [gM.out.ns];exact HW0.out) (by rw [gM.out.ns];exact Js.out)).mono ?_;rintro e w4⟨rfl,hb4⟩;unfold aI;go_wp2_with fail;exact⟨rfl,aR.bad rfl ((Below.drew (H.out.low gM.out.mv)).trans hb4)⟩
  have Js:=hid hx4;clear hx4;have HR4:=hid hr4;clear hr4 HR2;have Jm:=hid (aW Js.out (by omega) HW0.out (Ids.nil _) (by simp));have gl4:=Jm.out.lo;have gf4:=Jm.out.few;have ge4:=Jm.out.le;have gn4:=Jm.out.len;simp only [Job.reads] at gl4
  have fH:=iG.out.cell 0;have fQ:=iG.out.cell 1;have fT:=iG.out.cell 2;have sl0:=iG.out.lt;go_wp2_with fail
  go_region_held3 (fun w'=>w'.cell? ⟨w1.heap.size,0,none⟩=some (.int .u8 (tg l k).kind)∧w'.cell? ⟨w1.heap.size,1,none⟩=some (.string (aM (tx l k)))∧w'.cell? ⟨w1.heap.size,2,none⟩=some (.int .i64 (pl l en k)))
   (first | go_keep|(go_split_ands;refine⟨?_,?_,?_⟩ <;> assumption))
   (first
    | (go_at_call 256;refine (C m (aaJ _) (.lv .unary) rfl _ (k+1) _ _ _ gM.out.ps.drew (by omega) (by rw [gM.out.len];omega) (by rw [gM.out.ns];exact HW0.out) (by rw [gM.out.ns];exact Js.out)).mono ?_;rintro e w4⟨rfl,j5,yH,vM⟩;have fq:=hid (gM.out.drew.trans vM);have uU:=vM.blk gM.out.ps.drew iG.out.drew (by decide) (by decide);have wV:=uU.cell 0;have wW:=uU.cell 1;have wX:=uU.cell 2;have Xx:=uU.lt;have Gc:=hid uU;clear uU;have hz4:=fq.out.mv.size;clear vM)
    | (go_at_call 204;refine (gB g tv l en iv MG.length 4 _ _ _ [] 0 _ [hd ks4] _ k4 _ _ (fq.out.ps.alloc _) (rH w4 (hd ks4)) fq.out.len (by omega)).mono ?_;rintro e w5⟨rfl,Fu,p5,m5⟩;have BQ:=m5.blk (Gc.out.alloc _) (fq.out.ps.tag Gc.out (by decide) (by decide)).1 (fq.out.ps.tag Gc.out (by decide) (by decide)).2;have wY:=BQ.cell 0;have wZ:=BQ.cell 1;have w_:=BQ.cell 2;clear BQ;have jX:=hid ((At.alloc fq.out _).add p5 m5 (by intro b hb;simp [Value.ownBlock] at hb;omega));clear p5 m5))
  all_goals
   obtain rfl:=dV HR4.out;go_wp2_with fail;go_ret;exact aR.ok rfl jX.out
 ·skip;have HE2:=hid he2;clear he2;have HR2:=hid hr2;clear hr2;go_wp2_with fail;refine (kN g tv l en iv hF [45] (.inr (by decide +kernel)) _ k _ _ aZ.out.ps (by omega) HE2.out).mono ?_;rintro e w6⟨rfl,hb6⟩;have n_:=hid (og.out.below hb6 og.out.lt);clear og;have ow:=hid (aZ.out.below hb6);clear aZ;clear hb6;have HX:=hid HR2.out;go_wp2_with fail;have HQ:=hid (C m (aaJ _) .post rfl _ k _ _ r ow.out.ps (by omega) (by rw [ow.out.len];omega) (by rw [ow.out.ns];exact HW0.out) (by rw [ow.out.ns];exact HX.out))
  cases r with
  | bad kb =>
   refine HQ.out.mono ?_;rintro e wq⟨rfl,hbq⟩;unfold aI;go_wp2_with fail;exact⟨rfl,aR.bad rfl ((H.out.low ow.out.mv).trans hbq)⟩
  | ok ksq kq nsq =>
   refine HQ.out.mono ?_;rintro e wq⟨rfl,extq,nvq,haq⟩;have HAQ:=hid (ow.out.trans haq);clear haq;go_wp2_with fail;go_ret;exact aR.ok rfl HAQ.out
end
end Go.Proofs.YthepmkjggfijoaaGreatDoor
