/-
  A part of the proof.
-/
import Derived.Laws.EntriesVeiled
import Derived.Test.YtalghggmkojblaaGreatDoorS28
set_option linter.all false
set_option maxRecDepth 100000
set_option maxHeartbeats 4000000
set_option linter.all false
namespace Mist
def jA (out:List (List Pz))(c:Pz):List (List Pz):=if c.blank=true∨out=[] then out ++ [[c]] else out.dropLast ++ [out.getLastD [] ++ [c]]
def eZ (l:List Pz):List (List Pz):=l.foldl jA []
def gP (l:List Pz):Bs:=Go.Lib.trimPrefix (dX l) [32]
theorem PU (out:List (List Pz))(c:Pz):(jA out c).length≤out.length+1:=by
 unfold jA;split <;> simp
theorem oF (l:List Pz)(c:Pz):eZ (l ++ [c])=jA (eZ l) c:=by unfold eZ;rw [List.foldl_append];rfl
theorem DR (l:List Pz):(eZ l).length≤l.length:=by
 have:∀ (n:Nat) (l:List Pz),l.length=n→(eZ l).length≤n:=by
  intro n
  induction n with
  | zero=>intro l h;rw [List.length_eq_zero_iff.1 h];exact amL _
  | succ n d =>
   intro l h;have b:l ≠ []:=fun e=>by rw [e] at h;cases h
   obtain⟨a,x,e⟩:∃ a x,l=a ++ [x]:=⟨l.dropLast,l.getLast b,(List.dropLast_concat_getLast b).symm⟩;subst e;rw [oF];have h1:=PU (eZ a) x;have h2:=d a (by simp at h;exact h);omega
 exact this _ l rfl
theorem PV {out:List (List Pz)}{c:Pz}{n:Nat}{Q:Pz→Prop}(h:∀ r ∈ out,r.length≤n∧∀ p ∈ r,Q p)(g:Q c):∀ r ∈ jA out c,r.length≤n+1∧∀ p ∈ r,Q p:=by
 intro r b;unfold jA at b
 split at b
 ·rcases List.mem_append.1 b with b | b
  ·exact⟨by have:=(h r b).1;omega,(h r b).2⟩
  ·rw [List.mem_singleton.1 b];exact⟨by simp,fun p d=>by rw [List.mem_singleton.1 d];exact g⟩
 ·rename_i j
  have f:out ≠ []:=fun e=>j (.inr e)
  have i:out.getLastD [] ∈ out:=by
   have e:out.getLastD []=out.getLast f:=by
    cases out with
    | nil=>exact absurd rfl f
    | cons a l=>rfl
   rw [e];exact List.getLast_mem f
  rcases List.mem_append.1 b with b | b
  ·have:=h r (List.dropLast_subset _ b)
   exact⟨by omega,this.2⟩
  ·rw [List.mem_singleton.1 b];have h2:=h _ i
   refine⟨by rw [amQ,amV];omega,fun p d=>?_⟩
   rcases List.mem_append.1 d with d | d
   ·exact h2.2 p d
   ·rw [List.mem_singleton.1 d];exact g
theorem J_ {Q:Pz→Prop}:∀ (n:Nat) (l:List Pz),l.length=n→(∀ p ∈ l,Q p)→∀ r ∈ eZ l,r.length≤n∧∀ p ∈ r,Q p:=by
 intro n
 induction n with
 | zero=>intro l h _ r d;rw [List.length_eq_zero_iff.1 h] at d;cases d
 | succ n g =>
  intro l h hQ;have b:l ≠ []:=fun e=>by rw [e] at h;cases h
  obtain⟨a,x,e⟩:∃ a x,l=a ++ [x]:=⟨l.dropLast,l.getLast b,(List.dropLast_concat_getLast b).symm⟩;subst e;rw [oF];exact PV (g a (by simp at h;exact h) fun p f=>hQ p (List.mem_append_left _ f)) (hQ x (by simp))
end Mist
namespace Go.Proofs.YtalghggmkojblaaGreatDoor
section
open Go.RowKit Mist
attribute [local go_sem] ak aN aV aF aj
theorem wT {W:World}{v:Value}{l:List Pz}(h:xB W v l)(d:Sh l)(j:l.length≤100000) :
  Calls Tryz.prog 22 #[v] W fun e i=>e=.returned (.string (aG (gP l)))∧Below W.heap.size W i:=by
 obtain⟨A,c,rfl,a⟩:=h.form;have g:=O (Um A c l W a (by omega) (by have:=tT d;omega))
 generalize l.length=m at *
 clear h a d;go_in
 go_wp2_with fail;refine g.o.mono ?_;rintro e w2⟨rfl,b⟩;have f:=O b;clear b;go_wp2_with fail;refine (Tryz.strings_TrimPrefix (aG (dX l)) (aG [32]) w2).mono ?_;rintro e k⟨rfl,rfl⟩;go_wp2_with fail;go_ret;exact⟨rfl,f.o⟩
theorem Ym {W:World}{v:Value}{l:List Pz}(h:xB W v l)(b:Sh l)(j:l.length≤100000) :
  Calls Tryz.prog 19 #[v] W fun e g=>e=.returned (.int .i64 ((gP l).length:Nat))∧Below W.heap.size W g:=by
 have f:=O (wT h b j);obtain⟨A,c,rfl,i⟩:=h.form
 generalize l.length=m at *
 clear h i b;go_in
 go_wp2_with fail;refine f.o.mono ?_;rintro e w2⟨rfl,a⟩;have d:=O a;clear a;go_wp2_with fail;go_ret;exact⟨rfl,d.o⟩
structure RI (W:World) (B:Nat) (v:Value) (ls:List (List Pz)) (vs:List Value):Prop where
 own:W.ownsRow B 62 1 v ls.length vs
 len:vs.length=ls.length
 row:∀ (k:Nat) (l:List Pz),ls[k]? = some l→∃ u,vs[k]? = some u∧W.ownsRow B 107 3 u l.length (gW l)
 ne:∀ (k:Nat) (u z:Value),k+1 < ls.length→vs[k]? = some u→vs[ls.length - 1]? = some z→∀ b,u.ownBlock=some b→z.ownBlock ≠ some b
section
variable {W w2:World} {B:Nat} {v v2 u u2:Value} {ls:List (List Pz)} {vs:List Value} {l:List Pz} {c:Pz}
theorem RI.below (h:RI W B v ls vs)(d:Below W.heap.size W w2):RI w2 B v ls vs :=
 ⟨own_below h.own d,h.len,fun k l e=>by obtain⟨u,a,b⟩:=h.row k l e;exact⟨u,a,own_below b d⟩,h.ne⟩
theorem RI.new (h:RI W B v ls vs)(j:W.grownBy w2 v.ownBlock)(m:w2.ownsRow B 62 1 v2 (ls.length+1) (vs ++ [.slice none 0 0])):RI w2 B v2 (ls ++ [[]]) (vs ++ [.slice none 0 0]):=by
 refine⟨by rw [amQ];exact m,by simp [h.len],fun k i e=>?_,fun k u z d r f b q=>?_⟩
 ·rcases Nat.lt_or_ge k ls.length with d | d
  ·rw [List.getElem?_append_left d] at e
   obtain⟨n,a,b⟩:=h.row k i e;exact⟨n,by rw [List.getElem?_append_left (by rw [h.len];exact d)];exact a,b.kept j (eB b h.own (by decide))⟩
  ·have g:k=ls.length:=by
    have:=(amG.1 e).1
    simp at this;omega
   subst g;rw [List.getElem?_append_right (amL _),Nat.sub_self] at e
   have e:[]=i:=by simpa using e
   subst e;exact⟨.slice none 0 0,by rw [List.getElem?_append_right (by rw [h.len];omega),h.len,Nat.sub_self];rfl,World.ownsRow_nil _ _ _ _⟩
 ·rw [amQ,amV,Nat.add_sub_cancel,List.getElem?_append_right (by rw [h.len];omega),h.len,Nat.sub_self] at f
  have f:Value.slice none 0 0=z:=by simpa using f
  subst f;simp [Value.ownBlock]
theorem RI.last {w cap:Nat}(h:RI W B (.slice (some ⟨w,0,none⟩) (ls.length+1) cap) (ls ++ [l]) (vs ++ [u]))(q:vs.length=ls.length)(H:W.grownBy w2 u.ownBlock)(J:w2.ownsRow B 107 3 u2 (l.length+1) (gW l ++ iN c))(x:u2.ownBlock=u.ownBlock∨∀ b,u2.ownBlock=some b→W.heap.size≤b) :
  RI (w2.setCell ⟨w,ls.length,none⟩ u2) B (.slice (some ⟨w,0,none⟩) (ls.length+1) cap) (ls ++ [l ++ [c]]) (vs ++ [u2]):=by
 have i:(vs ++ [u])[ls.length]? = some u:=by rw [List.getElem?_append_right (by omega),q,Nat.sub_self];rfl
 obtain⟨L,t,K⟩:=h.row ls.length l (by rw [List.getElem?_append_right (amL _),Nat.sub_self];rfl);rw [i] at t
 injection t with t
 subst t;have d:=h.own;rw [amQ,amV] at d
 have f:=d.kept H (eB d K (by decide));have D:=f.stored ls.length u2;have r:(vs ++ [u]).set ls.length u2=vs ++ [u2]:=by rw [← q,List.set_append_right _ _ (amL _),Nat.sub_self];rfl
 have m:∀ {z:Value} {k:Nat} {xs:List Value},w2.ownsRow B 107 3 z k xs→(w2.setCell ⟨w,ls.length,none⟩ u2).ownsRow B 107 3 z k xs:=fun g =>
  ownsRow_setCell_other g (by
   rcases eB g f (by decide) with e | e
   ·rw [e];simp
   ·exact e) _
 refine⟨?_,by simp [q],fun k j e=>?_,fun k z y n g hy b G=>?_⟩
 ·rw [amQ,amV]
  have:=D.1
  rw [r] at this
  exact this
 ·rcases Nat.lt_or_ge k ls.length with n | n
  ·rw [List.getElem?_append_left n] at e
   obtain⟨z,a,g⟩:=h.row k j (by rw [List.getElem?_append_left n];exact e);rw [List.getElem?_append_left (by omega)] at a
   refine⟨z,by rw [List.getElem?_append_left (by omega)];exact a,m (g.kept H ?_)⟩
   rcases F:z.ownBlock with _ | b
   ·exact .inl rfl
   ·exact .inr (Ne.symm (h.ne k z u (by simp;omega) (by rw [List.getElem?_append_left (by omega)];exact a) (by rw [amQ,amV,Nat.add_sub_cancel];exact i) b F))
  ·have A:k=ls.length:=by
    have:=(amG.1 e).1
    simp at this;omega
   subst A;rw [List.getElem?_append_right (amL _),Nat.sub_self] at e
   have e:l ++ [c]=j:=by simpa using e
   subst e;exact⟨u2,by rw [List.getElem?_append_right (by omega),q,Nat.sub_self];rfl,m (by rw [amQ,amV,He];exact J)⟩
 ·rw [amQ,amV] at n
  rw [amQ,amV,Nat.add_sub_cancel,List.getElem?_append_right (by omega),q,Nat.sub_self] at hy
  have hy:u2=y:=by simpa using hy
  subst hy;rw [List.getElem?_append_left (by omega)] at g
  rcases x with e | e
  ·rw [e];exact h.ne k z u (by simp;omega) (by rw [List.getElem?_append_left (by omega)];exact g) (by rw [amQ,amV,Nat.add_sub_cancel];exact i) b G
  ·intro I;have h1:=e b I;obtain⟨j,C⟩:∃ j,(ls ++ [l])[k]? = some j:=⟨_,amF (by simp;omega)⟩;obtain⟨M,a,E⟩:=h.row k j C;rw [List.getElem?_append_left (by omega),g] at a
   injection a with a
   subst a
   have:=(World.ownsRow.lt E b G).2
   omega
end
theorem RI.drew {W:World}{B:Nat}{v:Value}{ls:List (List Pz)}{vs:List Value}(h:RI W B v ls vs):RI W.drew B v ls vs:=⟨h.own,h.len,h.row,h.ne⟩
theorem acN:(Tryz.prog.info? 62).map (fun i=>(i.zero,i.size,i.bytes))=some (some (.slice none 0 0),1,24):=by kernel_rfl
theorem ag6 {W:World}{A:Option Addr}{c n:Nat}{l:List Pz}(h:Wo W A l)(hn:l.length=n)(hl:n≤100000) :
  Calls Tryz.prog 18 #[.slice A n c] W fun e W'=>∃ v,e=.returned v∧(∃ vs,RI W' W.heap.size v (eZ l) vs)∧Below W.heap.size W W':=by
 obtain⟨i0,hi0,hz0,hz1,hz2⟩:=info_parts acN;obtain⟨i1,hi1,hy0,hy1,hy2⟩:=info_parts yJ;have HP:=O h;have HN:=O hn;clear h hn;go_in
 go_wp2_with fail;go_loopw [2,4,5,8] (fun v2 _ _ iv8 wr=>∃ (k:Nat) (vs:List Value),k≤n∧iv8=.int .i64 k∧Hid (RI wr W.heap.size v2 (eZ (l.take k)) vs)∧Hid (Below W.heap.size W wr)) (fun _ _ _ iv8 _=>n - (intOf iv8).toNat)
 case atStart=>exact⟨0,[],amN _,rfl,O ⟨World.ownsRow_nil _ _ _ _,rfl,fun k l e=>by simp [eZ] at e,fun k u z hk=>by simp [eZ] at hk⟩,O (Below.refl _ _)⟩
 case round =>
  obtain⟨k,vs,hkm,rfl,HR,HB⟩:=hrel;by_cases hlt:k < n
  ·obtain⟨p,hp⟩:∃ p,l[k]? = some p:=⟨_,amF (by rw [HN.o];exact hlt)⟩;obtain⟨b,o,hA,hbl,hc⟩:=(HP.o.below HB.o).at_ (by rw [HN.o];omega);subst hA;obtain⟨q0,q1,q2⟩:=hc k p hp;have htk:l.take (k+1)=l.take k ++ [p]:=by rw [List.take_succ,hp];rfl
   have Z0:=O (show eZ (l.take (k+1))=jA (eZ (l.take k)) p from by rw [htk,oF]);obtain⟨rs,hrs⟩:∃ rs,rs=eZ (l.take k):=⟨_,rfl⟩;rw [← hrs] at Z0 HR
   have hrl:rs.length≤k:=by have:=DR (l.take k);rw [← hrs,List.length_take] at this;omega
   have hrm:∀ r ∈ rs,r.length≤k:=by rw [hrs];intro r hr;have:=(J_ (Q:=fun _=>True) _ _ rfl (fun _ _=>trivial) r hr).1;rw [List.length_take] at this;omega
   clear htk hc hp hrs;obtain⟨t,bl,nd⟩:=p;simp only at q0 q1 q2
   have y0:(0:Int)≤(k:Int):=by omega
   have y1:(k:Int) < (n:Int):=by omega
   have hsz:=HB.o.size;obtain⟨Av,cv,rfl⟩:=dA HR.o.own;have M:=O (bY.new wr 107 #[.string (aG t),.bool bl,.int .i64 nd]);have V:=O (HR.o.below ((Below.refl _ _).alloc (amL _) (.cells #[.string (aG t),.bool bl,.int .i64 nd] 107)));have Ku:=O (HB.o.alloc hsz (.cells #[.string (aG t),.bool bl,.int .i64 nd] 107));cases bl
   ·by_cases Y:rs=[]
    ·have HTN:=O (show jA rs ⟨t,false,nd⟩=rs ++ [[] ++ [⟨t,false,nd⟩]] from by unfold jA;rw [if_pos (.inr Y)];rfl);obtain⟨g,w⟩:∃ r,r=rs.length:=⟨_,rfl⟩;rw [← w];have H:=O w;have hrb:g≤100000:=by rw [w];omega
     have hze:((g:Int) == 0)=true:=by rw [w,Y];rfl
     clear w;go_upto_region 4 with (fail)
     generalize wr.alloc (.cells #[.string (aG t),.bool false,.int .i64 nd] 107)=w2 at M V Ku ⊢
     have d0:=M.o.cell 0;have d1:=M.o.cell 1;have d2:=M.o.cell 2;have hs2:=Ku.o.size;have HO:=O (show w2.ownsRow W.heap.size 62 1 (.slice Av g cv) g vs from by have:=V.o.own;rw [← H.o] at this;exact this);clear q0 q1 q2
     go_upto_region 6 with (at_builtin;go_loud (
      refine wpList_append_own _ rfl (.tmp 19) (.tmp 20) 60 rfl W.heap.size 62 i0 _ 1 24 Tryz.underlying60 hi0 hz0 hz1 hz2 rfl (by decide) _ g vs rfl (HO.o.alloc _) ⟨w2.heap.size,0,none⟩ 1 1 [.slice none 0 0] rfl rfl (iK w2 [.slice none 0 0] _) (fun v hv=>by rw [List.mem_singleton.1 hv];rfl) (by simp only [maxLen];omega) (by omega) (by simp;omega) ?_;intro v3 i f K _))
     obtain⟨A3,c3,rfl⟩:=dA f;obtain⟨U,ahF,hv3,R⟩:=f.form (by omega);injection hv3 with abj abk abl
     subst abj;subst abl;clear abk;have hgp:=R.2;have aa_:=R.1;have hz1':(w2.alloc (.cells #[.slice none 0 0] 62)).heap.size≤i.heap.size:=K.size;have hz2':wr.heap.size < w2.heap.size:=M.o.lt;have aiv:w2.heap.size < i.heap.size:=by simp at hz1';omega
     have E:=O (show RI i W.heap.size (.slice (some ⟨U,0,none⟩) (g+1) c3) (rs ++ [[]]) (vs ++ [.slice none 0 0]) from (V.o.below ((Below.refl _ _).alloc (amL _) (.cells #[.slice none 0 0] 62))).new (by rw [← H.o];exact K) (by rw [← H.o];exact f));have fU:=O ((M.o.alloc (.cells #[.slice none 0 0] 62)).grown K (fun e=>aW (HO.o.alloc (.cells #[.slice none 0 0] 62)) (M.o.alloc (.cells #[.slice none 0 0] 62)) (by decide) e.symm));have D:=O ((Ku.o.alloc hs2 (.cells #[.slice none 0 0] 62)).grown K (by simp;omega) (fun z L=>(HO.o.lt z L).1));have J:=O (show vs.length=rs.length from by rw [V.o.len]);have N:i.ownsRow W.heap.size 107 3 (.slice none 0 0) 0 (gW []):=World.ownsRow_nil _ _ _ _
     have s1:i.cell? ⟨U,g,none⟩=some (.slice none 0 0):=by
      rw [f.cellAt g (by omega),List.getElem?_append_right (by rw [J.o,← H.o];omega),J.o,← H.o,Nat.sub_self];rfl
     have Wh:=O (show (0:Nat)=([]:List Pz).length from rfl);have e0:=fU.o.cell 0;have e1:=fU.o.cell 1;have e2:=fU.o.cell 2;have tb1:wr.heap.size < i.heap.size:=by omega
     have hs3:=D.o.size;have ZU:=O (show i.ownsRow W.heap.size 62 1 (.slice (some ⟨U,0,none⟩) (g+1) c3) (g+1) (vs ++ [(Value.slice none 0 0)]) from by have:=E.o.own;rw [amQ,amV,← H.o] at this;exact this)
     have Ev:=O fun (T:World) (u2:Value) (hg:((i.alloc (.cells #[.string (aG t),.bool false,.int .i64 nd] 107)).drew).grownBy T ((Value.slice none 0 0)).ownBlock) (ho:T.ownsRow W.heap.size 107 3 u2 (0+1) (gW [] ++ iN ⟨t,false,nd⟩)) (j:u2.ownBlock=((Value.slice none 0 0)).ownBlock∨∀ b,u2.ownBlock=some b→((i.alloc (.cells #[.string (aG t),.bool false,.int .i64 nd] 107)).drew).heap.size≤b) =>
      RI.last (ls:=rs) (l:=[]) (vs:=vs) (u:=(Value.slice none 0 0)) (c:=⟨t,false,nd⟩) (by rw [← H.o];exact (E.o.below ((Below.refl _ _).alloc (amL _) (.cells #[.string (aG t),.bool false,.int .i64 nd] 107))).drew) J.o hg (by rw [Wh.o] at ho;exact ho) j
     have HLI:=O (show (vs ++ [(Value.slice none 0 0)])[g]? = some ((Value.slice none 0 0)) from by rw [List.getElem?_append_right (by rw [J.o,← H.o];omega),J.o,← H.o,Nat.sub_self];rfl);have X:=O N;obtain⟨P,F⟩:∃ P,P=g+1:=⟨_,rfl⟩;rw [← F];have hws:wrap64 ((P:Int) - 1)=(g:Int):=by unfold wrap64;omega
     have hwt:IntKind.i64.wrap ((P:Int) - 1)=(g:Int):=by rw [IntWalk.i64_in _ (by omega)];omega
     have hi7:(g:Int) < (P:Int):=by omega
     have ah7:(0:Int)≤(g:Int):=by omega
     have HM1:=O F;clear F;clear N;go_wp2_with fail;go_region_law ((refine step_append_lies _ (by rfl) _ _ _ (by rfl) W.heap.size 107 i1 _ 3 32 Tryz.underlying62 hi1 hy0 hy1 hy2 rfl (by omega) _ 0 (gW []) (by rfl) ((X.o.alloc _).drew) ⟨i.heap.size,0,none⟩ 1 1 (iN ⟨t,false,nd⟩) (by rfl) (by rfl) (World.news_of_block (cs:=#[.string (aG t),.bool false,.int .i64 nd]) (t:=107) (fr:=(0,0)) (heap_alloc_new i _)) (oQ _) (by omega) (by simp only [maxLen];omega) (by omega) (by simp;omega) (i.heap.size+1) (by simp) ?_;intro gg C T D8 d j S;have kk:=((ZU.o.alloc (.cells #[.string (aG t),.bool false,.int .i64 nd] 107)).drew).kept d (eB ((ZU.o.alloc (.cells #[.string (aG t),.bool false,.int .i64 nd] 107)).drew) ((X.o.alloc (.cells #[.string (aG t),.bool false,.int .i64 nd] 107)).drew) (by decide));have s4:T.cell? ⟨U,g,none⟩=some ((Value.slice none 0 0)):=(kk.cellAt g (by omega)).trans HLI.o;have f4:=kk.frozenAt g;clear kk))
     all_goals
      have G:=Ev.o T (.slice (some ⟨gg,0,none⟩) (0+1) C) d D8 (by
       rcases j with e | e
       ·left;exact e.symm
       ·right
        intro z L;have L:gg=z:=by simpa [Value.ownBlock] using L
        simp
        omega)
      have e4:eZ (l.take (k+1))=rs ++ [[] ++ [⟨t,false,nd⟩]]:=by rw [Z0.o,HTN.o]
      rw [← e4,← H.o,← HM1.o] at G
      have HR4:=O G;have Cz:=O ((((D.o.alloc hs3 (.cells #[.string (aG t),.bool false,.int .i64 nd] 107)).drew).grown d (by simp;omega) (fun z L=>(X.o.lt z L).1)).setCell (p:=⟨U,g,none⟩) aa_ (.slice (some ⟨gg,0,none⟩) (0+1) C));clear G e4 j d D8 S s4 f4 Ev X ZU D E;go_wp2_with fail;exact⟨⟨k+1,_,by omega,by go_num,HR4,Cz⟩,by simp [intOf];omega⟩
    ·obtain⟨y,Z,rfl⟩:∃ a x,rs=a ++ [x]:=⟨rs.dropLast,rs.getLast Y,(List.dropLast_concat_getLast Y).symm⟩;have HTN:=O (show jA (y ++ [Z]) ⟨t,false,nd⟩=y ++ [Z ++ [⟨t,false,nd⟩]] from by unfold jA;rw [if_neg (by simp)];simp);have hvl:=HR.o.len
     obtain⟨us,uu,rfl⟩:∃ a x,vs=a ++ [x]:=by
      have hv0:vs ≠ []:=fun e=>by rw [e] at hvl;simp at hvl
      exact⟨vs.dropLast,vs.getLast hv0,(List.dropLast_concat_getLast hv0).symm⟩
     have hul:us.length=y.length:=by simpa using hvl
     have J:=O hul;obtain⟨lu,Oo,Sn⟩:=HR.o.row y.length Z (by rw [List.getElem?_append_right (amL _),Nat.sub_self];rfl)
     have aj6:uu=lu:=by
      rw [List.getElem?_append_right (by omega),hul,Nat.sub_self] at Oo
      simpa using Oo
     subst aj6;obtain⟨Au,cu,rfl⟩:=dA Sn;obtain⟨I,hmm⟩:∃ m,m=y.length:=⟨_,rfl⟩;obtain⟨q,hq⟩:∃ q,q=Z.length:=⟨_,rfl⟩;have xu:=O hmm;have Wh:=O hq;have w:(y ++ [Z]).length=I+1:=by simp [hmm]
     have hrb:I≤100000:=by rw [w] at hrl;omega
     rw [w] at HR V ⊢
     rw [← hq] at HR V Sn
     have hze:(((I+1:Nat):Int) == 0)=false:=by simp;omega
     have al_:((I:Int)+1 == 0)=false:=by simp;omega
     have HLU:=O Sn;have hqb:q≤100000:=by rw [hq];have:=hrm Z (by simp);omega
     clear hvl hul Oo Sn hmm hq w;go_upto_region 4 with (fail)
     generalize wr.alloc (.cells #[.string (aG t),.bool false,.int .i64 nd] 107)=i at M V Ku ⊢
     have hs2:=Ku.o.size;have f:i.ownsRow W.heap.size 62 1 (.slice Av (I+1) cv) (I+1) (us ++ [.slice Au q cu]):=by have:=V.o.own;rw [amQ,amV,← xu.o] at this;exact this
     obtain⟨U,ahF,hv3,R⟩:=f.form (by omega);injection hv3 with abj abk abl
     subst abj;subst abl;clear abk;have hgp:=R.2;have aa_:=R.1;have aiv:wr.heap.size < i.heap.size:=M.o.lt;have E:=V;have fU:=M;have D:=Ku
     have N:i.ownsRow W.heap.size 107 3 (.slice Au q cu) q (gW Z):=by
      obtain⟨lu,Oo,Sn⟩:=V.o.row y.length Z (by rw [List.getElem?_append_right (amL _),Nat.sub_self];rfl);rw [List.getElem?_append_right (by rw [J.o];omega),J.o,Nat.sub_self] at Oo
      have Oo:Value.slice Au q cu=lu:=by simpa using Oo
      subst Oo;rw [← Wh.o] at Sn
      exact Sn
     have s1:i.cell? ⟨U,I,none⟩=some (.slice Au q cu):=by
      rw [f.cellAt I (by omega),List.getElem?_append_right (by rw [J.o,← xu.o];omega),J.o,← xu.o,Nat.sub_self];rfl
     clear q0 q1 q2;have e0:=fU.o.cell 0;have e1:=fU.o.cell 1;have e2:=fU.o.cell 2;have tb1:wr.heap.size < i.heap.size:=by omega
     have hs3:=D.o.size;have ZU:=O (show i.ownsRow W.heap.size 62 1 (.slice (some ⟨U,0,none⟩) (I+1) cv) (I+1) (us ++ [(Value.slice Au q cu)]) from by have:=E.o.own;rw [amQ,amV,← xu.o] at this;exact this)
     have Ev:=O fun (T:World) (u2:Value) (hg:((i.alloc (.cells #[.string (aG t),.bool false,.int .i64 nd] 107)).drew).grownBy T ((Value.slice Au q cu)).ownBlock) (ho:T.ownsRow W.heap.size 107 3 u2 (q+1) (gW Z ++ iN ⟨t,false,nd⟩)) (j:u2.ownBlock=((Value.slice Au q cu)).ownBlock∨∀ b,u2.ownBlock=some b→((i.alloc (.cells #[.string (aG t),.bool false,.int .i64 nd] 107)).drew).heap.size≤b) =>
      RI.last (ls:=y) (l:=Z) (vs:=us) (u:=(Value.slice Au q cu)) (c:=⟨t,false,nd⟩) (by rw [← xu.o];exact (E.o.below ((Below.refl _ _).alloc (amL _) (.cells #[.string (aG t),.bool false,.int .i64 nd] 107))).drew) J.o hg (by rw [Wh.o] at ho;exact ho) j
     have HLI:=O (show (us ++ [(Value.slice Au q cu)])[I]? = some ((Value.slice Au q cu)) from by rw [List.getElem?_append_right (by rw [J.o,← xu.o];omega),J.o,← xu.o,Nat.sub_self];rfl);have X:=O N;obtain⟨P,F⟩:∃ P,P=I+1:=⟨_,rfl⟩;rw [← F];have hws:wrap64 ((P:Int) - 1)=(I:Int):=by unfold wrap64;omega
     have hwt:IntKind.i64.wrap ((P:Int) - 1)=(I:Int):=by rw [IntWalk.i64_in _ (by omega)];omega
     have hi7:(I:Int) < (P:Int):=by omega
     have ah7:(0:Int)≤(I:Int):=by omega
     have HM1:=O F;clear F;clear N;go_wp2_with fail;go_region_law ((refine step_append_lies _ (by rfl) _ _ _ (by rfl) W.heap.size 107 i1 _ 3 32 Tryz.underlying62 hi1 hy0 hy1 hy2 rfl (by omega) _ q (gW Z) (by rfl) ((X.o.alloc _).drew) ⟨i.heap.size,0,none⟩ 1 1 (iN ⟨t,false,nd⟩) (by rfl) (by rfl) (World.news_of_block (cs:=#[.string (aG t),.bool false,.int .i64 nd]) (t:=107) (fr:=(0,0)) (heap_alloc_new i _)) (oQ _) (by omega) (by simp only [maxLen];omega) (by omega) (by simp;omega) (i.heap.size+1) (by simp) ?_;intro gg C T D8 d j S;have kk:=((ZU.o.alloc (.cells #[.string (aG t),.bool false,.int .i64 nd] 107)).drew).kept d (eB ((ZU.o.alloc (.cells #[.string (aG t),.bool false,.int .i64 nd] 107)).drew) ((X.o.alloc (.cells #[.string (aG t),.bool false,.int .i64 nd] 107)).drew) (by decide));have s4:T.cell? ⟨U,I,none⟩=some ((Value.slice Au q cu)):=(kk.cellAt I (by omega)).trans HLI.o;have f4:=kk.frozenAt I;clear kk))
     all_goals
      have G:=Ev.o T (.slice (some ⟨gg,0,none⟩) (q+1) C) d D8 (by
       rcases j with e | e
       ·left;exact e.symm
       ·right
        intro z L;have L:gg=z:=by simpa [Value.ownBlock] using L
        simp
        omega)
      have e4:eZ (l.take (k+1))=y ++ [Z ++ [⟨t,false,nd⟩]]:=by rw [Z0.o,HTN.o]
      rw [← e4,← xu.o,← HM1.o] at G
      have HR4:=O G;have Cz:=O ((((D.o.alloc hs3 (.cells #[.string (aG t),.bool false,.int .i64 nd] 107)).drew).grown d (by simp;omega) (fun z L=>(X.o.lt z L).1)).setCell (p:=⟨U,I,none⟩) aa_ (.slice (some ⟨gg,0,none⟩) (q+1) C));clear G e4 j d D8 S s4 f4 Ev X ZU D E;go_wp2_with fail;exact⟨⟨k+1,_,by omega,by go_num,HR4,Cz⟩,by simp [intOf];omega⟩
   ·have HTN:=O (show jA rs ⟨t,true,nd⟩=rs ++ [[] ++ [⟨t,true,nd⟩]] from by unfold jA;rw [if_pos (.inl rfl)];rfl);obtain⟨g,w⟩:∃ r,r=rs.length:=⟨_,rfl⟩;rw [← w];have H:=O w;have hrb:g≤100000:=by rw [w];omega
    clear w;go_upto_region 4 with (fail)
    generalize wr.alloc (.cells #[.string (aG t),.bool true,.int .i64 nd] 107)=w2 at M V Ku ⊢
    have d0:=M.o.cell 0;have d1:=M.o.cell 1;have d2:=M.o.cell 2;have hs2:=Ku.o.size;have HO:=O (show w2.ownsRow W.heap.size 62 1 (.slice Av g cv) g vs from by have:=V.o.own;rw [← H.o] at this;exact this);clear q0 q1 q2
    go_upto_region 6 with (at_builtin;go_loud (
     refine wpList_append_own _ rfl (.tmp 19) (.tmp 20) 60 rfl W.heap.size 62 i0 _ 1 24 Tryz.underlying60 hi0 hz0 hz1 hz2 rfl (by decide) _ g vs rfl (HO.o.alloc _) ⟨w2.heap.size,0,none⟩ 1 1 [.slice none 0 0] rfl rfl (iK w2 [.slice none 0 0] _) (fun v hv=>by rw [List.mem_singleton.1 hv];rfl) (by simp only [maxLen];omega) (by omega) (by simp;omega) ?_;intro v3 i f K _))
    obtain⟨A3,c3,rfl⟩:=dA f;obtain⟨U,ahF,hv3,R⟩:=f.form (by omega);injection hv3 with abj abk abl
    subst abj;subst abl;clear abk;have hgp:=R.2;have aa_:=R.1;have hz1':(w2.alloc (.cells #[.slice none 0 0] 62)).heap.size≤i.heap.size:=K.size;have hz2':wr.heap.size < w2.heap.size:=M.o.lt;have aiv:w2.heap.size < i.heap.size:=by simp at hz1';omega
    have E:=O (show RI i W.heap.size (.slice (some ⟨U,0,none⟩) (g+1) c3) (rs ++ [[]]) (vs ++ [.slice none 0 0]) from (V.o.below ((Below.refl _ _).alloc (amL _) (.cells #[.slice none 0 0] 62))).new (by rw [← H.o];exact K) (by rw [← H.o];exact f));have fU:=O ((M.o.alloc (.cells #[.slice none 0 0] 62)).grown K (fun e=>aW (HO.o.alloc (.cells #[.slice none 0 0] 62)) (M.o.alloc (.cells #[.slice none 0 0] 62)) (by decide) e.symm));have D:=O ((Ku.o.alloc hs2 (.cells #[.slice none 0 0] 62)).grown K (by simp;omega) (fun z L=>(HO.o.lt z L).1));have J:=O (show vs.length=rs.length from by rw [V.o.len]);have N:i.ownsRow W.heap.size 107 3 (.slice none 0 0) 0 (gW []):=World.ownsRow_nil _ _ _ _
    have s1:i.cell? ⟨U,g,none⟩=some (.slice none 0 0):=by
     rw [f.cellAt g (by omega),List.getElem?_append_right (by rw [J.o,← H.o];omega),J.o,← H.o,Nat.sub_self];rfl
    have Wh:=O (show (0:Nat)=([]:List Pz).length from rfl);have e0:=fU.o.cell 0;have e1:=fU.o.cell 1;have e2:=fU.o.cell 2;have tb1:wr.heap.size < i.heap.size:=by omega
    have hs3:=D.o.size;have ZU:=O (show i.ownsRow W.heap.size 62 1 (.slice (some ⟨U,0,none⟩) (g+1) c3) (g+1) (vs ++ [(Value.slice none 0 0)]) from by have:=E.o.own;rw [amQ,amV,← H.o] at this;exact this)
    have Ev:=O fun (T:World) (u2:Value) (hg:((i.alloc (.cells #[.string (aG t),.bool true,.int .i64 nd] 107)).drew).grownBy T ((Value.slice none 0 0)).ownBlock) (ho:T.ownsRow W.heap.size 107 3 u2 (0+1) (gW [] ++ iN ⟨t,true,nd⟩)) (j:u2.ownBlock=((Value.slice none 0 0)).ownBlock∨∀ b,u2.ownBlock=some b→((i.alloc (.cells #[.string (aG t),.bool true,.int .i64 nd] 107)).drew).heap.size≤b) =>
     RI.last (ls:=rs) (l:=[]) (vs:=vs) (u:=(Value.slice none 0 0)) (c:=⟨t,true,nd⟩) (by rw [← H.o];exact (E.o.below ((Below.refl _ _).alloc (amL _) (.cells #[.string (aG t),.bool true,.int .i64 nd] 107))).drew) J.o hg (by rw [Wh.o] at ho;exact ho) j
    have HLI:=O (show (vs ++ [(Value.slice none 0 0)])[g]? = some ((Value.slice none 0 0)) from by rw [List.getElem?_append_right (by rw [J.o,← H.o];omega),J.o,← H.o,Nat.sub_self];rfl);have X:=O N;obtain⟨P,F⟩:∃ P,P=g+1:=⟨_,rfl⟩;rw [← F];have hws:wrap64 ((P:Int) - 1)=(g:Int):=by unfold wrap64;omega
    have hwt:IntKind.i64.wrap ((P:Int) - 1)=(g:Int):=by rw [IntWalk.i64_in _ (by omega)];omega
    have hi7:(g:Int) < (P:Int):=by omega
    have ah7:(0:Int)≤(g:Int):=by omega
    have HM1:=O F;clear F;clear N;go_wp2_with fail;go_region_law ((refine step_append_lies _ (by rfl) _ _ _ (by rfl) W.heap.size 107 i1 _ 3 32 Tryz.underlying62 hi1 hy0 hy1 hy2 rfl (by omega) _ 0 (gW []) (by rfl) ((X.o.alloc _).drew) ⟨i.heap.size,0,none⟩ 1 1 (iN ⟨t,true,nd⟩) (by rfl) (by rfl) (World.news_of_block (cs:=#[.string (aG t),.bool true,.int .i64 nd]) (t:=107) (fr:=(0,0)) (heap_alloc_new i _)) (oQ _) (by omega) (by simp only [maxLen];omega) (by omega) (by simp;omega) (i.heap.size+1) (by simp) ?_;intro gg C T D8 d j S;have kk:=((ZU.o.alloc (.cells #[.string (aG t),.bool true,.int .i64 nd] 107)).drew).kept d (eB ((ZU.o.alloc (.cells #[.string (aG t),.bool true,.int .i64 nd] 107)).drew) ((X.o.alloc (.cells #[.string (aG t),.bool true,.int .i64 nd] 107)).drew) (by decide));have s4:T.cell? ⟨U,g,none⟩=some ((Value.slice none 0 0)):=(kk.cellAt g (by omega)).trans HLI.o;have f4:=kk.frozenAt g;clear kk))
    all_goals
     have G:=Ev.o T (.slice (some ⟨gg,0,none⟩) (0+1) C) d D8 (by
      rcases j with e | e
      ·left;exact e.symm
      ·right
       intro z L;have L:gg=z:=by simpa [Value.ownBlock] using L
       simp
       omega)
     have e4:eZ (l.take (k+1))=rs ++ [[] ++ [⟨t,true,nd⟩]]:=by rw [Z0.o,HTN.o]
     rw [← e4,← H.o,← HM1.o] at G
     have HR4:=O G;have Cz:=O ((((D.o.alloc hs3 (.cells #[.string (aG t),.bool true,.int .i64 nd] 107)).drew).grown d (by simp;omega) (fun z L=>(X.o.lt z L).1)).setCell (p:=⟨U,g,none⟩) aa_ (.slice (some ⟨gg,0,none⟩) (0+1) C));clear G e4 j d D8 S s4 f4 Ev X ZU D E;go_wp2_with fail;exact⟨⟨k+1,_,by omega,by go_num,HR4,Cz⟩,by simp [intOf];omega⟩
  ·obtain rfl:k=n:=by omega
   have HRF:=O (show ∃ vs,RI wr W.heap.size _ (eZ l) vs from ⟨vs,by have h:=HR.o;rw [amP (by rw [HN.o];omega)] at h;exact h⟩);have y1:¬ (k:Int) < (k:Int):=by omega
   clear hlt;go_wp2_with fail;go_ret;exact⟨_,rfl,HRF.o,HB.o⟩
end
section
open Go.RowKit Mist
def Vx (p:Part):List Value:=[.int .i64 p.least,.int .i64 p.most,J4 p.pd]
structure fq (w:World) (A:Option Addr) (ps:List Part):Prop where
 ex:0 < ps.length→∃ b,A=some ⟨b,0,none⟩∧b < w.heap.size∧∀ (j:Nat) p,ps[j]? = some p→w.cell? ⟨b,j * 3,none⟩=some (.int .i64 p.least)∧w.cell? ⟨b,j * 3+1,none⟩=some (.int .i64 p.most)∧w.cell? ⟨b,j * 3+2,none⟩=some (J4 p.pd)
theorem fq.below {w f:World}{A:Option Addr}{ps:List Part}(h:fq w A ps)(a:Below w.heap.size w f):fq f A ps :=
 ⟨fun h0=>by
  obtain⟨b,e,d,g⟩:=h.ex h0
  refine⟨b,e,amY d a.size,fun j p i=>?_⟩
  obtain⟨h1,h2,h3⟩:=g j p i;exact⟨(a.cell (by exact d)).trans h1,(a.cell (by exact d)).trans h2,(a.cell (by exact d)).trans h3⟩⟩
theorem fq.nil (w:World):fq w none []:=⟨fun h=>absurd h (by simp)⟩
theorem fq.one {w:World}{b:Nat}{T:TypeId}{p:Part}(h:bY w b T (Vx p).toArray):fq w (some ⟨b,0,none⟩) [p]:=by
 refine⟨fun _=>⟨b,rfl,h.lt,fun j q a=>?_⟩⟩
 have:j=0∧p=q:=by
  cases j with
  | zero=>exact⟨rfl,by simpa using a⟩
  | succ j=>simp at a
 obtain⟨rfl,rfl⟩:=this;exact⟨h.cell 0,h.cell 1,h.cell 2⟩
theorem cO (n:Int)(w:World):Calls Tryz.prog 141 #[.int .i64 n,.func (.func 142) #[] #[]] w fun e a=>e=.returned (.agg #[.int .i64 n,.int .i64 n,.func (.func 142) #[] #[]])∧Below w.heap.size w a:=by
 go_in
 go_wp2;refine bodyPost_ret (v:=.agg #[.int .i64 n,.int .i64 n,.func (.func 142) #[] #[]]) (by simp [results,Tryz.f141,go_sem]) rfl ⟨rfl,?_⟩
 repeat (first | exact Below.refl _ _ | refine gQ ?_ (amL _) | refine aU ?_ (amL _))
theorem OL (n:Int)(w:World):Calls Tryz.prog 141 #[.int .i64 n,.func (.func 146) #[] #[]] w fun e a=>e=.returned (.agg #[.int .i64 n,.int .i64 n,.func (.func 146) #[] #[]])∧Below w.heap.size w a:=by
 go_in
 go_wp2;refine bodyPost_ret (v:=.agg #[.int .i64 n,.int .i64 n,.func (.func 146) #[] #[]]) (by simp [results,Tryz.f141,go_sem]) rfl ⟨rfl,?_⟩
 repeat (first | exact Below.refl _ _ | refine gQ ?_ (amL _) | refine aU ?_ (amL _))
theorem abz (n:Int)(w:World):Calls Tryz.prog 141 #[.int .i64 n,.func (.func 147) #[] #[]] w fun e a=>e=.returned (.agg #[.int .i64 n,.int .i64 n,.func (.func 147) #[] #[]])∧Below w.heap.size w a:=by
 go_in
 go_wp2;refine bodyPost_ret (v:=.agg #[.int .i64 n,.int .i64 n,.func (.func 147) #[] #[]]) (by simp [results,Tryz.f141,go_sem]) rfl ⟨rfl,?_⟩
 repeat (first | exact Below.refl _ _ | refine gQ ?_ (amL _) | refine aU ?_ (amL _))
theorem BZ (A:Option Addr)(n c:Nat)(w:World):Calls Tryz.prog 143 #[.slice A n c] w fun e a=>e=.returned (.agg #[.bool false,.int .i64 0,.int .i64 0,.slice A n c])∧Below w.heap.size w a:=by
 go_in
 go_wp2;refine bodyPost_ret (v:=.agg #[.bool false,.int .i64 0,.int .i64 0,.slice A n c]) (by simp [results,Tryz.f143,go_sem]) rfl ⟨rfl,?_⟩
 repeat (first | exact Below.refl _ _ | refine gQ ?_ (amL _) | refine aU ?_ (amL _))
theorem B_ (A:Option Addr)(n c:Nat)(w:World):Calls Tryz.prog 144 #[.slice A n c] w fun e a=>e=.returned (.agg #[.bool true,.int .i64 0,.int .i64 0,.slice A n c])∧Below w.heap.size w a:=by
 go_in
 go_wp2;refine bodyPost_ret (v:=.agg #[.bool true,.int .i64 0,.int .i64 0,.slice A n c]) (by simp [results,Tryz.f144,go_sem]) rfl ⟨rfl,?_⟩
 repeat (first | exact Below.refl _ _ | refine gQ ?_ (amL _) | refine aU ?_ (amL _))
def iQ (s:Option Shape)(w:World)(e:Ending)(w':World):Prop :=
 ∃ nm lo hi A n c b,e=.returned (.tuple #[.agg #[.bool nm,.int .i64 lo,.int .i64 hi,.slice A n c],.bool b])∧Below w.heap.size w w'∧match s with
  | none=>b=false
  | some s=>b=true∧nm=s.named∧lo=s.low∧hi=s.high∧n=s.parts.length∧n≤c∧fq w' A s.parts
theorem wB {W:World}{cs:Array Value}{T:TypeId}{k:Nat}(a:W.heap.size=k):bY (W.alloc (.cells cs T)) k T cs:=by subst a;exact bY.new W T cs
theorem lD {W a:World}{cs:Array Value}{T:TypeId}(b:Below (W.alloc (.cells cs T)).heap.size (W.alloc (.cells cs T)) a):bY a W.heap.size T cs:=(bY.new W T cs).below b (by simp)
theorem Yc {w w1 w2 h:World}{d c1:Array Value}{a e:TypeId}(f:Below ((w.alloc (.cells d a)).alloc (.cells c1 e)).heap.size ((w.alloc (.cells d a)).alloc (.cells c1 e)) w1)(g:Below w1.heap.size w1 w2)(i:Below w2.heap.size w2 h):bY h w.heap.size a d∧bY h (w.heap.size+1) e c1∧Below w.heap.size w h:=by
 have b:=f.trans ((g.trans (i.mono g.size)).mono f.size)
 have h1:bY ((w.alloc (.cells d a)).alloc (.cells c1 e)) (w.heap.size+1) e c1:=by
  have:=bY.new (w.alloc (.cells d a)) e c1
  rwa [show (w.alloc (.cells d a)).heap.size=w.heap.size+1 by simp] at this
 refine⟨((bY.new w a d).alloc _).below b (by simp;omega),h1.below b (by simp),(aU (aU (Below.refl _ _) (amL _)) (by simp)).trans (b.mono (by simp;omega))⟩
theorem jU {w w1 w2 b:World}{g c1:Array Value}{e f:TypeId}(j:Below ((w.alloc (.cells g e)).alloc (.cells c1 f)).heap.size ((w.alloc (.cells g e)).alloc (.cells c1 f)) w1)(k:Below w1.heap.size w1 w2)(m:Below w2.heap.size w2 b):w.heap.size+1 < b.heap.size∧∃ a,(((((b.alloc (.cells #[.int .i64 1,.int .i64 1,.func (.func 142) #[] #[]] 185)).alloc (.cells #[.int .i64 2,.int .i64 2,.func (.func 142) #[] #[]] 185)).alloc (.cells #[.int .i64 3,.int .i64 3,.func (.func 142) #[] #[]] 185)).alloc (.cells #[.int .i64 0,.int .i64 801,.func (.func 142) #[] #[]] 185)).alloc (.cells #[.int .i64 1,.int .i64 801,.func (.func 142) #[] #[]] 185))=a∧Hid (bY a (w.heap.size+1) f c1)∧Hid (bY a w.heap.size e g)∧Hid (Below w.heap.size w a)∧Hid (a.heap.size=b.heap.size+1+1+1+1+1)∧w.heap.size+1 < a.heap.size∧w.heap.size < a.heap.size∧Hid (bY a (b.heap.size) 185 #[.int .i64 1,.int .i64 1,.func (.func 142) #[] #[]])∧Hid (bY a (b.heap.size+1) 185 #[.int .i64 2,.int .i64 2,.func (.func 142) #[] #[]])∧Hid (bY a (b.heap.size+1+1) 185 #[.int .i64 3,.int .i64 3,.func (.func 142) #[] #[]])∧Hid (bY a (b.heap.size+1+1+1) 185 #[.int .i64 0,.int .i64 801,.func (.func 142) #[] #[]])∧Hid (bY a (b.heap.size+1+1+1+1) 185 #[.int .i64 1,.int .i64 801,.func (.func 142) #[] #[]]):=by
 obtain⟨h,d,i⟩:=Yc j k m;have n:=d.lt
 refine⟨n,_,rfl,O ?_,O ?_,O ?_,O (by simp),(by simp;omega),(by simp;omega),O ?_,O ?_,O ?_,O ?_,O ?_⟩
 ·repeat (first | exact d | refine bY.alloc ?_ _)
 ·repeat (first | exact h | refine bY.alloc ?_ _)
 ·repeat (first | exact i | refine aU ?_ ?_ | omega|(simp;omega))
 all_goals repeat (first|(with_reducible exact wB (by first | rfl | simp))|(with_reducible refine bY.alloc ?_ _))
end
