/-
  A part of the proof.
-/
import Derived.StillTailTactics
import Derived.Test.YtalghggmkojblaaGreatDoorS19
set_option linter.all false
set_option maxRecDepth 100000
set_option maxHeartbeats 4000000
namespace Mist
def pF (B:Nat→List Pz)(ks:List Int):Nat:=(ks.map fun c=>(B c.toNat).length+3).sum
theorem Ib (B:Nat→List Pz)(a b:List Int):pF B (a ++ b)=pF B a+pF B b:=by simp [pF]
theorem DU (B:Nat→List Pz)(c:Int)(b:List Int):pF B (c :: b)=(B c.toNat).length+3+pF B b:=by simp [pF]
theorem tF (T:Tr)(B:Nat→List Pz)(i j:Nat):(dU T B i j).length≤(B ((nd T i).kids.getD j 0).toNat).length+2:=by
 unfold dU;simp only
 split
 ·omega
 ·simp [au]
theorem JH (T:Tr)(B:Nat→List Pz)(i:Nat):∀ m,m≤(nd T i).kids.length→(gH (dU T B i) m).length≤pF B ((nd T i).kids.take m):=by
 intro m
 induction m with
 | zero=>intro _;simp [gH,pF]
 | succ m b =>
  intro h;have d:=tF T B i m
  have e:(nd T i).kids.take (m+1)=(nd T i).kids.take m ++ [(nd T i).kids.getD m 0]:=by
   rw [List.take_succ_eq_append_getElem (by omega),amJ,amF (by omega)];rfl
  rw [e,Ib,DU]
  have:=b (by omega)
  rw [gH];split
  ·rename_i a;subst a;omega
  ·rw [amQ,List.length_cons,au];omega
theorem aiz {l:List Int}(h:l.length=1):l=[l.getD 0 0]:=by
 match l,h with
 | [a],_=>rfl
theorem afD {l:List Int}(h:l.length=2):l=[l.getD 0 0,l.getD 1 0]:=by
 match l,h with
 | [a,b],_=>rfl
theorem aiA {l:List Int}(h:l.length=3):l=[l.getD 0 0,l.getD 1 0,l.getD 2 0]:=by
 match l,h with
 | [a,b,c],_=>rfl
theorem abE {l:List Int}(h:2≤l.length):l=l.take (l.length - 2) ++ [l.getD (l.length - 2) 0,l.getD (l.length - 1) 0]:=by
 have e:=List.take_append_drop (l.length - 2) l;have h2:(l.drop (l.length - 2)).length=2:=by rw [List.length_drop];omega
 have h3:=afD h2
 conv=>lhs;rw [← e]
 rw [h3]
 congr 1
 simp only [amJ,List.getElem?_drop];rw [show l.length - 2+1=l.length - 1 by omega];rfl
theorem akW {B:Nat→List Pz}{l:List Int}(h:l.length=1):pF B l=(B (l.getD 0 0).toNat).length+3:=by
 rw [aiz h];simp [pF]
theorem akX {B:Nat→List Pz}{l:List Int}(h:l.length=2):pF B l=(B (l.getD 0 0).toNat).length+3+((B (l.getD 1 0).toNat).length+3):=by
 rw [afD h];simp [pF]
theorem akY {B:Nat→List Pz}{l:List Int}(h:l.length=3):pF B l=(B (l.getD 0 0).toNat).length+3+((B (l.getD 1 0).toNat).length+3+((B (l.getD 2 0).toNat).length+3)):=by
 rw [aiA h];simp [pF]
theorem ae6 {B:Nat→List Pz}{l:List Int}(h:2≤l.length):pF B l=pF B (l.take (l.length - 2))+((B (l.getD (l.length - 2) 0).toNat).length+3+((B (l.getD (l.length - 1) 0).toNat).length+3)):=by
 have e:=congrArg (pF B) (abE h);rw [Ib] at e
 rw [e];simp [pF]
structure RtZ (T:Tr) (i:Nat):Prop where
 kind:(iT (nd T i).kind || (nd T i).kind == 25 || kg (nd T i).kind || (nd T i).kind == 34 || fM (nd T i).kind)=true
 many:kH (nd T i)=true
 num:gL (nd T i)=true
 named:iM (nd T i).kind=isName (nd T i).text
 txt:iM (nd T i).kind=false→(nd T i).text=[]
 kid:∀ j,j < (nd T i).kids.length→ku (nd T i) j (nd T ((nd T i).kids.getD j 0).toNat).kind=true
 neg:∀ j,j < (nd T i).kids.length→(nd T ((nd T i).kids.getD j 0).toNat).kind=1→(nd T ((nd T i).kids.getD j 0).toNat).n < 0→(nd T i).kind=40
theorem rtZ {T:Tr}{i:Nat}(h:qO T i=true):RtZ T i:=by
 unfold qO at h
 simp only [amU] at h
 obtain⟨⟨⟨⟨⟨⟨h1,h2⟩,h3⟩,h4⟩,h5⟩,h6⟩,h7⟩:=h
 refine⟨h1,h4,h5,by simpa using h2,fun e=>by rw [e] at h3;simpa using h3,fun j a=>?_,fun j a b d=>?_⟩
 ·have:=amT.1 h7 j (List.mem_range.2 a)
  simp only [amU] at this
  exact this.1
 ·have:=amT.1 h7 j (List.mem_range.2 a)
  simp only [amU] at this
  have h8:=this.2;rw [b,amW d] at h8
  simpa using h8
theorem XK {T:Tr}{i:Nat}(h:RtZ T i)(B:Nat→List Pz):(bQ T B i).length≤9+pF B (nd T i).kids:=by
 have d:=h.many;have b:=h.kind;have k0:=tF T B i 0;have r:=tF T B i 1;have t:=tF T B i 2;have e:=JH T B i (nd T i).kids.length (amL _);have u:=JH T B i ((nd T i).kids.length - 2) (by omega);have v:=tF T B i ((nd T i).kids.length - 2);have C:=tF T B i ((nd T i).kids.length - 1);rw [List.take_length] at e
 have D:=@akW B (nd T i).kids;have E:=@akX B (nd T i).kids;have F:=@akY B (nd T i).kids;have G:=@ae6 B (nd T i).kids;unfold kH at d
 unfold bQ ig nG;simp only [au,amQ,List.length_cons,List.length_nil,apply_ite List.length]
 generalize (dU T B i 0).length=J at *
 generalize (dU T B i 1).length=L at *
 generalize (dU T B i 2).length=M at *
 generalize (dU T B i ((nd T i).kids.length - 2)).length=R at *
 generalize (dU T B i ((nd T i).kids.length - 1)).length=U at *
 generalize (gH (dU T B i) (nd T i).kids.length).length=P at *
 generalize (gH (dU T B i) ((nd T i).kids.length - 2)).length=Q at *
 generalize pF B (nd T i).kids=H at *
 generalize pF B ((nd T i).kids.take ((nd T i).kids.length - 2))=I at *
 generalize (nd T i).kids.length=m at *
 generalize (nd T i).kind=K at *
 generalize (nd T i).n=N at *
 simp [iT,kg,fM] at b
 have k:K < 47:=by omega
 clear h b;have a:K=0∨K=1∨K=2∨K=3∨K=4∨K=5∨K=6∨K=7∨K=8∨K=9∨K=10∨K=11∨K=12∨K=13∨K=14∨K=15∨K=16∨K=17∨K=18∨K=19∨K=20∨K=21∨K=22∨K=23∨K=24∨K=25∨K=26∨K=27∨K=28∨K=29∨K=30∨K=31∨K=32∨K=33∨K=34∨K=35∨K=36∨K=37∨K=38∨K=39∨K=40∨K=41∨K=42∨K=43∨K=44∨K=45∨K=46:=by omega
 (repeat' (rcases a with rfl | a)) <;> (try subst a) <;> simp at d ⊢ <;> (repeat' split) <;> omega
theorem Wv {T:Tr}(u:∀ i,i < T.nodes.length→qO T i=true){a b:Nat}{d:List Int}(h:Fo T.nodes a b d):∀ f,b≤f→pF (aQ T f) d≤12 * (b - a):=by
 induction h with
 | nil=>intro f _;simp [pF]
 | @snoc a m b d n h k e ih jh =>
  intro f D;obtain⟨f,rfl⟩:∃ r,f=r+1:=⟨f - 1,by omega⟩;have t:b < T.nodes.length:=(amG.1 e).1;have h1:=ih (f+1) (by have:=k.le;omega);have h2:=jh f (by omega);have h3:=XK (rtZ (u b t)) (aQ T f);rw [mU e] at h3
  have:=h.le
  have:=k.le
  rw [Ib,DU];simp only [amS];have v:(aQ T (f+1) b).length=(bQ T (aQ T f) b).length:=rfl;have C:pF (aQ T (f+1)) []=0:=rfl;omega
theorem Jg {T:Tr}(b:∀ i,i < T.nodes.length→qO T i=true)(hF:Fo T.nodes 0 T.nodes.length T.items){i f:Nat}(hi:i < T.nodes.length)(d:i < f):(aQ T f i).length≤12 * (i+1):=by
 obtain⟨n,m,e,h,a⟩:=hF.each i (amN _) hi
 have:=Wv b (Fo.snoc (Fo.nil m) a e) f (by omega)
 rw [List.nil_append,DU] at this
 simp only [amS] at this
 omega
end Mist
namespace Go.Proofs.YtalghggmkojblaaGreatDoor
section
open Go.RowKit
def Pow (w : World) : Prop := Lib.TabBelow Tryz.prog w.heap.size w "internal/strconv.uint64pow10" .u64 Lib.pow10Tab
end
set_option linter.all false
section
open Go.RowKit Mist
attribute [local go_sem] ak aN aV aF aj
section
variable {S:Sz} {B g:Nat} {w W:World} {nv iv pv:Value} {ps l:List Pz}
def lW (S:Sz)(B g:Nat)(w:World)(nv iv:Value)(ps:List Pz)(e:Ending)(W':World):Prop:=∃ pv',e=.returned (.tuple #[])∧Hid (PZ S B g w W' nv iv pv' ps)
theorem pzE {e:Ending}{k:World}(h:e=.returned (.tuple #[])∧∃ d,PZ S B g w k nv iv d ps):lW S B g w nv iv ps e k:=by
 obtain⟨a,d,b⟩:=h;exact⟨d,a,O b⟩
theorem Cy (H:Hid (PZ S B g w W nv iv pv ps))(t:Bs)(n:Int)(a:ps.length≤1000000) :
  Calls Tryz.prog 46 #[.pointer (some ⟨g,0,none⟩),.string (aG t),.int .i64 n] W (lW S B g w nv iv (iL ps [tz t n])) :=
 (afH H.o t n a).mono fun _ _ h=>pzE h
theorem I6 (H:Hid (PZ S B g w W nv iv pv (iL ps l)))(t:Bs)(n:Int)(a:l ≠ [])(b:ps.length+l.length≤1000000) :
  Calls Tryz.prog 46 #[.pointer (some ⟨g,0,none⟩),.string (aG t),.int .i64 n] W (lW S B g w nv iv (iL ps (l ++ [lz t n]))) :=
 (afH H.o t n (by rw [d_];exact b)).mono fun _ _ h=>pzE (by rw [aey,tJ ps l _ a] at h;exact h)
theorem uV (H:Hid (PZ S B g w W nv iv pv (iL ps l)))(t:Bs)(n:Int)(a:l ≠ [])(b:ps.length+l.length≤1000000) :
  Calls Tryz.prog 47 #[.pointer (some ⟨g,0,none⟩),.string (aG t),.int .i64 n] W (lW S B g w nv iv (iL ps (l ++ [tz t n]))) :=
 (aaY H.o t n (by rw [d_];exact b)).mono fun _ _ h=>pzE (by rw [wO ps a];exact h)
theorem in2 (H:Hid (PZ S B g w W nv iv pv (iL ps l)))(k:Nat)(d:Array Value)(r:List Pz)(v:l ≠ [])(C:ps.length+l.length≤1000000)(t:∀ e,Sem.run Tryz.prog (callFunc k d) e=.ok (.enter k d) e)
  (u:∀ e m,Hid (PZ S B g w e nv iv m (iL ps l))→Calls Tryz.prog k d e (lW S B g w nv iv (iL (iL ps l) r))) :
  Calls Tryz.prog 82 #[.pointer (some ⟨g,0,none⟩),.func (.func k) #[] d] W (lW S B g w nv iv (iL ps (l ++ cZ false r))) :=
 (abu H.o k d r (by rw [d_];exact C) t (fun e m h _=>(u e m (O h)).mono fun _ _ h=>by
  obtain⟨D,a,b⟩:=h;exact⟨a,D,b.o⟩)).mono fun _ _ h=>pzE (by rw [wO ps v];exact h)
end
structure CX (w:World) (B:Nat) (A Bi:Option Addr) (n:Nat) (xs:List NV) (its:List Int):Prop where
 t:uZ w A Bi xs its
 len:xs.length=n
 b:w.heap.size≤B
 few:n≤100000
 pow:Pow w
 env:Env w
theorem CX.at_ {w W:World}{B g n:Nat}{A Bi:Option Addr}{xs:List NV}{its:List Int}{S:Sz}{nv iv pv:Value}{ps:List Pz}(X:CX w B A Bi n xs its)(h:PZ S B g w W nv iv pv ps):uZ W A Bi xs its:=X.t.below (h.MF.mono X.b)
def XC (w:World)(B g:Nat)(A:Option Addr)(n c:Nat)(iv:Value)(T:Tr)(f i:Nat):Prop :=
 ∀ (S:Sz) (W:World) (pv:Value) (ps:List Pz),Hid (PZ S B g w W (.slice A n c) iv pv ps)→ps.length+(aQ T f i).length≤1000000 →
  Calls Tryz.prog 88 #[.pointer (some ⟨g,0,none⟩),.int .i64 i] W (lW S B g w (.slice A n c) iv (iL ps (aQ T f i)))
section
variable {S:Sz} {B g n c f i j q:Nat} {w W:World} {A Bi:Option Addr} {iv pv:Value} {ps l:List Pz} {xs:List NV} {its:List Int} {x y:NV}
theorem agG (H:Hid (PZ S B g w W (.slice A n c) iv pv ps)){b3 b6:Nat}(h3:(b3,54,#[.pointer (some ⟨g,0,none⟩)]) ∈ S)(h6:(b6,3,#[.int .i64 (q:Nat)]) ∈ S){T:Tr}(d:XC w B g A n c iv T f q)(h:ps.length+(aQ T f q).length≤1000000) :
  Calls Tryz.prog 89 #[.pointer (some ⟨b3,0,none⟩),.pointer (some ⟨b6,0,none⟩)] W (lW S B g w (.slice A n c) iv (iL ps (aQ T f q))):=by
 have c3:=(H.o.kp _ h3).1.cell 0;have b:=(H.o.kp _ h6).1.cell 0;simp only at c3 b
 go_in
 go_wp2_with fail;refine (d S W pv ps H h).mono ?_;rintro e m⟨k,rfl,a⟩;go_wp2_with fail;go_end0
 exact⟨k,rfl,a⟩
theorem aiy (H:Hid (PZ S B g w W (.slice A n c) iv pv ps))(X:CX w B A Bi n xs its)(k:xs[i]? = some x)(C:x.1.kids[j]? = some (q:Int))(hy:xs[q]? = some y)(hX:XC w B g A n c iv ⟨aH xs,its⟩ f q)
  (G:ps.length+(dU ⟨aH xs,its⟩ (aQ ⟨aH xs,its⟩ f) i j).length≤1000000) :
  Calls Tryz.prog 53 #[.pointer (some ⟨g,0,none⟩),.int .i64 i,.int .i64 j] W (lW S B g w (.slice A n c) iv (iL ps (dU ⟨aH xs,its⟩ (aQ ⟨aH xs,its⟩ f) i j))):=by
 have hi:i < n:=by rw [← X.len];exact (amG.1 k).1
 have D:j < x.1.kids.length:=(amG.1 C).1;have hT:=X.at_ H.o;obtain⟨b,o,hA,P⟩:=hT.nodes (by have:=X.len;omega);have k3:=P.c3 i x k;obtain⟨Ka,kc,J,hkl,F⟩:=P.kid k;obtain⟨kb,ko,Y,hkb,E⟩:=F.ex (by omega);have kq:=E j _ C;rw [J] at k3
 subst Y;obtain⟨nk,I⟩:∃ m,m=x.1.kids.length:=⟨_,rfl⟩;rw [← I] at k3 D
 have c0:=H.o.blk.cell 0;have V:b < W.heap.size:=P.lt;have y0:(0:Int)≤(i:Int):=by omega
 have y1:(i:Int) < (n:Int):=by omega
 have y2:(0:Int)≤(j:Int):=by omega
 have y3:(j:Int) < (nk:Int):=by omega
 have hg:=H.o.blk.lt
 have hne:aQ ⟨aH xs,its⟩ f q ≠ []∨f≤q:=by
  rcases Nat.lt_or_ge q f with h | h
  ·exact .inl (Ny _ h)
  ·exact .inr h
 have e1:((nd (⟨aH xs,its⟩:Tr) i).kids.getD j 0).toNat=q:=by rw [bD its k,amJ,C];rfl
 have ek:dU ⟨aH xs,its⟩ (aQ ⟨aH xs,its⟩ f) i j=if zF x.1.kind j y.1.kind then aQ ⟨aH xs,its⟩ f q else tz [40] (-1) :: (cZ false (aQ ⟨aH xs,its⟩ f q) ++ [tz [41] (-1)]):=by
  unfold dU;simp only
  rw [e1,bD its k,bD its hy]
 rw [ek] at G ⊢
 have u:=O hX;have HS:=O (H.o.box (T:=54) (cs:=#[.pointer (some ⟨g,0,none⟩)]) (by decide));have v:(W.alloc (.cells #[.pointer (some ⟨g,0,none⟩)] 54)).heap.size=W.heap.size+1:=by simp
 have d:=O (HS.o.box (T:=3) (cs:=#[.int .i64 (q:Nat)]) (by decide));rw [v] at d
 have R:=O (agc d.o (X.at_ d.o) X.len k C hy);subst hA
 generalize zF x.1.kind j y.1.kind=br at G R ⊢
 obtain⟨M,Z⟩:∃ M,M=if br then aQ ⟨aH xs,its⟩ f q else tz [40] (-1) :: (cZ false (aQ ⟨aH xs,its⟩ f q) ++ [tz [41] (-1)]):=⟨_,rfl⟩
 rw [← Z] at G ⊢
 have L:=O G;have N:=O Z;clear G Z hT P k C hy hX X hkl F E hne e1 ek I J;go_in
 go_wp2_with fail;refine R.o.mono ?_;rintro e w3⟨rfl,hb⟩;have r:=O (d.o.below hb);clear hb R HS d c0 k3 kq H v y0 y1 y2 y3 V hkb hg hi D;have c3:=(r.o.kp _ (List.mem_cons_of_mem _ (List.mem_cons_self ..))).1.cell 0;have U:=(r.o.kp _ (List.mem_cons_self ..)).1.cell 0;simp only at c3 U
 cases br
 ·have K:=O (show M=tz [40] (-1) :: (cZ false (aQ ⟨aH xs,its⟩ f q) ++ [tz [41] (-1)]) from N.o);have a:=O (show ps.length+(aQ ⟨aH xs,its⟩ f q).length+2≤1000000 by have:=L.o;rw [K.o] at this;simp [au] at this;omega);clear N L;go_wp2_with fail;refine (Cy r [40] (-1) (by have:=a.o;omega)).mono ?_;rintro e w4⟨Fh,rfl,t⟩;clear c3 U r;have c3:=(t.o.kp _ (List.mem_cons_of_mem _ (List.mem_cons_self ..))).1.cell 0;simp only at c3
  go_wp2_with fail
  refine (in2 t 89 #[.pointer (some ⟨W.heap.size,0,none⟩),.pointer (some ⟨W.heap.size+1,0,none⟩)] (aQ ⟨aH xs,its⟩ f q) (by simp) (by have:=a.o;simp;omega) (fun W'=>by kernel_rfl)
   (fun W' pv' H'=>agG H' (List.mem_cons_of_mem _ (List.mem_cons_self ..)) (List.mem_cons_self ..) u.o (by have:=a.o;rw [d_];simp;omega))).mono ?_
  rintro e w5⟨pv5,rfl,Q⟩;clear c3 t;have c3:=(Q.o.kp _ (List.mem_cons_of_mem _ (List.mem_cons_self ..))).1.cell 0;simp only at c3
  go_wp2_with fail;refine (uV Q [41] (-1) (by simp) (by have:=a.o;simp [au];omega)).mono ?_;rintro e w6⟨pv6,rfl,H6⟩;clear c3 Q;go_wp2_with fail;go_end0
  exact⟨pv6,rfl,O (by rw [K.o];exact H6.o.tl.tl)⟩
 ·have K:=O (show M=aQ ⟨aH xs,its⟩ f q from N.o);have a:=O (show ps.length+(aQ ⟨aH xs,its⟩ f q).length≤1000000 by have:=L.o;rwa [K.o] at this);clear N L;go_wp2_with fail;refine (u.o _ _ _ _ r a.o).mono ?_;rintro e w4⟨Fh,rfl,t⟩;clear c3 U r;go_wp2_with fail;go_end0
  exact⟨Fh,rfl,O (by rw [K.o];exact t.o.tl.tl)⟩
end
end
set_option linter.all false
end Go.Proofs.YtalghggmkojblaaGreatDoor
namespace Mist
theorem SL (L:Nat→List Pz){m:Nat}:∀ n,m≤n→(gH L m).length≤(gH L n).length:=by
 intro n h
 induction h with
 | refl=>exact amL _
 | step _ a =>
  rename_i k _
  refine Nat.le_trans a ?_;rw [gH];split
  ·rename_i h0;subst h0;simp [gH]
  ·simp
end Mist
namespace Go.Proofs.YtalghggmkojblaaGreatDoor
section
open Go.RowKit Mist
attribute [local go_sem] ak aN aV aF aj
section
variable {S:Sz} {B g n c f i j q:Nat} {w W:World} {A Bi:Option Addr} {nv iv pv:Value} {ps l:List Pz} {xs:List NV} {its:List Int} {x y:NV}
theorem ls1 (H:Hid (PZ S B g w W nv iv pv ps))(k:Nat)(d:Array Value)(L:Nat→List Pz)(many:Nat)(h0:L 0 ≠ [])(u:many≤1000000)(E:ps.length+(gH L many).length < 1000000)
  (v:∀ (j:Nat) e,Sem.run Tryz.prog (callFunc k (#[.int .i64 (j:Nat)] ++ d)) e=.ok (.enter k (#[.int .i64 (j:Nat)] ++ d)) e)
  (C:∀ (j:Nat) e r t,j < many→t.length+(L j).length≤1000000→Hid (PZ S B g w e nv iv r t)→Calls Tryz.prog k (#[.int .i64 (j:Nat)] ++ d) e (lW S B g w nv iv (iL t (L j)))) :
  Calls Tryz.prog 55 #[.pointer (some ⟨g,0,none⟩),.int .i64 (many:Nat),.func (.func k) #[] d] W (lW S B g w nv iv (iL ps (gH L many))) :=
 (agJ H.o k d L many h0 u (fun m u=>by have:=SL L many u;omega) v (fun j e r t h1 h2 h3=>(C j e r t h1 h2 (O h3)).mono fun _ _ h=>by
  obtain⟨D,a,b⟩:=h;exact⟨a,D,b.o⟩)).mono fun _ _ h=>pzE h
structure KX (w:World) (B g:Nat) (A:Option Addr) (n c:Nat) (iv:Value) (xs:List NV) (its:List Int) (f i:Nat) (x:NV):Prop where
 hx:xs[i]? = some x
 k:∀ j,j < x.1.kids.length→∃ q y,x.1.kids[j]? = some ((q:Nat):Int)∧xs[q]? = some y∧q < f
theorem KX.ne {f:Nat}(K:KX w B g A n c iv xs its f i x)(a:0 < f)(j:Nat)(h:j < x.1.kids.length∨j=0):dU ⟨aH xs,its⟩ (aQ ⟨aH xs,its⟩ f) i j ≠ []:=by
 refine Ve (Ny _ ?_);rw [bD its K.hx];by_cases b:j < x.1.kids.length
 ·obtain⟨q,y,e,_,d⟩:=K.k j b;rw [amJ,e];exact d
 ·rw [amJ,List.getElem?_eq_none (by omega)];exact a
def KE (w:World)(B g:Nat)(A:Option Addr)(n c:Nat)(iv:Value)(xs:List NV)(its:List Int)(f:Nat)(x:NV)(j:Nat):Prop:=∀ q,x.1.kids[j]? = some ((q:Nat):Int)→XC w B g A n c iv ⟨aH xs,its⟩ f q
theorem kd1 (H:Hid (PZ S B g w W (.slice A n c) iv pv ps))(X:CX w B A Bi n xs its)(K:KX w B g A n c iv xs its f i x)(d:j < x.1.kids.length)(E:KE w B g A n c iv xs its f x j)
  (e:ps.length+(dU ⟨aH xs,its⟩ (aQ ⟨aH xs,its⟩ f) i j).length≤1000000) :
  Calls Tryz.prog 53 #[.pointer (some ⟨g,0,none⟩),.int .i64 i,.int .i64 j] W (lW S B g w (.slice A n c) iv (iL ps (dU ⟨aH xs,its⟩ (aQ ⟨aH xs,its⟩ f) i j))):=by
 obtain⟨q,y,a,b,h⟩:=K.k j d;exact aiy H X K.hx a b (E q a) e
theorem U_ (H:Hid (PZ S B g w W (.slice A n c) iv pv ps))(X:CX w B A Bi n xs its)(K:KX w B g A n c iv xs its f i x){b2 b3:Nat}(h2:(b2,54,#[.pointer (some ⟨g,0,none⟩)]) ∈ S)(h3:(b3,3,#[.int .i64 (i:Nat)]) ∈ S)
  (h:j < x.1.kids.length) (E:KE w B g A n c iv xs its f x j) (a:ps.length+(dU ⟨aH xs,its⟩ (aQ ⟨aH xs,its⟩ f) i j).length≤1000000) :
  Calls Tryz.prog 121 #[.int .i64 j,.pointer (some ⟨b2,0,none⟩),.pointer (some ⟨b3,0,none⟩)] W (lW S B g w (.slice A n c) iv (iL ps (dU ⟨aH xs,its⟩ (aQ ⟨aH xs,its⟩ f) i j))):=by
 have c2:=(H.o.kp _ h2).1.cell 0;have c3:=(H.o.kp _ h3).1.cell 0;simp only at c2 c3
 have b:=O (kd1 H X K h E a);clear a E K X;go_in
 go_wp2_with fail;refine b.o.mono ?_;rintro e m⟨k,rfl,d⟩;go_wp2_with fail;go_end0
 exact⟨k,rfl,d⟩
end
end
set_option linter.all false
end Go.Proofs.YtalghggmkojblaaGreatDoor
namespace Mist
theorem Nv {k:Nat}(h:¬ (4≤k∧k≤18)∧k ≠ 22∧k ≠ 23)(j q:Nat):zF k j q=true:=by
 unfold zF;rw [if_neg (by omega),if_neg (by omega),if_neg (by omega),if_neg (by omega)]
theorem mh {T:Tr}{B:Nat→List Pz}{i j q:Nat}(h:¬ (4≤(nd T i).kind∧(nd T i).kind≤18)∧(nd T i).kind ≠ 22∧(nd T i).kind ≠ 23)(e:(nd T i).kids[j]? = some ((q:Nat):Int)):dU T B i j=B q:=by
 unfold dU;simp only
 rw [Nv h,if_pos rfl,amJ,e];rfl
end Mist
namespace Go.Proofs.YtalghggmkojblaaGreatDoor
section
open Go.RowKit Mist
attribute [local go_sem] ak aN aV aF aj
def kY (x:NV):Array Value:=#[.int .u8 (x.1.kind:Nat),.string (aG x.1.text),.int .i64 x.1.n,x.2,.int .i64 x.1.at_]
def Gp (b2 b3:Nat):Value:=.func (.func 121) #[] #[.pointer (some ⟨b2,0,none⟩),.pointer (some ⟨b3,0,none⟩)]
section
variable {S:Sz} {B g n c f i j q b2 b3 b4 b6 b7:Nat} {w W:World} {A Bi:Option Addr} {nv iv pv:Value} {ps l:List Pz} {xs:List NV} {its:List Int} {x y:NV}
theorem CX.kids (X:CX w B A Bi n xs its)(h:PZ S B g w W nv iv pv ps)(a:xs[i]? = some x):∃ K kc,x.2=.slice K x.1.kids.length kc∧x.1.kids.length≤1000000∧IntsIn W K x.1.kids:=by
 have e:=X.at_ h;have hi:=(amG.1 a).1;obtain⟨b,o,k,d⟩:=e.nodes (by omega);exact d.kid a
theorem rl1 (H:Hid (PZ S B g w W (.slice A n c) iv pv ps))(X:CX w B A Bi n xs its)(K:KX w B g A n c iv xs its f i x)(h4:(b4,54,#[.pointer (some ⟨g,0,none⟩)]) ∈ S)(h6:(b6,56,kY x) ∈ S)(h7:(b7,53,#[Gp b2 b3]) ∈ S)
  (h2:(b2,54,#[.pointer (some ⟨g,0,none⟩)]) ∈ S) (h3:(b3,3,#[.int .i64 (i:Nat)]) ∈ S) (F:0 < f) (E:∀ j,j < x.1.kids.length→KE w B g A n c iv xs its f x j)
  (r:ps.length+(ig ⟨aH xs,its⟩ (aQ ⟨aH xs,its⟩ f) i x.1.kids.length).length < 1000000) :
  Calls Tryz.prog 155 #[.pointer (some ⟨b4,0,none⟩),.pointer (some ⟨b6,0,none⟩),.pointer (some ⟨b7,0,none⟩)] W (lW S B g w (.slice A n c) iv (iL ps (ig ⟨aH xs,its⟩ (aQ ⟨aH xs,its⟩ f) i x.1.kids.length))):=by
 have c4:=(H.o.kp _ h4).1.cell 0;have D:=(H.o.kp _ h7).1.cell 0;obtain⟨L,kc,b,a,d⟩:=X.kids H.o K.hx;have C:W.cell? ⟨b6,3,none⟩=some x.2:=(H.o.kp _ h6).1.cell 3;rw [b] at C
 simp only [Gp] at c4 D
 have t:=O (ls1 H 121 #[.pointer (some ⟨b2,0,none⟩),.pointer (some ⟨b3,0,none⟩)] (dU ⟨aH xs,its⟩ (aQ ⟨aH xs,its⟩ f) i) x.1.kids.length (K.ne F 0 (.inr rfl)) a r (fun j v=>by kernel_rfl)
  (fun j v J M k G h=>U_ h X K h2 h3 k (E j k) G))
 generalize x.1.kids.length=m at *
 clear r E K X d b a;go_in
 go_wp2_with fail;refine t.o.mono ?_;rintro e N⟨I,rfl,u⟩;go_wp2_with fail;go_end0
 exact⟨I,rfl,u⟩
theorem rl4 (H:Hid (PZ S B g w W (.slice A n c) iv pv ps))(X:CX w B A Bi n xs its)(K:KX w B g A n c iv xs its f i x)(h4:(b4,54,#[.pointer (some ⟨g,0,none⟩)]) ∈ S)(h6:(b6,56,kY x) ∈ S)(h7:(b7,53,#[Gp b2 b3]) ∈ S)
  (h2:(b2,54,#[.pointer (some ⟨g,0,none⟩)]) ∈ S) (h3:(b3,3,#[.int .i64 (i:Nat)]) ∈ S) (F:0 < f) (E:∀ j,j < x.1.kids.length→KE w B g A n c iv xs its f x j)
  (r:ps.length+(ig ⟨aH xs,its⟩ (aQ ⟨aH xs,its⟩ f) i x.1.kids.length).length < 1000000) :
  Calls Tryz.prog 159 #[.pointer (some ⟨b4,0,none⟩),.pointer (some ⟨b6,0,none⟩),.pointer (some ⟨b7,0,none⟩)] W (lW S B g w (.slice A n c) iv (iL ps (ig ⟨aH xs,its⟩ (aQ ⟨aH xs,its⟩ f) i x.1.kids.length))):=by
 have c4:=(H.o.kp _ h4).1.cell 0;have D:=(H.o.kp _ h7).1.cell 0;obtain⟨L,kc,b,a,d⟩:=X.kids H.o K.hx;have C:W.cell? ⟨b6,3,none⟩=some x.2:=(H.o.kp _ h6).1.cell 3;rw [b] at C
 simp only [Gp] at c4 D
 have t:=O (ls1 H 121 #[.pointer (some ⟨b2,0,none⟩),.pointer (some ⟨b3,0,none⟩)] (dU ⟨aH xs,its⟩ (aQ ⟨aH xs,its⟩ f) i) x.1.kids.length (K.ne F 0 (.inr rfl)) a r (fun j v=>by kernel_rfl)
  (fun j v J M k G h=>U_ h X K h2 h3 k (E j k) G))
 generalize x.1.kids.length=m at *
 clear r E K X d b a;go_in
 go_wp2_with fail;refine t.o.mono ?_;rintro e N⟨I,rfl,u⟩;go_wp2_with fail;go_end0
 exact⟨I,rfl,u⟩
theorem rk2 (H:Hid (PZ S B g w W (.slice A n c) iv pv ps))(X:CX w B A Bi n xs its)(K:KX w B g A n c iv xs its f i x)(h7:(b7,53,#[Gp b2 b3]) ∈ S)
  (h2:(b2,54,#[.pointer (some ⟨g,0,none⟩)]) ∈ S) (h3:(b3,3,#[.int .i64 (i:Nat)]) ∈ S) (k:1 < x.1.kids.length) (E:KE w B g A n c iv xs its f x 1)
  (a:ps.length+(dU ⟨aH xs,its⟩ (aQ ⟨aH xs,its⟩ f) i 1).length≤1000000) :
  Calls Tryz.prog 156 #[.pointer (some ⟨b7,0,none⟩)] W (lW S B g w (.slice A n c) iv (iL ps (dU ⟨aH xs,its⟩ (aQ ⟨aH xs,its⟩ f) i 1))):=by
 have h:=(H.o.kp _ h7).1.cell 0;simp only [Gp] at h
 have b:=O (U_ H X K h2 h3 k E a);clear a E K X;go_in
 go_wp2_with fail;refine b.o.mono ?_;rintro e r⟨m,rfl,d⟩;go_wp2_with fail;go_end0
 exact⟨m,rfl,d⟩
theorem adX (H:Hid (PZ S B g w W (.slice A n c) iv pv ps))(X:CX w B A Bi n xs its)(K:KX w B g A n c iv xs its f i x)(L:x.1.kind=25)(J:0 < x.1.kids.length)(E:KE w B g A n c iv xs its f x 0)
  (d:ps.length+(bQ ⟨aH xs,its⟩ (aQ ⟨aH xs,its⟩ f) i).length≤1000000) :
  Calls Tryz.prog 158 #[.pointer (some ⟨g,0,none⟩),.int .i64 i] W (lW S B g w (.slice A n c) iv (iL ps (bQ ⟨aH xs,its⟩ (aQ ⟨aH xs,its⟩ f) i))):=by
 have en:=Bf (T:=⟨aH xs,its⟩) (B:=aQ ⟨aH xs,its⟩ f) (i:=i) (by rw [bD its K.hx];exact L);rw [bD its K.hx] at en
 rw [en] at d ⊢
 have hi:i < n:=by rw [← X.len];exact (amG.1 K.hx).1
 obtain⟨b,o,I,m⟩:=(X.at_ H.o).nodes (by have:=X.len;omega);have M:=m.c1 i x K.hx;subst I;have G:=H.o.blk.cell 0;have V:(0:Int)≤(i:Int):=by omega
 have Y:(i:Int) < (n:Int):=by omega
 have a:=O d;have F:=O X;have D:=O K;have C:=O E;clear d m X K E en
 generalize x.1.text=t at *
 go_in
 go_wp2_with fail;refine (Cy H t i (by have:=a.o;simp [au] at this;omega)).mono ?_;rintro e Q⟨N,rfl,k⟩;clear G M;go_wp2_with fail;refine (uV k [58] (-1) (by simp) (by have:=a.o;simp [au] at this ⊢;omega)).mono ?_;rintro e R⟨P,rfl,u⟩;clear k;go_wp2_with fail;refine (kd1 u F.o D.o (j:=0) J C.o (by have:=a.o;rw [d_];simp [au] at this ⊢;omega)).mono ?_;rintro e U⟨r,rfl,v⟩;go_wp2_with fail;go_end0
 exact⟨r,rfl,O (by have h:=v.o;rw [tJ ps _ _ (by simp)] at h;exact h)⟩
end
end
set_option linter.all false
section
open Go.RowKit Mist
attribute [local go_sem] ak aN aV aF aj
def MC (fn:Nat)(w:World)(B g:Nat)(A:Option Addr)(n c:Nat)(iv:Value)(T:Tr)(f i:Nat):Prop :=
 ∀ (S:Sz) (W:World) (pv:Value) (ps:List Pz),Hid (PZ S B g w W (.slice A n c) iv pv ps)→ps.length+(aQ T f i).length≤1000000 →
  Calls Tryz.prog fn #[.pointer (some ⟨g,0,none⟩),.int .i64 i] W (lW S B g w (.slice A n c) iv (iL ps (aQ T f i)))
section
variable {S:Sz} {B g n c f i j q b2 b3 b4 b5 b6 b7:Nat} {w W:World} {A Bi:Option Addr} {nv iv pv:Value} {ps l:List Pz} {xs:List NV} {its:List Int} {x y:NV}
theorem rk3 (H:Hid (PZ S B g w W (.slice A n c) iv pv ps))(X:CX w B A Bi n xs its)(C:xs[i]? = some x)(h4:(b4,54,#[.pointer (some ⟨g,0,none⟩)]) ∈ S)(h6:(b6,56,kY x) ∈ S)
  (r:x.1.kids[j]? = some ((q:Nat):Int)) (F:MC 158 w B g A n c iv ⟨aH xs,its⟩ f q) (v:ps.length+(aQ ⟨aH xs,its⟩ f q).length≤1000000) :
  Calls Tryz.prog 157 #[.int .i64 j,.pointer (some ⟨b4,0,none⟩),.pointer (some ⟨b6,0,none⟩)] W (lW S B g w (.slice A n c) iv (iL ps (aQ ⟨aH xs,its⟩ f q))):=by
 have c4:=(H.o.kp _ h4).1.cell 0;obtain⟨L,kc,h,k,d⟩:=X.kids H.o C;have I:j < x.1.kids.length:=(amG.1 r).1;have u:W.cell? ⟨b6,3,none⟩=some x.2:=(H.o.kp _ h6).1.cell 3;obtain⟨kb,M,a,J,b⟩:=d.ex (by omega);have kq:=b j _ r;rw [h,a] at u
 simp only at c4
 have P:(0:Int)≤(j:Int):=by omega
 generalize x.1.kids.length=m at *
 have Q:(j:Int) < (m:Int):=by omega
 have D:=O F;have E:=O v;clear v F X d h k b C r a;go_in
 go_still_tail 6,(by kernel_rfl)
 change wpList _ _ _ _ _ W.drew
 have t:=O H.o.drew
 generalize W.drew=w1 at t ⊢
 clear H c4 u kq;go_wp2_with fail;refine (D.o S _ pv ps t E.o).mono ?_;rintro e N⟨K,rfl,G⟩;go_wp2_with fail;go_end0
 exact⟨K,rfl,G⟩
theorem br1 (H:Hid (PZ S B g w W nv iv pv ps))(k:Nat)(a:Array Value)(L:Nat→List Pz)(many:Nat)(h4:(b4,54,#[.pointer (some ⟨g,0,none⟩)]) ∈ S)(h5:(b5,3,#[.int .i64 (many:Nat)]) ∈ S)(h7:(b7,53,#[.func (.func k) #[] a]) ∈ S)
  (h0:L 0 ≠ []) (u:many≤1000000) (b:ps.length+(gH L many).length < 1000000)
  (d:∀ (j:Nat) W',Sem.run Tryz.prog (callFunc k (#[.int .i64 (j:Nat)] ++ a)) W'=.ok (.enter k (#[.int .i64 (j:Nat)] ++ a)) W')
  (h:∀ (j:Nat) W' pv' qs,j < many→qs.length+(L j).length≤1000000→Hid (PZ S B g w W' nv iv pv' qs)→Calls Tryz.prog k (#[.int .i64 (j:Nat)] ++ a) W' (lW S B g w nv iv (iL qs (L j)))) :
  Calls Tryz.prog 83 #[.pointer (some ⟨b4,0,none⟩),.pointer (some ⟨b5,0,none⟩),.pointer (some ⟨b7,0,none⟩)] W (lW S B g w nv iv (iL ps (gH L many))):=by
 have c4:=(H.o.kp _ h4).1.cell 0;have c5:=(H.o.kp _ h5).1.cell 0;have t:=(H.o.kp _ h7).1.cell 0;simp only at c4 c5 t
 have m:=O (ls1 H k a L many h0 u b d h);clear h d b;go_in
 go_wp2_with fail;refine m.o.mono ?_;rintro e C⟨v,rfl,r⟩;go_wp2_with fail;go_end0
 exact⟨v,rfl,r⟩
theorem Nz (b:Bool)(H:Hid (PZ S B g w W nv iv pv (iL ps l)))(R:l ≠ [])(k:Nat)(a:Array Value)(L:Nat→List Pz)(many:Nat)(h0:L 0 ≠ [])(P:ps.length+l.length+(gH L many).length+2≤1000000)(U:many≤1000000)
  (D:∀ (j:Nat) m,Sem.run Tryz.prog (callFunc k (#[.int .i64 (j:Nat)] ++ a)) m=.ok (.enter k (#[.int .i64 (j:Nat)] ++ a)) m)
  (Q:∀ (K:Sz) (j:Nat) m d v,(∀ e ∈ S,e ∈ K)→j < many→v.length+(L j).length≤1000000→Hid (PZ K B g w m nv iv d v)→Calls Tryz.prog k (#[.int .i64 (j:Nat)] ++ a) m (lW K B g w nv iv (iL v (L j)))) :
  Calls Tryz.prog 49 #[.pointer (some ⟨g,0,none⟩),.int .i64 (many:Nat),.bool b,.func (.func k) #[] a] W (lW S B g w nv iv (iL ps (l ++ ⟨[123],!(b),-1⟩ :: (cZ false (gH L many) ++ [tz [125] (-1)])))):=by
 have V:(W.alloc (.cells #[.pointer (some ⟨g,0,none⟩)] 54)).heap.size=W.heap.size+1:=by simp
 have X:((W.alloc (.cells #[.pointer (some ⟨g,0,none⟩)] 54)).alloc (.cells #[.int .i64 (many:Nat)] 3)).heap.size=W.heap.size+2:=by simp
 have E:=O (H.o.box (T:=54) (cs:=#[.pointer (some ⟨g,0,none⟩)]) (by decide));have F:=O (E.o.box (T:=3) (cs:=#[.int .i64 (many:Nat)]) (by decide));have C:=O (F.o.box (T:=53) (cs:=#[.func (.func k) #[] a]) (by decide));rw [V,X] at C
 have M:=O D;have N:=O Q;have r:=O P;clear E F H Q D P;have c4:=(C.o.kp _ (List.mem_cons_of_mem _ (List.mem_cons_of_mem _ (List.mem_cons_self ..)))).1.cell 0;simp only at c4
 cases b
 ·go_in
  go_wp2_with fail;refine (I6 C [123] (-1) R (by have:=r.o;omega)).mono ?_;rintro e w2⟨Y,rfl,t⟩;clear c4 C;have c4:=(t.o.kp _ (List.mem_cons_of_mem _ (List.mem_cons_of_mem _ (List.mem_cons_self ..)))).1.cell 0;simp only at c4
  go_wp2_with fail
  refine (in2 t 83 #[.pointer (some ⟨W.heap.size,0,none⟩),.pointer (some ⟨W.heap.size+1,0,none⟩),.pointer (some ⟨W.heap.size+2,0,none⟩)] (gH L many) (by simp) (by have:=r.o;simp;omega) (fun m=>by kernel_rfl)
   (fun m d I=>br1 I k a L many (List.mem_cons_of_mem _ (List.mem_cons_of_mem _ (List.mem_cons_self ..))) (List.mem_cons_of_mem _ (List.mem_cons_self ..)) (List.mem_cons_self ..) h0 U (by have:=r.o;rw [d_];simp;omega) M.o
    (fun j m d v h1 h2 h3=>N.o _ j m d v (fun e D=>List.mem_cons_of_mem _ (List.mem_cons_of_mem _ (List.mem_cons_of_mem _ D))) h1 h2 h3))).mono ?_
  rintro e w3⟨Z,rfl,u⟩;clear c4 t;have c4:=(u.o.kp _ (List.mem_cons_of_mem _ (List.mem_cons_of_mem _ (List.mem_cons_self ..)))).1.cell 0;simp only at c4
  go_wp2_with fail;refine (uV u [125] (-1) (by simp) (by have:=r.o;simp [au];omega)).mono ?_;rintro e w4⟨G,rfl,J⟩;clear c4 u;go_wp2_with fail;go_end0
  exact⟨G,rfl,O (by have h:=J.o.tl.tl.tl;simp only [List.append_assoc,List.cons_append,List.nil_append] at h;exact h)⟩
 ·go_in
  go_wp2_with fail;refine (uV C [123] (-1) R (by have:=r.o;omega)).mono ?_;rintro e w2⟨Y,rfl,t⟩;clear c4 C;have c4:=(t.o.kp _ (List.mem_cons_of_mem _ (List.mem_cons_of_mem _ (List.mem_cons_self ..)))).1.cell 0;simp only at c4
  go_wp2_with fail
  refine (in2 t 83 #[.pointer (some ⟨W.heap.size,0,none⟩),.pointer (some ⟨W.heap.size+1,0,none⟩),.pointer (some ⟨W.heap.size+2,0,none⟩)] (gH L many) (by simp) (by have:=r.o;simp;omega) (fun m=>by kernel_rfl)
   (fun m d I=>br1 I k a L many (List.mem_cons_of_mem _ (List.mem_cons_of_mem _ (List.mem_cons_self ..))) (List.mem_cons_of_mem _ (List.mem_cons_self ..)) (List.mem_cons_self ..) h0 U (by have:=r.o;rw [d_];simp;omega) M.o
    (fun j m d v h1 h2 h3=>N.o _ j m d v (fun e D=>List.mem_cons_of_mem _ (List.mem_cons_of_mem _ (List.mem_cons_of_mem _ D))) h1 h2 h3))).mono ?_
  rintro e w3⟨Z,rfl,u⟩;clear c4 t;have c4:=(u.o.kp _ (List.mem_cons_of_mem _ (List.mem_cons_of_mem _ (List.mem_cons_self ..)))).1.cell 0;simp only at c4
  go_wp2_with fail;refine (uV u [125] (-1) (by simp) (by have:=r.o;simp [au];omega)).mono ?_;rintro e w4⟨G,rfl,J⟩;clear c4 u;go_wp2_with fail;go_end0
  exact⟨G,rfl,O (by have h:=J.o.tl.tl.tl;simp only [List.append_assoc,List.cons_append,List.nil_append] at h;exact h)⟩
end
end
set_option linter.all false
section
open Go.RowKit Mist
theorem mR (T E:TypeId)(m:Tryz.prog.underlying T=some (.map 5 E))(w:World)(a:List (Nat × Value))(k K:Nat)(v:Value)(b:a[k]? = some (K,v))(r:(rF K (a.take k)).isNone=true) :
  (Instr.mapUpdate T (.map (some w.heap.size)) (.int .u8 K) v).run Tryz.prog (w.alloc (.map (iG (a.take k) 0).toArray k))=.ok () (w.alloc (.map (iG (a.take (k+1)) 0).toArray (k+1))):=by
 have e:k < a.length:=(amG.1 b).1;have h:=iO T E m w (a.take k) K v (by simpa using r);have d:(a.take k).length=k:=by rw [List.length_take];omega
 rw [d] at h
 rw [h,List.take_succ_eq_append_getElem e];rw [amF e] at b
 injection b with b
 rw [b]
def gB:List (Nat × Value):=[(5,.string (aG [110,111,116])),(6,.string (aG [43])),(7,.string (aG [45])),(8,.string (aG [42])),(9,.string (aG [47])),(10,.string (aG [37])),(11,.string (aG [61,61])),(12,.string (aG [33,61])),(13,.string (aG [60])),(14,.string (aG [60,61])),(15,.string (aG [62])),(16,.string (aG [62,61])),(17,.string (aG [97,110,100])),(18,.string (aG [111,114]))]
def Ep (k:Nat):Bs:=if k=5 then [110,111,116] else if 6≤k∧k≤18 then Ej k else []
theorem adl (x:Nat):(rF x gB).getD (.string ByteArray.empty)=.string (aG (Ep x)):=by
 by_cases h:x < 19
 ·have h2:∀ j:Fin 19,∃ s,(rF j.val gB).getD (.string ByteArray.empty)=.string (aG s)∧s=Ep j.val:=by
   intro j;obtain⟨j,d⟩:=j;have b:j=0∨j=1∨j=2∨j=3∨j=4∨j=5∨j=6∨j=7∨j=8∨j=9∨j=10∨j=11∨j=12∨j=13∨j=14∨j=15∨j=16∨j=17∨j=18:=by omega
   rcases b with rfl | rfl | rfl | rfl | rfl | rfl | rfl | rfl | rfl | rfl | rfl | rfl | rfl | rfl | rfl | rfl | rfl | rfl | rfl <;> first | exact⟨_,rfl,rfl⟩ | exact⟨[],rfl,rfl⟩
  obtain⟨s,e,rfl⟩:=h2 ⟨x,h⟩;exact e
 ·have a:Ep x=[]:=by unfold Ep;rw [if_neg (by omega),if_neg (by omega)]
  rw [a];simp only [gB,rF]
  repeat rw [if_neg (by omega)]
  rfl
theorem Kn (w:World):(zeroValue 9).run Tryz.prog w=.ok (.string ByteArray.empty) w:=by kernel_rfl
theorem AO (w:World)(m c:Nat)(a:w.heap[m]? = some (.map (iG gB 0).toArray c))(x:Nat):(Instr.lookup 97 (.map (some m)) (.int .u8 x) false).run Tryz.prog w=.ok (.string (aG (Ep x))) w:=by
 have h:=Gu 97 9 (.string ByteArray.empty) Tryz.underlying97 w (Kn w) gB m c a x;rw [h,adl]
theorem Y0 (w:World):Calls Tryz.prog 123 #[] w fun e m=>e=.returned (.map (some w.heap.size))∧m=w.alloc (.map (iG gB 0).toArray 14):=by
 have a:=@run_makeMap Tryz.prog;have r:(Instr.mapUpdate 97 (.map (some w.heap.size)) (.int .u8 5) (.string ⟨#[110,111,116]⟩)).run Tryz.prog (w.alloc (.map #[] 0))=.ok () (w.alloc (.map (iG (gB.take 1) 0).toArray 1)):=mR 97 9 Tryz.underlying97 w gB 0 5 _ rfl rfl;have t:(Instr.mapUpdate 97 (.map (some w.heap.size)) (.int .u8 6) (.string ⟨#[43]⟩)).run Tryz.prog (w.alloc (.map (iG (gB.take 1) 0).toArray 1))=.ok () (w.alloc (.map (iG (gB.take 2) 0).toArray 2)):=mR 97 9 Tryz.underlying97 w gB 1 6 _ rfl rfl;have u:(Instr.mapUpdate 97 (.map (some w.heap.size)) (.int .u8 7) (.string ⟨#[45]⟩)).run Tryz.prog (w.alloc (.map (iG (gB.take 2) 0).toArray 2))=.ok () (w.alloc (.map (iG (gB.take 3) 0).toArray 3)):=mR 97 9 Tryz.underlying97 w gB 2 7 _ rfl rfl;have v:(Instr.mapUpdate 97 (.map (some w.heap.size)) (.int .u8 8) (.string ⟨#[42]⟩)).run Tryz.prog (w.alloc (.map (iG (gB.take 3) 0).toArray 3))=.ok () (w.alloc (.map (iG (gB.take 4) 0).toArray 4)):=mR 97 9 Tryz.underlying97 w gB 3 8 _ rfl rfl;have C:(Instr.mapUpdate 97 (.map (some w.heap.size)) (.int .u8 9) (.string ⟨#[47]⟩)).run Tryz.prog (w.alloc (.map (iG (gB.take 4) 0).toArray 4))=.ok () (w.alloc (.map (iG (gB.take 5) 0).toArray 5)):=mR 97 9 Tryz.underlying97 w gB 4 9 _ rfl rfl;have D:(Instr.mapUpdate 97 (.map (some w.heap.size)) (.int .u8 10) (.string ⟨#[37]⟩)).run Tryz.prog (w.alloc (.map (iG (gB.take 5) 0).toArray 5))=.ok () (w.alloc (.map (iG (gB.take 6) 0).toArray 6)):=mR 97 9 Tryz.underlying97 w gB 5 10 _ rfl rfl;have E:(Instr.mapUpdate 97 (.map (some w.heap.size)) (.int .u8 11) (.string ⟨#[61,61]⟩)).run Tryz.prog (w.alloc (.map (iG (gB.take 6) 0).toArray 6))=.ok () (w.alloc (.map (iG (gB.take 7) 0).toArray 7)):=mR 97 9 Tryz.underlying97 w gB 6 11 _ rfl rfl;have F:(Instr.mapUpdate 97 (.map (some w.heap.size)) (.int .u8 12) (.string ⟨#[33,61]⟩)).run Tryz.prog (w.alloc (.map (iG (gB.take 7) 0).toArray 7))=.ok () (w.alloc (.map (iG (gB.take 8) 0).toArray 8)):=mR 97 9 Tryz.underlying97 w gB 7 12 _ rfl rfl;have G:(Instr.mapUpdate 97 (.map (some w.heap.size)) (.int .u8 13) (.string ⟨#[60]⟩)).run Tryz.prog (w.alloc (.map (iG (gB.take 8) 0).toArray 8))=.ok () (w.alloc (.map (iG (gB.take 9) 0).toArray 9)):=mR 97 9 Tryz.underlying97 w gB 8 13 _ rfl rfl;have H:(Instr.mapUpdate 97 (.map (some w.heap.size)) (.int .u8 14) (.string ⟨#[60,61]⟩)).run Tryz.prog (w.alloc (.map (iG (gB.take 9) 0).toArray 9))=.ok () (w.alloc (.map (iG (gB.take 10) 0).toArray 10)):=mR 97 9 Tryz.underlying97 w gB 9 14 _ rfl rfl;have b:(Instr.mapUpdate 97 (.map (some w.heap.size)) (.int .u8 15) (.string ⟨#[62]⟩)).run Tryz.prog (w.alloc (.map (iG (gB.take 10) 0).toArray 10))=.ok () (w.alloc (.map (iG (gB.take 11) 0).toArray 11)):=mR 97 9 Tryz.underlying97 w gB 10 15 _ rfl rfl;have d:(Instr.mapUpdate 97 (.map (some w.heap.size)) (.int .u8 16) (.string ⟨#[62,61]⟩)).run Tryz.prog (w.alloc (.map (iG (gB.take 11) 0).toArray 11))=.ok () (w.alloc (.map (iG (gB.take 12) 0).toArray 12)):=mR 97 9 Tryz.underlying97 w gB 11 16 _ rfl rfl;have h:(Instr.mapUpdate 97 (.map (some w.heap.size)) (.int .u8 17) (.string ⟨#[97,110,100]⟩)).run Tryz.prog (w.alloc (.map (iG (gB.take 12) 0).toArray 12))=.ok () (w.alloc (.map (iG (gB.take 13) 0).toArray 13)):=mR 97 9 Tryz.underlying97 w gB 12 17 _ rfl rfl;have k:(Instr.mapUpdate 97 (.map (some w.heap.size)) (.int .u8 18) (.string ⟨#[111,114]⟩)).run Tryz.prog (w.alloc (.map (iG (gB.take 13) 0).toArray 13))=.ok () (w.alloc (.map (iG (gB.take 14) 0).toArray 14)):=mR 97 9 Tryz.underlying97 w gB 13 18 _ rfl rfl;go_in
 go_wp2_with fail;go_ret;exact⟨rfl,rfl⟩
end
