/-
  A part of the proof.
-/
import Derived.Laws.EntriesVeiled
import Derived.Test.YtflnfhhgamldhaaGreatDoorS15
set_option linter.all false
set_option maxRecDepth 100000
set_option maxHeartbeats 4000000
namespace Go.Proofs.YtflnfhhgamldhaaGreatDoor
section
open Go.RowKit Mist
def Sw (p:Part):List Value:=[.int .i64 p.least,.int .i64 p.most,Ie p.pd]
structure dR (w:World) (A:Option Addr) (ps:List Part):Prop where
 ex:0 < ps.length→∃ b,A=some ⟨b,0,none⟩∧b < w.heap.size∧∀ (j:Nat) p,ps[j]? = some p→w.cell? ⟨b,j * 3,none⟩=some (.int .i64 p.least)∧w.cell? ⟨b,j * 3+1,none⟩=some (.int .i64 p.most)∧w.cell? ⟨b,j * 3+2,none⟩=some (Ie p.pd)
theorem dR.below {w d:World}{A:Option Addr}{ps:List Part}(h:dR w A ps)(a:Below w.heap.size w d):dR d A ps :=
 ⟨fun h0=>by
  obtain⟨b,e,c,f⟩:=h.ex h0
  refine⟨b,e,alb c a.size,fun j p g=>?_⟩
  obtain⟨h1,h2,h3⟩:=f j p g;exact⟨(a.cell (by exact c)).trans h1,(a.cell (by exact c)).trans h2,(a.cell (by exact c)).trans h3⟩⟩
theorem dR.nil (w:World):dR w none []:=⟨fun h=>absurd h (by simp)⟩
theorem dR.one {w:World}{b:Nat}{T:TypeId}{p:Part}(h:bf w b T (Sw p).toArray):dR w (some ⟨b,0,none⟩) [p]:=by
 refine⟨fun _=>⟨b,rfl,h.lt,fun j q a=>?_⟩⟩
 have:j=0∧p=q:=by
  cases j with
  | zero=>exact⟨rfl,by simpa using a⟩
  | succ j=>simp at a
 obtain⟨rfl,rfl⟩:=this;exact⟨h.cell 0,h.cell 1,h.cell 2⟩
theorem aO (n:Int)(w:World):Calls Tryz.prog 159 #[.int .i64 n,.func (.func 160) #[] #[]] w fun e a=>e=.returned (.agg #[.int .i64 n,.int .i64 n,.func (.func 160) #[] #[]])∧Below w.heap.size w a:=by
 go_in
 go_wp2;refine bodyPost_ret (v:=.agg #[.int .i64 n,.int .i64 n,.func (.func 160) #[] #[]]) (by simp [results,Tryz.f159,go_sem]) rfl ⟨rfl,?_⟩
 repeat (first | exact Below.refl _ _ | refine eF ?_ (ak0 _) | refine aG ?_ (ak0 _))
theorem L_ (n:Int)(w:World):Calls Tryz.prog 159 #[.int .i64 n,.func (.func 164) #[] #[]] w fun e a=>e=.returned (.agg #[.int .i64 n,.int .i64 n,.func (.func 164) #[] #[]])∧Below w.heap.size w a:=by
 go_in
 go_wp2;refine bodyPost_ret (v:=.agg #[.int .i64 n,.int .i64 n,.func (.func 164) #[] #[]]) (by simp [results,Tryz.f159,go_sem]) rfl ⟨rfl,?_⟩
 repeat (first | exact Below.refl _ _ | refine eF ?_ (ak0 _) | refine aG ?_ (ak0 _))
theorem ZI (n:Int)(w:World):Calls Tryz.prog 159 #[.int .i64 n,.func (.func 165) #[] #[]] w fun e a=>e=.returned (.agg #[.int .i64 n,.int .i64 n,.func (.func 165) #[] #[]])∧Below w.heap.size w a:=by
 go_in
 go_wp2;refine bodyPost_ret (v:=.agg #[.int .i64 n,.int .i64 n,.func (.func 165) #[] #[]]) (by simp [results,Tryz.f159,go_sem]) rfl ⟨rfl,?_⟩
 repeat (first | exact Below.refl _ _ | refine eF ?_ (ak0 _) | refine aG ?_ (ak0 _))
theorem rE (A:Option Addr)(n c:Nat)(w:World):Calls Tryz.prog 161 #[.slice A n c] w fun e a=>e=.returned (.agg #[.bool false,.int .i64 0,.int .i64 0,.slice A n c])∧Below w.heap.size w a:=by
 go_in
 go_wp2;refine bodyPost_ret (v:=.agg #[.bool false,.int .i64 0,.int .i64 0,.slice A n c]) (by simp [results,Tryz.f161,go_sem]) rfl ⟨rfl,?_⟩
 repeat (first | exact Below.refl _ _ | refine eF ?_ (ak0 _) | refine aG ?_ (ak0 _))
theorem mq (A:Option Addr)(n c:Nat)(w:World):Calls Tryz.prog 162 #[.slice A n c] w fun e a=>e=.returned (.agg #[.bool true,.int .i64 0,.int .i64 0,.slice A n c])∧Below w.heap.size w a:=by
 go_in
 go_wp2;refine bodyPost_ret (v:=.agg #[.bool true,.int .i64 0,.int .i64 0,.slice A n c]) (by simp [results,Tryz.f162,go_sem]) rfl ⟨rfl,?_⟩
 repeat (first | exact Below.refl _ _ | refine eF ?_ (ak0 _) | refine aG ?_ (ak0 _))
def eu (s:Option Shape)(w:World)(e:Ending)(w':World):Prop :=
 ∃ nm lo hi A n c b,e=.returned (.tuple #[.agg #[.bool nm,.int .i64 lo,.int .i64 hi,.slice A n c],.bool b])∧Below w.heap.size w w'∧match s with
  | none=>b=false
  | some s=>b=true∧nm=s.named∧lo=s.low∧hi=s.high∧n=s.parts.length∧n≤c∧dR w' A s.parts
theorem u_ {W:World}{cs:Array Value}{T:TypeId}{k:Nat}(a:W.heap.size=k):bf (W.alloc (.cells cs T)) k T cs:=by subst a;exact bf.new W T cs
theorem gW {W a:World}{cs:Array Value}{T:TypeId}(b:Below (W.alloc (.cells cs T)).heap.size (W.alloc (.cells cs T)) a):bf a W.heap.size T cs:=(bf.new W T cs).below b (by simp)
theorem Vn {w w1 i g:World}{c c1:Array Value}{a d:TypeId}(e:Below ((w.alloc (.cells c a)).alloc (.cells c1 d)).heap.size ((w.alloc (.cells c a)).alloc (.cells c1 d)) w1)(f:Below w1.heap.size w1 i)(h:Below i.heap.size i g):bf g w.heap.size a c∧bf g (w.heap.size+1) d c1∧Below w.heap.size w g:=by
 have b:=e.trans ((f.trans (h.mono f.size)).mono e.size)
 have h1:bf ((w.alloc (.cells c a)).alloc (.cells c1 d)) (w.heap.size+1) d c1:=by
  have:=bf.new (w.alloc (.cells c a)) d c1
  rwa [show (w.alloc (.cells c a)).heap.size=w.heap.size+1 by simp] at this
 refine⟨((bf.new w a c).alloc _).below b (by simp;omega),h1.below b (by simp),(aG (aG (Below.refl _ _) (ak0 _)) (by simp)).trans (b.mono (by simp;omega))⟩
theorem fu {w w1 l b:World}{f c1:Array Value}{d e:TypeId}(i:Below ((w.alloc (.cells f d)).alloc (.cells c1 e)).heap.size ((w.alloc (.cells f d)).alloc (.cells c1 e)) w1)(j:Below w1.heap.size w1 l)(k:Below l.heap.size l b):w.heap.size+1 < b.heap.size∧∃ a,(((((b.alloc (.cells #[.int .i64 1,.int .i64 1,.func (.func 160) #[] #[]] 169)).alloc (.cells #[.int .i64 2,.int .i64 2,.func (.func 160) #[] #[]] 169)).alloc (.cells #[.int .i64 3,.int .i64 3,.func (.func 160) #[] #[]] 169)).alloc (.cells #[.int .i64 0,.int .i64 801,.func (.func 160) #[] #[]] 169)).alloc (.cells #[.int .i64 1,.int .i64 801,.func (.func 160) #[] #[]] 169))=a∧Hid (bf a (w.heap.size+1) e c1)∧Hid (bf a w.heap.size d f)∧Hid (Below w.heap.size w a)∧Hid (a.heap.size=b.heap.size+1+1+1+1+1)∧w.heap.size+1 < a.heap.size∧w.heap.size < a.heap.size∧Hid (bf a (b.heap.size) 169 #[.int .i64 1,.int .i64 1,.func (.func 160) #[] #[]])∧Hid (bf a (b.heap.size+1) 169 #[.int .i64 2,.int .i64 2,.func (.func 160) #[] #[]])∧Hid (bf a (b.heap.size+1+1) 169 #[.int .i64 3,.int .i64 3,.func (.func 160) #[] #[]])∧Hid (bf a (b.heap.size+1+1+1) 169 #[.int .i64 0,.int .i64 801,.func (.func 160) #[] #[]])∧Hid (bf a (b.heap.size+1+1+1+1) 169 #[.int .i64 1,.int .i64 801,.func (.func 160) #[] #[]]):=by
 obtain⟨g,c,h⟩:=Vn i j k;have m:=c.lt
 refine⟨m,_,rfl,O ?_,O ?_,O ?_,O (by simp),(by simp;omega),(by simp;omega),O ?_,O ?_,O ?_,O ?_,O ?_⟩
 ·repeat (first | exact c | refine bf.alloc ?_ _)
 ·repeat (first | exact g | refine bf.alloc ?_ _)
 ·repeat (first | exact h | refine aG ?_ ?_ | omega|(simp;omega))
 all_goals repeat (first|(with_reducible exact u_ (by first | rfl | simp))|(with_reducible refine bf.alloc ?_ _))
structure jH (w:World) (A:Option Addr) (ks:List Nat):Prop where
 ex:0 < ks.length→∃ b o,A=some ⟨b,o,none⟩∧b < w.heap.size∧∀ (j:Nat) k,ks[j]? = some k→w.cell? ⟨b,o+j,none⟩=some (.int .u8 k)
theorem jH.below {w d:World}{A:Option Addr}{ks:List Nat}(h:jH w A ks)(a:Below w.heap.size w d):jH d A ks :=
 ⟨fun h0=>by
  obtain⟨b,o,e,c,f⟩:=h.ex h0;exact⟨b,o,e,alb c a.size,fun j k g=>(a.cell (by exact c)).trans (f j k g)⟩⟩
theorem jH.take {w:World}{A:Option Addr}{ks:List Nat}(h:jH w A ks)(n:Nat):jH w A (ks.take n) :=
 ⟨fun h0=>by
  obtain⟨b,o,e,d,c⟩:=h.ex (by rw [List.length_take] at h0;omega)
  refine⟨b,o,e,d,fun j k a=>c j k ?_⟩
  rw [List.getElem?_take] at a
  split at a
  ·exact a
  ·cases a⟩
theorem jH.drop {w:World}{A:Option Addr}{ks:List Nat}(h:jH w A ks){n c:Nat}(f:ks.length≤c):jH w (if c=n then A else A.map (·.add n)) (ks.drop n) :=
 ⟨fun h0=>by
  rw [List.length_drop] at h0
  obtain⟨b,o,rfl,e,a⟩:=h.ex (by omega);rw [if_neg (by omega)]
  refine⟨b,o+n,by rw [Option.map_some,xQ],e,fun j k d=>?_⟩
  rw [Nat.add_assoc];exact a (n+j) k (by rwa [List.getElem?_drop] at d)⟩
theorem RB (p:Pd)(k:Nat)(r:Bool)(d:p.is k=r)(w:World)(a b:Value)(g:Nat)(T:TypeId)(c:bf w g T #[a,b,Ie p]):Calls Tryz.prog 170 #[.int .u8 k,.pointer (some ⟨g,0,none⟩)] w fun e f=>e=.returned (.bool (!r))∧w=f:=by
 cases p with
 | expr=>exact TL k r d w a b g T c
 | typ=>exact Yz k r d w a b g T c
 | param=>exact Pb k r d w a b g T c
 | put=>exact Yy k r d w a b g T c
 | num=>exact Yx k r d w a b g T c
theorem LW (p:Pd)(ks:List Nat)(A:Option Addr)(c:Nat)(w:World)(x:jH w A ks)(H:ks.length≤1000000)(a d:Value)(g:Nat)(T:TypeId)(B:bf w g T #[a,d,Ie p]) :
  Calls Tryz.prog 186 #[.slice A ks.length c,.func (.func 170) #[] #[.pointer (some ⟨g,0,none⟩)]] w fun e I=>(∃ i:Int,e=.returned (.int .i64 i)∧decide (0≤i)=!(ks.all p.is))∧w=I:=by
 obtain⟨n,m⟩:∃ n,n=ks.length:=⟨_,rfl⟩;rw [← m] at H ⊢
 have j:=O m;clear m;have D:=O x;clear x;have t:=O B;clear B;go_in
 go_wp2_with fail;go_loop [8] (fun i=>∃ k:Nat,k≤n∧i=.int .i64 k∧Hid ((ks.take k).all p.is=true)) (fun i=>n - (intOf i).toNat)
 case atStart=>exact⟨0,ak2 _,rfl,O rfl⟩
 case round =>
  obtain⟨k,K,rfl,v⟩:=hrel;by_cases l:k < n
  ·obtain⟨b,o,rfl,F,y⟩:=D.o.ex (by rw [← j.o];omega);obtain⟨q,r⟩:∃ q,ks[k]? = some q:=⟨_,akU (by rw [← j.o];exact l)⟩;have J:=y k q r;have u:=O r;clear y r;have L:(0:Int)≤(k:Int):=by omega
   have M:(k:Int) < (n:Int):=by omega
   have E:=O (show ks.take (k+1)=ks.take k ++ [q] by rw [List.take_add_one,u.o];rfl)
   cases h:p.is q
   ·have f:=O h;clear h;go_wp2_with fail;refine (RB p q false f.o _ a d g T t.o).mono ?_;rintro e w1⟨rfl,rfl⟩;go_wp2_with fail;go_ret
    refine⟨⟨k,rfl,?_⟩,rfl⟩
    have G:ks.all p.is=false:=by
     rw [List.all_eq_false];exact⟨q,ak3 u.o,by rw [f.o];simp⟩
    rw [G];simp
   ·have f:=O h;clear h;go_wp2_with fail;refine (RB p q true f.o _ a d g T t.o).mono ?_;rintro e w1⟨rfl,rfl⟩;go_wp2_with fail;go_round
    case rel=>exact⟨k+1,by omega,by go_num,O (by rw [E.o,List.all_append,v.o];simp [f.o])⟩
    case measure=>simp [intOf];omega
  ·have C:=O (show ks.all p.is=true by have:=v.o;rwa [ak4 (by rw [← j.o];omega)] at this);go_wp2_with fail;go_ret;exact⟨⟨-1,rfl,by rw [C.o];rfl⟩,rfl⟩
theorem DI (p:Pd)(ks:List Nat)(A:Option Addr)(c:Nat)(w:World)(d:jH w A ks)(l:ks.length≤1000000)(a b:Value)(g:Nat)(T:TypeId)(f:bf w g T #[a,b,Ie p])(r:Bool)(h:ks.all p.is=r) :
  Calls Tryz.prog 169 #[.slice A ks.length c,.func (.func 170) #[] #[.pointer (some ⟨g,0,none⟩)]] w fun e m=>e=.returned (.bool (!r))∧w=m:=by
 have k:=O h;clear h;have j:=O (LW p ks A c w d l a b g T f);clear d f;go_in
 go_wp2_with fail;refine j.o.mono ?_;rintro e w1⟨⟨i,rfl,hi⟩,rfl⟩;rw [k.o] at hi
 go_wp2_with fail;go_ret;exact⟨rfl,rfl⟩
theorem tH (p:Pd)(ks:List Nat)(n:Nat)(i:ks.length=n)(A:Option Addr)(c:Nat)(w:World)(d:jH w A ks)(h:ks.length≤1000000)(a b:Value)(g:Nat)(T:TypeId)(f:bf w g T #[a,b,Ie p])(r:Bool)(j:ks.all p.is=r) :
  Calls Tryz.prog 169 #[.slice A n c,.func (.func 170) #[] #[.pointer (some ⟨g,0,none⟩)]] w fun e k=>e=.returned (.bool (!r))∧w=k:=by
 subst i;exact DI p ks A c w d h a b g T f r j
theorem Na (l:List Part)(p:Part):kL (l ++ [p])=kL l+p.least:=by simp [kL]
theorem Ji {l M:Int}{c:Pd}{r:List Part}{ks:List Nat}{m:Nat}{rs:Int}(h:Mist.within ((m:Int) - rs) l M=false)(a:ks.length=m)(b:rs=kL r):Mist.fits (⟨l,M,c⟩ :: r) ks=false:=by
 rw [Mist.fits];subst a;subst b;rw [h];rfl
theorem vZ {l M:Int}{b:Pd}{r:List Part}{ks:List Nat}{m a:Nat}{rs:Int}(h:Mist.within ((m:Int) - rs) l M=true)(c:ks.length=m)(e:rs=kL r)(d:(m:Int) - rs=(a:Int)):Mist.fits (⟨l,M,b⟩ :: r) ks=((ks.take a).all b.is && Mist.fits r (ks.drop a)):=by
 rw [Mist.fits];subst c;subst e;rw [h,Bool.true_and,d,ak7]
def vX (ps:List Part):Prop:=ps.length≤3∧∀ p ∈ ps,0≤p.least∧p.least≤801∧0≤p.most∧p.most≤801
theorem YW (nm:Bool)(lo hi:Int)(ps:List Part)(A:Option Addr)(c:Nat)(ks:List Nat)(K:Option Addr)(kc:Nat)(w:World)(hP:dR w A ps)(hpc:ps.length≤c)(hR:vX ps)(hK:jH w K ks)(hl:ks.length≤1000000)(L:ks.length≤kc) :
  Calls Tryz.prog 134 #[.agg #[.bool nm,.int .i64 lo,.int .i64 hi,.slice A ps.length c],.slice K ks.length kc] w fun e w'=>e=.returned (.bool (Mist.fits ps ks))∧Below w.heap.size w w':=by
 obtain⟨n,hn⟩:∃ n,n=ps.length:=⟨_,rfl⟩;obtain⟨m0,C⟩:∃ m,m=ks.length:=⟨_,rfl⟩;have hn3:n≤3:=by rw [hn];exact hR.1
 rw [← hn] at hpc ⊢
 rw [← C] at hl L ⊢
 have P:=O hn;clear hn;have h:=O C;clear C;have HP:=O hP;clear hP;have HR:=O hR;clear hR;have M:=O hK;clear hK;go_in
 go_wp2_with fail;have Q:=O (bf.new w 150 #[.bool nm,.int .i64 lo,.int .i64 hi,.slice A n c]);have ni:=O (aG (Below.refl w.heap.size w) (ak0 _) (o:=.cells #[.bool nm,.int .i64 lo,.int .i64 hi,.slice A n c] 150));go_loopw [1,14] (fun v i wr=>∃ (k m t:Nat) (a:List Nat) (S:Option Addr),k≤n∧i=.int .i64 k∧v=.slice S m t∧m≤t∧m≤1000000∧Hid (a.length=m)∧Hid (jH wr S a)∧Hid (Mist.fits (ps.drop k) a=Mist.fits ps ks)∧Hid (Below w.heap.size w wr)∧Hid (bf wr w.heap.size 150 #[.bool nm,.int .i64 lo,.int .i64 hi,.slice A n c])) (fun _ i _=>n - (intOf i).toNat)
 case atStart=>exact⟨0,m0,kc,ks,K,ak2 _,rfl,rfl,L,hl,O h.o.symm,O (M.o.below ni.o),O rfl,ni,Q⟩
 case round =>
  clear Q ni M h hl L;obtain⟨k,m,t,a,S,hk,rfl,rfl,hmc,hm6,h,M,HF,N,Q⟩:=hrel;obtain⟨F,rfl⟩:∃ F:World,F=wr:=⟨_,rfl⟩;have t3:=Q.o.cell 3;have hsz:=Q.o.lt;by_cases W:k < n
  ·obtain⟨b,rfl,r,J⟩:=HP.o.ex (by rw [← P.o];omega);obtain⟨p,hp⟩:∃ p,ps[k]? = some p:=⟨_,akU (by rw [← P.o];exact W)⟩;obtain⟨c0,c1,c2⟩:=J k p hp;have d0:=(N.o.cell (p:=⟨b,k * 3,none⟩) r).trans c0;have d1:=(N.o.cell (p:=⟨b,k * 3+1,none⟩) r).trans c1;have d2:=(N.o.cell (p:=⟨b,k * 3+2,none⟩) r).trans c2;have hpr:=HR.o.2 p (ak3 hp);have HCL:=O J;have HPP:=O hp;clear c0 c1 c2 J hp;simp only [Ie] at d2
   obtain⟨y,d,R⟩:=p;simp only at d0 d1 d2 hpr
   have i1:(0:Int)≤(k:Int):=by omega
   have i2:(k:Int) < (n:Int):=by omega
   have HD:=O (show ps.drop k=⟨y,d,R⟩ :: ps.drop (k+1) by
    rw [alc (by rw [← P.o];exact W),(akV.1 HPP.o).2])
   have H:=O (show Mist.fits (⟨y,d,R⟩ :: ps.drop (k+1)) a=Mist.fits ps ks by rw [← HD.o];exact HF.o);clear HF HD;obtain⟨q,hq⟩:∃ q,q=JM R:=⟨_,rfl⟩;rw [← hq] at d2
   have HQ:=O hq;clear hq;have akb:k+1≤c:=by omega
   rcases Classical.em (c=k+1) with rfl | hck
   all_goals
    go_wp2_with fail;have B:=O (bf.new F 169 #[.int .i64 y,.int .i64 d,.func (.func q) #[] #[]]);have x:=O (aG N.o N.o.size (o:=.cells #[.int .i64 y,.int .i64 d,.func (.func q) #[] #[]] 169));go_loopw [7,25] (fun v j wU=>∃ (f:Nat) (rs:Int),f≤n - (k+1)∧j=.int .i64 f∧v=.int .i64 rs∧0≤rs∧rs≤801 * (f:Int)∧Hid (rs=kL ((ps.drop (k+1)).take f))∧Hid (Below w.heap.size w wU)∧Hid (bf wU F.heap.size 169 #[.int .i64 y,.int .i64 d,.func (.func q) #[] #[]])∧Hid (Below F.heap.size F wU)) (fun _ j _=>n - (k+1) - (intOf j).toNat)
    case atStart=>exact⟨0,0,ak2 _,rfl,rfl,Int.le_refl _,by omega,O (by simp [kL]),x,B,O (aG (Below.refl _ _) (ak0 _))⟩
    case round =>
     clear x B;obtain⟨f,rs,hj,rfl,rfl,hr0,hr1,IZ,x,B,l⟩:=hrel;by_cases U:f < n - (k+1)
     ·first
      | (exfalso;omega)
      | (obtain ⟨Z, D⟩ : ∃ Z, ps[k + 1 + f]? = some Z := ⟨_, akU (by rw [← P.o]; omega)⟩
         obtain⟨e0,e1,e2⟩:=HCL.o (k+1+f) Z D;have aiz:=HR.o.2 Z (ak3 D);have g0:=(x.o.cell (p:=⟨b,(k+1+f) * 3,none⟩) r).trans e0;have g1:=(x.o.cell (p:=⟨b,(k+1+f) * 3+1,none⟩) r).trans e1;have g2:=(x.o.cell (p:=⟨b,(k+1+f) * 3+2,none⟩) r).trans e2;rw [show (k+1+f) * 3=(k+1) * 3+f * 3 by omega] at g0 g1 g2
         have HP2:=O D;clear e0 e1 e2 D;simp only [Ie] at g2
         obtain⟨T,aiN,pd2⟩:=Z;simp only at g0 g1 g2 aiz
         obtain⟨q2,X⟩:∃ q,q=JM pd2:=⟨_,rfl⟩;rw [← X] at g2
         clear X;have j1:(0:Int)≤(f:Int):=by omega
         have j2:(f:Int) < ((n - (k+1):Nat):Int):=by omega
         have j3:decide (f < n - (k+1))=true:=ak' U;go_wp2_with fail
         refine⟨⟨f+1,rs+T,by omega,by go_num,rfl,by omega,by omega,O ?_,O (aG x.o x.o.size),O (B.o.alloc _),O (aG l.o l.o.size)⟩,by simp [intOf];omega⟩
         rw [List.take_add_one,List.getElem?_drop,HP2.o,IZ.o];exact (Na _ (⟨T,aiN,pd2⟩:Part)).symm)
     ·have I:=O (show rs=kL (ps.drop (k+1)) by rw [IZ.o,ak4 (by rw [List.length_drop,← P.o];omega)]);clear IZ;have akf:=B.o.lt;have j3:decide (f < n - (k+1))=false:=ala U;have b0:=B.o.cell 0;have b1:=B.o.cell 1;have hjn:(f:Int)≤3:=by omega
      have akd:rs≤2403:=by omega
      have C:(0:Int)≤(m:Int):=by omega
      have hm1:(m:Int)≤1000000:=by omega
      cases Y:Mist.within ((m:Int) - rs) y d
      ·have G:=O Y;clear Y;go_wp2_with fail;refine (eD ((m:Int) - rs) y d false G.o _).mono ?_;rintro e w2⟨rfl,rfl⟩;go_wp2_with fail;go_ret;exact⟨bM (by rw [← H.o,Ji G.o h.o I.o]),x.o⟩
      ·have G:=O Y;have hw2:y≤(m:Int) - rs∧(m:Int) - rs≤d:=by simpa [Mist.within] using Y
       obtain⟨g,hnn⟩:∃ g:Nat,(m:Int) - rs=(g:Int):=⟨((m:Int) - rs).toNat,by omega⟩;have uq:=O hnn;have hnm:g≤m:=by omega
       clear Y;have n1:(0:Int)≤(g:Int):=by omega
       have n2:(g:Int)≤(m:Int):=by omega
       cases E:(a.take g).all R.is
       ·have u:=O E;clear E;go_wp2_with fail;refine (eD _ y d true (by rw [← uq.o];exact G.o) _).mono ?_;rintro e w2⟨rfl,rfl⟩;go_wp2_with fail;refine (tH R (a.take g) g (by rw [List.length_take,h.o];omega) S t _ ((M.o.below l.o).take g) (by rw [List.length_take,h.o];omega) _ _ F.heap.size 169 (by rw [Ie,← HQ.o];exact B.o) false u.o).mono ?_;rintro e w3⟨rfl,rfl⟩;go_wp2_with fail;go_ret;exact⟨bM (by rw [← H.o,vZ G.o h.o I.o uq.o,u.o,Bool.false_and]),x.o⟩
       ·have u:=O E;clear E;by_cases V:t=g
        all_goals
         go_wp2_with fail;refine (eD _ y d true (by rw [← uq.o];exact G.o) _).mono ?_;rintro e w2⟨rfl,rfl⟩;go_wp2_with fail;refine (tH R (a.take g) g (by rw [List.length_take,h.o];omega) S _ _ ((M.o.below l.o).take g) (by rw [List.length_take,h.o];omega) _ _ F.heap.size 169 (by rw [Ie,← HQ.o];exact B.o) true u.o).mono ?_;rintro e w3⟨rfl,rfl⟩;go_wp2_with fail;have tV:=O ((M.o.below l.o).drop (n:=g) (c:=t) (by rw [h.o];exact hmc))
         refine⟨⟨k+1,m - g,_,a.drop g,_,by omega,by go_num,rfl,by omega,by omega,O (by rw [List.length_drop,h.o]),O (by have h9:=tV.o;first | rwa [if_pos V] at h9 | rwa [if_neg V] at h9),O (by have h9:=H.o;rw [vZ G.o h.o I.o uq.o,u.o,Bool.true_and] at h9;exact h9),x,O (Q.o.below l.o hsz)⟩,by simp [intOf];omega⟩
  ·have HE:=O (show Mist.fits ps ks=decide (m=0) by
    rw [← HF.o,List.drop_of_length_le (by rw [← P.o];omega),← h.o,Mist.fits]
    cases a <;> simp)
   go_wp2_with fail;go_ret
   refine⟨bM ?_,N.o⟩
   rw [HE.o,akZ];simp
end
section
open Go.RowKit Mist
attribute [local go_sem] ah aM aV au ak
theorem aa6 (x:Bs)(n a:Int)(j:Option Addr)(r k:Nat)(w:World):Calls Tryz.prog 132 #[.agg #[.int .u8 1,.string (aH x),.int .i64 n,.slice j r k,.int .i64 a]] w (eu (Mist.shapeOf 1 n) w):=by
 go_in
 go_wp2_with fail;refine (aO _ _).mono ?_;rintro e w1⟨rfl,c⟩;go_wp2_with fail;refine (aO _ _).mono ?_;rintro e E⟨rfl,d⟩;go_wp2_with fail;refine (aO _ _).mono ?_;rintro e F⟨rfl,f⟩;have g:=O (fu c d f);have m:=g.o.1;clear c d f;go_upto_region 5 with (fail)
 obtain⟨G,h,b,i,q,H,l,I,-⟩:=g.o.2;rw [h];clear h m g;have B:=i.o.cell 0;have C:=i.o.cell 2;have t:=b.o.cell 0;have u:=b.o.cell 1;have y:=b.o.cell 2;have A:=b.o.cell 3;have r0:=b.o.frozen 0;have r1:=b.o.frozen 1;have r2:=b.o.frozen 2;have D:=b.o.frozen 3;go_wp2_with fail;refine bodyPost_ret (v:=.tuple #[.agg #[.bool false,.int .i64 0,.int .i64 9999,.slice none 0 0],.bool true]) (by simp [results,Tryz.f132,go_sem,t,u,y,A]) rfl ?_
 refine⟨_,_,_,_,_,_,_,rfl,?_,rfl,rfl,rfl,rfl,rfl,ak0 _,?_⟩
 ·repeat (first|(with_reducible exact q.o)|(with_reducible refine eF ?_ ?_)|(with_reducible refine aG ?_ ?_) | omega|(simp;omega))
 ·exact dR.nil _
theorem aa7 (x:Bs)(n a:Int)(j:Option Addr)(r k:Nat)(w:World):Calls Tryz.prog 132 #[.agg #[.int .u8 2,.string (aH x),.int .i64 n,.slice j r k,.int .i64 a]] w (eu (Mist.shapeOf 2 n) w):=by
 go_in
 go_wp2_with fail;refine (aO _ _).mono ?_;rintro e w1⟨rfl,c⟩;go_wp2_with fail;refine (aO _ _).mono ?_;rintro e E⟨rfl,d⟩;go_wp2_with fail;refine (aO _ _).mono ?_;rintro e F⟨rfl,f⟩;have g:=O (fu c d f);have m:=g.o.1;clear c d f;go_upto_region 5 with (fail)
 obtain⟨G,h,b,i,q,H,l,I,-⟩:=g.o.2;rw [h];clear h m g;have B:=i.o.cell 0;have C:=i.o.cell 2;have t:=b.o.cell 0;have u:=b.o.cell 1;have y:=b.o.cell 2;have A:=b.o.cell 3;have r0:=b.o.frozen 0;have r1:=b.o.frozen 1;have r2:=b.o.frozen 2;have D:=b.o.frozen 3;go_wp2_with fail;refine bodyPost_ret (v:=.tuple #[.agg #[.bool false,.int .i64 0,.int .i64 1,.slice none 0 0],.bool true]) (by simp [results,Tryz.f132,go_sem,t,u,y,A]) rfl ?_
 refine⟨_,_,_,_,_,_,_,rfl,?_,rfl,rfl,rfl,rfl,rfl,ak0 _,?_⟩
 ·repeat (first|(with_reducible exact q.o)|(with_reducible refine eF ?_ ?_)|(with_reducible refine aG ?_ ?_) | omega|(simp;omega))
 ·exact dR.nil _
theorem Wh (x:Bs)(n a:Int)(j:Option Addr)(r k:Nat)(w:World):Calls Tryz.prog 132 #[.agg #[.int .u8 30,.string (aH x),.int .i64 n,.slice j r k,.int .i64 a]] w (eu (Mist.shapeOf 30 n) w):=by
 go_in
 go_wp2_with fail;refine (aO _ _).mono ?_;rintro e w1⟨rfl,c⟩;go_wp2_with fail;refine (aO _ _).mono ?_;rintro e E⟨rfl,d⟩;go_wp2_with fail;refine (aO _ _).mono ?_;rintro e F⟨rfl,f⟩;have g:=O (fu c d f);have m:=g.o.1;clear c d f;go_upto_region 5 with (fail)
 obtain⟨G,h,b,i,q,H,l,I,-⟩:=g.o.2;rw [h];clear h m g;have B:=i.o.cell 0;have C:=i.o.cell 2;have t:=b.o.cell 0;have u:=b.o.cell 1;have y:=b.o.cell 2;have A:=b.o.cell 3;have r0:=b.o.frozen 0;have r1:=b.o.frozen 1;have r2:=b.o.frozen 2;have D:=b.o.frozen 3;go_wp2_with fail;refine bodyPost_ret (v:=.tuple #[.agg #[.bool false,.int .i64 0,.int .i64 0,.slice none 0 0],.bool true]) (by simp [results,Tryz.f132,go_sem,t,u,y,A]) rfl ?_
 refine⟨_,_,_,_,_,_,_,rfl,?_,rfl,rfl,rfl,rfl,rfl,ak0 _,?_⟩
 ·repeat (first|(with_reducible exact q.o)|(with_reducible refine eF ?_ ?_)|(with_reducible refine aG ?_ ?_) | omega|(simp;omega))
 ·exact dR.nil _
theorem Wi (x:Bs)(n a:Int)(j:Option Addr)(r k:Nat)(w:World):Calls Tryz.prog 132 #[.agg #[.int .u8 31,.string (aH x),.int .i64 n,.slice j r k,.int .i64 a]] w (eu (Mist.shapeOf 31 n) w):=by
 go_in
 go_wp2_with fail;refine (aO _ _).mono ?_;rintro e w1⟨rfl,c⟩;go_wp2_with fail;refine (aO _ _).mono ?_;rintro e E⟨rfl,d⟩;go_wp2_with fail;refine (aO _ _).mono ?_;rintro e F⟨rfl,f⟩;have g:=O (fu c d f);have m:=g.o.1;clear c d f;go_upto_region 5 with (fail)
 obtain⟨G,h,b,i,q,H,l,I,-⟩:=g.o.2;rw [h];clear h m g;have B:=i.o.cell 0;have C:=i.o.cell 2;have t:=b.o.cell 0;have u:=b.o.cell 1;have y:=b.o.cell 2;have A:=b.o.cell 3;have r0:=b.o.frozen 0;have r1:=b.o.frozen 1;have r2:=b.o.frozen 2;have D:=b.o.frozen 3;go_wp2_with fail;refine bodyPost_ret (v:=.tuple #[.agg #[.bool false,.int .i64 0,.int .i64 0,.slice none 0 0],.bool true]) (by simp [results,Tryz.f132,go_sem,t,u,y,A]) rfl ?_
 refine⟨_,_,_,_,_,_,_,rfl,?_,rfl,rfl,rfl,rfl,rfl,ak0 _,?_⟩
 ·repeat (first|(with_reducible exact q.o)|(with_reducible refine eF ?_ ?_)|(with_reducible refine aG ?_ ?_) | omega|(simp;omega))
 ·exact dR.nil _
theorem aa8 (x:Bs)(n a:Int)(y:Option Addr)(F A:Nat)(w:World):Calls Tryz.prog 132 #[.agg #[.int .u8 3,.string (aH x),.int .i64 n,.slice y F A,.int .i64 a]] w (eu (Mist.shapeOf 3 n) w):=by
 go_in
 go_wp2_with fail;refine (aO _ _).mono ?_;rintro e w1⟨rfl,f⟩;go_wp2_with fail;refine (aO _ _).mono ?_;rintro e I⟨rfl,g⟩;go_wp2_with fail;refine (aO _ _).mono ?_;rintro e J⟨rfl,h⟩;have i:=O (fu f g h);have C:=i.o.1;clear f g h;go_upto_region 5 with (fail)
 obtain⟨K,q,b,r,D,L,B,M,-⟩:=i.o.2;rw [q];clear q C i;have G:=r.o.cell 0;have H:=r.o.cell 2;have j:=b.o.cell 0;have k:=b.o.cell 1;have l:=b.o.cell 2;have m:=b.o.cell 3;have r0:=b.o.frozen 0;have r1:=b.o.frozen 1;have r2:=b.o.frozen 2;have t:=b.o.frozen 3;go_wp2_with fail;refine (mq _ _ _ _).mono ?_;rintro e u⟨rfl,d⟩;have c:=O (show bf u (w.heap.size+1) 150 #[.bool false,.int .i64 0,.int .i64 0,.slice none 0 0] from bf.below (by repeat (first|(with_reducible exact b.o)|(with_reducible refine bf.alloc ?_ _))) d (by first | omega|(simp;omega)));have E:=O (show Below w.heap.size w u from Below.trans (by repeat (first|(with_reducible exact D.o)|(with_reducible refine eF ?_ ?_)|(with_reducible refine aG ?_ ?_) | omega|(simp;omega))) (d.mono (by first | omega|(simp;omega))));clear d;clear j k l m r0 r1 r2 t;have j:=c.o.cell 0;have k:=c.o.cell 1;have l:=c.o.cell 2;have m:=c.o.cell 3;have r0:=c.o.frozen 0;have r1:=c.o.frozen 1;have r2:=c.o.frozen 2;have t:=c.o.frozen 3;go_wp2_with fail;refine bodyPost_ret (v:=.tuple #[.agg #[.bool true,.int .i64 0,.int .i64 0,.slice none 0 0],.bool true]) (by simp [results,Tryz.f132,go_sem,j,k,l,m]) rfl ?_
 refine⟨_,_,_,_,_,_,_,rfl,?_,rfl,rfl,rfl,rfl,rfl,ak0 _,?_⟩
 ·repeat (first|(with_reducible exact E.o)|(with_reducible refine eF ?_ ?_)|(with_reducible refine aG ?_ ?_) | omega|(simp;omega))
 ·exact dR.nil _
theorem Wj (x:Bs)(n a:Int)(y:Option Addr)(F A:Nat)(w:World):Calls Tryz.prog 132 #[.agg #[.int .u8 32,.string (aH x),.int .i64 n,.slice y F A,.int .i64 a]] w (eu (Mist.shapeOf 32 n) w):=by
 go_in
 go_wp2_with fail;refine (aO _ _).mono ?_;rintro e w1⟨rfl,f⟩;go_wp2_with fail;refine (aO _ _).mono ?_;rintro e I⟨rfl,g⟩;go_wp2_with fail;refine (aO _ _).mono ?_;rintro e J⟨rfl,h⟩;have i:=O (fu f g h);have C:=i.o.1;clear f g h;go_upto_region 5 with (fail)
 obtain⟨K,q,b,r,D,L,B,M,-⟩:=i.o.2;rw [q];clear q C i;have G:=r.o.cell 0;have H:=r.o.cell 2;have j:=b.o.cell 0;have k:=b.o.cell 1;have l:=b.o.cell 2;have m:=b.o.cell 3;have r0:=b.o.frozen 0;have r1:=b.o.frozen 1;have r2:=b.o.frozen 2;have t:=b.o.frozen 3;go_wp2_with fail;refine (mq _ _ _ _).mono ?_;rintro e u⟨rfl,d⟩;have c:=O (show bf u (w.heap.size+1) 150 #[.bool false,.int .i64 0,.int .i64 0,.slice none 0 0] from bf.below (by repeat (first|(with_reducible exact b.o)|(with_reducible refine bf.alloc ?_ _))) d (by first | omega|(simp;omega)));have E:=O (show Below w.heap.size w u from Below.trans (by repeat (first|(with_reducible exact D.o)|(with_reducible refine eF ?_ ?_)|(with_reducible refine aG ?_ ?_) | omega|(simp;omega))) (d.mono (by first | omega|(simp;omega))));clear d;clear j k l m r0 r1 r2 t;have j:=c.o.cell 0;have k:=c.o.cell 1;have l:=c.o.cell 2;have m:=c.o.cell 3;have r0:=c.o.frozen 0;have r1:=c.o.frozen 1;have r2:=c.o.frozen 2;have t:=c.o.frozen 3;go_wp2_with fail;refine bodyPost_ret (v:=.tuple #[.agg #[.bool true,.int .i64 0,.int .i64 0,.slice none 0 0],.bool true]) (by simp [results,Tryz.f132,go_sem,j,k,l,m]) rfl ?_
 refine⟨_,_,_,_,_,_,_,rfl,?_,rfl,rfl,rfl,rfl,rfl,ak0 _,?_⟩
 ·repeat (first|(with_reducible exact E.o)|(with_reducible refine eF ?_ ?_)|(with_reducible refine aG ?_ ?_) | omega|(simp;omega))
 ·exact dR.nil _
theorem Wu (x:Bs)(n a:Int)(y:Option Addr)(F A:Nat)(w:World):Calls Tryz.prog 132 #[.agg #[.int .u8 45,.string (aH x),.int .i64 n,.slice y F A,.int .i64 a]] w (eu (Mist.shapeOf 45 n) w):=by
 go_in
 go_wp2_with fail;refine (aO _ _).mono ?_;rintro e w1⟨rfl,f⟩;go_wp2_with fail;refine (aO _ _).mono ?_;rintro e I⟨rfl,g⟩;go_wp2_with fail;refine (aO _ _).mono ?_;rintro e J⟨rfl,h⟩;have i:=O (fu f g h);have C:=i.o.1;clear f g h;go_upto_region 5 with (fail)
 obtain⟨K,q,b,r,D,L,B,M,-⟩:=i.o.2;rw [q];clear q C i;have G:=r.o.cell 0;have H:=r.o.cell 2;have j:=b.o.cell 0;have k:=b.o.cell 1;have l:=b.o.cell 2;have m:=b.o.cell 3;have r0:=b.o.frozen 0;have r1:=b.o.frozen 1;have r2:=b.o.frozen 2;have t:=b.o.frozen 3;go_wp2_with fail;refine (mq _ _ _ _).mono ?_;rintro e u⟨rfl,d⟩;have c:=O (show bf u (w.heap.size+1) 150 #[.bool false,.int .i64 0,.int .i64 0,.slice none 0 0] from bf.below (by repeat (first|(with_reducible exact b.o)|(with_reducible refine bf.alloc ?_ _))) d (by first | omega|(simp;omega)));have E:=O (show Below w.heap.size w u from Below.trans (by repeat (first|(with_reducible exact D.o)|(with_reducible refine eF ?_ ?_)|(with_reducible refine aG ?_ ?_) | omega|(simp;omega))) (d.mono (by first | omega|(simp;omega))));clear d;clear j k l m r0 r1 r2 t;have j:=c.o.cell 0;have k:=c.o.cell 1;have l:=c.o.cell 2;have m:=c.o.cell 3;have r0:=c.o.frozen 0;have r1:=c.o.frozen 1;have r2:=c.o.frozen 2;have t:=c.o.frozen 3;go_wp2_with fail;refine bodyPost_ret (v:=.tuple #[.agg #[.bool true,.int .i64 0,.int .i64 0,.slice none 0 0],.bool true]) (by simp [results,Tryz.f132,go_sem,j,k,l,m]) rfl ?_
 refine⟨_,_,_,_,_,_,_,rfl,?_,rfl,rfl,rfl,rfl,rfl,ak0 _,?_⟩
 ·repeat (first|(with_reducible exact E.o)|(with_reducible refine eF ?_ ?_)|(with_reducible refine aG ?_ ?_) | omega|(simp;omega))
 ·exact dR.nil _
theorem aa9 (x:Bs)(n a:Int)(A:Option Addr)(H C:Nat)(w:World):Calls Tryz.prog 132 #[.agg #[.int .u8 4,.string (aH x),.int .i64 n,.slice A H C,.int .i64 a]] w (eu (Mist.shapeOf 4 n) w):=by
 go_in
 go_wp2_with fail;refine (aO _ _).mono ?_;rintro e w1⟨rfl,f⟩;go_wp2_with fail;refine (aO _ _).mono ?_;rintro e Q⟨rfl,g⟩;go_wp2_with fail;refine (aO _ _).mono ?_;rintro e R⟨rfl,h⟩;have j:=O (fu f g h);have E:=j.o.1;clear f g h;go_upto_region 5 with (fail)
 obtain⟨I,r,b,t,F,S,D,U,i,-,-,-,-⟩:=j.o.2;rw [r];clear r E j;have K:=i.o.cell 0;have L:=i.o.cell 1;have M:=i.o.cell 2;have J:=i.o.lt;have N:=t.o.cell 0;have P:=t.o.cell 2;have k:=b.o.cell 0;have l:=b.o.cell 1;have m:=b.o.cell 2;have q:=b.o.cell 3;have r0:=b.o.frozen 0;have r1:=b.o.frozen 1;have r2:=b.o.frozen 2;have u:=b.o.frozen 3;go_wp2_with fail;refine (rE _ _ _ _).mono ?_;rintro e y⟨rfl,c⟩;have B:=O (gW c);have d:=O (show bf y (w.heap.size+1) 150 #[.bool false,.int .i64 0,.int .i64 0,.slice none 0 0] from bf.below (by repeat (first|(with_reducible exact b.o)|(with_reducible refine bf.alloc ?_ _))) c (by first | omega|(simp;omega)));have G:=O (show Below w.heap.size w y from Below.trans (by repeat (first|(with_reducible exact F.o)|(with_reducible refine eF ?_ ?_)|(with_reducible refine aG ?_ ?_) | omega|(simp;omega))) (c.mono (by first | omega|(simp;omega))));clear c;clear k l m q r0 r1 r2 u;have k:=d.o.cell 0;have l:=d.o.cell 1;have m:=d.o.cell 2;have q:=d.o.cell 3;have r0:=d.o.frozen 0;have r1:=d.o.frozen 1;have r2:=d.o.frozen 2;have u:=d.o.frozen 3;go_wp2_with fail;refine bodyPost_ret (v:=.tuple #[.agg #[.bool false,.int .i64 0,.int .i64 0,.slice (some ⟨I.heap.size,0,none⟩) 1 1],.bool true]) (by simp [results,Tryz.f132,go_sem,k,l,m,q]) rfl ?_
 refine⟨_,_,_,_,_,_,_,rfl,?_,rfl,rfl,rfl,rfl,rfl,ak0 _,?_⟩
 ·repeat (first|(with_reducible exact G.o)|(with_reducible refine eF ?_ ?_)|(with_reducible refine aG ?_ ?_) | omega|(simp;omega))
 ·refine dR.one (T:=169) ?_
  repeat (first|(with_reducible refine bf.far ?_ ?_ _) | exact B.o|(simp;omega))
theorem aa_ (x:Bs)(n a:Int)(A:Option Addr)(H C:Nat)(w:World):Calls Tryz.prog 132 #[.agg #[.int .u8 5,.string (aH x),.int .i64 n,.slice A H C,.int .i64 a]] w (eu (Mist.shapeOf 5 n) w):=by
 go_in
 go_wp2_with fail;refine (aO _ _).mono ?_;rintro e w1⟨rfl,f⟩;go_wp2_with fail;refine (aO _ _).mono ?_;rintro e Q⟨rfl,g⟩;go_wp2_with fail;refine (aO _ _).mono ?_;rintro e R⟨rfl,h⟩;have j:=O (fu f g h);have E:=j.o.1;clear f g h;go_upto_region 5 with (fail)
 obtain⟨I,r,b,t,F,S,D,U,i,-,-,-,-⟩:=j.o.2;rw [r];clear r E j;have K:=i.o.cell 0;have L:=i.o.cell 1;have M:=i.o.cell 2;have J:=i.o.lt;have N:=t.o.cell 0;have P:=t.o.cell 2;have k:=b.o.cell 0;have l:=b.o.cell 1;have m:=b.o.cell 2;have q:=b.o.cell 3;have r0:=b.o.frozen 0;have r1:=b.o.frozen 1;have r2:=b.o.frozen 2;have u:=b.o.frozen 3;go_wp2_with fail;refine (rE _ _ _ _).mono ?_;rintro e y⟨rfl,c⟩;have B:=O (gW c);have d:=O (show bf y (w.heap.size+1) 150 #[.bool false,.int .i64 0,.int .i64 0,.slice none 0 0] from bf.below (by repeat (first|(with_reducible exact b.o)|(with_reducible refine bf.alloc ?_ _))) c (by first | omega|(simp;omega)));have G:=O (show Below w.heap.size w y from Below.trans (by repeat (first|(with_reducible exact F.o)|(with_reducible refine eF ?_ ?_)|(with_reducible refine aG ?_ ?_) | omega|(simp;omega))) (c.mono (by first | omega|(simp;omega))));clear c;clear k l m q r0 r1 r2 u;have k:=d.o.cell 0;have l:=d.o.cell 1;have m:=d.o.cell 2;have q:=d.o.cell 3;have r0:=d.o.frozen 0;have r1:=d.o.frozen 1;have r2:=d.o.frozen 2;have u:=d.o.frozen 3;go_wp2_with fail;refine bodyPost_ret (v:=.tuple #[.agg #[.bool false,.int .i64 0,.int .i64 0,.slice (some ⟨I.heap.size,0,none⟩) 1 1],.bool true]) (by simp [results,Tryz.f132,go_sem,k,l,m,q]) rfl ?_
 refine⟨_,_,_,_,_,_,_,rfl,?_,rfl,rfl,rfl,rfl,rfl,ak0 _,?_⟩
 ·repeat (first|(with_reducible exact G.o)|(with_reducible refine eF ?_ ?_)|(with_reducible refine aG ?_ ?_) | omega|(simp;omega))
 ·refine dR.one (T:=169) ?_
  repeat (first|(with_reducible refine bf.far ?_ ?_ _) | exact B.o|(simp;omega))
theorem VY (x:Bs)(n a:Int)(A:Option Addr)(H C:Nat)(w:World):Calls Tryz.prog 132 #[.agg #[.int .u8 19,.string (aH x),.int .i64 n,.slice A H C,.int .i64 a]] w (eu (Mist.shapeOf 19 n) w):=by
 go_in
 go_wp2_with fail;refine (aO _ _).mono ?_;rintro e w1⟨rfl,f⟩;go_wp2_with fail;refine (aO _ _).mono ?_;rintro e Q⟨rfl,g⟩;go_wp2_with fail;refine (aO _ _).mono ?_;rintro e R⟨rfl,h⟩;have j:=O (fu f g h);have E:=j.o.1;clear f g h;go_upto_region 5 with (fail)
 obtain⟨I,r,b,t,F,S,D,U,-,-,i,-,-⟩:=j.o.2;rw [r];clear r E j;have K:=i.o.cell 0;have L:=i.o.cell 1;have M:=i.o.cell 2;have J:=i.o.lt;have N:=t.o.cell 0;have P:=t.o.cell 2;have k:=b.o.cell 0;have l:=b.o.cell 1;have m:=b.o.cell 2;have q:=b.o.cell 3;have r0:=b.o.frozen 0;have r1:=b.o.frozen 1;have r2:=b.o.frozen 2;have u:=b.o.frozen 3;go_wp2_with fail;refine (rE _ _ _ _).mono ?_;rintro e y⟨rfl,c⟩;have B:=O (gW c);have d:=O (show bf y (w.heap.size+1) 150 #[.bool false,.int .i64 0,.int .i64 0,.slice none 0 0] from bf.below (by repeat (first|(with_reducible exact b.o)|(with_reducible refine bf.alloc ?_ _))) c (by first | omega|(simp;omega)));have G:=O (show Below w.heap.size w y from Below.trans (by repeat (first|(with_reducible exact F.o)|(with_reducible refine eF ?_ ?_)|(with_reducible refine aG ?_ ?_) | omega|(simp;omega))) (c.mono (by first | omega|(simp;omega))));clear c;clear k l m q r0 r1 r2 u;have k:=d.o.cell 0;have l:=d.o.cell 1;have m:=d.o.cell 2;have q:=d.o.cell 3;have r0:=d.o.frozen 0;have r1:=d.o.frozen 1;have r2:=d.o.frozen 2;have u:=d.o.frozen 3;go_wp2_with fail;refine bodyPost_ret (v:=.tuple #[.agg #[.bool false,.int .i64 0,.int .i64 0,.slice (some ⟨I.heap.size,0,none⟩) 1 1],.bool true]) (by simp [results,Tryz.f132,go_sem,k,l,m,q]) rfl ?_
 refine⟨_,_,_,_,_,_,_,rfl,?_,rfl,rfl,rfl,rfl,rfl,ak0 _,?_⟩
 ·repeat (first|(with_reducible exact G.o)|(with_reducible refine eF ?_ ?_)|(with_reducible refine aG ?_ ?_) | omega|(simp;omega))
 ·refine dR.one (T:=169) ?_
  repeat (first|(with_reducible refine bf.far ?_ ?_ _) | exact B.o|(simp;omega))
theorem V_ (x:Bs)(n a:Int)(A:Option Addr)(H C:Nat)(w:World):Calls Tryz.prog 132 #[.agg #[.int .u8 26,.string (aH x),.int .i64 n,.slice A H C,.int .i64 a]] w (eu (Mist.shapeOf 26 n) w):=by
 go_in
 go_wp2_with fail;refine (aO _ _).mono ?_;rintro e w1⟨rfl,f⟩;go_wp2_with fail;refine (aO _ _).mono ?_;rintro e Q⟨rfl,g⟩;go_wp2_with fail;refine (aO _ _).mono ?_;rintro e R⟨rfl,h⟩;have j:=O (fu f g h);have E:=j.o.1;clear f g h;go_upto_region 5 with (fail)
 obtain⟨I,r,b,t,F,S,D,U,-,-,-,-,i⟩:=j.o.2;rw [r];clear r E j;have K:=i.o.cell 0;have L:=i.o.cell 1;have M:=i.o.cell 2;have J:=i.o.lt;have N:=t.o.cell 0;have P:=t.o.cell 2;have k:=b.o.cell 0;have l:=b.o.cell 1;have m:=b.o.cell 2;have q:=b.o.cell 3;have r0:=b.o.frozen 0;have r1:=b.o.frozen 1;have r2:=b.o.frozen 2;have u:=b.o.frozen 3;go_wp2_with fail;refine (rE _ _ _ _).mono ?_;rintro e y⟨rfl,c⟩;have B:=O (gW c);have d:=O (show bf y (w.heap.size+1) 150 #[.bool false,.int .i64 0,.int .i64 0,.slice none 0 0] from bf.below (by repeat (first|(with_reducible exact b.o)|(with_reducible refine bf.alloc ?_ _))) c (by first | omega|(simp;omega)));have G:=O (show Below w.heap.size w y from Below.trans (by repeat (first|(with_reducible exact F.o)|(with_reducible refine eF ?_ ?_)|(with_reducible refine aG ?_ ?_) | omega|(simp;omega))) (c.mono (by first | omega|(simp;omega))));clear c;clear k l m q r0 r1 r2 u;have k:=d.o.cell 0;have l:=d.o.cell 1;have m:=d.o.cell 2;have q:=d.o.cell 3;have r0:=d.o.frozen 0;have r1:=d.o.frozen 1;have r2:=d.o.frozen 2;have u:=d.o.frozen 3;go_wp2_with fail;refine bodyPost_ret (v:=.tuple #[.agg #[.bool false,.int .i64 0,.int .i64 0,.slice (some ⟨I.heap.size,0,none⟩) 1 1],.bool true]) (by simp [results,Tryz.f132,go_sem,k,l,m,q]) rfl ?_
 refine⟨_,_,_,_,_,_,_,rfl,?_,rfl,rfl,rfl,rfl,rfl,ak0 _,?_⟩
 ·repeat (first|(with_reducible exact G.o)|(with_reducible refine eF ?_ ?_)|(with_reducible refine aG ?_ ?_) | omega|(simp;omega))
 ·refine dR.one (T:=169) ?_
  repeat (first|(with_reducible refine bf.far ?_ ?_ _) | exact B.o|(simp;omega))
theorem VZ (x:Bs)(n a:Int)(A:Option Addr)(H C:Nat)(w:World):Calls Tryz.prog 132 #[.agg #[.int .u8 20,.string (aH x),.int .i64 n,.slice A H C,.int .i64 a]] w (eu (Mist.shapeOf 20 n) w):=by
 go_in
 go_wp2_with fail;refine (aO _ _).mono ?_;rintro e w1⟨rfl,f⟩;go_wp2_with fail;refine (aO _ _).mono ?_;rintro e Q⟨rfl,g⟩;go_wp2_with fail;refine (aO _ _).mono ?_;rintro e R⟨rfl,h⟩;have j:=O (fu f g h);have E:=j.o.1;clear f g h;go_upto_region 5 with (fail)
 obtain⟨I,r,b,t,F,S,D,U,-,i,-,-,-⟩:=j.o.2;rw [r];clear r E j;have K:=i.o.cell 0;have L:=i.o.cell 1;have M:=i.o.cell 2;have J:=i.o.lt;have N:=t.o.cell 0;have P:=t.o.cell 2;have k:=b.o.cell 0;have l:=b.o.cell 1;have m:=b.o.cell 2;have q:=b.o.cell 3;have r0:=b.o.frozen 0;have r1:=b.o.frozen 1;have r2:=b.o.frozen 2;have u:=b.o.frozen 3;go_wp2_with fail;refine (mq _ _ _ _).mono ?_;rintro e y⟨rfl,c⟩;have B:=O (gW c);have d:=O (show bf y (w.heap.size+1) 150 #[.bool false,.int .i64 0,.int .i64 0,.slice none 0 0] from bf.below (by repeat (first|(with_reducible exact b.o)|(with_reducible refine bf.alloc ?_ _))) c (by first | omega|(simp;omega)));have G:=O (show Below w.heap.size w y from Below.trans (by repeat (first|(with_reducible exact F.o)|(with_reducible refine eF ?_ ?_)|(with_reducible refine aG ?_ ?_) | omega|(simp;omega))) (c.mono (by first | omega|(simp;omega))));clear c;clear k l m q r0 r1 r2 u;have k:=d.o.cell 0;have l:=d.o.cell 1;have m:=d.o.cell 2;have q:=d.o.cell 3;have r0:=d.o.frozen 0;have r1:=d.o.frozen 1;have r2:=d.o.frozen 2;have u:=d.o.frozen 3;go_wp2_with fail;refine bodyPost_ret (v:=.tuple #[.agg #[.bool true,.int .i64 0,.int .i64 0,.slice (some ⟨I.heap.size,0,none⟩) 1 1],.bool true]) (by simp [results,Tryz.f132,go_sem,k,l,m,q]) rfl ?_
 refine⟨_,_,_,_,_,_,_,rfl,?_,rfl,rfl,rfl,rfl,rfl,ak0 _,?_⟩
 ·repeat (first|(with_reducible exact G.o)|(with_reducible refine eF ?_ ?_)|(with_reducible refine aG ?_ ?_) | omega|(simp;omega))
 ·refine dR.one (T:=169) ?_
  repeat (first|(with_reducible refine bf.far ?_ ?_ _) | exact B.o|(simp;omega))
end
