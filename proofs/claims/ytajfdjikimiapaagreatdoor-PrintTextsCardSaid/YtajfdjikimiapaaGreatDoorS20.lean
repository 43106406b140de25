/-
  A part of the proof.
-/
import Derived.Laws.EntriesVeiled
import Derived.Test.YtajfdjikimiapaaGreatDoorS12
set_option linter.all false
set_option maxRecDepth 100000
set_option maxHeartbeats 4000000
namespace Go.Proofs.YtajfdjikimiapaaGreatDoor
section
open Go.RowKit Mist
def Qu (p:Part):List Value:=[.int .i64 p.least,.int .i64 p.most,FZ p.pd]
structure dw (w:World) (A:Option Addr) (ps:List Part):Prop where
 ex:0 < ps.length→∃ b,A=some ⟨b,0,none⟩∧b < w.heap.size∧∀ (j:Nat) p,ps[j]? = some p→w.cell? ⟨b,j * 3,none⟩=some (.int .i64 p.least)∧w.cell? ⟨b,j * 3+1,none⟩=some (.int .i64 p.most)∧w.cell? ⟨b,j * 3+2,none⟩=some (FZ p.pd)
theorem dw.below {w d:World}{A:Option Addr}{ps:List Part}(h:dw w A ps)(a:Below w.heap.size w d):dw d A ps :=
 ⟨fun h0=>by
  obtain⟨b,e,c,f⟩:=h.ex h0
  refine⟨b,e,aiI c a.size,fun j p g=>?_⟩
  obtain⟨h1,h2,h3⟩:=f j p g;exact⟨(a.cell (by exact c)).trans h1,(a.cell (by exact c)).trans h2,(a.cell (by exact c)).trans h3⟩⟩
theorem dw.nil (w:World):dw w none []:=⟨fun h=>absurd h (by simp)⟩
theorem dw.one {w:World}{b:Nat}{T:TypeId}{p:Part}(h:aZ w b T (Qu p).toArray):dw w (some ⟨b,0,none⟩) [p]:=by
 refine⟨fun _=>⟨b,rfl,h.lt,fun j q a=>?_⟩⟩
 have:j=0∧p=q:=by
  cases j with
  | zero=>exact⟨rfl,by simpa using a⟩
  | succ j=>simp at a
 obtain⟨rfl,rfl⟩:=this;exact⟨h.cell 0,h.cell 1,h.cell 2⟩
theorem aQ (n:Int)(w:World):Calls Tryz.prog 179 #[.int .i64 n,.func (.func 120) #[] #[]] w fun e a=>e=.returned (.agg #[.int .i64 n,.int .i64 n,.func (.func 120) #[] #[]])∧Below w.heap.size w a:=by
 go_in
 go_wp2;refine bodyPost_ret (v:=.agg #[.int .i64 n,.int .i64 n,.func (.func 120) #[] #[]]) (by simp [results,Tryz.f179,go_sem]) rfl ⟨rfl,?_⟩
 repeat (first | exact Below.refl _ _ | refine dS ?_ (aiv _) | refine aF ?_ (aiv _))
theorem Kk (n:Int)(w:World):Calls Tryz.prog 179 #[.int .i64 n,.func (.func 183) #[] #[]] w fun e a=>e=.returned (.agg #[.int .i64 n,.int .i64 n,.func (.func 183) #[] #[]])∧Below w.heap.size w a:=by
 go_in
 go_wp2;refine bodyPost_ret (v:=.agg #[.int .i64 n,.int .i64 n,.func (.func 183) #[] #[]]) (by simp [results,Tryz.f179,go_sem]) rfl ⟨rfl,?_⟩
 repeat (first | exact Below.refl _ _ | refine dS ?_ (aiv _) | refine aF ?_ (aiv _))
theorem XE (n:Int)(w:World):Calls Tryz.prog 179 #[.int .i64 n,.func (.func 184) #[] #[]] w fun e a=>e=.returned (.agg #[.int .i64 n,.int .i64 n,.func (.func 184) #[] #[]])∧Below w.heap.size w a:=by
 go_in
 go_wp2;refine bodyPost_ret (v:=.agg #[.int .i64 n,.int .i64 n,.func (.func 184) #[] #[]]) (by simp [results,Tryz.f179,go_sem]) rfl ⟨rfl,?_⟩
 repeat (first | exact Below.refl _ _ | refine dS ?_ (aiv _) | refine aF ?_ (aiv _))
theorem qg (A:Option Addr)(n c:Nat)(w:World):Calls Tryz.prog 180 #[.slice A n c] w fun e a=>e=.returned (.agg #[.bool false,.int .i64 0,.int .i64 0,.slice A n c])∧Below w.heap.size w a:=by
 go_in
 go_wp2;refine bodyPost_ret (v:=.agg #[.bool false,.int .i64 0,.int .i64 0,.slice A n c]) (by simp [results,Tryz.f180,go_sem]) rfl ⟨rfl,?_⟩
 repeat (first | exact Below.refl _ _ | refine dS ?_ (aiv _) | refine aF ?_ (aiv _))
theorem kY (A:Option Addr)(n c:Nat)(w:World):Calls Tryz.prog 181 #[.slice A n c] w fun e a=>e=.returned (.agg #[.bool true,.int .i64 0,.int .i64 0,.slice A n c])∧Below w.heap.size w a:=by
 go_in
 go_wp2;refine bodyPost_ret (v:=.agg #[.bool true,.int .i64 0,.int .i64 0,.slice A n c]) (by simp [results,Tryz.f181,go_sem]) rfl ⟨rfl,?_⟩
 repeat (first | exact Below.refl _ _ | refine dS ?_ (aiv _) | refine aF ?_ (aiv _))
def dH (s:Option Shape)(w:World)(e:Ending)(w':World):Prop :=
 ∃ nm lo hi A n c b,e=.returned (.tuple #[.agg #[.bool nm,.int .i64 lo,.int .i64 hi,.slice A n c],.bool b])∧Below w.heap.size w w'∧match s with
  | none=>b=false
  | some s=>b=true∧nm=s.named∧lo=s.low∧hi=s.high∧n=s.parts.length∧n≤c∧dw w' A s.parts
theorem tZ {W:World}{cs:Array Value}{T:TypeId}{k:Nat}(a:W.heap.size=k):aZ (W.alloc (.cells cs T)) k T cs:=by subst a;exact aZ.new W T cs
theorem gB {W a:World}{cs:Array Value}{T:TypeId}(b:Below (W.alloc (.cells cs T)).heap.size (W.alloc (.cells cs T)) a):aZ a W.heap.size T cs:=(aZ.new W T cs).below b (by simp)
theorem TH {w w1 i g:World}{c c1:Array Value}{a d:TypeId}(e:Below ((w.alloc (.cells c a)).alloc (.cells c1 d)).heap.size ((w.alloc (.cells c a)).alloc (.cells c1 d)) w1)(f:Below w1.heap.size w1 i)(h:Below i.heap.size i g):aZ g w.heap.size a c∧aZ g (w.heap.size+1) d c1∧Below w.heap.size w g:=by
 have b:=e.trans ((f.trans (h.mono f.size)).mono e.size)
 have h1:aZ ((w.alloc (.cells c a)).alloc (.cells c1 d)) (w.heap.size+1) d c1:=by
  have:=aZ.new (w.alloc (.cells c a)) d c1
  rwa [show (w.alloc (.cells c a)).heap.size=w.heap.size+1 by simp] at this
 refine⟨((aZ.new w a c).alloc _).below b (by simp;omega),h1.below b (by simp),(aF (aF (Below.refl _ _) (aiv _)) (by simp)).trans (b.mono (by simp;omega))⟩
theorem dY {w w1 l b:World}{f c1:Array Value}{d e:TypeId}(i:Below ((w.alloc (.cells f d)).alloc (.cells c1 e)).heap.size ((w.alloc (.cells f d)).alloc (.cells c1 e)) w1)(j:Below w1.heap.size w1 l)(k:Below l.heap.size l b):w.heap.size+1 < b.heap.size∧∃ a,(((((b.alloc (.cells #[.int .i64 1,.int .i64 1,.func (.func 120) #[] #[]] 189)).alloc (.cells #[.int .i64 2,.int .i64 2,.func (.func 120) #[] #[]] 189)).alloc (.cells #[.int .i64 3,.int .i64 3,.func (.func 120) #[] #[]] 189)).alloc (.cells #[.int .i64 0,.int .i64 801,.func (.func 120) #[] #[]] 189)).alloc (.cells #[.int .i64 1,.int .i64 801,.func (.func 120) #[] #[]] 189))=a∧Hid (aZ a (w.heap.size+1) e c1)∧Hid (aZ a w.heap.size d f)∧Hid (Below w.heap.size w a)∧Hid (a.heap.size=b.heap.size+1+1+1+1+1)∧w.heap.size+1 < a.heap.size∧w.heap.size < a.heap.size∧Hid (aZ a (b.heap.size) 189 #[.int .i64 1,.int .i64 1,.func (.func 120) #[] #[]])∧Hid (aZ a (b.heap.size+1) 189 #[.int .i64 2,.int .i64 2,.func (.func 120) #[] #[]])∧Hid (aZ a (b.heap.size+1+1) 189 #[.int .i64 3,.int .i64 3,.func (.func 120) #[] #[]])∧Hid (aZ a (b.heap.size+1+1+1) 189 #[.int .i64 0,.int .i64 801,.func (.func 120) #[] #[]])∧Hid (aZ a (b.heap.size+1+1+1+1) 189 #[.int .i64 1,.int .i64 801,.func (.func 120) #[] #[]]):=by
 obtain⟨g,c,h⟩:=TH i j k;have m:=c.lt
 refine⟨m,_,rfl,O ?_,O ?_,O ?_,O (by simp),(by simp;omega),(by simp;omega),O ?_,O ?_,O ?_,O ?_,O ?_⟩
 ·repeat (first | exact c | refine aZ.alloc ?_ _)
 ·repeat (first | exact g | refine aZ.alloc ?_ _)
 ·repeat (first | exact h | refine aF ?_ ?_ | omega|(simp;omega))
 all_goals repeat (first|(with_reducible exact tZ (by first | rfl | simp))|(with_reducible refine aZ.alloc ?_ _))
structure iL (w:World) (A:Option Addr) (ks:List Nat):Prop where
 ex:0 < ks.length→∃ b o,A=some ⟨b,o,none⟩∧b < w.heap.size∧∀ (j:Nat) k,ks[j]? = some k→w.cell? ⟨b,o+j,none⟩=some (.int .u8 k)
theorem iL.below {w d:World}{A:Option Addr}{ks:List Nat}(h:iL w A ks)(a:Below w.heap.size w d):iL d A ks :=
 ⟨fun h0=>by
  obtain⟨b,o,e,c,f⟩:=h.ex h0;exact⟨b,o,e,aiI c a.size,fun j k g=>(a.cell (by exact c)).trans (f j k g)⟩⟩
theorem iL.take {w:World}{A:Option Addr}{ks:List Nat}(h:iL w A ks)(n:Nat):iL w A (ks.take n) :=
 ⟨fun h0=>by
  obtain⟨b,o,e,d,c⟩:=h.ex (by rw [List.length_take] at h0;omega)
  refine⟨b,o,e,d,fun j k a=>c j k ?_⟩
  rw [List.getElem?_take] at a
  split at a
  ·exact a
  ·cases a⟩
theorem iL.drop {w:World}{A:Option Addr}{ks:List Nat}(h:iL w A ks){n c:Nat}(f:ks.length≤c):iL w (if c=n then A else A.map (·.add n)) (ks.drop n) :=
 ⟨fun h0=>by
  rw [List.length_drop] at h0
  obtain⟨b,o,rfl,e,a⟩:=h.ex (by omega);rw [if_neg (by omega)]
  refine⟨b,o+n,by rw [Option.map_some,qH],e,fun j k d=>?_⟩
  rw [Nat.add_assoc];exact a (n+j) k (by rwa [List.getElem?_drop] at d)⟩
theorem PY (p:Pd)(k:Nat)(r:Bool)(d:p.is k=r)(w:World)(a b:Value)(g:Nat)(T:TypeId)(c:aZ w g T #[a,b,FZ p]):Calls Tryz.prog 189 #[.int .u8 k,.pointer (some ⟨g,0,none⟩)] w fun e f=>e=.returned (.bool (!r))∧w=f:=by
 cases p with
 | expr=>exact Rm k r d w a b g T c
 | typ=>exact Wh k r d w a b g T c
 | param=>exact M_ k r d w a b g T c
 | put=>exact V_ k r d w a b g T c
 | num=>exact V9 k r d w a b g T c
theorem Kc (p:Pd)(ks:List Nat)(A:Option Addr)(c:Nat)(w:World)(y:iL w A ks)(I:ks.length≤1000000)(a d:Value)(g:Nat)(T:TypeId)(C:aZ w g T #[a,d,FZ p]) :
  Calls Tryz.prog 207 #[.slice A ks.length c,.func (.func 189) #[] #[.pointer (some ⟨g,0,none⟩)]] w fun e J=>(∃ i:Int,e=.returned (.int .i64 i)∧decide (0≤i)=!(ks.all p.is))∧w=J:=by
 obtain⟨n,m⟩:∃ n,n=ks.length:=⟨_,rfl⟩;rw [← m] at I ⊢
 have j:=O m;clear m;have E:=O y;clear y;have t:=O C;clear C;go_in
 go_wp2_with fail;go_loop [8] (fun i=>∃ k:Nat,k≤n∧i=.int .i64 k∧Hid ((ks.take k).all p.is=true)) (fun i=>n - (intOf i).toNat)
 case atStart=>exact⟨0,aix _,rfl,O rfl⟩
 case round =>
  obtain⟨k,L,rfl,x⟩:=hrel;by_cases l:k < n
  ·obtain⟨b,o,rfl,G,B⟩:=E.o.ex (by rw [← j.o];omega);obtain⟨q,r⟩:∃ q,ks[k]? = some q:=⟨_,aip (by rw [← j.o];exact l)⟩;have K:=B k q r;have u:=O r;clear B r;have M:(0:Int)≤(k:Int):=by omega
   have N:(k:Int) < (n:Int):=by omega
   have F:=O (show ks.take (k+1)=ks.take k ++ [q] by rw [List.take_add_one,u.o];rfl)
   cases h:p.is q
   ·have f:=O h;clear h;go_wp2_with fail;refine (PY p q false f.o _ a d g T t.o).mono ?_;rintro e w1⟨rfl,rfl⟩;go_wp2_with fail;go_ret
    refine⟨⟨k,rfl,?_⟩,rfl⟩
    have H:ks.all p.is=false:=by
     rw [List.all_eq_false];exact⟨q,aiy u.o,by rw [f.o];simp⟩
    rw [H];simp
   ·have f:=O h;clear h;go_wp2_with fail;refine (PY p q true f.o _ a d g T t.o).mono ?_;rintro e w1⟨rfl,rfl⟩;go_wp2_with fail;go_round
    case rel=>exact⟨k+1,by omega,by go_num,O (by rw [F.o,List.all_append,x.o];simp [f.o])⟩
    case measure=>simp [intOf];omega
  ·have D:=O (show ks.all p.is=true by have:=x.o;rwa [aiz (by rw [← j.o];omega)] at this);go_wp2_with fail;go_ret;exact⟨⟨-1,rfl,by rw [D.o];rfl⟩,rfl⟩
theorem Da (p:Pd)(ks:List Nat)(A:Option Addr)(c:Nat)(w:World)(d:iL w A ks)(l:ks.length≤1000000)(a b:Value)(g:Nat)(T:TypeId)(f:aZ w g T #[a,b,FZ p])(r:Bool)(h:ks.all p.is=r) :
  Calls Tryz.prog 188 #[.slice A ks.length c,.func (.func 189) #[] #[.pointer (some ⟨g,0,none⟩)]] w fun e m=>e=.returned (.bool (!r))∧w=m:=by
 have k:=O h;clear h;have j:=O (Kc p ks A c w d l a b g T f);clear d f;go_in
 go_wp2_with fail;refine j.o.mono ?_;rintro e w1⟨⟨i,rfl,hi⟩,rfl⟩;rw [k.o] at hi
 go_wp2_with fail;go_ret;exact⟨rfl,rfl⟩
theorem rX (p:Pd)(ks:List Nat)(n:Nat)(i:ks.length=n)(A:Option Addr)(c:Nat)(w:World)(d:iL w A ks)(h:ks.length≤1000000)(a b:Value)(g:Nat)(T:TypeId)(f:aZ w g T #[a,b,FZ p])(r:Bool)(j:ks.all p.is=r) :
  Calls Tryz.prog 188 #[.slice A n c,.func (.func 189) #[] #[.pointer (some ⟨g,0,none⟩)]] w fun e k=>e=.returned (.bool (!r))∧w=k:=by
 subst i;exact Da p ks A c w d h a b g T f r j
theorem KV (l:List Part)(p:Part):jQ (l ++ [p])=jQ l+p.least:=by simp [jQ]
theorem GV {l M:Int}{c:Pd}{r:List Part}{ks:List Nat}{m:Nat}{rs:Int}(h:Mist.within ((m:Int) - rs) l M=false)(a:ks.length=m)(b:rs=jQ r):Mist.fits (⟨l,M,c⟩ :: r) ks=false:=by
 rw [Mist.fits];subst a;subst b;rw [h];rfl
theorem uZ {l M:Int}{b:Pd}{r:List Part}{ks:List Nat}{m a:Nat}{rs:Int}(h:Mist.within ((m:Int) - rs) l M=true)(c:ks.length=m)(e:rs=jQ r)(d:(m:Int) - rs=(a:Int)):Mist.fits (⟨l,M,b⟩ :: r) ks=((ks.take a).all b.is && Mist.fits r (ks.drop a)):=by
 rw [Mist.fits];subst c;subst e;rw [h,Bool.true_and,d,aiC]
def uV (ps:List Part):Prop:=ps.length≤3∧∀ p ∈ ps,0≤p.least∧p.least≤801∧0≤p.most∧p.most≤801
theorem WJ (nm:Bool)(lo hi:Int)(ps:List Part)(A:Option Addr)(c:Nat)(ks:List Nat)(K:Option Addr)(kc:Nat)(w:World)(hP:dw w A ps)(hpc:ps.length≤c)(hR:uV ps)(hK:iL w K ks)(hl:ks.length≤1000000)(I:ks.length≤kc) :
  Calls Tryz.prog 160 #[.agg #[.bool nm,.int .i64 lo,.int .i64 hi,.slice A ps.length c],.slice K ks.length kc] w fun e w'=>e=.returned (.bool (Mist.fits ps ks))∧Below w.heap.size w w':=by
 obtain⟨n,hn⟩:∃ n,n=ps.length:=⟨_,rfl⟩;obtain⟨m0,B⟩:∃ m,m=ks.length:=⟨_,rfl⟩;have hn3:n≤3:=by rw [hn];exact hR.1
 rw [← hn] at hpc ⊢
 rw [← B] at hl I ⊢
 have M:=O hn;clear hn;have g:=O B;clear B;have HP:=O hP;clear hP;have HR:=O hR;clear hR;have J:=O hK;clear hK;go_in
 go_wp2_with fail;have N:=O (aZ.new w 172 #[.bool nm,.int .i64 lo,.int .i64 hi,.slice A n c]);have gN:=O (aF (Below.refl w.heap.size w) (aiv _) (o:=.cells #[.bool nm,.int .i64 lo,.int .i64 hi,.slice A n c] 172));go_loopw [1,14] (fun v i wr=>∃ (k m l:Nat) (a:List Nat) (R:Option Addr),k≤n∧i=.int .i64 k∧v=.slice R m l∧m≤l∧m≤1000000∧Hid (a.length=m)∧Hid (iL wr R a)∧Hid (Mist.fits (ps.drop k) a=Mist.fits ps ks)∧Hid (Below w.heap.size w wr)∧Hid (aZ wr w.heap.size 172 #[.bool nm,.int .i64 lo,.int .i64 hi,.slice A n c])) (fun _ i _=>n - (intOf i).toNat)
 case atStart=>exact⟨0,m0,kc,ks,K,aix _,rfl,rfl,I,hl,O g.o.symm,O (J.o.below gN.o),O rfl,gN,N⟩
 case round =>
  clear N gN J g hl I;obtain⟨k,m,l,a,R,hk,rfl,rfl,hmc,hm6,g,J,HF,L,N⟩:=hrel;obtain⟨E,rfl⟩:∃ E:World,E=wr:=⟨_,rfl⟩;have t3:=N.o.cell 3;have hsz:=N.o.lt;by_cases V:k < n
  ·obtain⟨b,rfl,h,H⟩:=HP.o.ex (by rw [← M.o];omega);obtain⟨p,hp⟩:∃ p,ps[k]? = some p:=⟨_,aip (by rw [← M.o];exact V)⟩;obtain⟨c0,c1,c2⟩:=H k p hp;have d0:=(L.o.cell (p:=⟨b,k * 3,none⟩) h).trans c0;have d1:=(L.o.cell (p:=⟨b,k * 3+1,none⟩) h).trans c1;have d2:=(L.o.cell (p:=⟨b,k * 3+2,none⟩) h).trans c2;have hpr:=HR.o.2 p (aiy hp);have HCL:=O H;have HPP:=O hp;clear c0 c1 c2 H hp;simp only [FZ] at d2
   obtain⟨u,x,Q⟩:=p;simp only at d0 d1 d2 hpr
   have i1:(0:Int)≤(k:Int):=by omega
   have i2:(k:Int) < (n:Int):=by omega
   have HD:=O (show ps.drop k=⟨u,x,Q⟩ :: ps.drop (k+1) by
    rw [aiJ (by rw [← M.o];exact V),(aiq.1 HPP.o).2])
   have Za:=O (show Mist.fits (⟨u,x,Q⟩ :: ps.drop (k+1)) a=Mist.fits ps ks by rw [← HD.o];exact HF.o);clear HF HD;obtain⟨q,hq⟩:∃ q,q=Ie Q:=⟨_,rfl⟩;rw [← hq] at d2
   have HQ:=O hq;clear hq;have ahO:k+1≤c:=by omega
   rcases Classical.em (c=k+1) with rfl | hck
   all_goals
    go_wp2_with fail;have y:=O (aZ.new E 189 #[.int .i64 u,.int .i64 x,.func (.func q) #[] #[]]);have t:=O (aF L.o L.o.size (o:=.cells #[.int .i64 u,.int .i64 x,.func (.func q) #[] #[]] 189));go_loopw [7,25] (fun v j vU=>∃ (d:Nat) (rs:Int),d≤n - (k+1)∧j=.int .i64 d∧v=.int .i64 rs∧0≤rs∧rs≤801 * (d:Int)∧Hid (rs=jQ ((ps.drop (k+1)).take d))∧Hid (Below w.heap.size w vU)∧Hid (aZ vU E.heap.size 189 #[.int .i64 u,.int .i64 x,.func (.func q) #[] #[]])∧Hid (Below E.heap.size E vU)) (fun _ j _=>n - (k+1) - (intOf j).toNat)
    case atStart=>exact⟨0,0,aix _,rfl,rfl,Int.le_refl _,by omega,O (by simp [jQ]),t,y,O (aF (Below.refl _ _) (aiv _))⟩
    case round =>
     clear t y;obtain⟨d,rs,hj,rfl,rfl,hr0,hr1,Gu,t,y,P⟩:=hrel;by_cases T:d < n - (k+1)
     ·first
      | (exfalso;omega)
      | (obtain ⟨Y, C⟩ : ∃ Y, ps[k + 1 + d]? = some Y := ⟨_, aip (by rw [← M.o]; omega)⟩
         obtain⟨e0,e1,e2⟩:=HCL.o (k+1+d) Y C;have agh:=HR.o.2 Y (aiy C);have g0:=(t.o.cell (p:=⟨b,(k+1+d) * 3,none⟩) h).trans e0;have g1:=(t.o.cell (p:=⟨b,(k+1+d) * 3+1,none⟩) h).trans e1;have g2:=(t.o.cell (p:=⟨b,(k+1+d) * 3+2,none⟩) h).trans e2;rw [show (k+1+d) * 3=(k+1) * 3+d * 3 by omega] at g0 g1 g2
         have HP2:=O C;clear e0 e1 e2 C;simp only [FZ] at g2
         obtain⟨S,agy,Z⟩:=Y;simp only at g0 g1 g2 agh
         obtain⟨q2,W⟩:∃ q,q=Ie Z:=⟨_,rfl⟩;rw [← W] at g2
         clear W;have j1:(0:Int)≤(d:Int):=by omega
         have j2:(d:Int) < ((n - (k+1):Nat):Int):=by omega
         have j3:decide (d < n - (k+1))=true:=aiG T;go_wp2_with fail
         refine⟨⟨d+1,rs+S,by omega,by go_num,rfl,by omega,by omega,O ?_,O (aF t.o t.o.size),O (y.o.alloc _),O (aF P.o P.o.size)⟩,by simp [intOf];omega⟩
         rw [List.take_add_one,List.getElem?_drop,HP2.o,Gu.o];exact (KV _ (⟨S,agy,Z⟩:Part)).symm)
     ·have G:=O (show rs=jQ (ps.drop (k+1)) by rw [Gu.o,aiz (by rw [List.length_drop,← M.o];omega)]);clear Gu;have ahT:=y.o.lt;have j3:decide (d < n - (k+1))=false:=aiH T;have b0:=y.o.cell 0;have b1:=y.o.cell 1;have hjn:(d:Int)≤3:=by omega
      have ahR:rs≤2403:=by omega
      have B:(0:Int)≤(m:Int):=by omega
      have hm1:(m:Int)≤1000000:=by omega
      cases X:Mist.within ((m:Int) - rs) u x
      ·have F:=O X;clear X;go_wp2_with fail;refine (dJ ((m:Int) - rs) u x false F.o _).mono ?_;rintro e w2⟨rfl,rfl⟩;go_wp2_with fail;go_ret;exact⟨bD (by rw [← Za.o,GV F.o g.o G.o]),t.o⟩
      ·have F:=O X;have hw2:u≤(m:Int) - rs∧(m:Int) - rs≤x:=by simpa [Mist.within] using X
       obtain⟨f,hnn⟩:∃ f:Nat,(m:Int) - rs=(f:Int):=⟨((m:Int) - rs).toNat,by omega⟩;have pU:=O hnn;have hnm:f≤m:=by omega
       clear X;have n1:(0:Int)≤(f:Int):=by omega
       have n2:(f:Int)≤(m:Int):=by omega
       cases D:(a.take f).all Q.is
       ·have r:=O D;clear D;go_wp2_with fail;refine (dJ _ u x true (by rw [← pU.o];exact F.o) _).mono ?_;rintro e w2⟨rfl,rfl⟩;go_wp2_with fail;refine (rX Q (a.take f) f (by rw [List.length_take,g.o];omega) R l _ ((J.o.below P.o).take f) (by rw [List.length_take,g.o];omega) _ _ E.heap.size 189 (by rw [FZ,← HQ.o];exact y.o) false r.o).mono ?_;rintro e w3⟨rfl,rfl⟩;go_wp2_with fail;go_ret;exact⟨bD (by rw [← Za.o,uZ F.o g.o G.o pU.o,r.o,Bool.false_and]),t.o⟩
       ·have r:=O D;clear D;by_cases U:l=f
        all_goals
         go_wp2_with fail;refine (dJ _ u x true (by rw [← pU.o];exact F.o) _).mono ?_;rintro e w2⟨rfl,rfl⟩;go_wp2_with fail;refine (rX Q (a.take f) f (by rw [List.length_take,g.o];omega) R _ _ ((J.o.below P.o).take f) (by rw [List.length_take,g.o];omega) _ _ E.heap.size 189 (by rw [FZ,← HQ.o];exact y.o) true r.o).mono ?_;rintro e w3⟨rfl,rfl⟩;go_wp2_with fail;have nP:=O ((J.o.below P.o).drop (n:=f) (c:=l) (by rw [g.o];exact hmc))
         refine⟨⟨k+1,m - f,_,a.drop f,_,by omega,by go_num,rfl,by omega,by omega,O (by rw [List.length_drop,g.o]),O (by have h9:=nP.o;first | rwa [if_pos U] at h9 | rwa [if_neg U] at h9),O (by have h9:=Za.o;rw [uZ F.o g.o G.o pU.o,r.o,Bool.true_and] at h9;exact h9),t,O (N.o.below P.o hsz)⟩,by simp [intOf];omega⟩
  ·have HE:=O (show Mist.fits ps ks=decide (m=0) by
    rw [← HF.o,List.drop_of_length_le (by rw [← M.o];omega),← g.o,Mist.fits]
    cases a <;> simp)
   go_wp2_with fail;go_ret
   refine⟨bD ?_,L.o⟩
   rw [HE.o,aiu];simp
end
section
open Go.RowKit Mist
attribute [local go_sem] au aN aV aM aG
theorem YI (x:Bs)(n a:Int)(j:Option Addr)(r k:Nat)(w:World):Calls Tryz.prog 158 #[.agg #[.int .u8 1,.string (aU x),.int .i64 n,.slice j r k,.int .i64 a]] w (dH (Mist.shapeOf 1 n) w):=by
 go_in
 go_wp2_with fail;refine (aQ _ _).mono ?_;rintro e w1⟨rfl,c⟩;go_wp2_with fail;refine (aQ _ _).mono ?_;rintro e E⟨rfl,d⟩;go_wp2_with fail;refine (aQ _ _).mono ?_;rintro e F⟨rfl,f⟩;have g:=O (dY c d f);have m:=g.o.1;clear c d f;go_upto_region 5 with (fail)
 obtain⟨G,h,b,i,q,D,l,H,-⟩:=g.o.2;rw [h];clear h m g;have B:=i.o.cell 0;have C:=i.o.cell 2;have t:=b.o.cell 0;have u:=b.o.cell 1;have y:=b.o.cell 2;have A:=b.o.cell 3;have r0:=b.o.frozen 0;have r1:=b.o.frozen 1;have r2:=b.o.frozen 2;have r3:=b.o.frozen 3;go_wp2_with fail;refine bodyPost_ret (v:=.tuple #[.agg #[.bool false,.int .i64 0,.int .i64 9999,.slice none 0 0],.bool true]) (by simp [results,Tryz.f158,go_sem,t,u,y,A]) rfl ?_
 refine⟨_,_,_,_,_,_,_,rfl,?_,rfl,rfl,rfl,rfl,rfl,aiv _,?_⟩
 ·repeat (first|(with_reducible exact q.o)|(with_reducible refine dS ?_ ?_)|(with_reducible refine aF ?_ ?_) | omega|(simp;omega))
 ·exact dw.nil _
theorem YJ (x:Bs)(n a:Int)(j:Option Addr)(r k:Nat)(w:World):Calls Tryz.prog 158 #[.agg #[.int .u8 2,.string (aU x),.int .i64 n,.slice j r k,.int .i64 a]] w (dH (Mist.shapeOf 2 n) w):=by
 go_in
 go_wp2_with fail;refine (aQ _ _).mono ?_;rintro e w1⟨rfl,c⟩;go_wp2_with fail;refine (aQ _ _).mono ?_;rintro e E⟨rfl,d⟩;go_wp2_with fail;refine (aQ _ _).mono ?_;rintro e F⟨rfl,f⟩;have g:=O (dY c d f);have m:=g.o.1;clear c d f;go_upto_region 5 with (fail)
 obtain⟨G,h,b,i,q,D,l,H,-⟩:=g.o.2;rw [h];clear h m g;have B:=i.o.cell 0;have C:=i.o.cell 2;have t:=b.o.cell 0;have u:=b.o.cell 1;have y:=b.o.cell 2;have A:=b.o.cell 3;have r0:=b.o.frozen 0;have r1:=b.o.frozen 1;have r2:=b.o.frozen 2;have r3:=b.o.frozen 3;go_wp2_with fail;refine bodyPost_ret (v:=.tuple #[.agg #[.bool false,.int .i64 0,.int .i64 1,.slice none 0 0],.bool true]) (by simp [results,Tryz.f158,go_sem,t,u,y,A]) rfl ?_
 refine⟨_,_,_,_,_,_,_,rfl,?_,rfl,rfl,rfl,rfl,rfl,aiv _,?_⟩
 ·repeat (first|(with_reducible exact q.o)|(with_reducible refine dS ?_ ?_)|(with_reducible refine aF ?_ ?_) | omega|(simp;omega))
 ·exact dw.nil _
theorem Ul (x:Bs)(n a:Int)(j:Option Addr)(r k:Nat)(w:World):Calls Tryz.prog 158 #[.agg #[.int .u8 30,.string (aU x),.int .i64 n,.slice j r k,.int .i64 a]] w (dH (Mist.shapeOf 30 n) w):=by
 go_in
 go_wp2_with fail;refine (aQ _ _).mono ?_;rintro e w1⟨rfl,c⟩;go_wp2_with fail;refine (aQ _ _).mono ?_;rintro e E⟨rfl,d⟩;go_wp2_with fail;refine (aQ _ _).mono ?_;rintro e F⟨rfl,f⟩;have g:=O (dY c d f);have m:=g.o.1;clear c d f;go_upto_region 5 with (fail)
 obtain⟨G,h,b,i,q,D,l,H,-⟩:=g.o.2;rw [h];clear h m g;have B:=i.o.cell 0;have C:=i.o.cell 2;have t:=b.o.cell 0;have u:=b.o.cell 1;have y:=b.o.cell 2;have A:=b.o.cell 3;have r0:=b.o.frozen 0;have r1:=b.o.frozen 1;have r2:=b.o.frozen 2;have r3:=b.o.frozen 3;go_wp2_with fail;refine bodyPost_ret (v:=.tuple #[.agg #[.bool false,.int .i64 0,.int .i64 0,.slice none 0 0],.bool true]) (by simp [results,Tryz.f158,go_sem,t,u,y,A]) rfl ?_
 refine⟨_,_,_,_,_,_,_,rfl,?_,rfl,rfl,rfl,rfl,rfl,aiv _,?_⟩
 ·repeat (first|(with_reducible exact q.o)|(with_reducible refine dS ?_ ?_)|(with_reducible refine aF ?_ ?_) | omega|(simp;omega))
 ·exact dw.nil _
theorem Um (x:Bs)(n a:Int)(j:Option Addr)(r k:Nat)(w:World):Calls Tryz.prog 158 #[.agg #[.int .u8 31,.string (aU x),.int .i64 n,.slice j r k,.int .i64 a]] w (dH (Mist.shapeOf 31 n) w):=by
 go_in
 go_wp2_with fail;refine (aQ _ _).mono ?_;rintro e w1⟨rfl,c⟩;go_wp2_with fail;refine (aQ _ _).mono ?_;rintro e E⟨rfl,d⟩;go_wp2_with fail;refine (aQ _ _).mono ?_;rintro e F⟨rfl,f⟩;have g:=O (dY c d f);have m:=g.o.1;clear c d f;go_upto_region 5 with (fail)
 obtain⟨G,h,b,i,q,D,l,H,-⟩:=g.o.2;rw [h];clear h m g;have B:=i.o.cell 0;have C:=i.o.cell 2;have t:=b.o.cell 0;have u:=b.o.cell 1;have y:=b.o.cell 2;have A:=b.o.cell 3;have r0:=b.o.frozen 0;have r1:=b.o.frozen 1;have r2:=b.o.frozen 2;have r3:=b.o.frozen 3;go_wp2_with fail;refine bodyPost_ret (v:=.tuple #[.agg #[.bool false,.int .i64 0,.int .i64 0,.slice none 0 0],.bool true]) (by simp [results,Tryz.f158,go_sem,t,u,y,A]) rfl ?_
 refine⟨_,_,_,_,_,_,_,rfl,?_,rfl,rfl,rfl,rfl,rfl,aiv _,?_⟩
 ·repeat (first|(with_reducible exact q.o)|(with_reducible refine dS ?_ ?_)|(with_reducible refine aF ?_ ?_) | omega|(simp;omega))
 ·exact dw.nil _
theorem YK (x:Bs)(n a:Int)(u:Option Addr)(E y:Nat)(w:World):Calls Tryz.prog 158 #[.agg #[.int .u8 3,.string (aU x),.int .i64 n,.slice u E y,.int .i64 a]] w (dH (Mist.shapeOf 3 n) w):=by
 go_in
 go_wp2_with fail;refine (aQ _ _).mono ?_;rintro e w1⟨rfl,f⟩;go_wp2_with fail;refine (aQ _ _).mono ?_;rintro e I⟨rfl,g⟩;go_wp2_with fail;refine (aQ _ _).mono ?_;rintro e J⟨rfl,h⟩;have i:=O (dY f g h);have B:=i.o.1;clear f g h;go_upto_region 5 with (fail)
 obtain⟨K,q,b,r,D,H,A,L,-⟩:=i.o.2;rw [q];clear q B i;have F:=r.o.cell 0;have G:=r.o.cell 2;have j:=b.o.cell 0;have k:=b.o.cell 1;have l:=b.o.cell 2;have m:=b.o.cell 3;have r0:=b.o.frozen 0;have r1:=b.o.frozen 1;have r2:=b.o.frozen 2;have r3:=b.o.frozen 3;go_wp2_with fail;refine (kY _ _ _ _).mono ?_;rintro e t⟨rfl,d⟩;have c:=O (show aZ t (w.heap.size+1) 172 #[.bool false,.int .i64 0,.int .i64 0,.slice none 0 0] from aZ.below (by repeat (first|(with_reducible exact b.o)|(with_reducible refine aZ.alloc ?_ _))) d (by first | omega|(simp;omega)));have C:=O (show Below w.heap.size w t from Below.trans (by repeat (first|(with_reducible exact D.o)|(with_reducible refine dS ?_ ?_)|(with_reducible refine aF ?_ ?_) | omega|(simp;omega))) (d.mono (by first | omega|(simp;omega))));clear d;clear j k l m r0 r1 r2 r3;have j:=c.o.cell 0;have k:=c.o.cell 1;have l:=c.o.cell 2;have m:=c.o.cell 3;have r0:=c.o.frozen 0;have r1:=c.o.frozen 1;have r2:=c.o.frozen 2;have r3:=c.o.frozen 3;go_wp2_with fail;refine bodyPost_ret (v:=.tuple #[.agg #[.bool true,.int .i64 0,.int .i64 0,.slice none 0 0],.bool true]) (by simp [results,Tryz.f158,go_sem,j,k,l,m]) rfl ?_
 refine⟨_,_,_,_,_,_,_,rfl,?_,rfl,rfl,rfl,rfl,rfl,aiv _,?_⟩
 ·repeat (first|(with_reducible exact C.o)|(with_reducible refine dS ?_ ?_)|(with_reducible refine aF ?_ ?_) | omega|(simp;omega))
 ·exact dw.nil _
theorem Un (x:Bs)(n a:Int)(u:Option Addr)(E y:Nat)(w:World):Calls Tryz.prog 158 #[.agg #[.int .u8 32,.string (aU x),.int .i64 n,.slice u E y,.int .i64 a]] w (dH (Mist.shapeOf 32 n) w):=by
 go_in
 go_wp2_with fail;refine (aQ _ _).mono ?_;rintro e w1⟨rfl,f⟩;go_wp2_with fail;refine (aQ _ _).mono ?_;rintro e I⟨rfl,g⟩;go_wp2_with fail;refine (aQ _ _).mono ?_;rintro e J⟨rfl,h⟩;have i:=O (dY f g h);have B:=i.o.1;clear f g h;go_upto_region 5 with (fail)
 obtain⟨K,q,b,r,D,H,A,L,-⟩:=i.o.2;rw [q];clear q B i;have F:=r.o.cell 0;have G:=r.o.cell 2;have j:=b.o.cell 0;have k:=b.o.cell 1;have l:=b.o.cell 2;have m:=b.o.cell 3;have r0:=b.o.frozen 0;have r1:=b.o.frozen 1;have r2:=b.o.frozen 2;have r3:=b.o.frozen 3;go_wp2_with fail;refine (kY _ _ _ _).mono ?_;rintro e t⟨rfl,d⟩;have c:=O (show aZ t (w.heap.size+1) 172 #[.bool false,.int .i64 0,.int .i64 0,.slice none 0 0] from aZ.below (by repeat (first|(with_reducible exact b.o)|(with_reducible refine aZ.alloc ?_ _))) d (by first | omega|(simp;omega)));have C:=O (show Below w.heap.size w t from Below.trans (by repeat (first|(with_reducible exact D.o)|(with_reducible refine dS ?_ ?_)|(with_reducible refine aF ?_ ?_) | omega|(simp;omega))) (d.mono (by first | omega|(simp;omega))));clear d;clear j k l m r0 r1 r2 r3;have j:=c.o.cell 0;have k:=c.o.cell 1;have l:=c.o.cell 2;have m:=c.o.cell 3;have r0:=c.o.frozen 0;have r1:=c.o.frozen 1;have r2:=c.o.frozen 2;have r3:=c.o.frozen 3;go_wp2_with fail;refine bodyPost_ret (v:=.tuple #[.agg #[.bool true,.int .i64 0,.int .i64 0,.slice none 0 0],.bool true]) (by simp [results,Tryz.f158,go_sem,j,k,l,m]) rfl ?_
 refine⟨_,_,_,_,_,_,_,rfl,?_,rfl,rfl,rfl,rfl,rfl,aiv _,?_⟩
 ·repeat (first|(with_reducible exact C.o)|(with_reducible refine dS ?_ ?_)|(with_reducible refine aF ?_ ?_) | omega|(simp;omega))
 ·exact dw.nil _
theorem Uw (x:Bs)(n a:Int)(u:Option Addr)(E y:Nat)(w:World):Calls Tryz.prog 158 #[.agg #[.int .u8 45,.string (aU x),.int .i64 n,.slice u E y,.int .i64 a]] w (dH (Mist.shapeOf 45 n) w):=by
 go_in
 go_wp2_with fail;refine (aQ _ _).mono ?_;rintro e w1⟨rfl,f⟩;go_wp2_with fail;refine (aQ _ _).mono ?_;rintro e I⟨rfl,g⟩;go_wp2_with fail;refine (aQ _ _).mono ?_;rintro e J⟨rfl,h⟩;have i:=O (dY f g h);have B:=i.o.1;clear f g h;go_upto_region 5 with (fail)
 obtain⟨K,q,b,r,D,H,A,L,-⟩:=i.o.2;rw [q];clear q B i;have F:=r.o.cell 0;have G:=r.o.cell 2;have j:=b.o.cell 0;have k:=b.o.cell 1;have l:=b.o.cell 2;have m:=b.o.cell 3;have r0:=b.o.frozen 0;have r1:=b.o.frozen 1;have r2:=b.o.frozen 2;have r3:=b.o.frozen 3;go_wp2_with fail;refine (kY _ _ _ _).mono ?_;rintro e t⟨rfl,d⟩;have c:=O (show aZ t (w.heap.size+1) 172 #[.bool false,.int .i64 0,.int .i64 0,.slice none 0 0] from aZ.below (by repeat (first|(with_reducible exact b.o)|(with_reducible refine aZ.alloc ?_ _))) d (by first | omega|(simp;omega)));have C:=O (show Below w.heap.size w t from Below.trans (by repeat (first|(with_reducible exact D.o)|(with_reducible refine dS ?_ ?_)|(with_reducible refine aF ?_ ?_) | omega|(simp;omega))) (d.mono (by first | omega|(simp;omega))));clear d;clear j k l m r0 r1 r2 r3;have j:=c.o.cell 0;have k:=c.o.cell 1;have l:=c.o.cell 2;have m:=c.o.cell 3;have r0:=c.o.frozen 0;have r1:=c.o.frozen 1;have r2:=c.o.frozen 2;have r3:=c.o.frozen 3;go_wp2_with fail;refine bodyPost_ret (v:=.tuple #[.agg #[.bool true,.int .i64 0,.int .i64 0,.slice none 0 0],.bool true]) (by simp [results,Tryz.f158,go_sem,j,k,l,m]) rfl ?_
 refine⟨_,_,_,_,_,_,_,rfl,?_,rfl,rfl,rfl,rfl,rfl,aiv _,?_⟩
 ·repeat (first|(with_reducible exact C.o)|(with_reducible refine dS ?_ ?_)|(with_reducible refine aF ?_ ?_) | omega|(simp;omega))
 ·exact dw.nil _
theorem YL (x:Bs)(n a:Int)(y:Option Addr)(G B:Nat)(w:World):Calls Tryz.prog 158 #[.agg #[.int .u8 4,.string (aU x),.int .i64 n,.slice y G B,.int .i64 a]] w (dH (Mist.shapeOf 4 n) w):=by
 go_in
 go_wp2_with fail;refine (aQ _ _).mono ?_;rintro e w1⟨rfl,f⟩;go_wp2_with fail;refine (aQ _ _).mono ?_;rintro e M⟨rfl,g⟩;go_wp2_with fail;refine (aQ _ _).mono ?_;rintro e N⟨rfl,h⟩;have j:=O (dY f g h);have D:=j.o.1;clear f g h;go_upto_region 5 with (fail)
 obtain⟨H,r,b,t,F,L,C,P,i,-,-,-,-⟩:=j.o.2;rw [r];clear r D j;have o0:=i.o.cell 0;have o1:=i.o.cell 1;have o2:=i.o.cell 2;have I:=i.o.lt;have J:=t.o.cell 0;have K:=t.o.cell 2;have k:=b.o.cell 0;have l:=b.o.cell 1;have m:=b.o.cell 2;have q:=b.o.cell 3;have r0:=b.o.frozen 0;have r1:=b.o.frozen 1;have r2:=b.o.frozen 2;have r3:=b.o.frozen 3;go_wp2_with fail;refine (qg _ _ _ _).mono ?_;rintro e u⟨rfl,c⟩;have A:=O (gB c);have d:=O (show aZ u (w.heap.size+1) 172 #[.bool false,.int .i64 0,.int .i64 0,.slice none 0 0] from aZ.below (by repeat (first|(with_reducible exact b.o)|(with_reducible refine aZ.alloc ?_ _))) c (by first | omega|(simp;omega)));have E:=O (show Below w.heap.size w u from Below.trans (by repeat (first|(with_reducible exact F.o)|(with_reducible refine dS ?_ ?_)|(with_reducible refine aF ?_ ?_) | omega|(simp;omega))) (c.mono (by first | omega|(simp;omega))));clear c;clear k l m q r0 r1 r2 r3;have k:=d.o.cell 0;have l:=d.o.cell 1;have m:=d.o.cell 2;have q:=d.o.cell 3;have r0:=d.o.frozen 0;have r1:=d.o.frozen 1;have r2:=d.o.frozen 2;have r3:=d.o.frozen 3;go_wp2_with fail;refine bodyPost_ret (v:=.tuple #[.agg #[.bool false,.int .i64 0,.int .i64 0,.slice (some ⟨H.heap.size,0,none⟩) 1 1],.bool true]) (by simp [results,Tryz.f158,go_sem,k,l,m,q]) rfl ?_
 refine⟨_,_,_,_,_,_,_,rfl,?_,rfl,rfl,rfl,rfl,rfl,aiv _,?_⟩
 ·repeat (first|(with_reducible exact E.o)|(with_reducible refine dS ?_ ?_)|(with_reducible refine aF ?_ ?_) | omega|(simp;omega))
 ·refine dw.one (T:=189) ?_
  repeat (first|(with_reducible refine aZ.far ?_ ?_ _) | exact A.o|(simp;omega))
theorem YM (x:Bs)(n a:Int)(y:Option Addr)(G B:Nat)(w:World):Calls Tryz.prog 158 #[.agg #[.int .u8 5,.string (aU x),.int .i64 n,.slice y G B,.int .i64 a]] w (dH (Mist.shapeOf 5 n) w):=by
 go_in
 go_wp2_with fail;refine (aQ _ _).mono ?_;rintro e w1⟨rfl,f⟩;go_wp2_with fail;refine (aQ _ _).mono ?_;rintro e M⟨rfl,g⟩;go_wp2_with fail;refine (aQ _ _).mono ?_;rintro e N⟨rfl,h⟩;have j:=O (dY f g h);have D:=j.o.1;clear f g h;go_upto_region 5 with (fail)
 obtain⟨H,r,b,t,F,L,C,P,i,-,-,-,-⟩:=j.o.2;rw [r];clear r D j;have o0:=i.o.cell 0;have o1:=i.o.cell 1;have o2:=i.o.cell 2;have I:=i.o.lt;have J:=t.o.cell 0;have K:=t.o.cell 2;have k:=b.o.cell 0;have l:=b.o.cell 1;have m:=b.o.cell 2;have q:=b.o.cell 3;have r0:=b.o.frozen 0;have r1:=b.o.frozen 1;have r2:=b.o.frozen 2;have r3:=b.o.frozen 3;go_wp2_with fail;refine (qg _ _ _ _).mono ?_;rintro e u⟨rfl,c⟩;have A:=O (gB c);have d:=O (show aZ u (w.heap.size+1) 172 #[.bool false,.int .i64 0,.int .i64 0,.slice none 0 0] from aZ.below (by repeat (first|(with_reducible exact b.o)|(with_reducible refine aZ.alloc ?_ _))) c (by first | omega|(simp;omega)));have E:=O (show Below w.heap.size w u from Below.trans (by repeat (first|(with_reducible exact F.o)|(with_reducible refine dS ?_ ?_)|(with_reducible refine aF ?_ ?_) | omega|(simp;omega))) (c.mono (by first | omega|(simp;omega))));clear c;clear k l m q r0 r1 r2 r3;have k:=d.o.cell 0;have l:=d.o.cell 1;have m:=d.o.cell 2;have q:=d.o.cell 3;have r0:=d.o.frozen 0;have r1:=d.o.frozen 1;have r2:=d.o.frozen 2;have r3:=d.o.frozen 3;go_wp2_with fail;refine bodyPost_ret (v:=.tuple #[.agg #[.bool false,.int .i64 0,.int .i64 0,.slice (some ⟨H.heap.size,0,none⟩) 1 1],.bool true]) (by simp [results,Tryz.f158,go_sem,k,l,m,q]) rfl ?_
 refine⟨_,_,_,_,_,_,_,rfl,?_,rfl,rfl,rfl,rfl,rfl,aiv _,?_⟩
 ·repeat (first|(with_reducible exact E.o)|(with_reducible refine dS ?_ ?_)|(with_reducible refine aF ?_ ?_) | omega|(simp;omega))
 ·refine dw.one (T:=189) ?_
  repeat (first|(with_reducible refine aZ.far ?_ ?_ _) | exact A.o|(simp;omega))
theorem Ud (x:Bs)(n a:Int)(y:Option Addr)(G B:Nat)(w:World):Calls Tryz.prog 158 #[.agg #[.int .u8 19,.string (aU x),.int .i64 n,.slice y G B,.int .i64 a]] w (dH (Mist.shapeOf 19 n) w):=by
 go_in
 go_wp2_with fail;refine (aQ _ _).mono ?_;rintro e w1⟨rfl,f⟩;go_wp2_with fail;refine (aQ _ _).mono ?_;rintro e M⟨rfl,g⟩;go_wp2_with fail;refine (aQ _ _).mono ?_;rintro e N⟨rfl,h⟩;have j:=O (dY f g h);have D:=j.o.1;clear f g h;go_upto_region 5 with (fail)
 obtain⟨H,r,b,t,F,L,C,P,-,-,i,-,-⟩:=j.o.2;rw [r];clear r D j;have o0:=i.o.cell 0;have o1:=i.o.cell 1;have o2:=i.o.cell 2;have I:=i.o.lt;have J:=t.o.cell 0;have K:=t.o.cell 2;have k:=b.o.cell 0;have l:=b.o.cell 1;have m:=b.o.cell 2;have q:=b.o.cell 3;have r0:=b.o.frozen 0;have r1:=b.o.frozen 1;have r2:=b.o.frozen 2;have r3:=b.o.frozen 3;go_wp2_with fail;refine (qg _ _ _ _).mono ?_;rintro e u⟨rfl,c⟩;have A:=O (gB c);have d:=O (show aZ u (w.heap.size+1) 172 #[.bool false,.int .i64 0,.int .i64 0,.slice none 0 0] from aZ.below (by repeat (first|(with_reducible exact b.o)|(with_reducible refine aZ.alloc ?_ _))) c (by first | omega|(simp;omega)));have E:=O (show Below w.heap.size w u from Below.trans (by repeat (first|(with_reducible exact F.o)|(with_reducible refine dS ?_ ?_)|(with_reducible refine aF ?_ ?_) | omega|(simp;omega))) (c.mono (by first | omega|(simp;omega))));clear c;clear k l m q r0 r1 r2 r3;have k:=d.o.cell 0;have l:=d.o.cell 1;have m:=d.o.cell 2;have q:=d.o.cell 3;have r0:=d.o.frozen 0;have r1:=d.o.frozen 1;have r2:=d.o.frozen 2;have r3:=d.o.frozen 3;go_wp2_with fail;refine bodyPost_ret (v:=.tuple #[.agg #[.bool false,.int .i64 0,.int .i64 0,.slice (some ⟨H.heap.size,0,none⟩) 1 1],.bool true]) (by simp [results,Tryz.f158,go_sem,k,l,m,q]) rfl ?_
 refine⟨_,_,_,_,_,_,_,rfl,?_,rfl,rfl,rfl,rfl,rfl,aiv _,?_⟩
 ·repeat (first|(with_reducible exact E.o)|(with_reducible refine dS ?_ ?_)|(with_reducible refine aF ?_ ?_) | omega|(simp;omega))
 ·refine dw.one (T:=189) ?_
  repeat (first|(with_reducible refine aZ.far ?_ ?_ _) | exact A.o|(simp;omega))
theorem Uk (x:Bs)(n a:Int)(y:Option Addr)(G B:Nat)(w:World):Calls Tryz.prog 158 #[.agg #[.int .u8 26,.string (aU x),.int .i64 n,.slice y G B,.int .i64 a]] w (dH (Mist.shapeOf 26 n) w):=by
 go_in
 go_wp2_with fail;refine (aQ _ _).mono ?_;rintro e w1⟨rfl,f⟩;go_wp2_with fail;refine (aQ _ _).mono ?_;rintro e M⟨rfl,g⟩;go_wp2_with fail;refine (aQ _ _).mono ?_;rintro e N⟨rfl,h⟩;have j:=O (dY f g h);have D:=j.o.1;clear f g h;go_upto_region 5 with (fail)
 obtain⟨H,r,b,t,F,L,C,P,-,-,-,-,i⟩:=j.o.2;rw [r];clear r D j;have o0:=i.o.cell 0;have o1:=i.o.cell 1;have o2:=i.o.cell 2;have I:=i.o.lt;have J:=t.o.cell 0;have K:=t.o.cell 2;have k:=b.o.cell 0;have l:=b.o.cell 1;have m:=b.o.cell 2;have q:=b.o.cell 3;have r0:=b.o.frozen 0;have r1:=b.o.frozen 1;have r2:=b.o.frozen 2;have r3:=b.o.frozen 3;go_wp2_with fail;refine (qg _ _ _ _).mono ?_;rintro e u⟨rfl,c⟩;have A:=O (gB c);have d:=O (show aZ u (w.heap.size+1) 172 #[.bool false,.int .i64 0,.int .i64 0,.slice none 0 0] from aZ.below (by repeat (first|(with_reducible exact b.o)|(with_reducible refine aZ.alloc ?_ _))) c (by first | omega|(simp;omega)));have E:=O (show Below w.heap.size w u from Below.trans (by repeat (first|(with_reducible exact F.o)|(with_reducible refine dS ?_ ?_)|(with_reducible refine aF ?_ ?_) | omega|(simp;omega))) (c.mono (by first | omega|(simp;omega))));clear c;clear k l m q r0 r1 r2 r3;have k:=d.o.cell 0;have l:=d.o.cell 1;have m:=d.o.cell 2;have q:=d.o.cell 3;have r0:=d.o.frozen 0;have r1:=d.o.frozen 1;have r2:=d.o.frozen 2;have r3:=d.o.frozen 3;go_wp2_with fail;refine bodyPost_ret (v:=.tuple #[.agg #[.bool false,.int .i64 0,.int .i64 0,.slice (some ⟨H.heap.size,0,none⟩) 1 1],.bool true]) (by simp [results,Tryz.f158,go_sem,k,l,m,q]) rfl ?_
 refine⟨_,_,_,_,_,_,_,rfl,?_,rfl,rfl,rfl,rfl,rfl,aiv _,?_⟩
 ·repeat (first|(with_reducible exact E.o)|(with_reducible refine dS ?_ ?_)|(with_reducible refine aF ?_ ?_) | omega|(simp;omega))
 ·refine dw.one (T:=189) ?_
  repeat (first|(with_reducible refine aZ.far ?_ ?_ _) | exact A.o|(simp;omega))
theorem Ue (x:Bs)(n a:Int)(y:Option Addr)(G B:Nat)(w:World):Calls Tryz.prog 158 #[.agg #[.int .u8 20,.string (aU x),.int .i64 n,.slice y G B,.int .i64 a]] w (dH (Mist.shapeOf 20 n) w):=by
 go_in
 go_wp2_with fail;refine (aQ _ _).mono ?_;rintro e w1⟨rfl,f⟩;go_wp2_with fail;refine (aQ _ _).mono ?_;rintro e M⟨rfl,g⟩;go_wp2_with fail;refine (aQ _ _).mono ?_;rintro e N⟨rfl,h⟩;have j:=O (dY f g h);have D:=j.o.1;clear f g h;go_upto_region 5 with (fail)
 obtain⟨H,r,b,t,F,L,C,P,-,i,-,-,-⟩:=j.o.2;rw [r];clear r D j;have o0:=i.o.cell 0;have o1:=i.o.cell 1;have o2:=i.o.cell 2;have I:=i.o.lt;have J:=t.o.cell 0;have K:=t.o.cell 2;have k:=b.o.cell 0;have l:=b.o.cell 1;have m:=b.o.cell 2;have q:=b.o.cell 3;have r0:=b.o.frozen 0;have r1:=b.o.frozen 1;have r2:=b.o.frozen 2;have r3:=b.o.frozen 3;go_wp2_with fail;refine (kY _ _ _ _).mono ?_;rintro e u⟨rfl,c⟩;have A:=O (gB c);have d:=O (show aZ u (w.heap.size+1) 172 #[.bool false,.int .i64 0,.int .i64 0,.slice none 0 0] from aZ.below (by repeat (first|(with_reducible exact b.o)|(with_reducible refine aZ.alloc ?_ _))) c (by first | omega|(simp;omega)));have E:=O (show Below w.heap.size w u from Below.trans (by repeat (first|(with_reducible exact F.o)|(with_reducible refine dS ?_ ?_)|(with_reducible refine aF ?_ ?_) | omega|(simp;omega))) (c.mono (by first | omega|(simp;omega))));clear c;clear k l m q r0 r1 r2 r3;have k:=d.o.cell 0;have l:=d.o.cell 1;have m:=d.o.cell 2;have q:=d.o.cell 3;have r0:=d.o.frozen 0;have r1:=d.o.frozen 1;have r2:=d.o.frozen 2;have r3:=d.o.frozen 3;go_wp2_with fail;refine bodyPost_ret (v:=.tuple #[.agg #[.bool true,.int .i64 0,.int .i64 0,.slice (some ⟨H.heap.size,0,none⟩) 1 1],.bool true]) (by simp [results,Tryz.f158,go_sem,k,l,m,q]) rfl ?_
 refine⟨_,_,_,_,_,_,_,rfl,?_,rfl,rfl,rfl,rfl,rfl,aiv _,?_⟩
 ·repeat (first|(with_reducible exact E.o)|(with_reducible refine dS ?_ ?_)|(with_reducible refine aF ?_ ?_) | omega|(simp;omega))
 ·refine dw.one (T:=189) ?_
  repeat (first|(with_reducible refine aZ.far ?_ ?_ _) | exact A.o|(simp;omega))
end
