/-
  A part of the proof.
-/
import Derived.Test.YthepmkjggfijoaaGreatDoorSA
import Derived.Deep.RegionHeld3
import Derived.BigQuiet
import Derived.Test.YthepmkjggfijoaaGreatDoorS28
import Derived.Test.YthepmkjggfijoaaGreatDoorS30
import Derived.Test.YthepmkjggfijoaaGreatDoorS29
import Derived.Test.YthepmkjggfijoaaGreatDoorS07
import Derived.Test.YthepmkjggfijoaaGreatDoorShelf
import Derived.Test.YthepmkjggfijoaaGreatDoorS31
import Derived.Test.YthepmkjggfijoaaGreatDoorS32
import Derived.Test.YthepmkjggfijoaaGreatDoorCards
import Derived.Test.YthepmkjggfijoaaGreatDoorV01
set_option linter.all false
set_option maxRecDepth 100000
set_option maxHeartbeats 4000000
open Go.Lib (hid)
namespace Mist
def JE:Nat→Bs
 | 0=>[]
 | n+1=>[110,111,116,32] ++ JE n
def rep (b:UInt8)(n:Nat):Bs:=List.replicate n b
def xW (n k:Nat):Bs:=JE n ++ (rep 40 k ++ ([116,114,117,101] ++ (rep 41 k ++ [59])))
def lg (n k:Nat):Bs:=[108,101,116,32,97,32,61,32] ++ xW n k
def qX:Nat→List (Bs × Nat × Bs)
 | 0=>[([],4,[59])]
 | j+1=>([],4,[41]) :: qX j
def vD (k:Nat):Bs→Nat→List (Bs × Nat × Bs)
 | g,0=>(g,3,[116,114,117,101]) :: qX k
 | g,j+1=>(g,4,[40]) :: vD k [] j
def Fq (k:Nat):Nat→List (Bs × Nat × Bs)
 | 0=>vD k [32] k
 | n+1=>([32],3,[110,111,116]) :: Fq k n
def tX (n k:Nat):List (Bs × Nat × Bs):=([],3,[108,101,116]) :: ([32],1,[97]) :: ([32],4,[61]) :: Fq k n
theorem xU:∀ j,aN (qX j)=rep 41 j ++ [59]
 | 0=>rfl
 | j+1=>by
  show [] ++ ([41] ++ aN (qX j))=_
  rw [xU j];rfl
theorem Il (k:Nat):∀ j g,aN (vD k g j)=g ++ (rep 40 j ++ ([116,114,117,101] ++ (rep 41 k ++ [59])))
 | 0,g=>by
  show g ++ ([116,114,117,101] ++ aN (qX k))=_
  rw [xU k];rfl
 | j+1,g=>by
  show g ++ ([40] ++ aN (vD k [] j))=_
  rw [Il k j []];rfl
theorem y7 (k:Nat):∀ n,aN (Fq k n)=[32] ++ xW n k
 | 0=>by
  show aN (vD k [32] k)=_
  rw [Il];rfl
 | n+1=>by
  show [32] ++ ([110,111,116] ++ aN (Fq k n))=_
  rw [y7 k n];rfl
theorem GU (n k:Nat):aN (tX n k)=lg n k:=by
 show [] ++ ([108,101,116] ++ ([32] ++ ([97] ++ ([32] ++ ([61] ++ aN (Fq k n))))))=_
 rw [y7];rfl
theorem OU:∀ n,(JE n).length=4 * n
 | 0=>rfl
 | n+1=>by
  show ([110,111,116,32] ++ JE n).length=_
  rw [aaO,OU n];show 4+4 * n=_;omega
theorem BU (n k:Nat):(lg n k).length=13+4 * n+2 * k:=by
 unfold lg xW rep;simp only [aaO,OU,List.length_replicate,List.length_cons,List.length_nil];omega
theorem GL:∀ j,(qX j).length=j+1
 | 0=>rfl
 | j+1=>by show (qX j).length+1=_;rw [GL j]
theorem KE (k:Nat):∀ j g,(vD k g j).length=j+k+2
 | 0,g=>by show (qX k).length+1=_;rw [GL];omega
 | j+1,g=>by show (vD k [] j).length+1=_;rw [KE k j];omega
theorem OQ (k:Nat):∀ n,(Fq k n).length=n+2 * k+2
 | 0=>by show (vD k [32] k).length=_;rw [KE];omega
 | n+1=>by show (Fq k n).length+1=_;rw [OQ k n];omega
theorem Kg (n k:Nat):(tX n k).length=n+2 * k+5:=by
 show (Fq k n).length+1+1+1=_;rw [OQ]
theorem Di (b:UInt8)(r:Bs)(h1:pR b=false)(h2:(b == 35)=false):skip (b :: r)=0:=by
 unfold skip;rw [gK,if_neg (by simp [h1]),if_neg (by simp [h2])]
theorem yQ (b:UInt8)(r:Bs)(h1:pR b=false)(h2:(b == 35)=false):skip (32 :: b :: r)=1:=by
 have h:=Di b r h1 h2;unfold skip at h ⊢
 rw [gK,if_pos (by decide),h]
theorem EC:∀ j,Good (qX j)
 | 0=>⟨by decide,by decide,by decide,by decide,trivial⟩
 | j+1=>⟨Di _ _ (by decide) (by decide),nV [41] (by decide) _,by decide,by decide,EC j⟩
theorem tail_rep (k:Nat)(r:Bs):Tail (rep 41 k ++ (59 :: r)):=by
 cases k with
 | zero=>exact .inr ⟨59,r,rfl,by decide⟩
 | succ k=>exact .inr ⟨41,_,rfl,by decide⟩
theorem Tv (r:Bs)(h:Tail r):first ([116,114,117,101] ++ r)=(3,[116,114,117,101]):=by
 rw [ng _ r h (by decide) (by decide) (by decide) (by decide)];decide
theorem Ik (k:Nat):∀ j g,(g=[]∨g=[32])→Good (vD k g j)
 | 0,g,hg=>by
  refine⟨?_,?_,by decide,by decide,EC k⟩
  ·rcases hg with rfl | rfl
   ·exact Di _ _ (by decide) (by decide)
   ·exact yQ _ _ (by decide) (by decide)
  ·rw [xU];exact Tv _ (tail_rep k [])
 | j+1,g,hg=>by
  refine⟨?_,nV [40] (by decide) _,by decide,by decide,Ik k j [] (.inl rfl)⟩
  rcases hg with rfl | rfl
  ·exact Di _ _ (by decide) (by decide)
  ·exact yQ _ _ (by decide) (by decide)
theorem AJ (r:Bs):Tail (32 :: r):=.inr ⟨32,r,rfl,by decide⟩
theorem KC (k:Nat):∀ n,Good (Fq k n)
 | 0=>Ik k k [32] (.inr rfl)
 | n+1=>by
  refine⟨yQ _ _ (by decide) (by decide),?_,by decide,by decide,KC k n⟩
  rw [y7]
  show first ([110,111,116] ++ (32 :: xW n k))=_
  rw [ng _ _ (AJ _) (by decide) (by decide) (by decide) (by decide)];decide
theorem Rs (n k:Nat):Good (tX n k):=by
 refine⟨Di _ _ (by decide) (by decide),?_,by decide,by decide,yQ _ _ (by decide) (by decide),?_,by decide,by decide,yQ _ _ (by decide) (by decide),?_,by decide,by decide,KC k n⟩
 ·show first ([108,101,116] ++ (32 :: _))=_
  rw [ng _ _ (AJ _) (by decide) (by decide) (by decide) (by decide)];decide
 ·show first ([97] ++ (32 :: _))=_
  rw [ng _ _ (AJ _) (by decide) (by decide) (by decide) (by decide)];decide
 ·rw [y7]
  show first (61 :: 32 :: _)=_
  rw [oo _ _ _ (by decide) (by decide)];decide
theorem Ig:∀ n,(JE n).all gV=true
 | 0=>rfl
 | n+1=>by
  show ([110,111,116,32] ++ JE n).all gV=true
  rw [List.all_append,Ig n];decide
theorem En (b:UInt8)(h:gV b=true):∀ n,(rep b n).all gV=true
 | 0=>rfl
 | n+1=>by
  show (b :: rep b n).all gV=true
  rw [List.all_cons,En b h n,h];rfl
theorem Rt (n k:Nat)(hn:n < 60)(hk:k < 100):(check (lg n k)).2=0:=by
 have hv:(lg n k).all gV=true:=by
  unfold lg xW;simp only [List.all_append,Ig,En 40 (by decide),En 41 (by decide)]
  decide
 unfold check;rw [if_neg (by rw [BU];omega)]
 have:(lg n k).findIdx? (fun b=>!gV b)=none:=by
  rw [List.findIdx?_eq_none_iff];intro x hx;rw [aaR.1 hv x hx];rfl
 rw [this]
def dQ (n k:Nat):List Tok:=fO 0 (tX n k)
theorem DW (n k:Nat)(hn:n < 60)(hk:k < 100):Mist.read (lg n k)=(dQ n k,0,0):=by
 rw [← GU];exact wK (tX n k) (Rs n k) (by rw [Kg];omega) (by rw [GU];exact Rt n k hn hk)
theorem BX (n k:Nat):(dQ n k).length=n+2 * k+5:=by unfold dQ;rw [mW,Kg]
theorem oP:∀ (its:List (Bs × Nat × Bs)) (a p:Nat) (g:Bs) (c:Nat) (t:Bs),its[p]? = some (g,c,t)→(tg (fO a its) p).kind=c∧tx (fO a its) p=t
 | [],_,_,_,_,_,h=>by simp at h
 | (g0,c0,t0) :: r,a,0,g,c,t,h=>by
  have h:(g0,c0,t0)=(g,c,t):=by simpa using h
  injection h with h1 h2;injection h2 with h2 h3;subst h2;subst h3
  exact⟨rfl,rfl⟩
 | (g0,c0,t0) :: r,a,p+1,g,c,t,h=>by
  have h:r[p]? = some (g,c,t):=by simpa using h
  exact oP r (a+g0.length+t0.length) p g c t h
theorem J9:∀ k j,j < k→(qX k)[j]? = some ([],4,[41])
 | 0,j,h=>by omega
 | k+1,0,_=>rfl
 | k+1,j+1,h=>J9 k j (by omega)
theorem GK:∀ k,(qX k)[k]? = some ([],4,[59])
 | 0=>rfl
 | k+1=>GK k
theorem OV (k:Nat):∀ m j g,j < m→∃ g',(vD k g m)[j]? = some (g',4,[40])
 | 0,j,g,h=>by omega
 | m+1,0,g,_=>⟨g,rfl⟩
 | m+1,j+1,g,h=>OV k m j [] (by omega)
theorem KF (k:Nat):∀ m g,∃ g',(vD k g m)[m]? = some (g',3,[116,114,117,101])
 | 0,g=>⟨g,rfl⟩
 | m+1,g=>KF k m []
theorem Ah (k:Nat):∀ m j g,(vD k g m)[m+1+j]? = (qX k)[j]?
 | 0,j,g=>by rw [Nat.zero_add,Nat.add_comm];rfl
 | m+1,j,g=>by
  rw [show m+1+1+j=(m+1+j)+1 by omega];exact Ah k m j []
theorem Us (k:Nat):∀ n i,i < n→(Fq k n)[i]? = some ([32],3,[110,111,116])
 | 0,i,h=>by omega
 | n+1,0,_=>rfl
 | n+1,i+1,h=>Us k n i (by omega)
theorem vB (k:Nat):∀ n i,(Fq k n)[n+i]? = (vD k [32] k)[i]?
 | 0,i=>by rw [Nat.zero_add];rfl
 | n+1,i=>by
  rw [show n+1+i=(n+i)+1 by omega];exact vB k n i
theorem sI (n k i:Nat):(tX n k)[3+i]? = (Fq k n)[i]? := by
 rw [Nat.add_comm 3 i];rfl
section
variable (n k:Nat)
theorem NU (i:Nat)(h:i < n):tx (dQ n k) (3+i)=[110,111,116] :=
 (oP (tX n k) 0 (3+i) [32] 3 _ (by rw [sI,Us k n i h])).2
theorem yV (j:Nat)(h:j < k):tx (dQ n k) (3+n+j)=[40]∧(tg (dQ n k) (3+n+j)).kind=4:=by
 obtain⟨g,hg⟩:=OV k k j [32] h
 have:=oP (tX n k) 0 (3+n+j) g 4 [40] (by rw [Nat.add_assoc,sI,vB,hg])
 exact⟨this.2,this.1⟩
theorem yX:tx (dQ n k) (3+n+k)=[116,114,117,101]∧(tg (dQ n k) (3+n+k)).kind=3:=by
 obtain⟨g,hg⟩:=KF k k [32]
 have:=oP (tX n k) 0 (3+n+k) g 3 [116,114,117,101] (by rw [Nat.add_assoc,sI,vB,hg])
 exact⟨this.2,this.1⟩
theorem Ru (j:Nat)(h:j < k):tx (dQ n k) (3+n+k+1+j)=[41] :=
 (oP (tX n k) 0 (3+n+k+1+j) [] 4 _ (by rw [show 3+n+k+1+j=3+(n+(k+1+j)) by omega,sI,vB,Ah,J9 k j h])).2
theorem GV:tx (dQ n k) (3+n+k+1+k)=[59] :=
 (oP (tX n k) 0 (3+n+k+1+k) [] 4 _ (by rw [show 3+n+k+1+k=3+(n+(k+1+k)) by omega,sI,vB,Ah,GK k])).2
end
section
variable {l:List Tok} {en:Int}
def Shuts (l:List Tok)(k:Nat):Prop:=tx l k=[41]∨tx l k=[59]
theorem vJ {v:Lv}{a:Int}{m k:Nat}{ns:List Nd}(h:Shuts l k):run l en (m+1) (.tail v a) k ns=some (.ok [a] k ns):=by
 rw [run,if_pos];rcases h with h | h <;> rw [h] <;> cases v <;> rfl
theorem SB {a:Int}{m k:Nat}{ns:List Nd}(h:Shuts l k):run l en (m+1) (.iq a) k ns=some (.ok [a] k ns):=by
 rw [run,if_neg (by rcases h with h | h <;> rw [h] <;> decide),if_neg (by rcases h with h | h <;> rw [h] <;> decide)]
theorem Vm {m k k1:Nat}{a:Int}{ns aJ:List Nd}(h0:tx l k ≠ [45])(h1:Shuts l k1)(h:run l en (m+1) .atom k ns=some (.ok [a] k1 aJ)) :
  run l en (m+6) (.lv .cmp) k ns=some (.ok [a] k1 aJ):=by
 have hp:run l en (m+2) .post k ns=some (.ok [a] k1 aJ):=by
  rw [run,h];exact SB h1
 have hu:run l en (m+3) (.lv .unary) k ns=some (.ok [a] k1 aJ):=by
  rw [run,if_neg h0];exact hp
 have ht:run l en (m+4) (.lv .term) k ns=some (.ok [a] k1 aJ):=by
  rw [run] <;> first|(show thn (run l en (m+3) (.lv .unary) k ns) _=_;rw [hu];exact vJ h1)|(intro e;cases e)
 have hs:run l en (m+5) (.lv .sum) k ns=some (.ok [a] k1 aJ):=by
  rw [run] <;> first|(show thn (run l en (m+4) (.lv .term) k ns) _=_;rw [ht];exact vJ h1)|(intro e;cases e)
 rw [run] <;> first|(show thn (run l en (m+5) (.lv .sum) k ns) _=_;rw [hs];exact vJ h1)|(intro e;cases e)
theorem J8 {m k k1:Nat}{a:Int}{ns aJ:List Nd}(h0:tx l k ≠ [45])(hn:tx l k ≠ [110,111,116])(h1:Shuts l k1)(h:run l en (m+1) .atom k ns=some (.ok [a] k1 aJ)) :
  run l en (m+7) (.lv .not) k ns=some (.ok [a] k1 aJ):=by
 rw [run,if_neg hn];exact Vm h0 h1 h
theorem GJ {m k k1:Nat}{a:Int}{ns aJ:List Nd}(hi:tx l k ≠ [105,102])(hl:tx l k ≠ [108,101,116])(h1:Shuts l k1)(h:run l en (m+1) (.lv .not) k ns=some (.ok [a] k1 aJ)) :
  run l en (m+4) .expr k ns=some (.ok [a] k1 aJ):=by
 have ha:run l en (m+2) (.lv .and) k ns=some (.ok [a] k1 aJ):=by
  rw [run] <;> first|(show thn (run l en (m+1) (.lv .not) k ns) _=_;rw [h];exact vJ h1)|(intro e;cases e)
 have ho:run l en (m+3) (.lv .or) k ns=some (.ok [a] k1 aJ):=by
  rw [run] <;> first|(show thn (run l en (m+2) (.lv .and) k ns) _=_;rw [ha];exact vJ h1)|(intro e;cases e)
 rw [run,if_neg hi,if_neg hl];exact ho
end
section
variable (n k:Nat) (en:Int)
def qY:Nat→List Nd
 | 0=>[⟨2,[],1,[],pl (dQ n k) en (3+n+k)⟩]
 | i+1=>qY i ++ [⟨5,[],0,[(i:Int)],pl (dQ n k) en (3+(n - (i+1)))⟩]
theorem pQ:∀ i,(qY n k en i).length=i+1
 | 0=>rfl
 | i+1=>by show (qY n k en i ++ [_]).length=_;rw [aaO,pQ i];rfl
theorem Ki:∀ j,j≤k→run (dQ n k) en (10 * j+1) .atom (3+n+(k - j)) []=some (.ok [0] (3+n+k+1+j) (qY n k en 0))
 | 0,_=>by
  have h:=yX n k;rw [Nat.sub_zero,run,if_neg (by rw [h.2];decide),if_pos h.1];rfl
 | j+1,hj=>by
  have ho:=yV n k (k - (j+1)) (by omega);have ih:=Ki j (by omega);have hc:=Ru n k j (by omega);have e1:3+n+(k - (j+1))+1=3+n+(k - j):=by omega
  have hx:tx (dQ n k) (3+n+(k - j))=[40]∨tx (dQ n k) (3+n+(k - j))=[116,114,117,101]:=by
   rcases Nat.eq_zero_or_pos j with rfl | h0
   ·rw [Nat.sub_zero];exact .inr (yX n k).1
   ·exact .inl (yV n k (k - j) (by omega)).1
  have hs:Shuts (dQ n k) (3+n+k+1+j):=.inl hc;have h1:=J8 (by rcases hx with h | h <;> rw [h] <;> decide) (by rcases hx with h | h <;> rw [h] <;> decide) hs ih;have h2:=GJ (m:=10 * j+6) (by rcases hx with h | h <;> rw [h] <;> decide) (by rcases hx with h | h <;> rw [h] <;> decide) hs h1;rw [show 10 * (j+1)+1=(10 * j+6+4)+1 by omega,run,if_neg (by rw [ho.2];decide),if_neg (by rw [ho.1];decide),if_neg (by rw [ho.1];decide),if_pos ho.1,e1,h2]
  show need (dQ n k) [41] (3+n+k+1+j) _=_
  rw [need,if_pos hc];rfl
theorem Kj:∀ i,i≤n→run (dQ n k) en (10 * k+7+i) (.lv .not) (3+(n - i)) []=some (.ok [(i:Int)] (3+n+k+1+k) (qY n k en i))
 | 0,_=>by
  have ih:=Ki n k en k (aaJ _);rw [Nat.sub_self,Nat.add_zero] at ih
  rw [Nat.sub_zero]
  have hx:tx (dQ n k) (3+n)=[40]∨tx (dQ n k) (3+n)=[116,114,117,101]:=by
   rcases Nat.eq_zero_or_pos k with rfl | h0
   ·exact .inr (yX n 0).1
   ·exact .inl (yV n k 0 h0).1
  exact J8 (by rcases hx with h | h <;> rw [h] <;> decide) (by rcases hx with h | h <;> rw [h] <;> decide) (.inr (GV n k)) ih
 | i+1,hi=>by
  have ih:=Kj i (by omega);have hn:=NU n k (n - (i+1)) (by omega);rw [show 10 * k+7+(i+1)=(10 * k+7+i)+1 by omega,run,if_pos hn,show 3+(n - (i+1))+1=3+(n - i) by omega,ih]
  show Mist.add _ _ _=_
  unfold Mist.add;rw [pQ];rfl
def iY:Tr:=⟨qY n k en n ++ [⟨43,[97],0,[(n:Int)],pl (dQ n k) en 0⟩],[((n+1:Nat):Int)]⟩
theorem DV:prog (dQ n k) en (10 * k+n+10) 2 0 [] []=some (.ok (iY n k en).items (dQ n k).length (iY n k en).nodes):=by
 have h0:=oP (tX n k) 0 0 [] 3 [108,101,116] rfl;have h1:=oP (tX n k) 0 1 [32] 1 [97] rfl;have h2:=oP (tX n k) 0 2 [32] 4 [61] rfl;have h0:(tg (dQ n k) 0).kind=3∧tx (dQ n k) 0=[108,101,116]:=h0;have h1:(tg (dQ n k) 1).kind=1∧tx (dQ n k) 1=[97]:=h1;have h2:(tg (dQ n k) 2).kind=4∧tx (dQ n k) 2=[61]:=h2
 have hx:tx (dQ n k) 3=[110,111,116]∨tx (dQ n k) 3=[40]∨tx (dQ n k) 3=[116,114,117,101]:=by
  rcases Nat.eq_zero_or_pos n with rfl | h
  ·rcases Nat.eq_zero_or_pos k with rfl | h0
   ·exact .inr (.inr (yX 0 0).1)
   ·exact .inr (.inl (yV 0 k 0 h0).1)
  ·exact .inl (NU n k 0 h)
 have hr:=Kj n k en n (aaJ _);rw [Nat.sub_self,Nat.add_zero] at hr
 have he:=GJ (m:=10 * k+6+n) (by rcases hx with h | h | h <;> rw [h] <;> decide) (by rcases hx with h | h | h <;> rw [h] <;> decide) (.inr (GV n k)) (by rw [show 10 * k+6+n+1=10 * k+7+n by omega];exact hr);rw [show 10 * k+6+n+4=10 * k+n+10 by omega] at he
 have hlen:=BX n k
 have hi:item (dQ n k) en (10 * k+n+10) 0 []=some (.ok [((n+1:Nat):Int)] (3+n+k+1+k) (iY n k en).nodes):=by
  unfold item;rw [if_pos h0.1,h0.2]
  show gI (dQ n k) en (10 * k+n+10) .yB 0 []=_
  unfold gI
  show ite ((tg (dQ n k) 1).kind=1) _ _=_
  rw [if_pos h1.1]
  show ite (tx (dQ n k) 2=[61]) _ _=_
  rw [if_pos h2.2]
  show thn (run (dQ n k) en (10 * k+n+10) .expr 3 []) _=_
  rw [he]
  show Mist.add _ _ _=_
  unfold Mist.add;rw [pQ,h1.2];rfl
 rw [prog,if_pos (by omega),hi]
 show need (dQ n k) [59] (3+n+k+1+k) _=_
 rw [need,if_pos (GV n k),prog,if_neg (by omega)]
 show some (j6.ok _ _ _)=_
 rw [show 3+n+k+1+k+1=(dQ n k).length by omega];rfl
end
end Mist
namespace Mist
theorem Kt {n:Nd}:∀ (qs:List (Nat × Bool)) (i:Nat),oJ n i qs=true→∀ j q,qs[j]? = some q→ru n (i+j) q=true
 | [],_,_,j,q,h=>by simp at h
 | a :: r,i,hk,0,q,h=>by
  obtain rfl:a=q:=by simpa using h
  rw [oJ,aaS] at hk
  exact hk.1
 | a :: r,i,hk,j+1,q,h=>by
  rw [oJ,aaS] at hk
  have:=Kt r (i+1) hk.2 j q (by simpa using h)
  rwa [show i+1+j=i+(j+1) by omega] at this
theorem Pn {T:Tr}{i:Nat}{x:Nd}(hx:T.nodes[i]? = some x)(h:uP T.nodes x):je T i=true:=by
 have e:=kH hx;unfold uP okB at h
 simp only [aaS] at h
 obtain⟨⟨⟨⟨⟨⟨h1,h2⟩,h3⟩,h4⟩,h5⟩,h6⟩,h7⟩:=h;unfold je;rw [e];simp only [aaS]
 refine⟨⟨⟨⟨⟨⟨h1,h2⟩,h3⟩,h4⟩,h5⟩,h6⟩,?_⟩
 rw [aaR];intro j hj;rw [List.mem_range] at hj
 have hg:(x.kids.map (dB T.nodes))[j]? = some (dB T.nodes (x.kids.getD j 0)):=by
  rw [List.getElem?_map,aaD hj,aaH,aaD hj];rfl
 have:=Kt _ 0 h7 j _ hg
 rw [Nat.zero_add] at this
 unfold ru dB at this
 exact this
theorem pI_item {T:Tr}(h:∀ a ∈ T.items,pI (dB T.nodes a)=true):∀ c ∈ T.items,eP (nd T c.toNat).kind=true:=h
theorem MO {T:Tr}(hA:jN T.nodes)(hF:Fo T.nodes 0 T.nodes.length T.items)(hI:∀ a ∈ T.items,pI (dB T.nodes a)=true):kE T=true :=
 (rR T).2 ⟨⟨hF,pI_item hI⟩,fun _ hi=>Pn (Cw hi) (hA _ _ (Cw hi))⟩
end Mist
namespace Go.Proofs.YthepmkjggfijoaaGreatDoor
open Go.RowKit Mist
theorem Sb {K:Nat}(h:Mist.known K=true):K < 256:=by
 by_cases hk:K < 256
 ·exact hk
 ·exfalso
  unfold Mist.known lq iH eP at h
  simp at h
  omega
theorem nP {a lo hi:Int}(h:within a lo hi=true):lo≤a∧a≤hi:=by simpa [within] using h
theorem Sv {T:Tr}(hA:jN T.nodes)(hW:Wf T.nodes)(hS:∀ x ∈ T.nodes,Mist.sized T x=true)(hl:T.nodes.length≤1000):xO T.nodes:=by
 intro x hx;obtain⟨i,hi,hxi⟩:=List.getElem_of_mem hx;have hx':T.nodes[i]? = some x:=by rw [← hxi];exact aaD hi
 have hok:=hA i x hx';unfold uP okB at hok
 simp only [aaS] at hok
 obtain⟨⟨⟨⟨⟨⟨h1,h2⟩,h3⟩,h4⟩,h5⟩,h6⟩,h7⟩:=hok;have hs:=hS x hx
 refine⟨Sb (by unfold Mist.known;exact h1),?_,?_,?_,?_⟩
 ·by_cases hn:ig x.kind=true
  ·rw [hn] at h2
   have h2:isName x.text=true:=(eq_of_beq h2).symm;unfold isName at h2
   have:=(Ct x.text (by rw [eq_of_beq h2];decide)).1
   omega
  ·have h3:x.text.isEmpty=true:=by simpa [hn] using h3
   have:x.text=[]:=List.isEmpty_iff.1 h3
   rw [this];simp
 ·by_cases k1:x.kind=1
  ·have:=nP (by simpa [gu,k1] using h5:within x.n (-9999) 9999=true);unfold jq gq;omega
  by_cases k2:x.kind=2
  ·have:=nP (by simpa [gu,k2] using h5:within x.n 0 1=true);unfold jq gq;omega
  by_cases k42:x.kind=42
  ·have a:0≤x.n:=by simpa [gu,k42] using h5
   have b:x.n≤8:=by
    unfold Mist.sized at hs
    simp [k42] at hs
    exact hs.2
   unfold jq gq;omega
  by_cases k33:x.kind=33
  ·have:=nP (by unfold Mist.sized at hs;simpa [k33] using hs:within x.n 1 6=true);unfold jq gq;omega
  by_cases k46:x.kind=46
  ·have:=nP (by simpa [gu,k46] using h5:within x.n 1 8=true);unfold jq gq;omega
  ·have:x.n=0:=by simpa [gu,k1,k2,k42,k33,k46] using h5
   unfold jq gq;omega
 ·have:=nP h6;unfold jq gq;omega
 ·intro c hc
  have:=hW i x hx' c hc
  unfold jq gq;omega
theorem W_ {T:Tr}(h:¬ 0≤outT T):∀ x ∈ T.nodes,Mist.sized T x=true:=by
 have h2:=Io T;rw [aaV h] at h2
 have h3:T.nodes.all (Mist.sized T)=true:=by simpa using h2.symm
 exact aaR.1 h3
theorem MK {T:Tr}(h:(iy T).2=0):Mist.large T=false∧¬ 30 < om T∧¬ 0≤outT T:=by
 unfold iy at h
 split at h
 ·cases h
 ·rename_i h1
  split at h
  ·cases h
  ·rename_i h2
   exact⟨by simpa using fun h=>h1 (.inl h),fun h=>h1 (.inr h),h2⟩
theorem ML {T:Tr}(hA:jN T.nodes)(hW:Wf T.nodes)(hF:Fo T.nodes 0 T.nodes.length T.items)(hI:∀ a ∈ T.items,pI (dB T.nodes a)=true)(hE:(iy T).2=0):dN T=0∧xO T.nodes:=by
 obtain⟨hl,hd,ho⟩:=MK hE
 have hlen:T.nodes.length≤800:=by
  have:¬ 800 < T.nodes.length:=fun h=>by unfold Mist.large at hl;rw [aaU h] at hl;simp at hl
  omega
 have hR:=Sv hA hW (W_ ho) (by omega);obtain⟨f1,f2,f3⟩:=(Ce T (fun n hn=>(hR n hn).num) (by omega)).2 (MO hA hF hI)
 refine⟨?_,hR⟩
 unfold dN;rw [if_neg (by rw [hl];decide),if_neg (by rw [f1];decide),if_neg (by rw [f2,f3];simp),if_neg hd,if_neg ho]
theorem KH (i:Int):∀ (ks P:List Int) (j:Nat),(∀ k ∈ ks,0≤k∧k < (P.length:Int))→(um i ks P).getD j 0=if (j:Int) ∈ ks then i else P.getD j 0
 | [],P,j,_=>by simp [um]
 | k :: r,P,j,h=>by
  rw [um,KH i r _ j (fun x hx=>by rw [List.length_set];exact h x (List.mem_cons_of_mem _ hx)),lU];have h0:=h k (List.mem_cons_self ..);by_cases h1:(j:Int) ∈ r
  ·rw [if_pos h1,if_pos (List.mem_cons_of_mem _ h1)]
  ·rw [if_neg h1];by_cases h2:k.toNat=j
   ·rw [if_pos ⟨h2,by omega⟩,if_pos (by rw [show (j:Int)=k by omega];exact List.mem_cons_self ..)]
   ·rw [if_neg (fun h=>h2 h.1),if_neg];intro h3;rcases List.mem_cons.1 h3 with h4 | h4
    ·omega
    ·exact h1 h4
theorem Cz {ns:List Nd}(hW:Wf ns):∀ k,k≤ns.length→∀ j,j < k→((wH ns k).getD j 0=-1∧∀ m x,m < k→ns[m]? = some x→(j:Int) ∉ x.kids)∨∃ m x,m < k∧ns[m]? = some x∧(j:Int) ∈ x.kids∧(wH ns k).getD j 0=(m:Int)
 | 0,_,j,hj=>by omega
 | k+1,hk,j,hj=>by
  obtain⟨x,hx⟩:∃ x,ns[k]? = some x:=⟨_,aaD (by omega)⟩;have hks:=hW k x hx
  have e:(wH ns (k+1)).getD j 0=if (j:Int) ∈ x.kids then (k:Int) else ((wH ns k).set k (-1)).getD j 0:=by
   rw [wH,KJ,hx];exact KH _ _ _ _ (fun c hc=>by rw [List.length_set,qI];have:=hks c hc;omega)
  rw [e];by_cases h1:(j:Int) ∈ x.kids
  ·rw [if_pos h1];exact .inr ⟨k,x,by omega,hx,h1,rfl⟩
  ·rw [if_neg h1,lU];by_cases h2:k=j
   ·subst h2;rw [if_pos ⟨rfl,by rw [qI];omega⟩];refine .inl ⟨rfl,fun m y hm hy hc=>?_⟩
    have:=hW m y hy _ hc
    omega
   ·rw [if_neg (fun h=>h2 h.1)];rcases Cz hW k (by omega) j (by omega) with ⟨h3,h4⟩ | ⟨m,y,h3,h4,h5,h6⟩
    ·refine .inl ⟨h3,fun m y hm hy hc=>?_⟩;rcases Nat.lt_or_ge m k with h7 | h7
     ·exact h4 m y h7 hy hc
     ·obtain rfl:m=k:=by omega
      rw [hx] at hy;cases hy
      exact h1 hc
    ·exact .inr ⟨m,y,by omega,h4,h5,h6⟩
theorem Ef {ns:List Nd}{qs:List Int}(hW:Wf ns)(hf:Fo ns 0 ns.length qs){j m:Nat}{x:Nd}(hx:ns[m]? = some x)(hc:(j:Int) ∈ x.kids):(cZ ns).getD j 0=(m:Int):=by
 have hm:=(aaE.1 hx).1;have hj:=hW m x hx _ hc;rcases Cz hW ns.length (aaJ _) j (by omega) with ⟨_,h4⟩ | ⟨m',y,h3,h4,h5,h6⟩
 ·exact absurd hc (h4 m x hm hx)
 ·rw [Fo.Ae hf hm h3 hx h4 hc h5];exact h6
theorem kid_par {ns:List Nd}(hW:Wf ns){j m:Nat}(hj:j < ns.length)(h:(cZ ns).getD j 0=(m:Int)):∃ x,ns[m]? = some x∧(j:Int) ∈ x.kids:=by
 rcases Cz hW ns.length (aaJ _) j hj with ⟨h3,_⟩ | ⟨m',y,h3,h4,h5,h6⟩
 ·unfold cZ at h;omega
 ·have:m'=m:=by unfold cZ at h;omega
  subst this;exact⟨y,h4,h5⟩
theorem UC {ns:List Nd}{qs:List Int}(hW:Wf ns)(hf:Fo ns 0 ns.length qs){r:Nat}(hr:(r:Int) ∈ qs):(cZ ns).getD r 0=-1:=by
 have hi:=hf.ids _ hr;rcases Cz hW ns.length (aaJ _) r (by omega) with ⟨h3,_⟩ | ⟨m',y,h3,h4,h5,h6⟩
 ·exact h3
 ·exact absurd hr (hf.apart m' y (aaL _) h3 h4 _ h5)
theorem Qb {P:List Int}(hP:xH P):∀ (f n:Nat),n < P.length→P.length≤n+f→zJ P (f+1) (n:Int)=zJ P f (n:Int)
 | 0,n,h1,h2=>by omega
 | f+1,n,h1,h2=>by
  rw [tC (f:=f+1) (n:=n),tC (f:=f) (n:=n)]
  congr 1
  rcases hP n h1 with h | ⟨h3,h4⟩
  ·rw [h,Dn,Dn]
  ·obtain⟨m,hm⟩:∃ m:Nat,P.getD n 0=(m:Int):=⟨(P.getD n 0).toNat,by omega⟩;rw [hm];exact Qb hP f m (by omega) (by omega)
def AZ (P:List Int)(n:Nat):List Nat:=zJ P (P.length+1) (n:Int)
theorem Dp {P:List Int}{n:Nat}(h:P.getD n 0=-1):AZ P n=[n]:=by
 unfold AZ;rw [tC,h,Dn]
theorem FQ {P:List Int}(hP:xH P){n m:Nat}(h:P.getD n 0=(m:Int))(hm:m < P.length):AZ P n=n :: AZ P m:=by
 unfold AZ;rw [tC (f:=P.length) (n:=n),h,Qb hP P.length m hm (by omega)]
theorem UQ {P:List Int}{n:Nat}:0 < (AZ P n).length:=by
 unfold AZ;rw [tC];simp
theorem J_ (v:Nat):∀ (ks:List Int) (D:List Nat) (j:Nat),(∀ k ∈ ks,0≤k∧k < (D.length:Int))→(tV v ks D).getD j 0=if (j:Int) ∈ ks then v+1 else D.getD j 0
 | [],D,j,_=>by simp [tV]
 | k :: r,D,j,h=>by
  rw [tV,J_ v r _ j (fun x hx=>by rw [List.length_set];exact h x (List.mem_cons_of_mem _ hx)),qD];have h0:=h k (List.mem_cons_self ..);by_cases h1:(j:Int) ∈ r
  ·rw [if_pos h1,if_pos (List.mem_cons_of_mem _ h1)]
  ·rw [if_neg h1];by_cases h2:k.toNat=j
   ·rw [if_pos ⟨h2,by omega⟩,if_pos (by rw [show (j:Int)=k by omega];exact List.mem_cons_self ..)]
   ·rw [if_neg (fun h=>h2 h.1),if_neg];intro h3;rcases List.mem_cons.1 h3 with h4 | h4
    ·omega
    ·exact h1 h4
def DInv (ns:List Nd)(k:Nat)(D:List Nat):Prop:=D.length=ns.length∧∀ j,j < ns.length→D.getD j 0=if k≤j∨(k:Int)≤(cZ ns).getD j 0 then (AZ (cZ ns) j).length else 0
theorem Vn {ns:List Nd}{qs:List Int}(hW:Wf ns)(hf:Fo ns 0 ns.length qs){i:Nat}{D:List Nat}(hi:i < ns.length)(h:DInv ns (i+1) D):DInv ns i (qy ns i D):=by
 obtain⟨hG,Fb⟩:=nL hW;obtain⟨x,hx⟩:∃ x,ns[i]? = some x:=⟨_,aaD hi⟩;have hks:=hW i x hx
 have hone:∀ j,j < ns.length→(nD i D).getD j 0=if j=i then (AZ (cZ ns) i).length else D.getD j 0:=by
  intro j hj;have hDi:=h.2 i hi;have hp:=hG i (by rw [Fb];exact hi);unfold nD;rcases hp with h1 | ⟨h1,_⟩
  ·rw [if_neg (by omega)] at hDi
   rw [if_pos hDi,qD,Dp h1];by_cases h2:j=i
   ·rw [if_pos ⟨h2.symm,by rw [h.1];exact hj⟩,if_pos h2];rfl
   ·rw [if_neg (fun h3=>h2 h3.1.symm),if_neg h2]
  ·rw [if_pos (by omega)] at hDi
   have:=UQ (P:=cZ ns) (n:=i)
   rw [if_neg (by omega)];by_cases h2:j=i
   ·subst h2;rw [if_pos rfl,hDi]
   ·rw [if_neg h2]
 refine⟨by rw [Ke];exact h.1,fun j hj=>?_⟩
 have e:(qy ns i D).getD j 0=if (j:Int) ∈ x.kids then (nD i D).getD i 0+1 else (nD i D).getD j 0:=by
  unfold qy;rw [hx];exact J_ _ _ _ _ (fun c hc=>by rw [xV,h.1];have:=hks c hc;omega)
 rw [e];by_cases h1:(j:Int) ∈ x.kids
 ·have hp:=Ef hW hf hx h1;rw [if_pos h1,if_pos (.inr (by omega)),hone i hi,if_pos rfl,FQ hG hp (by rw [Fb];exact hi)];rfl
 ·rw [if_neg h1,hone j hj];by_cases h2:j=i
  ·subst h2;rw [if_pos rfl,if_pos (.inl (aaJ _))]
  ·rw [if_neg h2,h.2 j hj]
   have h3:(cZ ns).getD j 0 ≠ (i:Int):=fun h9=>by
    obtain⟨y,hy,hk⟩:=kid_par hW hj h9;rw [hx] at hy;cases hy
    exact h1 hk
   by_cases h4:i+1≤j∨((i+1:Nat):Int)≤(cZ ns).getD j 0
   ·rw [if_pos h4,if_pos (by omega)]
   ·rw [if_neg h4,if_neg (by omega)]
theorem NR {ns:List Nd}{qs:List Int}(hW:Wf ns)(hf:Fo ns 0 ns.length qs):∀ (k:Nat) (D:List Nat),k≤ns.length→DInv ns k D→DInv ns 0 (Rq ns k D)
 | 0,_,_,h=>h
 | k+1,D,hk,h=>NR hW hf k _ (by omega) (Vn hW hf (by omega) h)
theorem Kl {ns:List Nd}{qs:List Int}(hW:Wf ns)(hf:Fo ns 0 ns.length qs){j:Nat}(hj:j < ns.length):(f_ ns).getD j 0=(AZ (cZ ns) j).length:=by
 obtain⟨hG,Fb⟩:=nL hW
 have h:=(NR hW hf ns.length (List.replicate ns.length 0) (aaJ _) ⟨by simp,fun i hi=>by
  have hp:=hG i (by rw [Fb];exact hi);rw [Fb] at hp
  rw [if_neg (by omega),aaH,List.getElem?_replicate];simp [hi]⟩).2 j hj
 rw [if_pos (.inl (aaL _))] at h
 exact h
inductive Up (ns:List Nd):Nat→Nat→Prop
 | refl (i:Nat):Up ns i i
 | step {i j r:Nat} {x:Nd} (e:ns[j]? = some x) (h:(i:Int) ∈ x.kids) (k:Up ns j r):Up ns i r
theorem Up.more {ns:List Nd}{i r b:Nat}{n:Nd}(h:Up ns i r)(e:ns[b]? = some n)(k:(r:Int) ∈ n.kids):Up ns i b:=by
 induction h with
 | refl=>exact .step e k (.refl _)
 | step e' h' _ ih=>exact .step e' h' (ih k)
theorem Tz (wb N nd:Nat)(P S:List Int)(tv iv:Value)(w:World)(hW:qW w wb tv iv N S P)(hP:xH P)(hN:P.length=N)(hN6:N≤100000)(hnd:nd < N) :
  Calls Tryz.prog 73 #[.pointer (some ⟨wb,0,none⟩),.int .i64 (nd:Int)] w fun e w'=>e=.returned (.int .i64 ((AZ P nd).length:Int))∧Below w.heap.size w w':=by
 have HPT:=hid (MP wb N nd P S tv iv w hW hP hN hN6 hnd);have HU:=hid (show zJ P (N+1) (nd:Int)=AZ P nd by unfold AZ;rw [hN]);rw [HU.out] at HPT
 clear hW hP hN hnd;go_in
 go_wp2_with fail;refine HPT.out.mono ?_;rintro e w2⟨hb,g,c,rfl,_,_⟩;go_wp2_with fail;go_ret;exact⟨rfl,hb⟩
def wh (T:Tr)(k:Int):Int:=((AZ (cZ T.nodes) k.toNat).length:Int)
def vW (V E:Int):Int:=if E=0 then V else 0
theorem Gm (fv:Value)(A B:Option Addr)(n m c d:Nat)(node r:Int)(w:World)(hr:r ≠ 0)
  (hC:∀ W,Below w.heap.size w W→Calls Tryz.prog 80 #[.agg #[.slice A n c,.slice B m d],.int .i64 node] W fun e w'=>e=.returned (.tuple #[.pointer none,.int .i64 r])∧Below W.heap.size W w') :
  Calls Tryz.prog 74 #[.agg #[fv],.agg #[.slice A n c,.slice B m d],.int .i64 node] w fun e w'=>e=.returned (.tuple #[.int .i64 0,.int .i64 r])∧Below w.heap.size w w':=by
 have HC:=hid hC;clear hC;have k0:(r != 0)=true:=by simpa using hr
 have eH:=hid (ah (ah (Below.refl w.heap.size w) (aaJ _) (o:=.cells #[fv] 86)) (by simp) (o:=.cells #[.slice A n c,.slice B m d] 26));go_in
 go_wp2_with fail;refine (HC.out _ eH.out).mono ?_;rintro e w2⟨rfl,hb0⟩;have hb:=eH.out.trans (hb0.mono eH.out.size);go_wp2_with fail;go_ret2
 exact⟨rfl,hb⟩
theorem Fa (A B:Option Addr)(n m c d nd:Nat)(V:Int)(Q:World→Nat→Prop)(w:World)
  (hC:∀ W,Below w.heap.size w W→Calls Tryz.prog 80 #[.agg #[.slice A n c,.slice B m d],.int .i64 (nd:Int)] W fun e w'=>Below W.heap.size W w'∧∃ wb,e=.returned (.tuple #[.pointer (some ⟨wb,0,none⟩),.int .i64 0])∧Q w' wb)
  (hF:∀ W wb,Q W wb→Calls Tryz.prog 73 #[.pointer (some ⟨wb,0,none⟩),.int .i64 (nd:Int)] W fun e w'=>e=.returned (.int .i64 V)∧Below W.heap.size W w') :
  Calls Tryz.prog 74 #[.agg #[.func (.func 73) #[] #[]],.agg #[.slice A n c,.slice B m d],.int .i64 (nd:Int)] w fun e w'=>e=.returned (.tuple #[.int .i64 V,.int .i64 0])∧Below w.heap.size w w':=by
 have HC:=hid hC;clear hC;have HF:=hid hF;clear hF;have HB0:=hid ((aC.new w 86 #[.func (.func 73) #[] #[]]).alloc (.cells #[.slice A n c,.slice B m d] 26));have eH:=hid (ah (ah (Below.refl w.heap.size w) (aaJ _) (o:=.cells #[.func (.func 73) #[] #[]] 86)) (by simp) (o:=.cells #[.slice A n c,.slice B m d] 26));go_in
 go_wp2_with fail;refine (HC.out _ eH.out).mono ?_;rintro e w2⟨hb0,wb,rfl,hq⟩;have HQ:=hid hq;clear hq;have HL:=hid (eH.out.trans (hb0.mono eH.out.size));have HB:=hid (HB0.out.below hb0 HB0.out.lt);have q0:=HB.out.cell 0;clear hb0 HB0 eH;go_wp2_with fail;refine (HF.out _ _ HQ.out).mono ?_;rintro e w3⟨rfl,hb3⟩;go_wp2_with fail;go_ret2
 exact⟨rfl,HL.out.trans (hb3.mono HL.out.size)⟩
theorem Nc (A B:Option Addr)(n m c d:Nat)(node V E:Int)(w:World)
  (hA:∀ W,Below w.heap.size w W→Calls Tryz.prog 74 #[.agg #[.func (.func 73) #[] #[]],.agg #[.slice A n c,.slice B m d],.int .i64 node] W fun e w'=>e=.returned (.tuple #[.int .i64 V,.int .i64 E])∧Below W.heap.size W w') :
  Calls Tryz.prog 30 #[.agg #[.slice A n c,.slice B m d],.int .i64 node] w fun e w'=>e=.returned (.tuple #[.int .i64 V,.int .i64 E])∧Below w.heap.size w w':=by
 have HA:=hid hA;clear hA;have eH:=hid (ah (Below.refl w.heap.size w) (aaJ _) (o:=.cells #[.slice A n c,.slice B m d] 26));go_in
 go_wp2_with fail;refine (HA.out _ eH.out).mono ?_;rintro e w2⟨rfl,hb⟩;go_wp2_with fail;go_ret2
 exact⟨rfl,eH.out.trans (hb.mono eH.out.size)⟩
def AnsOf (K:Nat)(w:World)(A B:Option Addr)(n m c d:Nat)(node V E:Int):Prop:=Calls Tryz.prog 74 #[.agg #[.func (.func K) #[] #[]],.agg #[.slice A n c,.slice B m d],.int .i64 node] w fun e w'=>e=.returned (.tuple #[.int .i64 V,.int .i64 E])∧Below w.heap.size w w'
def XD (W:World)(wb:Nat)(A B:Option Addr)(c d:Nat)(xs:List NV)(its sz:List Int):Prop:=∃ S,qW W wb (.slice A xs.length c) (.slice B its.length d) xs.length S (cZ (aA xs))∧S.length=xs.length∧(∀ i,i < xs.length→S.getD i 0=((sz.getD i 0).toNat:Int))∧mq W A B xs its
theorem FB (K:Nat)(VV:Tr→Int→Int)(A B:Option Addr)(c d:Nat)(xs:List NV)(its:List Int)(node:Int)(w:World)(hT:mq w A B xs its)(hR:xO (aA xs))(hE:Env w)
  (hok:∀ (uh:Nat) (V:Int) (Q:World→Nat→Prop) (w:World),(∀ W,Below w.heap.size w W→Calls Tryz.prog 80 #[.agg #[.slice A xs.length c,.slice B its.length d],.int .i64 (uh:Int)] W fun e w'=>Below W.heap.size W w'∧∃ wb,e=.returned (.tuple #[.pointer (some ⟨wb,0,none⟩),.int .i64 0])∧Q w' wb) →
   (∀ W wb,Q W wb→Calls Tryz.prog K #[.pointer (some ⟨wb,0,none⟩),.int .i64 (uh:Int)] W fun e w'=>e=.returned (.int .i64 V)∧Below W.heap.size W w')→AnsOf K w A B xs.length its.length c d (uh:Int) V 0)
  (hv:∀ (uh:Nat) (sz:List Int) (W:World) (wb:Nat),uh < xs.length→its.length≤60→xs.length≤800→qV ⟨aA xs,its⟩→oN ⟨aA xs,its⟩=some sz→uQ (aA xs) sz (aA xs).length→XD W wb A B c d xs its sz→Calls Tryz.prog K #[.pointer (some ⟨wb,0,none⟩),.int .i64 (uh:Int)] W fun e w'=>e=.returned (.int .i64 (VV ⟨aA xs,its⟩ (uh:Int)))∧Below W.heap.size W w') :
  ∀ W,Below w.heap.size w W→AnsOf K W A B xs.length its.length c d node (vW (VV ⟨aA xs,its⟩ node) (iC ⟨aA xs,its⟩ xs.length node)) (iC ⟨aA xs,its⟩ xs.length node):=by
 intro W hb;by_cases hc:dN ⟨aA xs,its⟩=0
 ·obtain⟨hl,hro,_⟩:=iF hc;have hll:=Cu hl;simp only [jJ] at hll
  obtain⟨sz,hz,hs⟩:=qV.sizes hro.fo
  cases hno:Mist.within node 0 ((xs.length:Int) - 1)
  ·have ha:iC ⟨aA xs,its⟩ xs.length node=7:=by unfold iC;rw [if_neg (by simpa using hc),if_pos hno]
   rw [ha];exact Gm _ A B xs.length its.length c d node 7 W (by decide) fun W2 hb2=>I_ A B c d xs its node W2 (hT.below (hb.trans (hb2.mono hb.size))) hR (hE.below (hb.trans (hb2.mono hb.size))) hc (by omega) hno
  ·have ha:iC ⟨aA xs,its⟩ xs.length node=0:=by unfold iC;rw [if_neg (by simpa using hc),if_neg (by rw [hno];decide)]
   have hin:0≤node∧node≤(xs.length:Int) - 1:=by simpa [Mist.within] using hno
   obtain⟨uh,rfl⟩:∃ k:Nat,node=(k:Int):=⟨node.toNat,by omega⟩;rw [ha,show ∀ x,vW x 0=x from fun _=>if_pos rfl];refine hok uh _ (fun W wb=>XD W wb A B c d xs its sz) W (fun W2 hb2=>?_) (fun W wb h=>hv uh sz W wb (by omega) hll.2 hll.1 hro hz hs h);have hb3:=hb.trans (hb2.mono hb.size);refine (PZ A B c d xs its uh _ W2 (hT.below hb3) hR (hE.below hb3) hc (by omega) (kX hs) (Nb hs (by show (aA xs).length≤_;rw [jJ];omega)) hno).mono ?_;rintro e w' ⟨h1,wb,S,h2,h3,_,h5,h6⟩;exact⟨h1,wb,h2,S,h3,h5,h6,(hT.below hb3).below h1⟩
 ·have ha:iC ⟨aA xs,its⟩ xs.length node=dN ⟨aA xs,its⟩:=by unfold iC;rw [if_pos hc]
  rw [ha,show ∀ x,vW x (dN ⟨aA xs,its⟩)=0 from fun _=>if_neg hc];exact Gm _ A B xs.length its.length c d node _ W hc fun W2 hb2=>KY A B c d xs its node W2 (hT.below (hb.trans (hb2.mono hb.size))) hR (hE.below (hb.trans (hb2.mono hb.size))) hc
theorem JK (A B:Option Addr)(c d:Nat)(xs:List NV)(its:List Int)(node:Int)(w:World)(hT:mq w A B xs its)(hR:xO (aA xs))(hE:Env w) :
  Calls Tryz.prog 30 #[.agg #[.slice A xs.length c,.slice B its.length d],.int .i64 node] w fun e w'=>e=.returned (.tuple #[.int .i64 (vW (wh ⟨aA xs,its⟩ node) (iC ⟨aA xs,its⟩ xs.length node)),.int .i64 (iC ⟨aA xs,its⟩ xs.length node)])∧Below w.heap.size w w' :=
 Nc A B xs.length its.length c d node _ _ w (FB _ wh A B c d xs its node w hT hR hE (fun uh V Q w h1 h2=>Fa A B xs.length its.length c d uh V Q w h1 h2) (fun uh sz W wb hn hi hx hro hz hs ⟨S,h1,h2,h3,h4⟩=>by
  obtain⟨hG,Fb⟩:=nL (kX hs);rw [jJ] at Fb
  exact Tz wb xs.length uh _ S _ _ W h1 hG Fb (by omega) (by omega)))
end Go.Proofs.YthepmkjggfijoaaGreatDoor
namespace Go.Proofs.YthepmkjggfijoaaGreatDoor
open Go.RowKit Mist
attribute [local go_sem] aj aH aS aB ak
section
variable (n k:Nat) (en:Int)
theorem Kh:∀ i j,j≤i→∃ x,(qY n k en i)[j]? = some x∧(∀ m,j=m+1→x.kids=[(m:Int)])∧(x.kind=2∨x.kind=5)
 | 0,j,h=>by
  obtain rfl:j=0:=by omega
  exact⟨_,rfl,fun m e=>by omega,.inl rfl⟩
 | i+1,j,h=>by
  have hl:=pQ n k en i;rcases Nat.lt_or_ge i j with h1 | h1
  ·obtain rfl:j=i+1:=by omega
   refine⟨_,by show (qY n k en i ++ [_])[i+1]? = _;rw [List.getElem?_append_right (by omega),hl,Nat.sub_self];rfl,fun m e=>?_,.inr rfl⟩
   obtain rfl:m=i:=by omega
   rfl
  ·obtain⟨x,hx,h2⟩:=Kh i j h1;exact⟨x,by show (qY n k en i ++ [_])[j]? = _;rw [List.getElem?_append_left (by omega),hx],h2⟩
theorem rQ:(iY n k en).nodes.length=n+2:=by
 show (qY n k en n ++ [_]).length=_
 rw [aaO,pQ];rfl
theorem NS (j:Nat)(h:j≤n+1):∃ x,(iY n k en).nodes[j]? = some x∧(∀ m,j=m+1→x.kids=[(m:Int)])∧(x.kind=2∨x.kind=5∨x.kind=43):=by
 have hl:=pQ n k en n;rcases Nat.lt_or_ge n j with h1 | h1
 ·obtain rfl:j=n+1:=by omega
  refine⟨_,by show (qY n k en n ++ [_])[n+1]? = _;rw [List.getElem?_append_right (by omega),hl,Nat.sub_self];rfl,fun m e=>?_,.inr (.inr rfl)⟩
  obtain rfl:m=n:=by omega
  rfl
 ·obtain⟨x,hx,h2,h3⟩:=Kh n k en n j h1;exact⟨x,by show (qY n k en n ++ [_])[j]? = _;rw [List.getElem?_append_left (by omega),hx],h2,h3.elim .inl (fun h=>.inr (.inl h))⟩
theorem NT:∀ x ∈ (iY n k en).nodes,Mist.sized (iY n k en) x=true:=by
 intro x hx;obtain⟨j,hj,rfl⟩:=List.getElem_of_mem hx;rw [rQ] at hj
 obtain⟨y,hy,_,hk⟩:=NS n k en j (by omega);obtain⟨_,hy⟩:=aaE.1 hy;rw [hy];unfold Mist.sized;rcases hk with h | h | h <;> simp [h]
theorem Vo:¬ 0≤outT (iY n k en):=by
 have h:=Io (iY n k en);rw [aaR.2 (NT n k en)] at h
 simpa using h
structure qQ (n k:Nat) (en:Int):Prop where
 pf:PF (dQ n k)
 ok:jN (iY n k en).nodes
 wf:Wf (iY n k en).nodes
 fo:Fo (iY n k en).nodes 0 (iY n k en).nodes.length (iY n k en).items
 it:∀ a ∈ (iY n k en).items,pI (dB (iY n k en).nodes a)=true
theorem deep_ok (hn:n < 60)(hk:k < 100):qQ n k en:=by
 obtain⟨hT,hx,_⟩:=Mist.rX (DW n k hn hk);have hl:=BX n k;obtain⟨h1,h2,h3,h4⟩:=vE (en:=en) hT (10 * k+n+10) 2 0 [] [] _ _ _ (fun i n h=>by simp at h) (fun i n h=>by simp at h) (.nil _) (fun a h=>by cases h) (DV n k en);exact⟨⟨by omega,hT.kind,hx⟩,h1,h2,h3,h4⟩
variable {n k en}
theorem qQ.good (h:qQ n k en)(hn:n < 60):BD (iY n k en):=by
 have hl:=rQ n k en
 have node:∀ x ∈ (iY n k en).nodes,x.kids.length≤1000000∧nJ (iY n k en) x:=fun x hm=>by
  obtain⟨i,hil,hix⟩:=List.mem_iff_getElem.1 hm;obtain⟨h1,h2,h3⟩:=yJ (T:=iY n k en) h.ok h.wf h.fo (i:=i) (x:=x) (by rw [← hix];exact aaD hil);exact⟨by omega,h3⟩
 exact⟨h.wf,fun x hm=>(node x hm).2,fun x hm=>(node x hm).1,by omega⟩
theorem qQ.up (h:qQ n k en):∀ i,i≤n+1→(AZ (cZ (iY n k en).nodes) (n+1 - i)).length=i+1
 | 0,_=>by
  rw [Nat.sub_zero,Dp (UC h.wf h.fo (r:=n+1) (by show _ ∈ [_];simp))];rfl
 | i+1,hi=>by
  have hl:=rQ n k en;obtain⟨hP,hPl⟩:=nL h.wf;obtain⟨x,hx,hk,_⟩:=NS n k en (n+1 - i) (by omega);have hp:=Ef h.wf h.fo (j:=n+1 - (i+1)) hx (by rw [hk (n+1 - (i+1)) (by omega)];simp);rw [FQ hP hp (by omega),List.length_cons,qQ.up h i (by omega)]
theorem aas:∀ (l:List Nat) (M:Nat),(∀ d ∈ l,d≤M)→M ∈ l→Lib.maxOf (l.map fun (d:Nat)=>(d:Int))=(M:Int):=by
 have fold:∀ (l:List Nat) (a M:Nat),a≤M→(∀ d ∈ l,d≤M)→(a=M∨M ∈ l)→(l.map fun (d:Nat)=>(d:Int)).foldl max (a:Int)=(M:Int):=by
  intro l
  induction l with
  | nil=>intro a M _ _ h;rcases h with h | h;rw [h];rfl;cases h
  | cons d r ih =>
   intro a M ha hd h;have hdM:=hd d (List.mem_cons_self ..);have e:max (a:Int) (d:Int)=((max a d:Nat):Int):=by omega
   show (r.map fun (d:Nat)=>(d:Int)).foldl max (max (a:Int) (d:Int))=_
   rw [e];refine ih (max a d) M (by omega) (fun x hx=>hd x (List.mem_cons_of_mem _ hx)) ?_;rcases h with h | h
   ·left;omega
   ·rcases List.mem_cons.1 h with h | h
    ·left;omega
    ·exact .inr h
 intro l M h hm
 cases l with
 | nil=>cases hm
 | cons a r =>
  show ((a :: r).map fun (d:Nat)=>(d:Int)).foldl max (a:Int)=_
  exact fold (a :: r) a M (h a (List.mem_cons_self ..)) h (.inr hm)
theorem qQ.deep (h:qQ n k en):om (iY n k en)=((n+2:Nat):Int):=by
 have hl:=rQ n k en;have hdl:(f_ (iY n k en).nodes).length=n+2:=by unfold f_;rw [uV,List.length_replicate,hl]
 have hd:∀ j,j < n+2→(f_ (iY n k en).nodes).getD j 0=n+2 - j:=fun j hj=>by
  rw [Kl h.wf h.fo (by omega)]
  have:=h.up (n+1 - j) (by omega)
  rw [show n+1 - (n+1 - j)=j by omega] at this
  omega
 unfold om jB;rw [if_neg (by omega)];refine aas _ _ (fun d hm=>?_) ?_
 ·obtain⟨j,hj,rfl⟩:=List.getElem_of_mem hm
  have:=hd j (by omega)
  rw [aaH,aaD hj,Option.getD_some] at this
  omega
 ·have:=hd 0 (by omega)
  rw [aaH,aaD (by omega),Option.getD_some,Nat.sub_zero] at this
  rw [← this];exact List.getElem_mem _
theorem qQ.large (_:qQ n k en)(hn:n < 60):Mist.large (iY n k en)=false:=by
 have hl:=rQ n k en;unfold Mist.large;rw [aaV (by omega),aaV (by show ¬ 60 < 1;omega)];rfl
theorem qQ.parsed (h:qQ n k en)(hn:n < 60):iy (iY n k en)=if 28 < n then (0,5) else (0,0):=by
 unfold iy;rw [h.large hn,h.deep,if_neg (Vo n k en)];by_cases h28:28 < n
 ·rw [if_pos (.inr (by omega)),if_pos h28]
 ·rw [if_neg (by rintro (h | h);cases h;omega),if_neg h28]
end
theorem abF (n k:Nat)(hn:n < 60)(hk:k < 100)(w:World)(hE:Env w) :
  Calls Tryz.prog 17 #[.string (aM (lg n k))] w fun e w'=>Below w.heap.size w w'∧((28 < n∧e=.returned (.tuple #[.agg #[.slice none 0 0,.slice none 0 0],.int .i64 0,.int .i64 5])) ∨
   (¬ 28 < n∧∃ A B c d xs,e=.returned (.tuple #[.agg #[.slice A (n+2) c,.slice B 1 d],.int .i64 0,.int .i64 0])∧xs.length=n+2∧mq w' A B xs [((n+1:Nat):Int)]∧xO (aA xs)∧iC ⟨aA xs,[((n+1:Nat):Int)]⟩ (n+2) 0=0∧wh ⟨aA xs,[((n+1:Nat):Int)]⟩ 0=((n+2:Nat):Int))):=by
 have hD:=deep_ok n k ((lg n k).length:Int) hn hk;have hlen:(lg n k).length≤100000000:=by rw [BU];omega
 have hG:=hD.good hn;have hP:=hD.parsed hn;have hl:=rQ n k ((lg n k).length:Int);by_cases h28:28 < n
 ·rw [if_pos h28] at hP
  refine (y9 _ _ _ _ _ _ w (DW n k hn hk) hD.pf (DV n k _) hE hlen hG).mono ?_;rintro e w' ⟨hb,⟨_,h1⟩ | ⟨h1,_⟩⟩
  ·rw [hP] at h1;exact⟨hb,.inl ⟨h28,h1⟩⟩
  ·rw [hP] at h1;exact absurd h1 (by decide)
 ·rw [if_neg h28] at hP
  refine (Mt w (DW n k hn hk) hD.pf (DV n k _) hE hlen hG hP).mono ?_;rintro e w' ⟨hb,A,B,c,d,xs,rfl,hx,hxl,hc,hT⟩;rw [hl] at hxl hc ⊢
  have hI:(⟨aA xs,[((n+1:Nat):Int)]⟩:Tr)=iY n k ((lg n k).length:Int):=by rw [hx];rfl
  obtain⟨h0,hR⟩:=ML hD.ok hD.wf hD.fo hD.it (by rw [hP])
  refine⟨hb,.inr ⟨h28,A,B,c,d,xs,rfl,hxl,hT,by rw [hx];exact hR,?_,?_⟩⟩
  ·rw [hI];unfold iC;rw [h0,if_neg (by decide),if_neg];simp [Mist.within];omega
  ·rw [hI];unfold wh
   have:=hD.up (n+1) (by omega)
   rw [Nat.sub_self] at this
   show (((AZ _ 0).length:Nat):Int)=_
   rw [this]
theorem abE (n:Nat)(A B:Option Addr)(c d:Nat)(xs:List NV)(w:World)(hE:Env w)(hxl:xs.length=n+2)(hT:mq w A B xs [((n+1:Nat):Int)])(hR:xO (aA xs))(ha:iC ⟨aA xs,[((n+1:Nat):Int)]⟩ (n+2) 0=0)(hd:wh ⟨aA xs,[((n+1:Nat):Int)]⟩ 0=((n+2:Nat):Int)) :
  Calls Tryz.prog 30 #[.agg #[.slice A (n+2) c,.slice B 1 d],.int .i64 0] w fun e w'=>e=.returned (.tuple #[.int .i64 ((n:Int)+2),.int .i64 0])∧Below w.heap.size w w':=by
 have h:=JK A B c d xs _ 0 w hT hR hE;rw [hxl,ha,hd] at h
 refine h.mono ?_;rintro e w' ⟨rfl,hb⟩;exact⟨rfl,hb⟩
theorem V9:∀ n,JE n ++ [110,111,116,32]=JE (n+1)
 | 0=>rfl
 | n+1=>by
  show [110,111,116,32] ++ JE n ++ [110,111,116,32]=[110,111,116,32] ++ JE (n+1)
  rw [List.append_assoc,V9 n]
theorem abD (b:UInt8)(n:Nat):rep b n ++ [b]=rep b (n+1):=by unfold rep;rw [List.replicate_succ']
theorem deep_law (a b:Nat)(w:World)(hE:Env w)(ha:a < 256)(hb:b < 256):Calls Tryz.prog 8 #[.int .u8 a,.int .u8 b] w fun e w'=>e=.returned (.bool true)∧Below w.heap.size w w':=by
 have HE:=hid hE;clear hE;obtain⟨n,hn⟩:∃ n,n=a % 60:=⟨_,rfl⟩;obtain⟨k,hk⟩:∃ k,k=b % 100:=⟨_,rfl⟩;have hn6:n < 60:=by omega
 have hk1:k < 100:=by omega
 have hr1:Int.tmod (a:Int) 60=(n:Int):=by rw [Int.tmod_eq_emod_of_nonneg (by omega),hn];omega
 have hr2:Int.tmod (b:Int) 100=(k:Int):=by rw [Int.tmod_eq_emod_of_nonneg (by omega),hk];omega
 have HQN:=hid hn;have HQK:=hid hk;clear hn hk;go_in
 go_wp2_with fail;go_loopw [7,8] (fun s i wr=>∃ m:Nat,m≤n∧i=.int .i64 m∧s=.string (aM (JE m))∧Hid (Below w.heap.size w wr)) (fun _ i _=>n - (intOf i).toNat)
 case atStart=>exact⟨0,aaL _,rfl,rfl,hid (Below.refl _ _)⟩
 case round =>
  obtain⟨m,hm,rfl,rfl,hb⟩:=hrel;by_cases hlt:m < n
  ·have hl1:¬ 9223372036854775807 < (JE m).length+4:=by rw [OU];omega
   go_wp2_with fail;exact⟨⟨m+1,by omega,by go_num,congrArg Value.string ((ak (JE m) [110,111,116,32]).trans (by rw [V9])),hb⟩,by simp [intOf];omega⟩
  obtain rfl:m=n:=by omega
  have HB1:=hid hb.out;clear hb hlt hm;go_wp2_with fail;go_loopw [7,9] (fun s i wq=>∃ (j:Nat) (S:Bs),j≤k∧i=.int .i64 j∧s=.string (aM S)∧Hid (S=JE m ++ rep 40 j)∧Hid (Below w.heap.size w wq)) (fun _ i _=>k - (intOf i).toNat)
  case atStart=>exact⟨0,_,aaL _,rfl,rfl,hid (show JE m=JE m ++ rep 40 0 from (List.append_nil _).symm),HB1⟩
  case round =>
   obtain⟨j,S,hj,rfl,rfl,hS,hb⟩:=hrel;have hSl:=congrArg List.length hS.out;unfold rep at hSl
   rw [aaO,OU,List.length_replicate] at hSl
   have hS1:S.length≤400:=by omega
   clear hSl;have hl1:¬ 9223372036854775807 < S.length+1:=by omega
   have hl4:¬ 9223372036854775807 < S.length+4:=by omega
   by_cases hlt:j < k
   ·go_wp2_with fail;exact⟨⟨j+1,S ++ [40],by omega,by go_num,congrArg Value.string (ak S [40]),hid (by rw [hS.out,List.append_assoc,abD]),hb⟩,by simp [intOf];omega⟩
   obtain rfl:j=k:=by omega
   have HB2:=hid hb.out;clear hb hlt hj HB1;go_wp2_with fail;go_loopw [7,10] (fun s i wp=>∃ (o:Nat) (R:Bs),o≤j∧i=.int .i64 o∧s=.string (aM R)∧Hid (R=S ++ [116,114,117,101] ++ rep 41 o)∧Hid (Below w.heap.size w wp)) (fun _ i _=>j - (intOf i).toNat)
   case atStart=>exact⟨0,S ++ [116,114,117,101],aaL _,rfl,congrArg Value.string (ak S [116,114,117,101]),hid (List.append_nil _).symm,HB2⟩
   case round =>
    obtain⟨o,R,ho,rfl,rfl,hR,hb⟩:=hrel;have hRl:=congrArg List.length hR.out;unfold rep at hRl
    rw [aaO,aaO,List.length_replicate] at hRl
    have hR1:R.length≤600:=by simp at hRl;omega
    clear hRl hl1 hl4;have hl1:¬ 9223372036854775807 < R.length+1:=by omega
    have hl8:¬ 9223372036854775807 < 8+R.length:=by omega
    have hl9:¬ 9223372036854775807 < 8+R.length+1:=by omega
    by_cases hlt:o < j
    ·go_wp2_with fail;exact⟨⟨o+1,R ++ [41],by omega,by go_num,congrArg Value.string (ak R [41]),hid (by rw [hR.out,List.append_assoc,abD]),hb⟩,by simp [intOf];omega⟩
    obtain rfl:o=j:=by omega
    have HB3:=hid hb.out;have HT:=hid (show [108,101,116,32,97,32,61,32] ++ R ++ [59]=lg m o by rw [hR.out,hS.out];unfold lg xW;simp only [List.append_assoc]);clear hb hlt ho HB2 hR hS;go_wp2_with fail;rw [show (⟨#[108,101,116,32,97,32,61,32]⟩:ByteArray) ++ aM R ++ ⟨#[59]⟩=aM (lg m o) from by rw [← HT.out,← ak,← ak];rfl];clear hl1 hl8 hl9 hR1 hS1 HT;refine (abF m o hn6 hk1 _ (HE.out.below HB3.out)).mono ?_;rintro e w1⟨hb1,⟨h28,rfl⟩ | ⟨h28,A,B,c,d,xs,rfl,hxl,hT,hR,ha0,hd0⟩⟩
    ·have HL:=hid (HB3.out.trans (hb1.mono HB3.out.size));clear hb1;have z1:(30:Int) < (m:Int)+2:=by omega
     clear h28;go_wp2_with fail;refine (rV _ ((HE.out.below HL.out).alloc _)).mono ?_;rintro e w2⟨rfl,hb2⟩;have HL2:=hid ((ah HL.out HL.out.size (o:=.cells #[.slice none 0 0,.slice none 0 0] 26)).trans (hb2.mono (by have:=HL.out.size;simp;omega)));clear hb2;go_wp2_with fail;go_ret;exact⟨by first | rfl | simp,HL2.out⟩
    ·have HL:=hid (HB3.out.trans (hb1.mono HB3.out.size));have HT:=hid hT;have HR:=hid hR;have HA:=hid ha0;have HD:=hid hd0;have HX:=hid hxl;clear hb1 hT hR ha0 hd0 hxl;have z1:¬ (30:Int) < (m:Int)+2:=by omega
     clear h28;go_wp2_with fail;have HLA:=hid (ah HL.out HL.out.size (o:=.cells #[.slice A (m+2) c,.slice B 1 d] 26));have Lx:=hid (HT.out.below (ah (Below.refl _ _) (aaJ _) (o:=.cells #[.slice A (m+2) c,.slice B 1 d] 26)));refine (abE m A B c d xs _ (HE.out.below HLA.out) HX.out Lx.out HR.out HA.out HD.out).mono ?_;rintro e w2⟨rfl,hb2⟩;have HL2:=hid (HLA.out.trans (hb2.mono HLA.out.size));clear hb2;go_wp2_with fail;refine (rV _ (HE.out.below HL2.out)).mono ?_;rintro e w3⟨rfl,hb3⟩;have lS:=hid (HL2.out.trans (hb3.mono HL2.out.size));clear hb3;go_wp2_with fail;go_ret;exact⟨by first | rfl | simp,lS.out⟩
end Go.Proofs.YthepmkjggfijoaaGreatDoor
namespace Go.Proofs.YthepmkjggfijoaaGreatDoor
open Go.ChangeShapes Go.WideShapes Go.ChangeAt Go.RowKit Go.MapKept Go.ChangeMaps Mist
theorem abC (os:Os)(started:os.Started)(H:Type)(enc:TypeId × Value→H) :
  ReturnsInHanded {} Tryz.checked os 8 .any (fun w args=>(Rows.treeDeepSpec.pre enc Tryz.prog Tryz.f8 [] false w args∧laidMetH Tryz.prog Rows.treeDeepRow.laid w)∧sizedMet enc Tryz.prog Tryz.f8 (OpenSpec.ofChange Rows.treeDeepSpec) false w args)
   (Rows.treeDeepSpec.post enc Tryz.prog Tryz.f8 false true false false):=by
 refine returnsInHanded_of_change_and (C:=Tryz.checked) (X:=fun w _=>laidMetH Tryz.prog Rows.treeDeepRow.laid w) (fun _ _ _ hh h=>h.of_heap hh) own_knob started (by kernel_rfl) Tryz.func8
  (ChangeSpec.witness_shaped (enc:=enc) (C:=Tryz.checked) (os:=os) (X:=fun w _=>laidMetH Tryz.prog Rows.treeDeepRow.laid w) false (World.laidAll Tryz.prog os Rows.treeDeepRow.laid) #[.int .u8 0,.int .u8 0] 8 (World.laidAll_os _ _ _)
   (World.shaped_of_ZipB (by kernel_rfl) (by kernel_rfl)) (by kernel_rfl) (by kernel_rfl) (by kernel_rfl)
   (by rw [MakeChecks.laidMetH_plain _ _ _ (by kernel_rfl)];exact laidMet_laidAll _ (by kernel_rfl) (by kernel_rfl))) ?_
 intro W base args ds gs before hval0 hW _ hsz hL _;rw [MakeChecks.laidMetH_plain _ _ _ (by kernel_rfl)] at hL
 have hE:Env W:=env_of_laid hL (by simp [Rows.treeDeepRow]);have hval:∀ (j:Nat) t v,Tryz.f8.params[j]? = some t→args[j]? = some v→Value.okWide Tryz.prog W .any base t v:=hval0;have hW':=hW;obtain⟨p,q,hA0,hV,rfl,_,_⟩:=hW;have hA:DataW.TrodAll enc Tryz.prog W 0 (fun _=>true) true Tryz.f8.params.toList args.toList ds p:=hA0;rw [Tryz.params8] at hA hval
 obtain⟨v0,v1,d0,d1,p0,p1,rfl,rfl,rfl,h0,h1⟩:=trodAll_two hA;obtain⟨rfl,rfl⟩:=trodVars_none hV;obtain⟨x0,rfl,hx0⟩:=byte_of_Trod (hval 0 5 v0 rfl rfl) h0;obtain⟨x1,rfl,hx1⟩:=byte_of_Trod (hval 1 5 v1 rfl rfl) h1;have fin:=deep_law x0 x1 W hE hx0 hx1;refine fin.mono fun e W' ⟨he,hw⟩=>?_
 subst he;exact⟨_,rfl,post_true (t:=4) laid_out (by kernel_rfl) rfl (by kernel_rfl) bool_row rfl hW' hw⟩
theorem abG:Rows.TreeDeepSaid :=
 OpenClaim.holds_of_wide 8 Tryz.f8 rfl rfl rfl rfl rfl rfl rfl ⟨rfl,rfl,rfl,rfl,rfl⟩ rfl rfl rfl rfl rfl (by kernel_rfl) Tryz.func8 (by kernel_rfl)
  (of_decide_eq_true (by kernel_rfl)) (by unfold Func.isWrapper;first|(rw [if_pos (by decide +kernel)];kernel_rfl)|(rw [if_neg (by decide +kernel)];exact⟨rfl,rfl⟩))
  (fun os started H enc _=>abC os started H enc)
theorem deep_holds:Rows.TreeDeepCardSaid :=
 Claim7.holds_tied_plain_at .later [] [.data, .data, .data, .sentinel, .sentinel, .listed, .data] true (true, "930e7ddc3c177b6ac6c34496cd3f8d07608127284058b89a41b68245be8bebb1") true abG (fun _ h => by cases h) (by kernel_rfl) (fun _ h => by cases h) treeDeep_row_tie rfl ⟨rfl, rfl⟩ (by kernel_rfl) rfl
  (fun f fn hf hfn=>by
   obtain rfl : f = 8 := aaP ((show Tryz.prog.funcNamed "mist/mistlaw03.TreeDeep" = some 8 by kernel_rfl).symm.trans hf) |>.symm
   obtain rfl:fn=Tryz.f8:=(aaP (Tryz.func8.symm.trans hfn)).symm
   exact⟨by kernel_rfl,fun j t ht=>by
    rw [Tryz.params8] at ht
    have hm:t ∈ [5]:=by simpa using Array.mem_of_getElem? ht
    have hall:([5].all fun u=>!Tryz.prog.wantsStandIn u)=true:=by kernel_rfl
    exact (show Tryz.prog.wantsStandIn t=false by simpa using aaR.1 hall t hm)⟩)
  (by kernel_rfl)
end Go.Proofs.YthepmkjggfijoaaGreatDoor
