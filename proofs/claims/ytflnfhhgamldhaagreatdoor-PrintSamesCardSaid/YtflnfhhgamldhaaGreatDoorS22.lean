/-
  A part of the proof.
-/
import Derived.Test.YtflnfhhgamldhaaGreatDoorS21
set_option linter.all false
set_option maxRecDepth 100000
set_option maxHeartbeats 4000000
namespace Mist
def Sh (l:List Pz):Prop:=∀ p ∈ l,p.text.length≤12
theorem jk:Sh []:=fun _ h=>by cases h
theorem bW {p:Pz}{l:List Pz}(h:p.text.length≤12)(b:Sh l):Sh (p :: l):=fun q a=>by
 rcases List.mem_cons.1 a with rfl | a
 ·exact h
 ·exact b q a
theorem jE {a b:List Pz}(f:Sh a)(g:Sh b):Sh (a ++ b):=fun q e=>by
 rcases List.mem_append.1 e with e | e
 ·exact f q e
 ·exact g q e
theorem sh_head (c:Bool){l:List Pz}(h:Sh l):Sh (dI c l):=by
 cases l with
 | nil=>exact h
 | cons x l=>exact bW (h x (List.mem_cons_self ..)) fun q a=>h q (List.mem_cons_of_mem _ a)
theorem SG {L:Nat→List Pz}:∀ m,(∀ j,j < m→Sh (L j))→Sh (gP L m)
 | 0,_=>jk
 | m+1,h=>by
  rw [gP];split
  ·rename_i h0;subst h0;exact h 0 (by omega)
  ·exact jE (SG m fun j a=>h j (by omega)) (bW (by decide) (sh_head _ (h m (by omega))))
theorem afz {T:Tr}{B:Nat→List Pz}{i j:Nat}(h:Sh (B ((nd T i).kids.getD j 0).toNat)):Sh (eO T B i j):=by
 unfold eO;simp only
 split
 ·exact h
 ·exact bW (by decide) (jE (sh_head _ h) (bW (by decide) jk))
theorem abb (k:Nat):(Fv k).length≤12:=by
 by_cases h:k < 18
 ·have:∀ j:Fin 18,(Fv j.val).length≤12:=by decide
  exact this ⟨k,h⟩
 ·unfold Fv
  (repeat rw [if_neg (by omega)])
  decide
theorem yE {n:Int}(h:n < 10000)(h0:0≤n):(Go.Lib.itoa n).length≤12:=by
 have:=(UO h0 h).2.2
 omega
theorem aaf {T:Tr}{B:Nat→List Pz}{i:Nat}(h:RtZ T i)(r:NmZ (nd T i))(t:∀ j,j < (nd T i).kids.length→Sh (B ((nd T i).kids.getD j 0).toNat)):Sh (cZ T B i):=by
 have gk:∀ j,j < (nd T i).kids.length→Sh (eO T B i j):=fun j o=>afz (t j o)
 have b:∀ m,m≤(nd T i).kids.length→Sh (ig T B i m):=fun m y=>SG m fun j o=>gk j (by omega)
 obtain⟨c1,c2,c3,c4⟩:=h.cases;have nm:∀ {k:Nat},(nd T i).kind=k→jB k=true→(nd T i).text.length≤12:=fun e w=>(U2 (h.nm e w)).2
 have f:(nd T i).kind=1∨(nd T i).kind=2∨(nd T i).kind=3∨(nd T i).kind=32∨(nd T i).kind=4∨(nd T i).kind=5∨(6≤(nd T i).kind∧(nd T i).kind≤18)∨(nd T i).kind=19∨(nd T i).kind=20∨(nd T i).kind=21∨(nd T i).kind=22∨(nd T i).kind=23∨(nd T i).kind=24∨(nd T i).kind=25∨(nd T i).kind=34∨(nd T i).kind=26∨(nd T i).kind=30∨(nd T i).kind=31∨(nd T i).kind=33∨(nd T i).kind=40∨(nd T i).kind=41∨(nd T i).kind=42∨(nd T i).kind=43∨(nd T i).kind=44∨(nd T i).kind=45∨(nd T i).kind=46:=by omega
 rcases f with e | e | e | e | e | e | e | e | e | e | e | e | e | e | e | e | e | e | e | e | e | e | e | e | e | e
 ·rw [yM e];have g:=afc e h.num;unfold nL;split
  ·exact bW (by simp [tz]) (bW (yE (by omega) (by omega)) jk)
  ·exact bW (yE (by omega) (by omega)) jk
 ·rw [Jz e];split <;> exact bW (by simp [tz]) jk
 ·rw [JC e];exact bW (nm e (by decide)) jk
 ·rw [Ew e];exact bW (nm e (by decide)) jk
 ·rw [JD e];have a:=h.len e (many1 (by decide));exact bW (by simp [tz]) (sh_head _ (gk 0 (by omega)))
 ·rw [JE e];have a:=h.len e (many1 (by decide));exact bW (by simp [tz]) (sh_head _ (gk 0 (by omega)))
 ·rw [EL (.inr (.inl e))];have a:=h.len rfl (Bu (.inl e));exact jE (gk 0 (by omega)) (bW (abb _) (sh_head _ (gk 1 (by omega))))
 ·rw [Ej e];have a:=h.len e adQ;exact bW (by simp [tz]) (jE (sh_head _ (gk 0 (by omega))) (bW (by decide) (jE (sh_head _ (gk 1 (by omega))) (bW (by decide) (sh_head _ (gk 2 (by omega)))))))
 ·rw [Em e];have a:=h.len e (Bu (by omega));exact bW (by simp [tz]) (bW (nm e (by decide)) (bW (by decide) (jE (sh_head _ (gk 0 (by omega))) (bW (by decide) (sh_head _ (gk 1 (by omega)))))))
 ·rw [En e];exact bW (nm e (by decide)) (bW (by decide) (jE (sh_head _ (b _ (ak0 _))) (bW (by decide) jk)))
 ·rw [Eo e];have a:=h.len e (many1 (by decide));exact jE (gk 0 (by omega)) (bW (by simp [tz]) (bW (nm e (by decide)) jk))
 ·rw [Ep e];have a:=h.len e (Bu (by omega));exact jE (gk 0 (by omega)) (bW (by simp [tz]) (jE (sh_head _ (gk 1 (by omega))) (bW (by decide) jk)))
 ·rw [Er e];exact bW (nm e (by decide)) (bW (by decide) (jE (sh_head _ (b _ (ak0 _))) (bW (by decide) jk)))
 ·rw [Es e];have a:=h.len e (many1 (by decide));exact bW (nm e (by decide)) (bW (by decide) (sh_head _ (gk 0 (by omega))))
 ·rw [Ez e];have a:=h.len e (many1 (by decide));exact bW (nm e (by decide)) (bW (by decide) (sh_head _ (gk 0 (by omega))))
 ·rw [Et e];exact bW (by simp [tz]) (jE (sh_head _ (b _ (ak0 _))) (bW (by decide) jk))
 ·rw [Eu e];exact bW (by simp [tz]) jk
 ·rw [Ev e];exact bW (by simp [tz]) jk
 ·rw [Ey e];have a:=h.len e (many1 (by decide));have g:=r.U1 e;exact bW (by simp [tz]) (jE (sh_head _ (gk 0 (by omega))) (bW (by decide) (bW (yE (by omega) (by omega)) (bW (by decide) jk))))
 ·rw [EA e];have a:=h.len e (Bu (by omega));exact bW (by simp [tz]) (bW (nm e (by decide)) (bW (by decide) (jE (sh_head _ (gk 0 (by omega))) (bW (by decide) (jE (sh_head _ (gk 1 (by omega))) (bW (by decide) jk))))))
 ·rw [ED e];exact bW (by simp [tz]) (bW (nm e (by decide)) (bW (by decide) (bW (by decide) (jE (sh_head _ (b _ (ak0 _))) (bW (by decide) (bW (by decide) jk))))))
 ·rw [EF e];have a:=aac _ e h.many;have g:=r.fn e;refine bW (by simp [tz]) (bW (nm e (by decide)) (bW (by decide) (jE (sh_head _ (b _ (by omega))) (bW (by decide) (bW (by decide) (jE (sh_head _ (gk _ (by omega))) (jE ?_ (bW (by decide) (jE (sh_head _ (gk _ (by omega))) (bW (by decide) jk))))))))));split
  ·exact bW (by decide) (bW (yE (by omega) (by omega)) jk)
  ·exact jk
 ·rw [EG e];have a:=h.len e (many1 (by decide));exact bW (by simp [tz]) (bW (nm e (by decide)) (bW (by decide) (jE (sh_head _ (gk 0 (by omega))) (bW (by decide) jk))))
 ·rw [EH e];have a:=h.len e (many1 (by decide));exact bW (by simp [tz]) (bW (nm e (by decide)) (bW (by decide) (jE (sh_head _ (gk 0 (by omega))) (bW (by decide) jk))))
 ·rw [EJ e];exact bW (by simp [tz]) (bW (nm e (by decide)) (bW (by decide) jk))
 ·rw [EK e];have g:=adS e h.num;have x:∀ q:Fin 9,(mM.getD q.val []).length≤12:=by decide
  exact bW (by simp [tz]) (bW (x ⟨(nd T i).n.toNat,by omega⟩) (jE (sh_head _ (b _ (ak0 _))) (bW (by decide) jk)))
theorem xW {T:Tr}(a:O_ T):∀ f i,i < T.nodes.length→Sh (aQ T f i)
 | 0,_,_=>jk
 | f+1,i,hi=>aaf (rtZ (a.right i hi)) (a.num i hi) fun j e=>by
  obtain⟨q,b,g⟩:=a.kid hi e;rw [akY,b];exact xW a f q (by omega)
theorem sJ:∀ {l:List Pz},Sh l→(iI l).length≤13 * l.length
 | [],_=>ak0 _
 | p :: l,h=>by
  have h1:=h p (List.mem_cons_self ..);have h2:=sJ (l:=l) fun q a=>h q (List.mem_cons_of_mem _ a)
  have e:iI (p :: l)=(if p.blank then [32] else []) ++ (p.text ++ iI l):=rfl;rw [e,ak5,ak5,List.length_cons];split <;> simp <;> omega
end Mist
set_option linter.all false
namespace Mist
def mJ (s:Bs)(k:Nat):Bs × Nat:=if 2000 < s.length∨800 < k then ([],5) else (s,0)
def lX:List (List Pz)→Bs
 | []=>[]
 | l :: r=>iI l ++ 10 :: lX r
def pW (ls:List (List Pz)):Nat:=(ls.map List.length).sum
theorem Mf (a:List (List Pz))(l:List Pz):lX (a ++ [l])=lX a ++ (iI l ++ [10]):=by
 induction a with
 | nil=>simp [lX]
 | cons x a b=>simp [lX,b]
theorem Rl (a:List (List Pz))(l:List Pz):pW (a ++ [l])=pW a+l.length:=by simp [pW]
end Mist
namespace Go.Proofs.YtflnfhhgamldhaaGreatDoor
section
open Go.RowKit Mist
attribute [local go_sem] ah aM aV au ak
theorem sF {w f:World}{g base e size n:Nat}{v:Value}{xs:List Value}(h:w.ownsRow base e size v n xs)(t:lN g w f)(j:v.ownBlock ≠ some g)(k:e ≠ 5):f.ownsRow base e size v n xs:=by
 refine⟨h.1,?_⟩
 rcases h.2 with h2 | ⟨b,cap,a,hv,o,q,r⟩
 ·exact .inl h2
 ·exact .inr ⟨b,cap,a,hv,o,t.cell q (fun i=>j (by rw [hv,i];rfl)) k,r⟩
theorem zN.spare {w j:World}{g base T:Nat}{cs:Array Value}{v:Value}{ls:List (List Pz)}{vs:List Value}(h:zN w base v ls vs)(i:lN g w j)(f:bf w g T cs)(h1:T ≠ 54)(h2:T ≠ 113):zN j base v ls vs :=
 ⟨sF h.own i (bD h.own f (Ne.symm h1)) (by decide),h.len,fun k l e=>by
  obtain⟨u,a,b⟩:=h.row k l e;have b:w.ownsRow 0 113 3 u l.length (gV l):=b;exact⟨u,a,sF b i (bD b f (Ne.symm h2)) (by decide)⟩⟩
theorem zo.blk {T B g:Nat}{a:Bs}{w:World}(h:zo T B g [] a w):∃ cs,bf w g T cs:=by
 obtain⟨p,_,v,b,_⟩:=h.any;exact⟨_,b⟩
theorem NT (s:Bs)(k:Nat)(W:World):Calls Tryz.prog 40 #[.string (aH s),.int .i64 k] W fun e f=>e=.returned (.tuple #[.string (aH (mJ s k).1),.int .i64 ((mJ s k).2:Nat)])∧f=W:=by
 obtain⟨n,a⟩:∃ n,n=s.length:=⟨_,rfl⟩;have h:=O a;by_cases h1:2000 < n
 ·have b:=O (show mJ s k=([],5) from by unfold mJ;rw [if_pos (by rw [← a];exact .inl h1)]);have z:(2000:Int) < (s.length:Int):=by omega
  clear a h1;go_in
  go_wp2_with fail;go_ret2
  exact⟨by rw [b.o];rfl,rfl⟩
 ·have z:¬ (2000:Int) < (s.length:Int):=by omega
  by_cases h2:800 < k
  ·have b:=O (show mJ s k=([],5) from by unfold mJ;rw [if_pos (.inr h2)]);have g:(800:Int) < (k:Int):=by omega
   clear a h1 h2;go_in
   go_wp2_with fail;go_ret2
   exact⟨by rw [b.o];rfl,rfl⟩
  ·have b:=O (show mJ s k=(s,0) from by unfold mJ;rw [if_neg (by rw [← a];omega)]);have g:¬ (800:Int) < (k:Int):=by omega
   clear a h1 h2;go_in
   go_wp2_with fail;go_ret2
   exact⟨by rw [b.o];rfl,rfl⟩
theorem ac' {W:World}{v:Value}{l:List Pz}(h:vO W v l)(f:Sh l)(q:l.length≤100000) :
  Calls Tryz.prog 21 #[v] W fun e k=>e=.returned (.tuple #[.string (aH (mJ (iI l) l.length).1),.int .i64 ((mJ (iI l) l.length).2:Nat)])∧Below W.heap.size W k:=by
 obtain⟨A,c,rfl,a⟩:=h.form;have i:=O (Ri A c l W a (by omega) (by have:=sJ f;omega));have j:=O fun W=>NT (iI l) l.length W
 generalize l.length=m at *
 clear h a f;go_in
 go_wp2_with fail;refine i.o.mono ?_;rintro e w2⟨rfl,b⟩;have g:=O b;clear b;go_wp2_with fail;refine (j.o w2).mono ?_;rintro e r⟨rfl,rfl⟩;go_wp2_with fail;go_ret2
 exact⟨rfl,g.o⟩
section
variable {W:World} {A Bi:Option Addr} {n c m d:Nat} {xs:List NV} {its:List Int}
def EU (T:Tr):List (List Pz):=rF T (T.nodes.length+2) T.items
theorem MH {T:Tr}(b:O_ T)(e:∀ a ∈ T.items,∃ i:Nat,a=(i:Int)∧i < T.nodes.length):∀ l ∈ EU T,Sh l∧l.length≤12 * T.nodes.length:=by
 intro l g;unfold EU rF at g
 obtain⟨a,h,rfl⟩:=List.mem_map.1 g;obtain⟨i,rfl,hi⟩:=e a h
 refine⟨sh_head _ (xW b _ _ hi),?_⟩
 have:=GD b.right b.fo (f:=T.nodes.length+2) hi (by omega)
 unfold mI;rw [aj];simp only [ak7];omega
theorem ZX {ls:List (List Pz)}{K:Nat}(h:∀ l ∈ ls,Sh l∧l.length≤K):(lX ls).length≤ls.length * (13 * K+1)∧pW ls≤ls.length * K:=by
 induction ls with
 | nil=>simp [lX,pW]
 | cons l ls b =>
  have h1:=h l (List.mem_cons_self ..);have h2:=b fun x a=>h x (List.mem_cons_of_mem _ a)
  have h3:=sJ h1.1;have e:pW (l :: ls)=l.length+pW ls:=by simp [pW]
  rw [e];simp only [lX,ak5,List.length_cons,Nat.add_mul,Nat.one_mul];omega
end
end
set_option linter.all false
section
open Go.RowKit Mist
attribute [local go_sem] ah aM aV au ak
def yT (T:Tr):Bs × Nat:=mJ (lX (EU T)) (pW (EU T))
section
variable {W:World} {A Bi:Option Addr} {n c m d:Nat} {xs:List NV} {its:List Int}
def aeu (T:Tr):Prop:=∀ a ∈ T.items,∃ i:Nat,a=(i:Int)∧i < T.nodes.length∧fM (nd T i).kind=true
theorem ac8 {ls:List (List Pz)}{K:Nat}(h:∀ l ∈ ls,Sh l∧l.length≤K)(b:K≤12000)(e:ls.length≤1000)(k:Nat):(lX (ls.take k)).length≤200000000∧pW (ls.take k)≤20000000:=by
 have h1:=ZX (ls:=ls.take k) (K:=K) fun l a=>h l (List.mem_of_mem_take a)
 have h2:(ls.take k).length≤1000:=by rw [List.length_take];omega
 have h3:(ls.take k).length * (13 * K+1)≤1000 * 156001:=Nat.mul_le_mul h2 (by omega);have h4:(ls.take k).length * K≤1000 * 12000:=Nat.mul_le_mul h2 (by omega);omega
theorem Vo (X:WX W A Bi n xs its)(hm:its.length=m)(U:aeu ⟨aF xs,its⟩)(hmm:m≤1000) :
  Calls Tryz.prog 14 #[.agg #[.slice A n c,.slice Bi m d]] W fun e W'=>e=.returned (.tuple #[.string (aH (yT ⟨aF xs,its⟩).1),.int .i64 ((yT ⟨aF xs,its⟩).2:Nat)])∧Below W.heap.size W W':=by
 have j:=X.nodes;obtain⟨ls,h⟩:∃ ls,ls=EU ⟨aF xs,its⟩:=⟨_,rfl⟩;have r:ls.length=m:=by rw [h];unfold EU rF;rw [List.length_map];exact hm
 have Rv:=O (ac8 (ls:=ls) (K:=12 * n) (by rw [h,← j];exact MH X.ok fun a J=>by obtain⟨i,h1,h2,_⟩:=U a J;exact⟨i,h1,h2⟩) (by have:=X.few;omega) (by rw [r];exact hmm));have OL:=O (show ∀ l ∈ ls,Sh l∧l.length≤12 * n from by rw [h,← j];exact MH X.ok fun a J=>by obtain⟨i,h1,h2,_⟩:=U a J;exact⟨i,h1,h2⟩);have HPT:=O (show yT ⟨aF xs,its⟩=mJ (lX ls) (pW ls) from by rw [h];rfl);have g:=O r;have HN:=O X.few;have e1:(W.alloc (.cells #[.slice A n c,.slice Bi m d] 32)).heap.size=W.heap.size+1:=by simp
 have x:=O (((Below.refl W.heap.size W).alloc (ak0 _) (.cells #[.slice A n c,.slice Bi m d] 32)).alloc (by simp) (.cells #[.pointer none,.slice none 0 0] 62));have N:=zo.fresh 62 [] (W.alloc (.cells #[.slice A n c,.slice Bi m d] 32));rw [e1] at N
 have F:=O N
 have S:=O (acj (c:=c) (d:=d) (f:=n+1) (X.below x.o) hm (ak0 _) (by
  rcases Nat.eq_zero_or_pos n with h0 | h0
  ·right
   rcases Nat.eq_zero_or_pos m with h1 | h1
   ·exact h1
   ·obtain⟨a,J⟩:∃ a,a ∈ its:=by
     cases its with
     | nil=>simp at hm;omega
     | cons a t=>exact⟨a,List.mem_cons_self ..⟩
    obtain⟨i,_,h2,_⟩:=U a J;rw [j] at h2;omega
  ·exact .inl h0) (fun a J=>by obtain⟨i,h1,h2,h3⟩:=U a J;exact⟨i,h1,by rw [j] at h2;exact h2,h3⟩) hmm)
 have HLS:=O (show rF ⟨aF xs,its⟩ (n+1+1) its=ls from by rw [h];unfold EU;rw [j]);have E:((W.alloc (.cells #[.slice A n c,.slice Bi m d] 32)).alloc (.cells #[.pointer none,.slice none 0 0] 62)).heap.size=W.heap.size+2:=by simp
 clear X hm U h r N e1 j;go_in
 go_wp2_with fail;refine S.o.mono ?_;rintro e w3⟨v,vs,rfl,hL,M⟩;rw [HLS.o] at hL
 have R:=O (x.o.trans (M.mono x.o.size));have FX:=O (F.o.below M);have kP:=O hL;obtain⟨Av,cv,rfl⟩:=d_ hL.own;rw [E] at kP
 rw [g.o] at kP ⊢
 clear hL M F S x E;go_wp2_with fail;go_loopw [5,7,11] (fun v5 _ Q wr=>∃ k:Nat,k≤m∧Q=.int .i64 k∧v5=.int .i64 (pW (ls.take k):Nat)∧Hid (zo 62 (W.heap.size+1) (W.heap.size+1) [] (lX (ls.take k)) wr)∧Hid (zN wr (W.heap.size+2) (.slice Av m cv) ls vs)∧Hid (Below W.heap.size W wr)) (fun _ _ Q _=>m - (intOf Q).toNat)
 case atStart=>exact⟨0,ak2 _,rfl,rfl,FX,kP,R⟩
 case round =>
  obtain⟨k,hkm,rfl,rfl,F,HL,HB⟩:=hrel;clear FX kP R;by_cases Z:k < m
  ·obtain⟨l,hl⟩:∃ l,ls[k]? = some l:=⟨_,akU (by rw [g.o];exact Z)⟩;obtain⟨u,hu,hpr⟩:=HL.o.row k l hl;obtain⟨Au,cu,rfl,hpa⟩:=hpr.form;have w:wr.ownsRow (W.heap.size+2) 54 1 (.slice Av m cv) m vs:=by have:=HL.o.own;rw [g.o] at this;exact this
   obtain⟨gp,cap,hv,_⟩:=w.form (by omega);injection hv with hv1 hv2 hv3
   subst hv1;subst hv3;clear hv2;have kq:wr.cell? ⟨gp,k,none⟩=some (.slice Au l.length cu):=by rw [w.cellAt k (by omega)];exact hu
   have D:=ak3 hl;have C:=(OL.o l D);have P:ls.take (k+1)=ls.take k ++ [l]:=by rw [List.take_succ,hl];rfl
   have T:=O (show lX (ls.take (k+1))=lX (ls.take k) ++ (iI l ++ [10]) from by rw [P,Mf]);have AZ:=O (show pW (ls.take (k+1))=pW (ls.take k)+l.length from by rw [P,Rl]);have L:=Rv.o (k+1);rw [T.o,AZ.o,ak5] at L
   have G:=O L;have H:=O (Ri Au cu l wr hpa (by have:=C.2;have:=HN.o;omega) (by have:=sJ C.1;have:=C.2;have:=HN.o;omega));obtain⟨q,hq⟩:∃ q,q=l.length:=⟨_,rfl⟩;obtain⟨tk,y⟩:∃ t,t=pW (ls.take k):=⟨_,rfl⟩;rw [← hq] at kq H
   rw [← y];have HQ:=O hq;have Dk:=O y;have hcc:¬ 9223372036854775807 < (iI l).length+1:=by have:=G.o.1;rw [ak5] at this;omega
   have y0:(0:Int)≤(k:Int):=by omega
   have y1:(k:Int) < (m:Int):=by omega
   have ws:wrap64 ((tk:Int)+(q:Int))=((tk+q:Nat):Int):=by have:=G.o.2;rw [← y,← hq] at this;unfold wrap64;omega
   clear hl hu hpr hpa w D C P L hq y;go_wp2_with fail;refine H.o.mono ?_;rintro e w4⟨rfl,b⟩;have qM:=O (HB.o.trans (b.mono HB.o.size));have vN:=O (HL.o.below b);have Kv:=O (F.o.below b);clear b kq HB HL F H;go_wp2_with fail;refine (jl 62 2 (W.heap.size+1) (W.heap.size+1) l9 [] (lX (ls.take k)) (iI l ++ [10]) w4 Kv.o rfl (by have:=G.o.1;rw [ak5] at this ⊢;omega) (by have:=Kv.o.lt;omega)).mono ?_;rintro e w5⟨rfl,I,V,hsp⟩;obtain⟨bcs,Y⟩:=Kv.o.blk;have kQ:=O (vN.o.spare hsp Y (by decide) (by decide));have dF:=O (qM.o.trans (V.mono (by omega)));rw [← T.o] at I
   have Kw:=O I;clear I V hsp Y qM vN Kv;go_wp2_with fail;exact⟨⟨k+1,by omega,by go_num,by rw [AZ.o,← Dk.o,← HQ.o,ws],Kw,kQ,dF⟩,by simp [intOf];omega⟩
  ·obtain rfl:k=m:=by omega
   have y1:¬ (k:Int) < (k:Int):=by omega
   have htl:ls.take k=ls:=ak4 (by rw [g.o];omega);rw [htl] at F ⊢
   have ahz:=F.o.lt;clear Z htl;go_wp2_with fail;refine (sW 62 (W.heap.size+1) (W.heap.size+1) [] (lX ls) wr F.o (by omega)).mono ?_;rintro e w4⟨rfl,b⟩;have qM:=O (HB.o.trans (b.mono (by omega)));clear b;go_wp2_with fail;refine (NT (lX ls) (pW ls) w4).mono ?_;rintro e w5⟨rfl,rfl⟩;go_wp2_with fail;go_ret2
   exact⟨by rw [HPT.o];rfl,qM.o⟩
end
end
set_option linter.all false
end Go.Proofs.YtflnfhhgamldhaaGreatDoor
namespace Mist
def j_ (out:List (List Pz))(c:Pz):List (List Pz):=if c.blank=true∨out=[] then out ++ [[c]] else out.dropLast ++ [out.getLastD [] ++ [c]]
def jT (l:List Pz):List (List Pz):=l.foldl j_ []
def iR (l:List Pz):Bs:=Go.Lib.trimPrefix (iI l) [32]
theorem Nk (out:List (List Pz))(c:Pz):(j_ out c).length≤out.length+1:=by
 unfold j_;split <;> simp
theorem wR (l:List Pz)(c:Pz):jT (l ++ [c])=j_ (jT l) c:=by unfold jT;rw [List.foldl_append];rfl
theorem AQ (l:List Pz):(jT l).length≤l.length:=by
 have:∀ (n:Nat) (l:List Pz),l.length=n→(jT l).length≤n:=by
  intro n
  induction n with
  | zero=>intro l h;rw [List.length_eq_zero_iff.1 h];exact ak0 _
  | succ n f =>
   intro l h;have b:l ≠ []:=fun e=>by rw [e] at h;cases h
   obtain⟨a,x,e⟩:∃ a x,l=a ++ [x]:=⟨l.dropLast,l.getLast b,(List.dropLast_concat_getLast b).symm⟩;subst e;rw [wR];have h1:=Nk (jT a) x;have h2:=f a (by simp at h;exact h);omega
 exact this _ l rfl
theorem Nl {out:List (List Pz)}{c:Pz}{n:Nat}{Q:Pz→Prop}(h:∀ r ∈ out,r.length≤n∧∀ p ∈ r,Q p)(i:Q c):∀ r ∈ j_ out c,r.length≤n+1∧∀ p ∈ r,Q p:=by
 intro r b;unfold j_ at b
 split at b
 ·rcases List.mem_append.1 b with b | b
  ·exact⟨by have:=(h r b).1;omega,(h r b).2⟩
  ·rw [List.mem_singleton.1 b];exact⟨by simp,fun p f=>by rw [List.mem_singleton.1 f];exact i⟩
 ·rename_i k
  have g:out ≠ []:=fun e=>k (.inr e)
  have j:out.getLastD [] ∈ out:=by
   have e:out.getLastD []=out.getLast g:=by
    cases out with
    | nil=>exact absurd rfl g
    | cons a l=>rfl
   rw [e];exact List.getLast_mem g
  rcases List.mem_append.1 b with b | b
  ·have:=h r (List.dropLast_subset _ b)
   exact⟨by omega,this.2⟩
  ·rw [List.mem_singleton.1 b];have h2:=h _ j
   refine⟨by rw [ak5,ak_];omega,fun p f=>?_⟩
   rcases List.mem_append.1 f with f | f
   ·exact h2.2 p f
   ·rw [List.mem_singleton.1 f];exact i
theorem Il {Q:Pz→Prop}:∀ (n:Nat) (l:List Pz),l.length=n→(∀ p ∈ l,Q p)→∀ r ∈ jT l,r.length≤n∧∀ p ∈ r,Q p:=by
 intro n
 induction n with
 | zero=>intro l h _ r f;rw [List.length_eq_zero_iff.1 h] at f;cases f
 | succ n i =>
  intro l h hQ;have b:l ≠ []:=fun e=>by rw [e] at h;cases h
  obtain⟨a,x,e⟩:∃ a x,l=a ++ [x]:=⟨l.dropLast,l.getLast b,(List.dropLast_concat_getLast b).symm⟩;subst e;rw [wR];exact Nl (i a (by simp at h;exact h) fun p g=>hQ p (List.mem_append_left _ g)) (hQ x (by simp))
end Mist
namespace Go.Proofs.YtflnfhhgamldhaaGreatDoor
section
open Go.RowKit Mist
attribute [local go_sem] ah aM aV au ak
theorem vF {W:World}{v:Value}{l:List Pz}(h:vO W v l)(f:Sh l)(k:l.length≤100000) :
  Calls Tryz.prog 28 #[v] W fun e j=>e=.returned (.string (aH (iR l)))∧Below W.heap.size W j:=by
 obtain⟨A,c,rfl,a⟩:=h.form;have i:=O (Ri A c l W a (by omega) (by have:=sJ f;omega))
 generalize l.length=m at *
 clear h a f;go_in
 go_wp2_with fail;refine i.o.mono ?_;rintro e w2⟨rfl,b⟩;have g:=O b;clear b;go_wp2_with fail;refine (Tryz.strings_TrimPrefix (aH (iI l)) (aH [32]) w2).mono ?_;rintro e q⟨rfl,rfl⟩;go_wp2_with fail;go_ret;exact⟨rfl,g.o⟩
theorem VT {W:World}{v:Value}{l:List Pz}(h:vO W v l)(b:Sh l)(k:l.length≤100000) :
  Calls Tryz.prog 25 #[v] W fun e i=>e=.returned (.int .i64 ((iR l).length:Nat))∧Below W.heap.size W i:=by
 have g:=O (vF h b k);obtain⟨A,c,rfl,j⟩:=h.form
 generalize l.length=m at *
 clear h j b;go_in
 go_wp2_with fail;refine g.o.mono ?_;rintro e w2⟨rfl,a⟩;have f:=O a;clear a;go_wp2_with fail;go_ret;exact⟨rfl,f.o⟩
structure RI (W:World) (B:Nat) (v:Value) (ls:List (List Pz)) (vs:List Value):Prop where
 own:W.ownsRow B 65 1 v ls.length vs
 len:vs.length=ls.length
 row:∀ (k:Nat) (l:List Pz),ls[k]? = some l→∃ u,vs[k]? = some u∧W.ownsRow B 113 3 u l.length (gV l)
 ne:∀ (k:Nat) (u z:Value),k+1 < ls.length→vs[k]? = some u→vs[ls.length - 1]? = some z→∀ b,u.ownBlock=some b→z.ownBlock ≠ some b
section
variable {W w2:World} {B:Nat} {v v2 u u2:Value} {ls:List (List Pz)} {vs:List Value} {l:List Pz} {c:Pz}
theorem RI.below (h:RI W B v ls vs)(f:Below W.heap.size W w2):RI w2 B v ls vs :=
 ⟨own_below h.own f,h.len,fun k l e=>by obtain⟨u,a,b⟩:=h.row k l e;exact⟨u,a,own_below b f⟩,h.ne⟩
theorem RI.new (h:RI W B v ls vs)(o:W.grownBy w2 v.ownBlock)(q:w2.ownsRow B 65 1 v2 (ls.length+1) (vs ++ [.slice none 0 0])):RI w2 B v2 (ls ++ [[]]) (vs ++ [.slice none 0 0]):=by
 refine⟨by rw [ak5];exact q,by simp [h.len],fun k j e=>?_,fun k u z f w g b t=>?_⟩
 ·rcases Nat.lt_or_ge k ls.length with f | f
  ·rw [List.getElem?_append_left f] at e
   obtain⟨r,a,b⟩:=h.row k j e;exact⟨r,by rw [List.getElem?_append_left (by rw [h.len];exact f)];exact a,b.kept o (eY b h.own (by decide))⟩
  ·have i:k=ls.length:=by
    have:=(akV.1 e).1
    simp at this;omega
   subst i;rw [List.getElem?_append_right (ak0 _),Nat.sub_self] at e
   have e:[]=j:=by simpa using e
   subst e;exact⟨.slice none 0 0,by rw [List.getElem?_append_right (by rw [h.len];omega),h.len,Nat.sub_self];rfl,World.ownsRow_nil _ _ _ _⟩
 ·rw [ak5,ak_,Nat.add_sub_cancel,List.getElem?_append_right (by rw [h.len];omega),h.len,Nat.sub_self] at g
  have g:Value.slice none 0 0=z:=by simpa using g
  subst g;simp [Value.ownBlock]
theorem RI.last {C cap:Nat}(h:RI W B (.slice (some ⟨C,0,none⟩) (ls.length+1) cap) (ls ++ [l]) (vs ++ [u]))(t:vs.length=ls.length)(K:W.grownBy w2 u.ownBlock)(M:w2.ownsRow B 113 3 u2 (l.length+1) (gV l ++ iM c))(D:u2.ownBlock=u.ownBlock∨∀ b,u2.ownBlock=some b→W.heap.size≤b) :
  RI (w2.setCell ⟨C,ls.length,none⟩ u2) B (.slice (some ⟨C,0,none⟩) (ls.length+1) cap) (ls ++ [l ++ [c]]) (vs ++ [u2]):=by
 have j:(vs ++ [u])[ls.length]? = some u:=by rw [List.getElem?_append_right (by omega),t,Nat.sub_self];rfl
 obtain⟨P,x,N⟩:=h.row ls.length l (by rw [List.getElem?_append_right (ak0 _),Nat.sub_self];rfl);rw [j] at x
 injection x with x
 subst x;have f:=h.own;rw [ak5,ak_] at f
 have g:=f.kept K (eY f N (by decide));have G:=g.stored ls.length u2;have w:(vs ++ [u]).set ls.length u2=vs ++ [u2]:=by rw [← t,List.set_append_right _ _ (ak0 _),Nat.sub_self];rfl
 have q:∀ {z:Value} {k:Nat} {xs:List Value},w2.ownsRow B 113 3 z k xs→(w2.setCell ⟨C,ls.length,none⟩ u2).ownsRow B 113 3 z k xs:=fun i =>
  ownsRow_setCell_other i (by
   rcases eY i g (by decide) with e | e
   ·rw [e];simp
   ·exact e) _
 refine⟨?_,by simp [t],fun k o e=>?_,fun k z y r i hy b J=>?_⟩
 ·rw [ak5,ak_]
  have:=G.1
  rw [w] at this
  exact this
 ·rcases Nat.lt_or_ge k ls.length with r | r
  ·rw [List.getElem?_append_left r] at e
   obtain⟨z,a,i⟩:=h.row k o (by rw [List.getElem?_append_left r];exact e);rw [List.getElem?_append_left (by omega)] at a
   refine⟨z,by rw [List.getElem?_append_left (by omega)];exact a,q (i.kept K ?_)⟩
   rcases I:z.ownBlock with _ | b
   ·exact .inl rfl
   ·exact .inr (Ne.symm (h.ne k z u (by simp;omega) (by rw [List.getElem?_append_left (by omega)];exact a) (by rw [ak5,ak_,Nat.add_sub_cancel];exact j) b I))
  ·have E:k=ls.length:=by
    have:=(akV.1 e).1
    simp at this;omega
   subst E;rw [List.getElem?_append_right (ak0 _),Nat.sub_self] at e
   have e:l ++ [c]=o:=by simpa using e
   subst e;exact⟨u2,by rw [List.getElem?_append_right (by omega),t,Nat.sub_self];rfl,q (by rw [ak5,ak_,E8];exact M)⟩
 ·rw [ak5,ak_] at r
  rw [ak5,ak_,Nat.add_sub_cancel,List.getElem?_append_right (by omega),t,Nat.sub_self] at hy
  have hy:u2=y:=by simpa using hy
  subst hy;rw [List.getElem?_append_left (by omega)] at i
  rcases D with e | e
  ·rw [e];exact h.ne k z u (by simp;omega) (by rw [List.getElem?_append_left (by omega)];exact i) (by rw [ak5,ak_,Nat.add_sub_cancel];exact j) b J
  ·intro L;have h1:=e b L;obtain⟨o,F⟩:∃ o,(ls ++ [l])[k]? = some o:=⟨_,akU (by simp;omega)⟩;obtain⟨Q,a,H⟩:=h.row k o F;rw [List.getElem?_append_left (by omega),i] at a
   injection a with a
   subst a
   have:=(World.ownsRow.lt H b J).2
   omega
end
theorem RI.drew {W:World}{B:Nat}{v:Value}{ls:List (List Pz)}{vs:List Value}(h:RI W B v ls vs):RI W.drew B v ls vs:=⟨h.own,h.len,h.row,h.ne⟩
theorem aaZ:(Tryz.prog.info? 65).map (fun i=>(i.zero,i.size,i.bytes))=some (some (.slice none 0 0),1,24):=by kernel_rfl
theorem afw {W:World}{A:Option Addr}{c n:Nat}{l:List Pz}(h:Tz W A l)(hn:l.length=n)(hl:n≤100000) :
  Calls Tryz.prog 24 #[.slice A n c] W fun e W'=>∃ v,e=.returned v∧(∃ vs,RI W' W.heap.size v (jT l) vs)∧Below W.heap.size W W':=by
 obtain⟨i0,hi0,hz0,hz1,hz2⟩:=info_parts aaZ;obtain⟨i1,hi1,hy0,hy1,hy2⟩:=info_parts wO;have HP:=O h;have HN:=O hn;clear h hn;go_in
 go_wp2_with fail;go_loopw [2,4,5,8] (fun v2 _ _ ZG wr=>∃ (k:Nat) (vs:List Value),k≤n∧ZG=.int .i64 k∧Hid (RI wr W.heap.size v2 (jT (l.take k)) vs)∧Hid (Below W.heap.size W wr)) (fun _ _ _ ZG _=>n - (intOf ZG).toNat)
 case atStart=>exact⟨0,[],ak2 _,rfl,O ⟨World.ownsRow_nil _ _ _ _,rfl,fun k l e=>by simp [jT] at e,fun k u z hk=>by simp [jT] at hk⟩,O (Below.refl _ _)⟩
 case round =>
  obtain⟨k,vs,hkm,rfl,HR,HB⟩:=hrel;by_cases hlt:k < n
  ·obtain⟨p,hp⟩:∃ p,l[k]? = some p:=⟨_,akU (by rw [HN.o];exact hlt)⟩;obtain⟨b,o,hA,hbl,hc⟩:=(HP.o.below HB.o).at_ (by rw [HN.o];omega);subst hA;obtain⟨q0,q1,q2⟩:=hc k p hp;have htk:l.take (k+1)=l.take k ++ [p]:=by rw [List.take_succ,hp];rfl
   have Dk:=O (show jT (l.take (k+1))=j_ (jT (l.take k)) p from by rw [htk,wR]);obtain⟨rs,hrs⟩:∃ rs,rs=jT (l.take k):=⟨_,rfl⟩;rw [← hrs] at Dk HR
   have hrl:rs.length≤k:=by have:=AQ (l.take k);rw [← hrs,List.length_take] at this;omega
   have hrm:∀ r ∈ rs,r.length≤k:=by rw [hrs];intro r hr;have:=(Il (Q:=fun _=>True) _ _ rfl (fun _ _=>trivial) r hr).1;rw [List.length_take] at this;omega
   clear htk hc hp hrs;obtain⟨t,bl,nd⟩:=p;simp only at q0 q1 q2
   have y0:(0:Int)≤(k:Int):=by omega
   have y1:(k:Int) < (n:Int):=by omega
   have hsz:=HB.o.size;obtain⟨Av,cv,rfl⟩:=d_ HR.o.own;have N:=O (bf.new wr 113 #[.string (aH t),.bool bl,.int .i64 nd]);have X:=O (HR.o.below ((Below.refl _ _).alloc (ak0 _) (.cells #[.string (aH t),.bool bl,.int .i64 nd] 113)));have Ku:=O (HB.o.alloc hsz (.cells #[.string (aH t),.bool bl,.int .i64 nd] 113));cases bl
   ·by_cases Z:rs=[]
    ·have HTN:=O (show j_ rs ⟨t,false,nd⟩=rs ++ [[] ++ [⟨t,false,nd⟩]] from by unfold j_;rw [if_pos (.inr Z)];rfl);obtain⟨i,y⟩:∃ r,r=rs.length:=⟨_,rfl⟩;rw [← y];have I:=O y;have hrb:i≤100000:=by rw [y];omega
     have hze:((i:Int) == 0)=true:=by rw [y,Z];rfl
     clear y;go_upto_region 4 with (fail)
     generalize wr.alloc (.cells #[.string (aH t),.bool false,.int .i64 nd] 113)=w2 at N X Ku ⊢
     have d0:=N.o.cell 0;have d1:=N.o.cell 1;have d2:=N.o.cell 2;have hs2:=Ku.o.size;have HO:=O (show w2.ownsRow W.heap.size 65 1 (.slice Av i cv) i vs from by have:=X.o.own;rw [← I.o] at this;exact this);clear q0 q1 q2
     go_upto_region 6 with (at_builtin;go_loud (
      refine wpList_append_own _ rfl (.tmp 19) (.tmp 20) 63 rfl W.heap.size 65 i0 _ 1 24 Tryz.underlying63 hi0 hz0 hz1 hz2 rfl (by decide) _ i vs rfl (HO.o.alloc _) ⟨w2.heap.size,0,none⟩ 1 1 [.slice none 0 0] rfl rfl (iD w2 [.slice none 0 0] _) (fun v hv=>by rw [List.mem_singleton.1 hv];rfl) (by simp only [maxLen];omega) (by omega) (by simp;omega) ?_;intro v3 j g L _))
     obtain⟨A3,c3,rfl⟩:=d_ g;obtain⟨V,af8,hv3,S⟩:=g.form (by omega);injection hv3 with Zk Zl Zm
     subst Zk;subst Zm;clear Zl;have hgp:=S.2;have Y8:=S.1;have hz1':(w2.alloc (.cells #[.slice none 0 0] 65)).heap.size≤j.heap.size:=L.size;have hz2':wr.heap.size < w2.heap.size:=N.o.lt;have agH:w2.heap.size < j.heap.size:=by simp at hz1';omega
     have F:=O (show RI j W.heap.size (.slice (some ⟨V,0,none⟩) (i+1) c3) (rs ++ [[]]) (vs ++ [.slice none 0 0]) from (X.o.below ((Below.refl _ _).alloc (ak0 _) (.cells #[.slice none 0 0] 65))).new (by rw [← I.o];exact L) (by rw [← I.o];exact g));have gH:=O ((N.o.alloc (.cells #[.slice none 0 0] 65)).grown L (fun e=>bD (HO.o.alloc (.cells #[.slice none 0 0] 65)) (N.o.alloc (.cells #[.slice none 0 0] 65)) (by decide) e.symm));have E:=O ((Ku.o.alloc hs2 (.cells #[.slice none 0 0] 65)).grown L (by simp;omega) (fun z M=>(HO.o.lt z M).1));have K:=O (show vs.length=rs.length from by rw [X.o.len]);have P:j.ownsRow W.heap.size 113 3 (.slice none 0 0) 0 (gV []):=World.ownsRow_nil _ _ _ _
     have s1:j.cell? ⟨V,i,none⟩=some (.slice none 0 0):=by
      rw [g.cellAt i (by omega),List.getElem?_append_right (by rw [K.o,← I.o];omega),K.o,← I.o,Nat.sub_self];rfl
     have Tq:=O (show (0:Nat)=([]:List Pz).length from rfl);have e0:=gH.o.cell 0;have e1:=gH.o.cell 1;have e2:=gH.o.cell 2;have tb1:wr.heap.size < j.heap.size:=by omega
     have hs3:=E.o.size;have X4:=O (show j.ownsRow W.heap.size 65 1 (.slice (some ⟨V,0,none⟩) (i+1) c3) (i+1) (vs ++ [(Value.slice none 0 0)]) from by have:=F.o.own;rw [ak5,ak_,← I.o] at this;exact this)
     have OB:=O fun (U:World) (u2:Value) (hg:((j.alloc (.cells #[.string (aH t),.bool false,.int .i64 nd] 113)).drew).grownBy U ((Value.slice none 0 0)).ownBlock) (ho:U.ownsRow W.heap.size 113 3 u2 (0+1) (gV [] ++ iM ⟨t,false,nd⟩)) (w:u2.ownBlock=((Value.slice none 0 0)).ownBlock∨∀ b,u2.ownBlock=some b→((j.alloc (.cells #[.string (aH t),.bool false,.int .i64 nd] 113)).drew).heap.size≤b) =>
      RI.last (ls:=rs) (l:=[]) (vs:=vs) (u:=(Value.slice none 0 0)) (c:=⟨t,false,nd⟩) (by rw [← I.o];exact (F.o.below ((Below.refl _ _).alloc (ak0 _) (.cells #[.string (aH t),.bool false,.int .i64 nd] 113))).drew) K.o hg (by rw [Tq.o] at ho;exact ho) w
     have HLI:=O (show (vs ++ [(Value.slice none 0 0)])[i]? = some ((Value.slice none 0 0)) from by rw [List.getElem?_append_right (by rw [K.o,← I.o];omega),K.o,← I.o,Nat.sub_self];rfl);have Y:=O P;obtain⟨R,G⟩:∃ R,R=i+1:=⟨_,rfl⟩;rw [← G];have hws:wrap64 ((R:Int) - 1)=(i:Int):=by unfold wrap64;omega
     have hwt:IntKind.i64.wrap ((R:Int) - 1)=(i:Int):=by rw [IntWalk.i64_in _ (by omega)];omega
     have hi7:(i:Int) < (R:Int):=by omega
     have agp:(0:Int)≤(i:Int):=by omega
     have HM1:=O G;clear G;clear P;go_wp2_with fail;go_region_law ((refine step_append_lies _ (by rfl) _ _ _ (by rfl) W.heap.size 113 i1 _ 3 32 Tryz.underlying65 hi1 hy0 hy1 hy2 rfl (by omega) _ 0 (gV []) (by rfl) ((Y.o.alloc _).drew) ⟨j.heap.size,0,none⟩ 1 1 (iM ⟨t,false,nd⟩) (by rfl) (by rfl) (World.news_of_block (cs:=#[.string (aH t),.bool false,.int .i64 nd]) (t:=113) (fr:=(0,0)) (heap_alloc_new j _)) (o7 _) (by omega) (by simp only [maxLen];omega) (by omega) (by simp;omega) (j.heap.size+1) (by simp) ?_;intro gg D U Bl f w T;have kk:=((X4.o.alloc (.cells #[.string (aH t),.bool false,.int .i64 nd] 113)).drew).kept f (eY ((X4.o.alloc (.cells #[.string (aH t),.bool false,.int .i64 nd] 113)).drew) ((Y.o.alloc (.cells #[.string (aH t),.bool false,.int .i64 nd] 113)).drew) (by decide));have s4:U.cell? ⟨V,i,none⟩=some ((Value.slice none 0 0)):=(kk.cellAt i (by omega)).trans HLI.o;have f4:=kk.frozenAt i;clear kk))
     all_goals
      have H:=OB.o U (.slice (some ⟨gg,0,none⟩) (0+1) D) f Bl (by
       rcases w with e | e
       ·left;exact e.symm
       ·right
        intro z M;have M:gg=z:=by simpa [Value.ownBlock] using M
        simp
        omega)
      have e4:jT (l.take (k+1))=rs ++ [[] ++ [⟨t,false,nd⟩]]:=by rw [Dk.o,HTN.o]
      rw [← e4,← I.o,← HM1.o] at H
      have HR4:=O H;have qM:=O ((((E.o.alloc hs3 (.cells #[.string (aH t),.bool false,.int .i64 nd] 113)).drew).grown f (by simp;omega) (fun z M=>(Y.o.lt z M).1)).setCell (p:=⟨V,i,none⟩) Y8 (.slice (some ⟨gg,0,none⟩) (0+1) D));clear H e4 w f Bl T s4 f4 OB Y X4 E F;go_wp2_with fail;exact⟨⟨k+1,_,by omega,by go_num,HR4,qM⟩,by simp [intOf];omega⟩
    ·obtain⟨C,ll,rfl⟩:∃ a x,rs=a ++ [x]:=⟨rs.dropLast,rs.getLast Z,(List.dropLast_concat_getLast Z).symm⟩;have HTN:=O (show j_ (C ++ [ll]) ⟨t,false,nd⟩=C ++ [ll ++ [⟨t,false,nd⟩]] from by unfold j_;rw [if_neg (by simp)];simp);have hvl:=HR.o.len
     obtain⟨us,uu,rfl⟩:∃ a x,vs=a ++ [x]:=by
      have hv0:vs ≠ []:=fun e=>by rw [e] at hvl;simp at hvl
      exact⟨vs.dropLast,vs.getLast hv0,(List.dropLast_concat_getLast hv0).symm⟩
     have hul:us.length=C.length:=by simpa using hvl
     have K:=O hul;obtain⟨lu,Lx,PV⟩:=HR.o.row C.length ll (by rw [List.getElem?_append_right (ak0 _),Nat.sub_self];rfl)
     have aix:uu=lu:=by
      rw [List.getElem?_append_right (by omega),hul,Nat.sub_self] at Lx
      simpa using Lx
     subst aix;obtain⟨Au,cu,rfl⟩:=d_ PV;obtain⟨J,hmm⟩:∃ m,m=C.length:=⟨_,rfl⟩;obtain⟨q,hq⟩:∃ q,q=ll.length:=⟨_,rfl⟩;have Gt:=O hmm;have Tq:=O hq;have y:(C ++ [ll]).length=J+1:=by simp [hmm]
     have hrb:J≤100000:=by rw [y] at hrl;omega
     rw [y] at HR X ⊢
     rw [← hq] at HR X PV
     have hze:(((J+1:Nat):Int) == 0)=false:=by simp;omega
     have aki:((J:Int)+1 == 0)=false:=by simp;omega
     have HLU:=O PV;have hqb:q≤100000:=by rw [hq];have:=hrm ll (by simp);omega
     clear hvl hul Lx PV hmm hq y;go_upto_region 4 with (fail)
     generalize wr.alloc (.cells #[.string (aH t),.bool false,.int .i64 nd] 113)=j at N X Ku ⊢
     have hs2:=Ku.o.size;have g:j.ownsRow W.heap.size 65 1 (.slice Av (J+1) cv) (J+1) (us ++ [.slice Au q cu]):=by have:=X.o.own;rw [ak5,ak_,← Gt.o] at this;exact this
     obtain⟨V,af8,hv3,S⟩:=g.form (by omega);injection hv3 with Zk Zl Zm
     subst Zk;subst Zm;clear Zl;have hgp:=S.2;have Y8:=S.1;have agH:wr.heap.size < j.heap.size:=N.o.lt;have F:=X;have gH:=N;have E:=Ku
     have P:j.ownsRow W.heap.size 113 3 (.slice Au q cu) q (gV ll):=by
      obtain⟨lu,Lx,PV⟩:=X.o.row C.length ll (by rw [List.getElem?_append_right (ak0 _),Nat.sub_self];rfl);rw [List.getElem?_append_right (by rw [K.o];omega),K.o,Nat.sub_self] at Lx
      have Lx:Value.slice Au q cu=lu:=by simpa using Lx
      subst Lx;rw [← Tq.o] at PV
      exact PV
     have s1:j.cell? ⟨V,J,none⟩=some (.slice Au q cu):=by
      rw [g.cellAt J (by omega),List.getElem?_append_right (by rw [K.o,← Gt.o];omega),K.o,← Gt.o,Nat.sub_self];rfl
     clear q0 q1 q2;have e0:=gH.o.cell 0;have e1:=gH.o.cell 1;have e2:=gH.o.cell 2;have tb1:wr.heap.size < j.heap.size:=by omega
     have hs3:=E.o.size;have X4:=O (show j.ownsRow W.heap.size 65 1 (.slice (some ⟨V,0,none⟩) (J+1) cv) (J+1) (us ++ [(Value.slice Au q cu)]) from by have:=F.o.own;rw [ak5,ak_,← Gt.o] at this;exact this)
     have OB:=O fun (U:World) (u2:Value) (hg:((j.alloc (.cells #[.string (aH t),.bool false,.int .i64 nd] 113)).drew).grownBy U ((Value.slice Au q cu)).ownBlock) (ho:U.ownsRow W.heap.size 113 3 u2 (q+1) (gV ll ++ iM ⟨t,false,nd⟩)) (w:u2.ownBlock=((Value.slice Au q cu)).ownBlock∨∀ b,u2.ownBlock=some b→((j.alloc (.cells #[.string (aH t),.bool false,.int .i64 nd] 113)).drew).heap.size≤b) =>
      RI.last (ls:=C) (l:=ll) (vs:=us) (u:=(Value.slice Au q cu)) (c:=⟨t,false,nd⟩) (by rw [← Gt.o];exact (F.o.below ((Below.refl _ _).alloc (ak0 _) (.cells #[.string (aH t),.bool false,.int .i64 nd] 113))).drew) K.o hg (by rw [Tq.o] at ho;exact ho) w
     have HLI:=O (show (us ++ [(Value.slice Au q cu)])[J]? = some ((Value.slice Au q cu)) from by rw [List.getElem?_append_right (by rw [K.o,← Gt.o];omega),K.o,← Gt.o,Nat.sub_self];rfl);have Y:=O P;obtain⟨R,G⟩:∃ R,R=J+1:=⟨_,rfl⟩;rw [← G];have hws:wrap64 ((R:Int) - 1)=(J:Int):=by unfold wrap64;omega
     have hwt:IntKind.i64.wrap ((R:Int) - 1)=(J:Int):=by rw [IntWalk.i64_in _ (by omega)];omega
     have hi7:(J:Int) < (R:Int):=by omega
     have agp:(0:Int)≤(J:Int):=by omega
     have HM1:=O G;clear G;clear P;go_wp2_with fail;go_region_law ((refine step_append_lies _ (by rfl) _ _ _ (by rfl) W.heap.size 113 i1 _ 3 32 Tryz.underlying65 hi1 hy0 hy1 hy2 rfl (by omega) _ q (gV ll) (by rfl) ((Y.o.alloc _).drew) ⟨j.heap.size,0,none⟩ 1 1 (iM ⟨t,false,nd⟩) (by rfl) (by rfl) (World.news_of_block (cs:=#[.string (aH t),.bool false,.int .i64 nd]) (t:=113) (fr:=(0,0)) (heap_alloc_new j _)) (o7 _) (by omega) (by simp only [maxLen];omega) (by omega) (by simp;omega) (j.heap.size+1) (by simp) ?_;intro gg D U Bl f w T;have kk:=((X4.o.alloc (.cells #[.string (aH t),.bool false,.int .i64 nd] 113)).drew).kept f (eY ((X4.o.alloc (.cells #[.string (aH t),.bool false,.int .i64 nd] 113)).drew) ((Y.o.alloc (.cells #[.string (aH t),.bool false,.int .i64 nd] 113)).drew) (by decide));have s4:U.cell? ⟨V,J,none⟩=some ((Value.slice Au q cu)):=(kk.cellAt J (by omega)).trans HLI.o;have f4:=kk.frozenAt J;clear kk))
     all_goals
      have H:=OB.o U (.slice (some ⟨gg,0,none⟩) (q+1) D) f Bl (by
       rcases w with e | e
       ·left;exact e.symm
       ·right
        intro z M;have M:gg=z:=by simpa [Value.ownBlock] using M
        simp
        omega)
      have e4:jT (l.take (k+1))=C ++ [ll ++ [⟨t,false,nd⟩]]:=by rw [Dk.o,HTN.o]
      rw [← e4,← Gt.o,← HM1.o] at H
      have HR4:=O H;have qM:=O ((((E.o.alloc hs3 (.cells #[.string (aH t),.bool false,.int .i64 nd] 113)).drew).grown f (by simp;omega) (fun z M=>(Y.o.lt z M).1)).setCell (p:=⟨V,J,none⟩) Y8 (.slice (some ⟨gg,0,none⟩) (q+1) D));clear H e4 w f Bl T s4 f4 OB Y X4 E F;go_wp2_with fail;exact⟨⟨k+1,_,by omega,by go_num,HR4,qM⟩,by simp [intOf];omega⟩
   ·have HTN:=O (show j_ rs ⟨t,true,nd⟩=rs ++ [[] ++ [⟨t,true,nd⟩]] from by unfold j_;rw [if_pos (.inl rfl)];rfl);obtain⟨i,y⟩:∃ r,r=rs.length:=⟨_,rfl⟩;rw [← y];have I:=O y;have hrb:i≤100000:=by rw [y];omega
    clear y;go_upto_region 4 with (fail)
    generalize wr.alloc (.cells #[.string (aH t),.bool true,.int .i64 nd] 113)=w2 at N X Ku ⊢
    have d0:=N.o.cell 0;have d1:=N.o.cell 1;have d2:=N.o.cell 2;have hs2:=Ku.o.size;have HO:=O (show w2.ownsRow W.heap.size 65 1 (.slice Av i cv) i vs from by have:=X.o.own;rw [← I.o] at this;exact this);clear q0 q1 q2
    go_upto_region 6 with (at_builtin;go_loud (
     refine wpList_append_own _ rfl (.tmp 19) (.tmp 20) 63 rfl W.heap.size 65 i0 _ 1 24 Tryz.underlying63 hi0 hz0 hz1 hz2 rfl (by decide) _ i vs rfl (HO.o.alloc _) ⟨w2.heap.size,0,none⟩ 1 1 [.slice none 0 0] rfl rfl (iD w2 [.slice none 0 0] _) (fun v hv=>by rw [List.mem_singleton.1 hv];rfl) (by simp only [maxLen];omega) (by omega) (by simp;omega) ?_;intro v3 j g L _))
    obtain⟨A3,c3,rfl⟩:=d_ g;obtain⟨V,af8,hv3,S⟩:=g.form (by omega);injection hv3 with Zk Zl Zm
    subst Zk;subst Zm;clear Zl;have hgp:=S.2;have Y8:=S.1;have hz1':(w2.alloc (.cells #[.slice none 0 0] 65)).heap.size≤j.heap.size:=L.size;have hz2':wr.heap.size < w2.heap.size:=N.o.lt;have agH:w2.heap.size < j.heap.size:=by simp at hz1';omega
    have F:=O (show RI j W.heap.size (.slice (some ⟨V,0,none⟩) (i+1) c3) (rs ++ [[]]) (vs ++ [.slice none 0 0]) from (X.o.below ((Below.refl _ _).alloc (ak0 _) (.cells #[.slice none 0 0] 65))).new (by rw [← I.o];exact L) (by rw [← I.o];exact g));have gH:=O ((N.o.alloc (.cells #[.slice none 0 0] 65)).grown L (fun e=>bD (HO.o.alloc (.cells #[.slice none 0 0] 65)) (N.o.alloc (.cells #[.slice none 0 0] 65)) (by decide) e.symm));have E:=O ((Ku.o.alloc hs2 (.cells #[.slice none 0 0] 65)).grown L (by simp;omega) (fun z M=>(HO.o.lt z M).1));have K:=O (show vs.length=rs.length from by rw [X.o.len]);have P:j.ownsRow W.heap.size 113 3 (.slice none 0 0) 0 (gV []):=World.ownsRow_nil _ _ _ _
    have s1:j.cell? ⟨V,i,none⟩=some (.slice none 0 0):=by
     rw [g.cellAt i (by omega),List.getElem?_append_right (by rw [K.o,← I.o];omega),K.o,← I.o,Nat.sub_self];rfl
    have Tq:=O (show (0:Nat)=([]:List Pz).length from rfl);have e0:=gH.o.cell 0;have e1:=gH.o.cell 1;have e2:=gH.o.cell 2;have tb1:wr.heap.size < j.heap.size:=by omega
    have hs3:=E.o.size;have X4:=O (show j.ownsRow W.heap.size 65 1 (.slice (some ⟨V,0,none⟩) (i+1) c3) (i+1) (vs ++ [(Value.slice none 0 0)]) from by have:=F.o.own;rw [ak5,ak_,← I.o] at this;exact this)
    have OB:=O fun (U:World) (u2:Value) (hg:((j.alloc (.cells #[.string (aH t),.bool true,.int .i64 nd] 113)).drew).grownBy U ((Value.slice none 0 0)).ownBlock) (ho:U.ownsRow W.heap.size 113 3 u2 (0+1) (gV [] ++ iM ⟨t,true,nd⟩)) (w:u2.ownBlock=((Value.slice none 0 0)).ownBlock∨∀ b,u2.ownBlock=some b→((j.alloc (.cells #[.string (aH t),.bool true,.int .i64 nd] 113)).drew).heap.size≤b) =>
     RI.last (ls:=rs) (l:=[]) (vs:=vs) (u:=(Value.slice none 0 0)) (c:=⟨t,true,nd⟩) (by rw [← I.o];exact (F.o.below ((Below.refl _ _).alloc (ak0 _) (.cells #[.string (aH t),.bool true,.int .i64 nd] 113))).drew) K.o hg (by rw [Tq.o] at ho;exact ho) w
    have HLI:=O (show (vs ++ [(Value.slice none 0 0)])[i]? = some ((Value.slice none 0 0)) from by rw [List.getElem?_append_right (by rw [K.o,← I.o];omega),K.o,← I.o,Nat.sub_self];rfl);have Y:=O P;obtain⟨R,G⟩:∃ R,R=i+1:=⟨_,rfl⟩;rw [← G];have hws:wrap64 ((R:Int) - 1)=(i:Int):=by unfold wrap64;omega
    have hwt:IntKind.i64.wrap ((R:Int) - 1)=(i:Int):=by rw [IntWalk.i64_in _ (by omega)];omega
    have hi7:(i:Int) < (R:Int):=by omega
    have agp:(0:Int)≤(i:Int):=by omega
    have HM1:=O G;clear G;clear P;go_wp2_with fail;go_region_law ((refine step_append_lies _ (by rfl) _ _ _ (by rfl) W.heap.size 113 i1 _ 3 32 Tryz.underlying65 hi1 hy0 hy1 hy2 rfl (by omega) _ 0 (gV []) (by rfl) ((Y.o.alloc _).drew) ⟨j.heap.size,0,none⟩ 1 1 (iM ⟨t,true,nd⟩) (by rfl) (by rfl) (World.news_of_block (cs:=#[.string (aH t),.bool true,.int .i64 nd]) (t:=113) (fr:=(0,0)) (heap_alloc_new j _)) (o7 _) (by omega) (by simp only [maxLen];omega) (by omega) (by simp;omega) (j.heap.size+1) (by simp) ?_;intro gg D U Bl f w T;have kk:=((X4.o.alloc (.cells #[.string (aH t),.bool true,.int .i64 nd] 113)).drew).kept f (eY ((X4.o.alloc (.cells #[.string (aH t),.bool true,.int .i64 nd] 113)).drew) ((Y.o.alloc (.cells #[.string (aH t),.bool true,.int .i64 nd] 113)).drew) (by decide));have s4:U.cell? ⟨V,i,none⟩=some ((Value.slice none 0 0)):=(kk.cellAt i (by omega)).trans HLI.o;have f4:=kk.frozenAt i;clear kk))
    all_goals
     have H:=OB.o U (.slice (some ⟨gg,0,none⟩) (0+1) D) f Bl (by
      rcases w with e | e
      ·left;exact e.symm
      ·right
       intro z M;have M:gg=z:=by simpa [Value.ownBlock] using M
       simp
       omega)
     have e4:jT (l.take (k+1))=rs ++ [[] ++ [⟨t,true,nd⟩]]:=by rw [Dk.o,HTN.o]
     rw [← e4,← I.o,← HM1.o] at H
     have HR4:=O H;have qM:=O ((((E.o.alloc hs3 (.cells #[.string (aH t),.bool true,.int .i64 nd] 113)).drew).grown f (by simp;omega) (fun z M=>(Y.o.lt z M).1)).setCell (p:=⟨V,i,none⟩) Y8 (.slice (some ⟨gg,0,none⟩) (0+1) D));clear H e4 w f Bl T s4 f4 OB Y X4 E F;go_wp2_with fail;exact⟨⟨k+1,_,by omega,by go_num,HR4,qM⟩,by simp [intOf];omega⟩
  ·obtain rfl:k=n:=by omega
   have HRF:=O (show ∃ vs,RI wr W.heap.size _ (jT l) vs from ⟨vs,by have h:=HR.o;rw [ak4 (by rw [HN.o];omega)] at h;exact h⟩);have y1:¬ (k:Int) < (k:Int):=by omega
   clear hlt;go_wp2_with fail;go_ret;exact⟨_,rfl,HRF.o,HB.o⟩
end
