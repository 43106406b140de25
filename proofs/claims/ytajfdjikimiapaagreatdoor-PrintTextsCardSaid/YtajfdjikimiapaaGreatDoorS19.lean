/-
  A part of the proof.
-/
import Derived.Test.YtajfdjikimiapaaGreatDoorS18
set_option linter.all false
set_option maxRecDepth 100000
set_option maxHeartbeats 4000000
namespace Mist
def Sh (l:List Pz):Prop:=∀ p ∈ l,p.text.length≤12
theorem iw:Sh []:=fun _ h=>by cases h
theorem bI {p:Pz}{l:List Pz}(h:p.text.length≤12)(b:Sh l):Sh (p :: l):=fun q a=>by
 rcases List.mem_cons.1 a with rfl | a
 ·exact h
 ·exact b q a
theorem iK {a b:List Pz}(f:Sh a)(g:Sh b):Sh (a ++ b):=fun q e=>by
 rcases List.mem_append.1 e with e | e
 ·exact f q e
 ·exact g q e
theorem sh_head (c:Bool){l:List Pz}(h:Sh l):Sh (aH c l):=by
 cases l with
 | nil=>exact h
 | cons x l=>exact bI (h x (List.mem_cons_self ..)) fun q a=>h q (List.mem_cons_of_mem _ a)
theorem QA {L:Nat→List Pz}:∀ m,(∀ j,j < m→Sh (L j))→Sh (dZ L m)
 | 0,_=>iw
 | m+1,h=>by
  rw [dZ];split
  ·rename_i h0;subst h0;exact h 0 (by omega)
  ·exact iK (QA m fun j a=>h j (by omega)) (bI (by decide) (sh_head _ (h m (by omega))))
theorem ads {T:Tr}{B:Nat→List Pz}{i j:Nat}(h:Sh (B ((nd T i).kids.getD j 0).toNat)):Sh (bM T B i j):=by
 unfold bM;simp only
 split
 ·exact h
 ·exact bI (by decide) (iK (sh_head _ h) (bI (by decide) iw))
theorem YO (k:Nat):(mQ k).length≤12:=by
 by_cases h:k < 18
 ·have:∀ j:Fin 18,(mQ j.val).length≤12:=by decide
  exact this ⟨k,h⟩
 ·unfold mQ
  (repeat rw [if_neg (by omega)])
  decide
theorem xu {n:Int}(h:n < 10000)(h0:0≤n):(Go.Lib.itoa n).length≤12:=by
 have:=(SH h0 h).2.2
 omega
theorem XZ {T:Tr}{B:Nat→List Pz}{i:Nat}(h:ZW T i)(r:NmZ (nd T i))(t:∀ j,j < (nd T i).kids.length→Sh (B ((nd T i).kids.getD j 0).toNat)):Sh (aW T B i):=by
 have gk:∀ j,j < (nd T i).kids.length→Sh (bM T B i j):=fun j o=>ads (t j o)
 have b:∀ m,m≤(nd T i).kids.length→Sh (dD T B i m):=fun m y=>QA m fun j o=>gk j (by omega)
 obtain⟨c1,c2,c3,c4⟩:=h.cases;have nm:∀ {k:Nat},(nd T i).kind=k→jN k=true→(nd T i).text.length≤12:=fun e w=>(S_ (h.nm e w)).2
 have f:(nd T i).kind=1∨(nd T i).kind=2∨(nd T i).kind=3∨(nd T i).kind=32∨(nd T i).kind=4∨(nd T i).kind=5∨(6≤(nd T i).kind∧(nd T i).kind≤18)∨(nd T i).kind=19∨(nd T i).kind=20∨(nd T i).kind=21∨(nd T i).kind=22∨(nd T i).kind=23∨(nd T i).kind=24∨(nd T i).kind=25∨(nd T i).kind=34∨(nd T i).kind=26∨(nd T i).kind=30∨(nd T i).kind=31∨(nd T i).kind=33∨(nd T i).kind=40∨(nd T i).kind=41∨(nd T i).kind=42∨(nd T i).kind=43∨(nd T i).kind=44∨(nd T i).kind=45∨(nd T i).kind=46:=by omega
 rcases f with e | e | e | e | e | e | e | e | e | e | e | e | e | e | e | e | e | e | e | e | e | e | e | e | e | e
 ·rw [uq e];have g:=aaN e h.num;unfold gI;split
  ·exact bI (by simp [tz]) (bI (xu (by omega) (by omega)) iw)
  ·exact bI (xu (by omega) (by omega)) iw
 ·rw [BQ e];split <;> exact bI (by simp [tz]) iw
 ·rw [BS e];exact bI (nm e (by decide)) iw
 ·rw [xP e];exact bI (nm e (by decide)) iw
 ·rw [BU e];have a:=h.len e (many1 (by decide));exact bI (by simp [tz]) (sh_head _ (gk 0 (by omega)))
 ·rw [BZ e];have a:=h.len e (many1 (by decide));exact bI (by simp [tz]) (sh_head _ (gk 0 (by omega)))
 ·rw [yc (.inr (.inl e))];have a:=h.len rfl (qd (.inl e));exact iK (gk 0 (by omega)) (bI (YO _) (sh_head _ (gk 1 (by omega))))
 ·rw [xD e];have a:=h.len e XU;exact bI (by simp [tz]) (iK (sh_head _ (gk 0 (by omega))) (bI (by decide) (iK (sh_head _ (gk 1 (by omega))) (bI (by decide) (sh_head _ (gk 2 (by omega)))))))
 ·rw [xE e];have a:=h.len e (qd (by omega));exact bI (by simp [tz]) (bI (nm e (by decide)) (bI (by decide) (iK (sh_head _ (gk 0 (by omega))) (bI (by decide) (sh_head _ (gk 1 (by omega)))))))
 ·rw [xG e];exact bI (nm e (by decide)) (bI (by decide) (iK (sh_head _ (b _ (aiv _))) (bI (by decide) iw)))
 ·rw [xH e];have a:=h.len e (many1 (by decide));exact iK (gk 0 (by omega)) (bI (by simp [tz]) (bI (nm e (by decide)) iw))
 ·rw [xI e];have a:=h.len e (qd (by omega));exact iK (gk 0 (by omega)) (bI (by simp [tz]) (iK (sh_head _ (gk 1 (by omega))) (bI (by decide) iw)))
 ·rw [xJ e];exact bI (nm e (by decide)) (bI (by decide) (iK (sh_head _ (b _ (aiv _))) (bI (by decide) iw)))
 ·rw [xK e];have a:=h.len e (many1 (by decide));exact bI (nm e (by decide)) (bI (by decide) (sh_head _ (gk 0 (by omega))))
 ·rw [xR e];have a:=h.len e (many1 (by decide));exact bI (nm e (by decide)) (bI (by decide) (sh_head _ (gk 0 (by omega))))
 ·rw [xL e];exact bI (by simp [tz]) (iK (sh_head _ (b _ (aiv _))) (bI (by decide) iw))
 ·rw [xM e];exact bI (by simp [tz]) iw
 ·rw [xO e];exact bI (by simp [tz]) iw
 ·rw [xQ e];have a:=h.len e (many1 (by decide));have g:=r.Qn e;exact bI (by simp [tz]) (iK (sh_head _ (gk 0 (by omega))) (bI (by decide) (bI (xu (by omega) (by omega)) (bI (by decide) iw))))
 ·rw [xU e];have a:=h.len e (qd (by omega));exact bI (by simp [tz]) (bI (nm e (by decide)) (bI (by decide) (iK (sh_head _ (gk 0 (by omega))) (bI (by decide) (iK (sh_head _ (gk 1 (by omega))) (bI (by decide) iw))))))
 ·rw [xV e];exact bI (by simp [tz]) (bI (nm e (by decide)) (bI (by decide) (bI (by decide) (iK (sh_head _ (b _ (aiv _))) (bI (by decide) (bI (by decide) iw))))))
 ·rw [xW e];have a:=Ol _ e h.many;have g:=r.fn e;refine bI (by simp [tz]) (bI (nm e (by decide)) (bI (by decide) (iK (sh_head _ (b _ (by omega))) (bI (by decide) (bI (by decide) (iK (sh_head _ (gk _ (by omega))) (iK ?_ (bI (by decide) (iK (sh_head _ (gk _ (by omega))) (bI (by decide) iw))))))))));split
  ·exact bI (by decide) (bI (xu (by omega) (by omega)) iw)
  ·exact iw
 ·rw [xX e];have a:=h.len e (many1 (by decide));exact bI (by simp [tz]) (bI (nm e (by decide)) (bI (by decide) (iK (sh_head _ (gk 0 (by omega))) (bI (by decide) iw))))
 ·rw [xY e];have a:=h.len e (many1 (by decide));exact bI (by simp [tz]) (bI (nm e (by decide)) (bI (by decide) (iK (sh_head _ (gk 0 (by omega))) (bI (by decide) iw))))
 ·rw [xZ e];exact bI (by simp [tz]) (bI (nm e (by decide)) (bI (by decide) iw))
 ·rw [x9 e];have g:=X4 e h.num;have x:∀ q:Fin 9,(gG.getD q.val []).length≤12:=by decide
  exact bI (by simp [tz]) (bI (x ⟨(nd T i).n.toNat,by omega⟩) (iK (sh_head _ (b _ (aiv _))) (bI (by decide) iw)))
theorem wN {T:Tr}(a:GD T):∀ f i,i < T.nodes.length→Sh (ah T f i)
 | 0,_,_=>iw
 | f+1,i,hi=>XZ (U5 (a.right i hi)) (a.num i hi) fun j e=>by
  obtain⟨q,b,g⟩:=a.kid hi e;rw [ait,b];exact wN a f q (by omega)
theorem qW:∀ {l:List Pz},Sh l→(dW l).length≤13 * l.length
 | [],_=>aiv _
 | p :: l,h=>by
  have h1:=h p (List.mem_cons_self ..);have h2:=qW (l:=l) fun q a=>h q (List.mem_cons_of_mem _ a)
  have e:dW (p :: l)=(if p.blank then [32] else []) ++ (p.text ++ dW l):=rfl;rw [e,aiA,aiA,List.length_cons];split <;> simp <;> omega
end Mist
set_option linter.all false
namespace Go.Proofs.YtajfdjikimiapaaGreatDoor
section
open Go.RowKit Mist
attribute [local go_sem] au aN aV aM aG
theorem qP {w f:World}{g base e size n:Nat}{v:Value}{xs:List Value}(h:w.ownsRow base e size v n xs)(t:kL g w f)(j:v.ownBlock ≠ some g)(k:e ≠ 5):f.ownsRow base e size v n xs:=by
 refine⟨h.1,?_⟩
 rcases h.2 with h2 | ⟨b,cap,a,hv,o,q,r⟩
 ·exact .inl h2
 ·exact .inr ⟨b,cap,a,hv,o,t.cell q (fun i=>j (by rw [hv,i];rfl)) k,r⟩
theorem yZ.spare {w j:World}{g base T:Nat}{cs:Array Value}{v:Value}{ls:List (List Pz)}{vs:List Value}(h:yZ w base v ls vs)(i:kL g w j)(f:aZ w g T cs)(h1:T ≠ 52)(h2:T ≠ 92):yZ j base v ls vs :=
 ⟨qP h.own i (bJ h.own f (Ne.symm h1)) (by decide),h.len,fun k l e=>by
  obtain⟨u,a,b⟩:=h.row k l e;have b:w.ownsRow 0 92 3 u l.length (fP l):=b;exact⟨u,a,qP b i (bJ b f (Ne.symm h2)) (by decide)⟩⟩
theorem yN.blk {T B g:Nat}{a:Bs}{w:World}(h:yN T B g [] a w):∃ cs,aZ w g T cs:=by
 obtain⟨p,_,v,b,_⟩:=h.any;exact⟨_,b⟩
theorem Lu (s:Bs)(k:Nat)(W:World):Calls Tryz.prog 71 #[.string (aU s),.int .i64 k] W fun e f=>e=.returned (.tuple #[.string (aU (jA s k).1),.int .i64 ((jA s k).2:Nat)])∧f=W:=by
 obtain⟨n,a⟩:∃ n,n=s.length:=⟨_,rfl⟩;have h:=O a;by_cases h1:2000 < n
 ·have b:=O (show jA s k=([],5) from by unfold jA;rw [if_pos (by rw [← a];exact .inl h1)]);have z:(2000:Int) < (s.length:Int):=by omega
  clear a h1;go_in
  go_wp2_with fail;go_ret2
  exact⟨by rw [b.o];rfl,rfl⟩
 ·have z:¬ (2000:Int) < (s.length:Int):=by omega
  by_cases h2:800 < k
  ·have b:=O (show jA s k=([],5) from by unfold jA;rw [if_pos (.inr h2)]);have g:(800:Int) < (k:Int):=by omega
   clear a h1 h2;go_in
   go_wp2_with fail;go_ret2
   exact⟨by rw [b.o];rfl,rfl⟩
  ·have b:=O (show jA s k=(s,0) from by unfold jA;rw [if_neg (by rw [← a];omega)]);have g:¬ (800:Int) < (k:Int):=by omega
   clear a h1 h2;go_in
   go_wp2_with fail;go_ret2
   exact⟨by rw [b.o];rfl,rfl⟩
theorem abt {W:World}{v:Value}{l:List Pz}(h:uN W v l)(f:Sh l)(q:l.length≤100000) :
  Calls Tryz.prog 34 #[v] W fun e k=>e=.returned (.tuple #[.string (aU (jA (dW l) l.length).1),.int .i64 ((jA (dW l) l.length).2:Nat)])∧Below W.heap.size W k:=by
 obtain⟨A,c,rfl,a⟩:=h.form;have i:=O (Ph A c l W a (by omega) (by have:=qW f;omega));have j:=O fun W=>Lu (dW l) l.length W
 generalize l.length=m at *
 clear h a f;go_in
 go_wp2_with fail;refine i.o.mono ?_;rintro e w2⟨rfl,b⟩;have g:=O b;clear b;go_wp2_with fail;refine (j.o w2).mono ?_;rintro e r⟨rfl,rfl⟩;go_wp2_with fail;go_ret2
 exact⟨rfl,g.o⟩
section
variable {W:World} {A Bi:Option Addr} {n c m d:Nat} {xs:List NV} {its:List Int}
def DW (T:Tr):List (List Pz):=qj T (T.nodes.length+2) T.items
theorem KL {T:Tr}(b:GD T)(e:∀ a ∈ T.items,∃ i:Nat,a=(i:Int)∧i < T.nodes.length):∀ l ∈ DW T,Sh l∧l.length≤12 * T.nodes.length:=by
 intro l g;unfold DW qj at g
 obtain⟨a,h,rfl⟩:=List.mem_map.1 g;obtain⟨i,rfl,hi⟩:=e a h
 refine⟨sh_head _ (wN b _ _ hi),?_⟩
 have:=y9 b.right b.fo (f:=T.nodes.length+2) hi (by omega)
 unfold lG;rw [ak];simp only [aiC];omega
theorem XP {ls:List (List Pz)}{K:Nat}(h:∀ l ∈ ls,Sh l∧l.length≤K):(kQ ls).length≤ls.length * (13 * K+1)∧oh ls≤ls.length * K:=by
 induction ls with
 | nil=>simp [kQ,oh]
 | cons l ls b =>
  have h1:=h l (List.mem_cons_self ..);have h2:=b fun x a=>h x (List.mem_cons_of_mem _ a)
  have h3:=qW h1.1;have e:oh (l :: ls)=l.length+oh ls:=by simp [oh]
  rw [e];simp only [kQ,aiA,List.length_cons,Nat.add_mul,Nat.one_mul];omega
end
end
set_option linter.all false
section
open Go.RowKit Mist
attribute [local go_sem] au aN aV aM aG
def yw (T:Tr):Bs × Nat:=jA (kQ (DW T)) (oh (DW T))
section
variable {W:World} {A Bi:Option Addr} {n c m d:Nat} {xs:List NV} {its:List Int}
def acw (T:Tr):Prop:=∀ a ∈ T.items,∃ i:Nat,a=(i:Int)∧i < T.nodes.length∧dB (nd T i).kind=true
theorem abm {ls:List (List Pz)}{K:Nat}(h:∀ l ∈ ls,Sh l∧l.length≤K)(b:K≤12000)(e:ls.length≤1000)(k:Nat):(kQ (ls.take k)).length≤200000000∧oh (ls.take k)≤20000000:=by
 have h1:=XP (ls:=ls.take k) (K:=K) fun l a=>h l (List.mem_of_mem_take a)
 have h2:(ls.take k).length≤1000:=by rw [List.length_take];omega
 have h3:(ls.take k).length * (13 * K+1)≤1000 * 156001:=Nat.mul_le_mul h2 (by omega);have h4:(ls.take k).length * K≤1000 * 12000:=Nat.mul_le_mul h2 (by omega);omega
theorem TI (X:WX W A Bi n xs its)(hm:its.length=m)(S:acw ⟨aj xs,its⟩)(Y:m≤1000) :
  Calls Tryz.prog 46 #[.agg #[.slice A n c,.slice Bi m d]] W fun e W'=>e=.returned (.tuple #[.string (aU (yw ⟨aj xs,its⟩).1),.int .i64 ((yw ⟨aj xs,its⟩).2:Nat)])∧Below W.heap.size W W':=by
 have j:=X.nodes;obtain⟨ls,h⟩:∃ ls,ls=DW ⟨aj xs,its⟩:=⟨_,rfl⟩;have r:ls.length=m:=by rw [h];unfold DW qj;rw [List.length_map];exact hm
 have Jm:=O (abm (ls:=ls) (K:=12 * n) (by rw [h,← j];exact KL X.ok fun a H=>by obtain⟨i,h1,h2,_⟩:=S a H;exact⟨i,h1,h2⟩) (by have:=X.few;omega) (by rw [r];exact Y));have MJ:=O (show ∀ l ∈ ls,Sh l∧l.length≤12 * n from by rw [h,← j];exact KL X.ok fun a H=>by obtain⟨i,h1,h2,_⟩:=S a H;exact⟨i,h1,h2⟩);have HPT:=O (show yw ⟨aj xs,its⟩=jA (kQ ls) (oh ls) from by rw [h];rfl);have g:=O r;have HN:=O X.few;have e1:(W.alloc (.cells #[.slice A n c,.slice Bi m d] 25)).heap.size=W.heap.size+1:=by simp
 have x:=O (((Below.refl W.heap.size W).alloc (aiv _) (.cells #[.slice A n c,.slice Bi m d] 25)).alloc (by simp) (.cells #[.pointer none,.slice none 0 0] 49));have L:=yN.fresh 49 [] (W.alloc (.cells #[.slice A n c,.slice Bi m d] 25));rw [e1] at L
 have F:=O L
 have Q:=O (aaG (c:=c) (d:=d) (f:=n+1) (X.below x.o) hm (aiv _) (by
  rcases Nat.eq_zero_or_pos n with h0 | h0
  ·right
   rcases Nat.eq_zero_or_pos m with h1 | h1
   ·exact h1
   ·obtain⟨a,H⟩:∃ a,a ∈ its:=by
     cases its with
     | nil=>simp at hm;omega
     | cons a t=>exact⟨a,List.mem_cons_self ..⟩
    obtain⟨i,_,h2,_⟩:=S a H;rw [j] at h2;omega
  ·exact .inl h0) (fun a H=>by obtain⟨i,h1,h2,h3⟩:=S a H;exact⟨i,h1,by rw [j] at h2;exact h2,h3⟩) Y)
 have Ck:=O (show qj ⟨aj xs,its⟩ (n+1+1) its=ls from by rw [h];unfold DW;rw [j]);have E:((W.alloc (.cells #[.slice A n c,.slice Bi m d] 25)).alloc (.cells #[.pointer none,.slice none 0 0] 49)).heap.size=W.heap.size+2:=by simp
 clear X hm S h r L e1 j;go_in
 go_wp2_with fail;refine Q.o.mono ?_;rintro e w3⟨v,vs,rfl,hL,J⟩;rw [Ck.o] at hL
 have P:=O (x.o.trans (J.mono x.o.size));have Ew:=O (F.o.below J);have kE:=O hL;obtain⟨Av,cv,rfl⟩:=dh hL.own;rw [E] at kE
 rw [g.o] at kE ⊢
 clear hL J F Q x E;go_wp2_with fail;go_loopw [5,7,11] (fun v5 _ N wr=>∃ k:Nat,k≤m∧N=.int .i64 k∧v5=.int .i64 (oh (ls.take k):Nat)∧Hid (yN 49 (W.heap.size+1) (W.heap.size+1) [] (kQ (ls.take k)) wr)∧Hid (yZ wr (W.heap.size+2) (.slice Av m cv) ls vs)∧Hid (Below W.heap.size W wr)) (fun _ _ N _=>m - (intOf N).toNat)
 case atStart=>exact⟨0,aix _,rfl,rfl,Ew,kE,P⟩
 case round =>
  obtain⟨k,hkm,rfl,rfl,F,HL,HB⟩:=hrel;clear Ew kE P;by_cases V:k < m
  ·obtain⟨l,hl⟩:∃ l,ls[k]? = some l:=⟨_,aip (by rw [g.o];exact V)⟩;obtain⟨u,hu,hpr⟩:=HL.o.row k l hl;obtain⟨Au,cu,rfl,Z⟩:=hpr.form;have w:wr.ownsRow (W.heap.size+2) 52 1 (.slice Av m cv) m vs:=by have:=HL.o.own;rw [g.o] at this;exact this
   obtain⟨gp,cap,hv,_⟩:=w.form (by omega);injection hv with hv1 hv2 hv3
   subst hv1;subst hv3;clear hv2;have kq:wr.cell? ⟨gp,k,none⟩=some (.slice Au l.length cu):=by rw [w.cellAt k (by omega)];exact hu
   have D:=aiy hl;have C:=(MJ.o l D);have M:ls.take (k+1)=ls.take k ++ [l]:=by rw [List.take_succ,hl];rfl
   have R:=O (show kQ (ls.take (k+1))=kQ (ls.take k) ++ (dW l ++ [10]) from by rw [M,Kr]);have EA:=O (show oh (ls.take (k+1))=oh (ls.take k)+l.length from by rw [M,Pn]);have I:=Jm.o (k+1);rw [R.o,EA.o,aiA] at I
   have fG:=O I;have Zc:=O (Ph Au cu l wr Z (by have:=C.2;have:=HN.o;omega) (by have:=qW C.1;have:=C.2;have:=HN.o;omega));obtain⟨q,hq⟩:∃ q,q=l.length:=⟨_,rfl⟩;obtain⟨tk,y⟩:∃ t,t=oh (ls.take k):=⟨_,rfl⟩;rw [← hq] at kq Zc
   rw [← y];have HQ:=O hq;have yO:=O y;have hcc:¬ 9223372036854775807 < (dW l).length+1:=by have:=fG.o.1;rw [aiA] at this;omega
   have y0:(0:Int)≤(k:Int):=by omega
   have y1:(k:Int) < (m:Int):=by omega
   have ws:wrap64 ((tk:Int)+(q:Int))=((tk+q:Nat):Int):=by have:=fG.o.2;rw [← y,← hq] at this;unfold wrap64;omega
   clear hl hu hpr Z w D C M I hq y;go_wp2_with fail;refine Zc.o.mono ?_;rintro e w4⟨rfl,b⟩;have mh:=O (HB.o.trans (b.mono HB.o.size));have BF:=O (HL.o.below b);have I9:=O (F.o.below b);clear b kq HB HL F Zc;go_wp2_with fail;refine (iy 49 2 (W.heap.size+1) (W.heap.size+1) kU [] (kQ (ls.take k)) (dW l ++ [10]) w4 I9.o rfl (by have:=fG.o.1;rw [aiA] at this ⊢;omega) (by have:=I9.o.lt;omega)).mono ?_;rintro e w5⟨rfl,G,T,hsp⟩;obtain⟨Zg,U⟩:=I9.o.blk;have kI:=O (BF.o.spare hsp U (by decide) (by decide));have b_:=O (mh.o.trans (T.mono (by omega)));rw [← R.o] at G
   have I_:=O G;clear G T hsp U mh BF I9;go_wp2_with fail;exact⟨⟨k+1,by omega,by go_num,by rw [EA.o,← yO.o,← HQ.o,ws],I_,kI,b_⟩,by simp [intOf];omega⟩
  ·obtain rfl:k=m:=by omega
   have y1:¬ (k:Int) < (k:Int):=by omega
   have htl:ls.take k=ls:=aiz (by rw [g.o];omega);rw [htl] at F ⊢
   have afA:=F.o.lt;clear V htl;go_wp2_with fail;refine (rR 49 (W.heap.size+1) (W.heap.size+1) [] (kQ ls) wr F.o (by omega)).mono ?_;rintro e w4⟨rfl,b⟩;have mh:=O (HB.o.trans (b.mono (by omega)));clear b;go_wp2_with fail;refine (Lu (kQ ls) (oh ls) w4).mono ?_;rintro e w5⟨rfl,rfl⟩;go_wp2_with fail;go_ret2
   exact⟨by rw [HPT.o];rfl,mh.o⟩
end
end
set_option linter.all false
end Go.Proofs.YtajfdjikimiapaaGreatDoor
namespace Mist
def jm (out:List (List Pz))(c:Pz):List (List Pz):=if c.blank=true∨out=[] then out ++ [[c]] else out.dropLast ++ [out.getLastD [] ++ [c]]
def jg (l:List Pz):List (List Pz):=l.foldl jm []
def gU (l:List Pz):Bs:=Go.Lib.trimPrefix (dW l) [32]
theorem K5 (out:List (List Pz))(c:Pz):(jm out c).length≤out.length+1:=by
 unfold jm;split <;> simp
theorem vR (l:List Pz)(c:Pz):jg (l ++ [c])=jm (jg l) c:=by unfold jg;rw [List.foldl_append];rfl
theorem zT (l:List Pz):(jg l).length≤l.length:=by
 have:∀ (n:Nat) (l:List Pz),l.length=n→(jg l).length≤n:=by
  intro n
  induction n with
  | zero=>intro l h;rw [List.length_eq_zero_iff.1 h];exact aiv _
  | succ n f =>
   intro l h;have b:l ≠ []:=fun e=>by rw [e] at h;cases h
   obtain⟨a,x,e⟩:∃ a x,l=a ++ [x]:=⟨l.dropLast,l.getLast b,(List.dropLast_concat_getLast b).symm⟩;subst e;rw [vR];have h1:=K5 (jg a) x;have h2:=f a (by simp at h;exact h);omega
 exact this _ l rfl
theorem K6 {out:List (List Pz)}{c:Pz}{n:Nat}{Q:Pz→Prop}(h:∀ r ∈ out,r.length≤n∧∀ p ∈ r,Q p)(i:Q c):∀ r ∈ jm out c,r.length≤n+1∧∀ p ∈ r,Q p:=by
 intro r b;unfold jm at b
 split at b
 ·rcases List.mem_append.1 b with b | b
  ·exact⟨by have:=(h r b).1;omega,(h r b).2⟩
  ·rw [List.mem_singleton.1 b];exact⟨by simp,fun p f=>by rw [List.mem_singleton.1 f];exact i⟩
 ·rename_i k
  have g:out ≠ []:=fun e=>k (.inr e)
  have j:out.getLastD [] ∈ out:=by
   have e:out.getLastD []=out.getLast g:=by
    cases out with
    | nil=>exact absurd rfl g
    | cons a l=>rfl
   rw [e];exact List.getLast_mem g
  rcases List.mem_append.1 b with b | b
  ·have:=h r (List.dropLast_subset _ b)
   exact⟨by omega,this.2⟩
  ·rw [List.mem_singleton.1 b];have h2:=h _ j
   refine⟨by rw [aiA,aiF];omega,fun p f=>?_⟩
   rcases List.mem_append.1 f with f | f
   ·exact h2.2 p f
   ·rw [List.mem_singleton.1 f];exact i
theorem F8 {Q:Pz→Prop}:∀ (n:Nat) (l:List Pz),l.length=n→(∀ p ∈ l,Q p)→∀ r ∈ jg l,r.length≤n∧∀ p ∈ r,Q p:=by
 intro n
 induction n with
 | zero=>intro l h _ r f;rw [List.length_eq_zero_iff.1 h] at f;cases f
 | succ n i =>
  intro l h hQ;have b:l ≠ []:=fun e=>by rw [e] at h;cases h
  obtain⟨a,x,e⟩:∃ a x,l=a ++ [x]:=⟨l.dropLast,l.getLast b,(List.dropLast_concat_getLast b).symm⟩;subst e;rw [vR];exact K6 (i a (by simp at h;exact h) fun p g=>hQ p (List.mem_append_left _ g)) (hQ x (by simp))
end Mist
namespace Go.Proofs.YtajfdjikimiapaaGreatDoor
section
open Go.RowKit Mist
attribute [local go_sem] au aN aV aM aG
theorem uE {W:World}{v:Value}{l:List Pz}(h:uN W v l)(f:Sh l)(k:l.length≤100000) :
  Calls Tryz.prog 28 #[v] W fun e j=>e=.returned (.string (aU (gU l)))∧Below W.heap.size W j:=by
 obtain⟨A,c,rfl,a⟩:=h.form;have i:=O (Ph A c l W a (by omega) (by have:=qW f;omega))
 generalize l.length=m at *
 clear h a f;go_in
 go_wp2_with fail;refine i.o.mono ?_;rintro e w2⟨rfl,b⟩;have g:=O b;clear b;go_wp2_with fail;refine (Tryz.strings_TrimPrefix (aU (dW l)) (aU [32]) w2).mono ?_;rintro e q⟨rfl,rfl⟩;go_wp2_with fail;go_ret;exact⟨rfl,g.o⟩
theorem Uc {W:World}{v:Value}{l:List Pz}(h:uN W v l)(b:Sh l)(k:l.length≤100000) :
  Calls Tryz.prog 25 #[v] W fun e i=>e=.returned (.int .i64 ((gU l).length:Nat))∧Below W.heap.size W i:=by
 have g:=O (uE h b k);obtain⟨A,c,rfl,j⟩:=h.form
 generalize l.length=m at *
 clear h j b;go_in
 go_wp2_with fail;refine g.o.mono ?_;rintro e w2⟨rfl,a⟩;have f:=O a;clear a;go_wp2_with fail;go_ret;exact⟨rfl,f.o⟩
structure RI (W:World) (B:Nat) (v:Value) (ls:List (List Pz)) (vs:List Value):Prop where
 own:W.ownsRow B 57 1 v ls.length vs
 len:vs.length=ls.length
 row:∀ (k:Nat) (l:List Pz),ls[k]? = some l→∃ u,vs[k]? = some u∧W.ownsRow B 92 3 u l.length (fP l)
 ne:∀ (k:Nat) (u z:Value),k+1 < ls.length→vs[k]? = some u→vs[ls.length - 1]? = some z→∀ b,u.ownBlock=some b→z.ownBlock ≠ some b
section
variable {W w2:World} {B:Nat} {v v2 u u2:Value} {ls:List (List Pz)} {vs:List Value} {l:List Pz} {c:Pz}
theorem RI.below (h:RI W B v ls vs)(f:Below W.heap.size W w2):RI w2 B v ls vs :=
 ⟨own_below h.own f,h.len,fun k l e=>by obtain⟨u,a,b⟩:=h.row k l e;exact⟨u,a,own_below b f⟩,h.ne⟩
theorem RI.new (h:RI W B v ls vs)(o:W.grownBy w2 v.ownBlock)(q:w2.ownsRow B 57 1 v2 (ls.length+1) (vs ++ [.slice none 0 0])):RI w2 B v2 (ls ++ [[]]) (vs ++ [.slice none 0 0]):=by
 refine⟨by rw [aiA];exact q,by simp [h.len],fun k j e=>?_,fun k u z f w g b t=>?_⟩
 ·rcases Nat.lt_or_ge k ls.length with f | f
  ·rw [List.getElem?_append_left f] at e
   obtain⟨r,a,b⟩:=h.row k j e;exact⟨r,by rw [List.getElem?_append_left (by rw [h.len];exact f)];exact a,b.kept o (eT b h.own (by decide))⟩
  ·have i:k=ls.length:=by
    have:=(aiq.1 e).1
    simp at this;omega
   subst i;rw [List.getElem?_append_right (aiv _),Nat.sub_self] at e
   have e:[]=j:=by simpa using e
   subst e;exact⟨.slice none 0 0,by rw [List.getElem?_append_right (by rw [h.len];omega),h.len,Nat.sub_self];rfl,World.ownsRow_nil _ _ _ _⟩
 ·rw [aiA,aiF,Nat.add_sub_cancel,List.getElem?_append_right (by rw [h.len];omega),h.len,Nat.sub_self] at g
  have g:Value.slice none 0 0=z:=by simpa using g
  subst g;simp [Value.ownBlock]
theorem RI.last {C cap:Nat}(h:RI W B (.slice (some ⟨C,0,none⟩) (ls.length+1) cap) (ls ++ [l]) (vs ++ [u]))(t:vs.length=ls.length)(K:W.grownBy w2 u.ownBlock)(M:w2.ownsRow B 92 3 u2 (l.length+1) (fP l ++ gP c))(D:u2.ownBlock=u.ownBlock∨∀ b,u2.ownBlock=some b→W.heap.size≤b) :
  RI (w2.setCell ⟨C,ls.length,none⟩ u2) B (.slice (some ⟨C,0,none⟩) (ls.length+1) cap) (ls ++ [l ++ [c]]) (vs ++ [u2]):=by
 have j:(vs ++ [u])[ls.length]? = some u:=by rw [List.getElem?_append_right (by omega),t,Nat.sub_self];rfl
 obtain⟨P,x,N⟩:=h.row ls.length l (by rw [List.getElem?_append_right (aiv _),Nat.sub_self];rfl);rw [j] at x
 injection x with x
 subst x;have f:=h.own;rw [aiA,aiF] at f
 have g:=f.kept K (eT f N (by decide));have G:=g.stored ls.length u2;have w:(vs ++ [u]).set ls.length u2=vs ++ [u2]:=by rw [← t,List.set_append_right _ _ (aiv _),Nat.sub_self];rfl
 have q:∀ {z:Value} {k:Nat} {xs:List Value},w2.ownsRow B 92 3 z k xs→(w2.setCell ⟨C,ls.length,none⟩ u2).ownsRow B 92 3 z k xs:=fun i =>
  ownsRow_setCell_other i (by
   rcases eT i g (by decide) with e | e
   ·rw [e];simp
   ·exact e) _
 refine⟨?_,by simp [t],fun k o e=>?_,fun k z y r i hy b J=>?_⟩
 ·rw [aiA,aiF]
  have:=G.1
  rw [w] at this
  exact this
 ·rcases Nat.lt_or_ge k ls.length with r | r
  ·rw [List.getElem?_append_left r] at e
   obtain⟨z,a,i⟩:=h.row k o (by rw [List.getElem?_append_left r];exact e);rw [List.getElem?_append_left (by omega)] at a
   refine⟨z,by rw [List.getElem?_append_left (by omega)];exact a,q (i.kept K ?_)⟩
   rcases I:z.ownBlock with _ | b
   ·exact .inl rfl
   ·exact .inr (Ne.symm (h.ne k z u (by simp;omega) (by rw [List.getElem?_append_left (by omega)];exact a) (by rw [aiA,aiF,Nat.add_sub_cancel];exact j) b I))
  ·have E:k=ls.length:=by
    have:=(aiq.1 e).1
    simp at this;omega
   subst E;rw [List.getElem?_append_right (aiv _),Nat.sub_self] at e
   have e:l ++ [c]=o:=by simpa using e
   subst e;exact⟨u2,by rw [List.getElem?_append_right (by omega),t,Nat.sub_self];rfl,q (by rw [aiA,aiF,D6];exact M)⟩
 ·rw [aiA,aiF] at r
  rw [aiA,aiF,Nat.add_sub_cancel,List.getElem?_append_right (by omega),t,Nat.sub_self] at hy
  have hy:u2=y:=by simpa using hy
  subst hy;rw [List.getElem?_append_left (by omega)] at i
  rcases D with e | e
  ·rw [e];exact h.ne k z u (by simp;omega) (by rw [List.getElem?_append_left (by omega)];exact i) (by rw [aiA,aiF,Nat.add_sub_cancel];exact j) b J
  ·intro L;have h1:=e b L;obtain⟨o,F⟩:∃ o,(ls ++ [l])[k]? = some o:=⟨_,aip (by simp;omega)⟩;obtain⟨Q,a,H⟩:=h.row k o F;rw [List.getElem?_append_left (by omega),i] at a
   injection a with a
   subst a
   have:=(World.ownsRow.lt H b J).2
   omega
end
theorem RI.drew {W:World}{B:Nat}{v:Value}{ls:List (List Pz)}{vs:List Value}(h:RI W B v ls vs):RI W.drew B v ls vs:=⟨h.own,h.len,h.row,h.ne⟩
theorem YE:(Tryz.prog.info? 57).map (fun i=>(i.zero,i.size,i.bytes))=some (some (.slice none 0 0),1,24):=by kernel_rfl
theorem adp {W:World}{A:Option Addr}{c n:Nat}{l:List Pz}(h:Rj W A l)(hn:l.length=n)(hl:n≤100000) :
  Calls Tryz.prog 22 #[.slice A n c] W fun e W'=>∃ v,e=.returned v∧(∃ vs,RI W' W.heap.size v (jg l) vs)∧Below W.heap.size W W':=by
 obtain⟨i0,hi0,hz0,hz1,hz2⟩:=info_parts YE;obtain⟨i1,hi1,hy0,hy1,hy2⟩:=info_parts vN;have HP:=O h;have HN:=O hn;clear h hn;go_in
 go_wp2_with fail;go_loopw [2,4,5,8] (fun v2 _ _ XB wr=>∃ (k:Nat) (vs:List Value),k≤n∧XB=.int .i64 k∧Hid (RI wr W.heap.size v2 (jg (l.take k)) vs)∧Hid (Below W.heap.size W wr)) (fun _ _ _ XB _=>n - (intOf XB).toNat)
 case atStart=>exact⟨0,[],aix _,rfl,O ⟨World.ownsRow_nil _ _ _ _,rfl,fun k l e=>by simp [jg] at e,fun k u z hk=>by simp [jg] at hk⟩,O (Below.refl _ _)⟩
 case round =>
  obtain⟨k,vs,hkm,rfl,HR,HB⟩:=hrel;by_cases hlt:k < n
  ·obtain⟨p,hp⟩:∃ p,l[k]? = some p:=⟨_,aip (by rw [HN.o];exact hlt)⟩;obtain⟨b,o,hA,hbl,hc⟩:=(HP.o.below HB.o).at_ (by rw [HN.o];omega);subst hA;obtain⟨q0,q1,q2⟩:=hc k p hp;have htk:l.take (k+1)=l.take k ++ [p]:=by rw [List.take_succ,hp];rfl
   have yO:=O (show jg (l.take (k+1))=jm (jg (l.take k)) p from by rw [htk,vR]);obtain⟨rs,hrs⟩:∃ rs,rs=jg (l.take k):=⟨_,rfl⟩;rw [← hrs] at yO HR
   have hrl:rs.length≤k:=by have:=zT (l.take k);rw [← hrs,List.length_take] at this;omega
   have hrm:∀ r ∈ rs,r.length≤k:=by rw [hrs];intro r hr;have:=(F8 (Q:=fun _=>True) _ _ rfl (fun _ _=>trivial) r hr).1;rw [List.length_take] at this;omega
   clear htk hc hp hrs;obtain⟨t,bl,nd⟩:=p;simp only at q0 q1 q2
   have y0:(0:Int)≤(k:Int):=by omega
   have y1:(k:Int) < (n:Int):=by omega
   have hsz:=HB.o.size;obtain⟨Av,cv,rfl⟩:=dh HR.o.own;have N:=O (aZ.new wr 92 #[.string (aU t),.bool bl,.int .i64 nd]);have X:=O (HR.o.below ((Below.refl _ _).alloc (aiv _) (.cells #[.string (aU t),.bool bl,.int .i64 nd] 92)));have I8:=O (HB.o.alloc hsz (.cells #[.string (aU t),.bool bl,.int .i64 nd] 92));cases bl
   ·by_cases Z:rs=[]
    ·have Rf:=O (show jm rs ⟨t,false,nd⟩=rs ++ [[] ++ [⟨t,false,nd⟩]] from by unfold jm;rw [if_pos (.inr Z)];rfl);obtain⟨i,y⟩:∃ r,r=rs.length:=⟨_,rfl⟩;rw [← y];have I:=O y;have hrb:i≤100000:=by rw [y];omega
     have hze:((i:Int) == 0)=true:=by rw [y,Z];rfl
     clear y;go_upto_region 4 with (fail)
     generalize wr.alloc (.cells #[.string (aU t),.bool false,.int .i64 nd] 92)=w2 at N X I8 ⊢
     have d0:=N.o.cell 0;have d1:=N.o.cell 1;have d2:=N.o.cell 2;have hs2:=I8.o.size;have HO:=O (show w2.ownsRow W.heap.size 57 1 (.slice Av i cv) i vs from by have:=X.o.own;rw [← I.o] at this;exact this);clear q0 q1 q2
     go_upto_region 6 with (at_builtin;go_loud (
      refine wpList_append_own _ rfl (.tmp 19) (.tmp 20) 50 rfl W.heap.size 57 i0 _ 1 24 Tryz.underlying50 hi0 hz0 hz1 hz2 rfl (by decide) _ i vs rfl (HO.o.alloc _) ⟨w2.heap.size,0,none⟩ 1 1 [.slice none 0 0] rfl rfl (h_ w2 [.slice none 0 0] _) (fun v hv=>by rw [List.mem_singleton.1 hv];rfl) (by simp only [maxLen];omega) (by omega) (by simp;omega) ?_;intro v3 j g L _))
     obtain⟨A3,c3,rfl⟩:=dh g;obtain⟨V,ad4,hv3,S⟩:=g.form (by omega);injection hv3 with Xl Xm Xn
     subst Xl;subst Xn;clear Xm;have hgp:=S.2;have Xa:=S.1;have hz1':(w2.alloc (.cells #[.slice none 0 0] 57)).heap.size≤j.heap.size:=L.size;have hz2':wr.heap.size < w2.heap.size:=N.o.lt;have aeG:w2.heap.size < j.heap.size:=by simp at hz1';omega
     have F:=O (show RI j W.heap.size (.slice (some ⟨V,0,none⟩) (i+1) c3) (rs ++ [[]]) (vs ++ [.slice none 0 0]) from (X.o.below ((Below.refl _ _).alloc (aiv _) (.cells #[.slice none 0 0] 57))).new (by rw [← I.o];exact L) (by rw [← I.o];exact g));have fF:=O ((N.o.alloc (.cells #[.slice none 0 0] 57)).grown L (fun e=>bJ (HO.o.alloc (.cells #[.slice none 0 0] 57)) (N.o.alloc (.cells #[.slice none 0 0] 57)) (by decide) e.symm));have E:=O ((I8.o.alloc hs2 (.cells #[.slice none 0 0] 57)).grown L (by simp;omega) (fun z M=>(HO.o.lt z M).1));have K:=O (show vs.length=rs.length from by rw [X.o.len]);have P:j.ownsRow W.heap.size 92 3 (.slice none 0 0) 0 (fP []):=World.ownsRow_nil _ _ _ _
     have s1:j.cell? ⟨V,i,none⟩=some (.slice none 0 0):=by
      rw [g.cellAt i (by omega),List.getElem?_append_right (by rw [K.o,← I.o];omega),K.o,← I.o,Nat.sub_self];rfl
     have Q_:=O (show (0:Nat)=([]:List Pz).length from rfl);have e0:=fF.o.cell 0;have e1:=fF.o.cell 1;have e2:=fF.o.cell 2;have tb1:wr.heap.size < j.heap.size:=by omega
     have hs3:=E.o.size;have VE:=O (show j.ownsRow W.heap.size 57 1 (.slice (some ⟨V,0,none⟩) (i+1) c3) (i+1) (vs ++ [(Value.slice none 0 0)]) from by have:=F.o.own;rw [aiA,aiF,← I.o] at this;exact this)
     have Mt:=O fun (U:World) (u2:Value) (hg:((j.alloc (.cells #[.string (aU t),.bool false,.int .i64 nd] 92)).drew).grownBy U ((Value.slice none 0 0)).ownBlock) (ho:U.ownsRow W.heap.size 92 3 u2 (0+1) (fP [] ++ gP ⟨t,false,nd⟩)) (w:u2.ownBlock=((Value.slice none 0 0)).ownBlock∨∀ b,u2.ownBlock=some b→((j.alloc (.cells #[.string (aU t),.bool false,.int .i64 nd] 92)).drew).heap.size≤b) =>
      RI.last (ls:=rs) (l:=[]) (vs:=vs) (u:=(Value.slice none 0 0)) (c:=⟨t,false,nd⟩) (by rw [← I.o];exact (F.o.below ((Below.refl _ _).alloc (aiv _) (.cells #[.string (aU t),.bool false,.int .i64 nd] 92))).drew) K.o hg (by rw [Q_.o] at ho;exact ho) w
     have Gq:=O (show (vs ++ [(Value.slice none 0 0)])[i]? = some ((Value.slice none 0 0)) from by rw [List.getElem?_append_right (by rw [K.o,← I.o];omega),K.o,← I.o,Nat.sub_self];rfl);have Y:=O P;obtain⟨R,G⟩:∃ R,R=i+1:=⟨_,rfl⟩;rw [← G];have hws:wrap64 ((R:Int) - 1)=(i:Int):=by unfold wrap64;omega
     have hwt:IntKind.i64.wrap ((R:Int) - 1)=(i:Int):=by rw [IntWalk.i64_in _ (by omega)];omega
     have hi7:(i:Int) < (R:Int):=by omega
     have ael:(0:Int)≤(i:Int):=by omega
     have HM1:=O G;clear G;clear P;go_wp2_with fail;go_region_law ((refine step_append_lies _ (by rfl) _ _ _ (by rfl) W.heap.size 92 i1 _ 3 32 Tryz.underlying57 hi1 hy0 hy1 hy2 rfl (by omega) _ 0 (fP []) (by rfl) ((Y.o.alloc _).drew) ⟨j.heap.size,0,none⟩ 1 1 (gP ⟨t,false,nd⟩) (by rfl) (by rfl) (World.news_of_block (cs:=#[.string (aU t),.bool false,.int .i64 nd]) (t:=92) (fr:=(0,0)) (heap_alloc_new j _)) (nM _) (by omega) (by simp only [maxLen];omega) (by omega) (by simp;omega) (j.heap.size+1) (by simp) ?_;intro gg D U Al f w T;have kk:=((VE.o.alloc (.cells #[.string (aU t),.bool false,.int .i64 nd] 92)).drew).kept f (eT ((VE.o.alloc (.cells #[.string (aU t),.bool false,.int .i64 nd] 92)).drew) ((Y.o.alloc (.cells #[.string (aU t),.bool false,.int .i64 nd] 92)).drew) (by decide));have s4:U.cell? ⟨V,i,none⟩=some ((Value.slice none 0 0)):=(kk.cellAt i (by omega)).trans Gq.o;have f4:=kk.frozenAt i;clear kk))
     all_goals
      have H:=Mt.o U (.slice (some ⟨gg,0,none⟩) (0+1) D) f Al (by
       rcases w with e | e
       ·left;exact e.symm
       ·right
        intro z M;have M:gg=z:=by simpa [Value.ownBlock] using M
        simp
        omega)
      have e4:jg (l.take (k+1))=rs ++ [[] ++ [⟨t,false,nd⟩]]:=by rw [yO.o,Rf.o]
      rw [← e4,← I.o,← HM1.o] at H
      have HR4:=O H;have mh:=O ((((E.o.alloc hs3 (.cells #[.string (aU t),.bool false,.int .i64 nd] 92)).drew).grown f (by simp;omega) (fun z M=>(Y.o.lt z M).1)).setCell (p:=⟨V,i,none⟩) Xa (.slice (some ⟨gg,0,none⟩) (0+1) D));clear H e4 w f Al T s4 f4 Mt Y VE E F;go_wp2_with fail;exact⟨⟨k+1,_,by omega,by go_num,HR4,mh⟩,by simp [intOf];omega⟩
    ·obtain⟨C,ll,rfl⟩:∃ a x,rs=a ++ [x]:=⟨rs.dropLast,rs.getLast Z,(List.dropLast_concat_getLast Z).symm⟩;have Rf:=O (show jm (C ++ [ll]) ⟨t,false,nd⟩=C ++ [ll ++ [⟨t,false,nd⟩]] from by unfold jm;rw [if_neg (by simp)];simp);have hvl:=HR.o.len
     obtain⟨us,uu,rfl⟩:∃ a x,vs=a ++ [x]:=by
      have hv0:vs ≠ []:=fun e=>by rw [e] at hvl;simp at hvl
      exact⟨vs.dropLast,vs.getLast hv0,(List.dropLast_concat_getLast hv0).symm⟩
     have hul:us.length=C.length:=by simpa using hvl
     have K:=O hul;obtain⟨lu,JZ,NI⟩:=HR.o.row C.length ll (by rw [List.getElem?_append_right (aiv _),Nat.sub_self];rfl)
     have agd:uu=lu:=by
      rw [List.getElem?_append_right (by omega),hul,Nat.sub_self] at JZ
      simpa using JZ
     subst agd;obtain⟨Au,cu,rfl⟩:=dh NI;obtain⟨J,hmm⟩:∃ m,m=C.length:=⟨_,rfl⟩;obtain⟨q,hq⟩:∃ q,q=ll.length:=⟨_,rfl⟩;have Ep:=O hmm;have Q_:=O hq;have y:(C ++ [ll]).length=J+1:=by simp [hmm]
     have hrb:J≤100000:=by rw [y] at hrl;omega
     rw [y] at HR X ⊢
     rw [← hq] at HR X NI
     have hze:(((J+1:Nat):Int) == 0)=false:=by simp;omega
     have ahW:((J:Int)+1 == 0)=false:=by simp;omega
     have HLU:=O NI;have hqb:q≤100000:=by rw [hq];have:=hrm ll (by simp);omega
     clear hvl hul JZ NI hmm hq y;go_upto_region 4 with (fail)
     generalize wr.alloc (.cells #[.string (aU t),.bool false,.int .i64 nd] 92)=j at N X I8 ⊢
     have hs2:=I8.o.size;have g:j.ownsRow W.heap.size 57 1 (.slice Av (J+1) cv) (J+1) (us ++ [.slice Au q cu]):=by have:=X.o.own;rw [aiA,aiF,← Ep.o] at this;exact this
     obtain⟨V,ad4,hv3,S⟩:=g.form (by omega);injection hv3 with Xl Xm Xn
     subst Xl;subst Xn;clear Xm;have hgp:=S.2;have Xa:=S.1;have aeG:wr.heap.size < j.heap.size:=N.o.lt;have F:=X;have fF:=N;have E:=I8
     have P:j.ownsRow W.heap.size 92 3 (.slice Au q cu) q (fP ll):=by
      obtain⟨lu,JZ,NI⟩:=X.o.row C.length ll (by rw [List.getElem?_append_right (aiv _),Nat.sub_self];rfl);rw [List.getElem?_append_right (by rw [K.o];omega),K.o,Nat.sub_self] at JZ
      have JZ:Value.slice Au q cu=lu:=by simpa using JZ
      subst JZ;rw [← Q_.o] at NI
      exact NI
     have s1:j.cell? ⟨V,J,none⟩=some (.slice Au q cu):=by
      rw [g.cellAt J (by omega),List.getElem?_append_right (by rw [K.o,← Ep.o];omega),K.o,← Ep.o,Nat.sub_self];rfl
     clear q0 q1 q2;have e0:=fF.o.cell 0;have e1:=fF.o.cell 1;have e2:=fF.o.cell 2;have tb1:wr.heap.size < j.heap.size:=by omega
     have hs3:=E.o.size;have VE:=O (show j.ownsRow W.heap.size 57 1 (.slice (some ⟨V,0,none⟩) (J+1) cv) (J+1) (us ++ [(Value.slice Au q cu)]) from by have:=F.o.own;rw [aiA,aiF,← Ep.o] at this;exact this)
     have Mt:=O fun (U:World) (u2:Value) (hg:((j.alloc (.cells #[.string (aU t),.bool false,.int .i64 nd] 92)).drew).grownBy U ((Value.slice Au q cu)).ownBlock) (ho:U.ownsRow W.heap.size 92 3 u2 (q+1) (fP ll ++ gP ⟨t,false,nd⟩)) (w:u2.ownBlock=((Value.slice Au q cu)).ownBlock∨∀ b,u2.ownBlock=some b→((j.alloc (.cells #[.string (aU t),.bool false,.int .i64 nd] 92)).drew).heap.size≤b) =>
      RI.last (ls:=C) (l:=ll) (vs:=us) (u:=(Value.slice Au q cu)) (c:=⟨t,false,nd⟩) (by rw [← Ep.o];exact (F.o.below ((Below.refl _ _).alloc (aiv _) (.cells #[.string (aU t),.bool false,.int .i64 nd] 92))).drew) K.o hg (by rw [Q_.o] at ho;exact ho) w
     have Gq:=O (show (us ++ [(Value.slice Au q cu)])[J]? = some ((Value.slice Au q cu)) from by rw [List.getElem?_append_right (by rw [K.o,← Ep.o];omega),K.o,← Ep.o,Nat.sub_self];rfl);have Y:=O P;obtain⟨R,G⟩:∃ R,R=J+1:=⟨_,rfl⟩;rw [← G];have hws:wrap64 ((R:Int) - 1)=(J:Int):=by unfold wrap64;omega
     have hwt:IntKind.i64.wrap ((R:Int) - 1)=(J:Int):=by rw [IntWalk.i64_in _ (by omega)];omega
     have hi7:(J:Int) < (R:Int):=by omega
     have ael:(0:Int)≤(J:Int):=by omega
     have HM1:=O G;clear G;clear P;go_wp2_with fail;go_region_law ((refine step_append_lies _ (by rfl) _ _ _ (by rfl) W.heap.size 92 i1 _ 3 32 Tryz.underlying57 hi1 hy0 hy1 hy2 rfl (by omega) _ q (fP ll) (by rfl) ((Y.o.alloc _).drew) ⟨j.heap.size,0,none⟩ 1 1 (gP ⟨t,false,nd⟩) (by rfl) (by rfl) (World.news_of_block (cs:=#[.string (aU t),.bool false,.int .i64 nd]) (t:=92) (fr:=(0,0)) (heap_alloc_new j _)) (nM _) (by omega) (by simp only [maxLen];omega) (by omega) (by simp;omega) (j.heap.size+1) (by simp) ?_;intro gg D U Al f w T;have kk:=((VE.o.alloc (.cells #[.string (aU t),.bool false,.int .i64 nd] 92)).drew).kept f (eT ((VE.o.alloc (.cells #[.string (aU t),.bool false,.int .i64 nd] 92)).drew) ((Y.o.alloc (.cells #[.string (aU t),.bool false,.int .i64 nd] 92)).drew) (by decide));have s4:U.cell? ⟨V,J,none⟩=some ((Value.slice Au q cu)):=(kk.cellAt J (by omega)).trans Gq.o;have f4:=kk.frozenAt J;clear kk))
     all_goals
      have H:=Mt.o U (.slice (some ⟨gg,0,none⟩) (q+1) D) f Al (by
       rcases w with e | e
       ·left;exact e.symm
       ·right
        intro z M;have M:gg=z:=by simpa [Value.ownBlock] using M
        simp
        omega)
      have e4:jg (l.take (k+1))=C ++ [ll ++ [⟨t,false,nd⟩]]:=by rw [yO.o,Rf.o]
      rw [← e4,← Ep.o,← HM1.o] at H
      have HR4:=O H;have mh:=O ((((E.o.alloc hs3 (.cells #[.string (aU t),.bool false,.int .i64 nd] 92)).drew).grown f (by simp;omega) (fun z M=>(Y.o.lt z M).1)).setCell (p:=⟨V,J,none⟩) Xa (.slice (some ⟨gg,0,none⟩) (q+1) D));clear H e4 w f Al T s4 f4 Mt Y VE E F;go_wp2_with fail;exact⟨⟨k+1,_,by omega,by go_num,HR4,mh⟩,by simp [intOf];omega⟩
   ·have Rf:=O (show jm rs ⟨t,true,nd⟩=rs ++ [[] ++ [⟨t,true,nd⟩]] from by unfold jm;rw [if_pos (.inl rfl)];rfl);obtain⟨i,y⟩:∃ r,r=rs.length:=⟨_,rfl⟩;rw [← y];have I:=O y;have hrb:i≤100000:=by rw [y];omega
    clear y;go_upto_region 4 with (fail)
    generalize wr.alloc (.cells #[.string (aU t),.bool true,.int .i64 nd] 92)=w2 at N X I8 ⊢
    have d0:=N.o.cell 0;have d1:=N.o.cell 1;have d2:=N.o.cell 2;have hs2:=I8.o.size;have HO:=O (show w2.ownsRow W.heap.size 57 1 (.slice Av i cv) i vs from by have:=X.o.own;rw [← I.o] at this;exact this);clear q0 q1 q2
    go_upto_region 6 with (at_builtin;go_loud (
     refine wpList_append_own _ rfl (.tmp 19) (.tmp 20) 50 rfl W.heap.size 57 i0 _ 1 24 Tryz.underlying50 hi0 hz0 hz1 hz2 rfl (by decide) _ i vs rfl (HO.o.alloc _) ⟨w2.heap.size,0,none⟩ 1 1 [.slice none 0 0] rfl rfl (h_ w2 [.slice none 0 0] _) (fun v hv=>by rw [List.mem_singleton.1 hv];rfl) (by simp only [maxLen];omega) (by omega) (by simp;omega) ?_;intro v3 j g L _))
    obtain⟨A3,c3,rfl⟩:=dh g;obtain⟨V,ad4,hv3,S⟩:=g.form (by omega);injection hv3 with Xl Xm Xn
    subst Xl;subst Xn;clear Xm;have hgp:=S.2;have Xa:=S.1;have hz1':(w2.alloc (.cells #[.slice none 0 0] 57)).heap.size≤j.heap.size:=L.size;have hz2':wr.heap.size < w2.heap.size:=N.o.lt;have aeG:w2.heap.size < j.heap.size:=by simp at hz1';omega
    have F:=O (show RI j W.heap.size (.slice (some ⟨V,0,none⟩) (i+1) c3) (rs ++ [[]]) (vs ++ [.slice none 0 0]) from (X.o.below ((Below.refl _ _).alloc (aiv _) (.cells #[.slice none 0 0] 57))).new (by rw [← I.o];exact L) (by rw [← I.o];exact g));have fF:=O ((N.o.alloc (.cells #[.slice none 0 0] 57)).grown L (fun e=>bJ (HO.o.alloc (.cells #[.slice none 0 0] 57)) (N.o.alloc (.cells #[.slice none 0 0] 57)) (by decide) e.symm));have E:=O ((I8.o.alloc hs2 (.cells #[.slice none 0 0] 57)).grown L (by simp;omega) (fun z M=>(HO.o.lt z M).1));have K:=O (show vs.length=rs.length from by rw [X.o.len]);have P:j.ownsRow W.heap.size 92 3 (.slice none 0 0) 0 (fP []):=World.ownsRow_nil _ _ _ _
    have s1:j.cell? ⟨V,i,none⟩=some (.slice none 0 0):=by
     rw [g.cellAt i (by omega),List.getElem?_append_right (by rw [K.o,← I.o];omega),K.o,← I.o,Nat.sub_self];rfl
    have Q_:=O (show (0:Nat)=([]:List Pz).length from rfl);have e0:=fF.o.cell 0;have e1:=fF.o.cell 1;have e2:=fF.o.cell 2;have tb1:wr.heap.size < j.heap.size:=by omega
    have hs3:=E.o.size;have VE:=O (show j.ownsRow W.heap.size 57 1 (.slice (some ⟨V,0,none⟩) (i+1) c3) (i+1) (vs ++ [(Value.slice none 0 0)]) from by have:=F.o.own;rw [aiA,aiF,← I.o] at this;exact this)
    have Mt:=O fun (U:World) (u2:Value) (hg:((j.alloc (.cells #[.string (aU t),.bool true,.int .i64 nd] 92)).drew).grownBy U ((Value.slice none 0 0)).ownBlock) (ho:U.ownsRow W.heap.size 92 3 u2 (0+1) (fP [] ++ gP ⟨t,true,nd⟩)) (w:u2.ownBlock=((Value.slice none 0 0)).ownBlock∨∀ b,u2.ownBlock=some b→((j.alloc (.cells #[.string (aU t),.bool true,.int .i64 nd] 92)).drew).heap.size≤b) =>
     RI.last (ls:=rs) (l:=[]) (vs:=vs) (u:=(Value.slice none 0 0)) (c:=⟨t,true,nd⟩) (by rw [← I.o];exact (F.o.below ((Below.refl _ _).alloc (aiv _) (.cells #[.string (aU t),.bool true,.int .i64 nd] 92))).drew) K.o hg (by rw [Q_.o] at ho;exact ho) w
    have Gq:=O (show (vs ++ [(Value.slice none 0 0)])[i]? = some ((Value.slice none 0 0)) from by rw [List.getElem?_append_right (by rw [K.o,← I.o];omega),K.o,← I.o,Nat.sub_self];rfl);have Y:=O P;obtain⟨R,G⟩:∃ R,R=i+1:=⟨_,rfl⟩;rw [← G];have hws:wrap64 ((R:Int) - 1)=(i:Int):=by unfold wrap64;omega
    have hwt:IntKind.i64.wrap ((R:Int) - 1)=(i:Int):=by rw [IntWalk.i64_in _ (by omega)];omega
    have hi7:(i:Int) < (R:Int):=by omega
    have ael:(0:Int)≤(i:Int):=by omega
    have HM1:=O G;clear G;clear P;go_wp2_with fail;go_region_law ((refine step_append_lies _ (by rfl) _ _ _ (by rfl) W.heap.size 92 i1 _ 3 32 Tryz.underlying57 hi1 hy0 hy1 hy2 rfl (by omega) _ 0 (fP []) (by rfl) ((Y.o.alloc _).drew) ⟨j.heap.size,0,none⟩ 1 1 (gP ⟨t,true,nd⟩) (by rfl) (by rfl) (World.news_of_block (cs:=#[.string (aU t),.bool true,.int .i64 nd]) (t:=92) (fr:=(0,0)) (heap_alloc_new j _)) (nM _) (by omega) (by simp only [maxLen];omega) (by omega) (by simp;omega) (j.heap.size+1) (by simp) ?_;intro gg D U Al f w T;have kk:=((VE.o.alloc (.cells #[.string (aU t),.bool true,.int .i64 nd] 92)).drew).kept f (eT ((VE.o.alloc (.cells #[.string (aU t),.bool true,.int .i64 nd] 92)).drew) ((Y.o.alloc (.cells #[.string (aU t),.bool true,.int .i64 nd] 92)).drew) (by decide));have s4:U.cell? ⟨V,i,none⟩=some ((Value.slice none 0 0)):=(kk.cellAt i (by omega)).trans Gq.o;have f4:=kk.frozenAt i;clear kk))
    all_goals
     have H:=Mt.o U (.slice (some ⟨gg,0,none⟩) (0+1) D) f Al (by
      rcases w with e | e
      ·left;exact e.symm
      ·right
       intro z M;have M:gg=z:=by simpa [Value.ownBlock] using M
       simp
       omega)
     have e4:jg (l.take (k+1))=rs ++ [[] ++ [⟨t,true,nd⟩]]:=by rw [yO.o,Rf.o]
     rw [← e4,← I.o,← HM1.o] at H
     have HR4:=O H;have mh:=O ((((E.o.alloc hs3 (.cells #[.string (aU t),.bool true,.int .i64 nd] 92)).drew).grown f (by simp;omega) (fun z M=>(Y.o.lt z M).1)).setCell (p:=⟨V,i,none⟩) Xa (.slice (some ⟨gg,0,none⟩) (0+1) D));clear H e4 w f Al T s4 f4 Mt Y VE E F;go_wp2_with fail;exact⟨⟨k+1,_,by omega,by go_num,HR4,mh⟩,by simp [intOf];omega⟩
  ·obtain rfl:k=n:=by omega
   have HRF:=O (show ∃ vs,RI wr W.heap.size _ (jg l) vs from ⟨vs,by have h:=HR.o;rw [aiz (by rw [HN.o];omega)] at h;exact h⟩);have y1:¬ (k:Int) < (k:Int):=by omega
   clear hlt;go_wp2_with fail;go_ret;exact⟨_,rfl,HRF.o,HB.o⟩
end
