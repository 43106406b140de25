/-
  A part of the proof.
-/
import Derived.Deep.AppendLies
import Derived.Test.YtalghggmkojblaaGreatDoorS03
import Derived.Test.YtalghggmkojblaaGreatDoorS06
set_option linter.all false
set_option maxRecDepth 100000
set_option maxHeartbeats 2000000
namespace Go.Proofs.YtalghggmkojblaaGreatDoor
section
open Go Go.RowKit
theorem zI (a:Addr)(n:Nat):(a.add n).block=a.block:=by unfold Addr.add;split <;> rfl
def Reads (w:World)(B size:Nat)(A:Option Addr)(n:Nat)(xs:List Value):Prop :=
 xs.length=n * size∧(0 < n→∃ ad,A=some ad∧ad.block < B∧∀ j u,xs[j]? = some u→w.cell? (ad.add j)=some u)
section
variable {w w':World} {B B' size n:Nat} {A:Option Addr} {xs:List Value}
theorem Reads.none_:Reads w B size A 0 []:=⟨by simp,fun h=>absurd h (by omega)⟩
theorem Reads.at_ {k:Nat}(h:Reads w B 1 A n xs)(d:k < n):∃ ad u,A=some ad∧ad.block < B∧xs[k]? = some u∧w.cell? (ad.add k)=some u:=by
 obtain⟨ad,e,b,c⟩:=h.2 (by omega);have a:k < xs.length:=by have:=h.1;omega
 exact⟨ad,xs[k],e,b,amF a,c k _ (amF a)⟩
theorem Reads.keep (h:Reads w B size A n xs)(c:∀ p:Addr,p.block < B→w'.cell? p=w.cell? p):Reads w' B size A n xs :=
 ⟨h.1,fun d=>by
  obtain⟨ad,e,a,b⟩:=h.2 d;exact⟨ad,e,a,fun j u f=>(c _ (by rw [zI];exact a)).trans (b j u f)⟩⟩
theorem Reads.more (h:Reads w B size A n xs)(c:B≤B'):Reads w B' size A n xs :=
 ⟨h.1,fun b=>by
  obtain⟨ad,e,d,a⟩:=h.2 b;exact⟨ad,e,by omega,a⟩⟩
theorem Reads.below (h:Reads w B size A n xs)(a:Below B w w'):Reads w' B size A n xs:=h.keep fun _ b=>a.cell b
theorem Reads.drew (h:Reads w B size A n xs):Reads w.drew B size A n xs:=h
theorem Reads.drewN (h:Reads w B size A n xs)(k:Nat):Reads (w.drewN k) B size A n xs:=h
theorem Reads.alloc (h:Reads w B size A n xs)(a:B≤w.heap.size)(o:Obj):Reads (w.alloc o) B size A n xs:=h.keep fun p b=>World.cell?_alloc_lt w o p (by omega)
theorem Reads.setCell (h:Reads w B size A n xs){p:Addr}(a:B≤p.block)(u:Value):Reads (w.setCell p u) B size A n xs :=
 h.keep fun q b=>World.cell?_setCell_other w p q u (fun e=>by subst e;omega)
theorem Reads.grown (h:Reads w B size A n xs){row:Option Nat}(a:w.grownBy w' row)(c:B≤w.heap.size)(b:∀ g,row=some g→B≤g):Reads w' B size A n xs :=
 h.keep fun p d=>World.cell?_of_block (a.block p.block (by omega) (fun e=>by have:=b _ e.symm;omega))
theorem Reads.DF {base:Nat}{e:TypeId}{c:Nat}(h:w.ownsRow base e size (.slice A n c) n xs):Reads w w.heap.size size A n xs:=by
 refine⟨h.1,fun d=>?_⟩
 obtain⟨g,cap,hv,_,a⟩:=h.form d;have b:A=some ⟨g,0,none⟩:=by injection hv
 subst b;exact⟨_,rfl,a,h.cells (g:=g) rfl⟩
end
def bY (w:World)(g:Nat)(t:TypeId)(cs:Array Value):Prop:=w.heap[g]? = some (.cells cs t (0,0))
section
variable {w w':World} {g:Nat} {t:TypeId} {cs:Array Value}
theorem bY.lt (h:bY w g t cs):g < w.heap.size:=by
 rcases Nat.lt_or_ge g w.heap.size with b | a
 ·exact b
 ·unfold bY at h;rw [Array.getElem?_eq_none a] at h;cases h
theorem bY.cell (h:bY w g t cs)(i:Nat):w.cell? ⟨g,i,none⟩=cs[i]? := cell_of_row w g i cs t (0,0) h
theorem bY.frozen (h:bY w g t cs)(i:Nat):w.frozen? ⟨g,i,none⟩=false:=by
 unfold bY at h
 simp [World.frozen?,h]
theorem bY.new (w:World)(t:TypeId)(cs:Array Value):bY (w.alloc (.cells cs t)) w.heap.size t cs:=heap_alloc_new w _
theorem bY.drew (h:bY w g t cs):bY w.drew g t cs:=h
theorem bY.drewN (h:bY w g t cs)(n:Nat):bY (w.drewN n) g t cs:=h
theorem bY.alloc (h:bY w g t cs)(o:Obj):bY (w.alloc o) g t cs:=(Below.heap_alloc w o g h.lt).trans h
theorem bY.jX (h:bY w g t cs)(i:Nat)(u:Value):bY (w.setCell ⟨g,i,none⟩ u) g t (cs.setIfInBounds i u):=by
 unfold bY at h ⊢
 simp [World.setCell,Array.getElem?_modify,h]
theorem bY.far (h:bY w g t cs){p:Addr}(a:g ≠ p.block)(u:Value):bY (w.setCell p u) g t cs:=(Below.heap_setCell w p u g a).trans h
theorem bY.below {B:Nat}(h:bY w g t cs)(a:Below B w w')(b:g < B):bY w' g t cs:=(a.block g b).trans h
theorem bY.grown {row:Option Nat}(h:bY w g t cs)(a:w.grownBy w' row)(b:some g ≠ row):bY w' g t cs:=(a.block g h.lt b).trans h
theorem bY.ne_ {g':Nat}{c:TypeId}{cs':Array Value}(h:bY w g t cs)(a:bY w g' c cs')(b:t ≠ c):g ≠ g':=by
 rintro rfl;unfold bY at h a
 rw [h] at a
 injection a with a
 injection a with _ d
 exact b d
theorem aW {base:Nat}{e:TypeId}{size n:Nat}{v:Value}{xs:List Value}(h:w.ownsRow base e size v n xs)(d:bY w g t cs)(a:e ≠ t):v.ownBlock ≠ some g:=by
 rcases h.2 with ⟨rfl,_⟩ | ⟨g',cap,b,rfl,_,f,_⟩
 ·simp [Value.ownBlock]
 ·intro c
  have:g'=g:=by simpa [Value.ownBlock] using c
  subst this;exact bY.ne_ (t:=e) f d a rfl
end
section
variable {P:Program} (w:World)
theorem Cj (base:Nat)(t h e:TypeId)(i:TypeInfo)(size:Nat)(d:P.underlying t=some (.slice e))(hi:P.info? e=some i)
  (v:Value) (n:Nat) (xs:List Value) (a:w.ownsRow base e size v n xs) (c:Nat):(Builtin.append_ #[t,t] h #[v,.slice none 0 c]).run P w=.ok v w:=by
 rcases a.2 with ⟨rfl,rfl⟩ | ⟨g,cap,f,rfl,_,_,b,_⟩
 ·simp [Builtin.append_,run_underlying d,sizeOf,typeInfo,hi,Builtin.lenOf,Builtin.firstCells]
 ·simp [Builtin.append_,run_underlying d,sizeOf,typeInfo,hi,Builtin.lenOf,Builtin.firstCells,b,storeCells]
theorem Hr (base:Nat)(t G e:TypeId)(i:TypeInfo)(z:Value)(size b:Nat)(H:P.underlying t=some (.slice e))(hi:P.info? e=some i)(M:i.zero=some z)
  (q:i.size=size) (C:i.bytes=b) (F:z.cells.size=size) (E:0 < size)
  (v:Value) (n:Nat) (xs:List Value) (d:w.ownsRow base e size v n xs)
  (B:Nat) (A:Option Addr) (m c:Nat) (a:List Value) (x:Reads w B size A m a) (h1:∀ u ∈ a,u.oneCell'=true)
  (h63:n+m≤maxLen) (f:(n+m) * b≤140737488355328) (l:base≤w.heap.size) :
  ∃ r w',(Builtin.append_ #[t,t] G #[v,.slice A m c]).run P w=.ok r w'∧w'.ownsRow base e size r (n+m) (xs ++ a)∧w.grownBy w' v.ownBlock ∧
   (r.ownBlock=v.ownBlock∨r.ownBlock=some w.heap.size):=by
 rcases A with _ | ad
 ·have L:m=0:=by
   rcases Nat.eq_zero_or_pos m with h0 | h0
   ·exact h0
   ·obtain⟨ad,h,_⟩:=x.2 h0;cases h
  subst L;have D:a=[]:=List.eq_nil_of_length_eq_zero (by simpa using x.1);subst D;exact⟨v,w,Cj w base t G e i size H hi v n xs d c,by simpa using d,World.grownBy.refl w _,.inl rfl⟩
 ·have k:∀ j u,a[j]? = some u→w.cell? (ad.add j)=some u:=by
   intro j u I;rcases Nat.eq_zero_or_pos m with h0 | h0
   ·subst h0;have D:a=[]:=List.eq_nil_of_length_eq_zero (by simpa using x.1);subst D;simp at I
   ·obtain⟨J,h,_,K⟩:=x.2 h0;injection h with h
    subst h;exact K j u I
  obtain⟨r,w',y,h2,h3,_,h5⟩:=run_append_own_at (P:=P) w base t G e i z size b H hi M q C F E v n xs d ad m c a x.1 k h1 h63 f l;exact⟨r,w',y,h2,h3,h5⟩
theorem I_ {o:Oper}{a:Act}{K:Act→World→Prop}{Q:Exit→Act→World→Prop}(s x:Operand)(t:TypeId)
  (E:o.op=.call { callee:=.builtin .append,args:=#[s,x],argTypes:=#[t,t] })
  (base:Nat) (e:TypeId) (i:TypeInfo) (z:Value) (size b:Nat) (H:P.underlying t=some (.slice e)) (hi:P.info? e=some i) (J:i.zero=some z)
  (k:i.size=size) (y:i.bytes=b) (D:z.cells.size=size) (C:0 < size)
  (v:Value) (n:Nat) (xs:List Value) (G:a.eval s=v) (q:w.ownsRow base e size v n xs)
  (B:Nat) (A:Option Addr) (m c:Nat) (d:List Value) (I:a.eval x=.slice A m c) (F:Reads w B size A m d) (h1:∀ u ∈ d,u.oneCell'=true)
  (h63:n+m≤maxLen) (f:(n+m) * b≤140737488355328) (j:base≤w.heap.size)
  (h:∀ l w',w'.ownsRow base e size l (n+m) (xs ++ d)→w.grownBy w' v.ownBlock→(l.ownBlock=v.ownBlock∨l.ownBlock=some w.heap.size)→K (a.put o.dst l) w'):o.wp P a w K Q:=by
 obtain⟨l,w',r,h2,h3,h4⟩:=Hr (P:=P) w base t o.type e i z size b H hi J k y D C v n xs q B A m c d F h1 h63 f j;unfold Oper.wp execOp;simp only [E,resolve,invoke,builtin,Sem.run_bind,Sem.run_pure,Result.andThen_ok,List.map_toArray,List.map_cons,List.map_nil,G,I,r];exact h l w' h2 h3 h4
theorem rY {r:Array Oper}{rest:List Oper}{o:Oper}{a:Act}{Q:Exit→Act→World→Prop}(C:o.guard=none)(s x:Operand)(t:TypeId)
  (G:o.op=.call { callee:=.builtin .append,args:=#[s,x],argTypes:=#[t,t] })
  (base:Nat) (e:TypeId) (i:TypeInfo) (z:Value) (size b:Nat) (J:P.underlying t=some (.slice e)) (hi:P.info? e=some i) (L:i.zero=some z)
  (k:i.size=size) (y:i.bytes=b) (E:z.cells.size=size) (D:0 < size)
  (v:Value) (n:Nat) (xs:List Value) (I:a.eval s=v) (q:w.ownsRow base e size v n xs)
  (B:Nat) (A:Option Addr) (m c:Nat) (d:List Value) (K:a.eval x=.slice A m c) (H:Reads w B size A m d) (h1:∀ u ∈ d,u.oneCell'=true)
  (h63:n+m≤maxLen) (f:(n+m) * b≤140737488355328) (j:base≤w.heap.size)
  (h:∀ l w',w'.ownsRow base e size l (n+m) (xs ++ d)→w.grownBy w' v.ownBlock→(l.ownBlock=v.ownBlock∨l.ownBlock=some w.heap.size)→wpList P r Q rest (a.put o.dst l) w'):wpList P r Q (o :: rest) a w :=
 wpList_plain C fun _ F=>I_ w s x t G base e i z size b J hi L k y E D v n xs I q B A m c d K H h1 h63 f j fun l w' h2 h3 h4=>F _ _ (h l w' h2 h3 h4)
end
end
section
open Go.RowKit Mist
attribute [local go_sem] ak aN aV aF aj
def lN (t:Tok):List Value:=[.int .u8 t.kind,.string (aG t.text),.int .i64 t.at_]
def jV (l:List Tok):List Value:=l.flatMap lN
theorem EG (l m:List Tok):jV (l ++ m)=jV l ++ jV m:=by simp [jV]
def oZ (w:World)(v:Value)(l:List Tok):Prop:=∃ A c,v=.slice A l.length c∧l.length≤c∧Reads w w.heap.size 3 A l.length (jV l)
theorem oZ.DF {w:World}{base:Nat}{v:Value}{l:List Tok}(h:w.ownsRow base 112 3 v l.length (jV l)):oZ w v l:=by
 rcases h.2 with ⟨hv,h0⟩ | ⟨g,cap,a,hv,_,_,b,_⟩
 ·have:l=[]:=List.eq_nil_of_length_eq_zero h0
  subst this;exact⟨none,0,hv,amL _,Reads.none_⟩
 ·exact⟨_,cap,hv,b,Reads.DF (hv ▸ h)⟩
theorem Uo:(Tryz.prog.info? 112).map (fun i=>(i.zero,i.size,i.bytes))=some (some (.agg #[.int .u8 0,.string ByteArray.empty,.int .i64 0]),3,32):=by kernel_rfl
theorem dA {w:World}{base e size n:Nat}{v:Value}{xs:List Value}(h:w.ownsRow base e size v n xs):∃ A c,v=.slice A n c:=by
 rcases h.2 with ⟨hv,h0⟩ | ⟨g,cap,a,hv,_⟩
 ·exact⟨none,0,by rw [hv,h0]⟩
 ·exact⟨_,_,hv⟩
theorem own_below {w w':World}{base e size n:Nat}{v:Value}{xs:List Value}(h:w.ownsRow base e size v n xs)(f:Below w.heap.size w w'):w'.ownsRow base e size v n xs:=by
 refine⟨h.1,?_⟩
 rcases h.2 with h2 | ⟨g,cap,a,hv,i,c,r⟩
 ·exact .inl h2
 ·have d:g < w.heap.size:=by
   rcases Nat.lt_or_ge g w.heap.size with b | b
   ·exact b
   ·rw [Array.getElem?_eq_none b] at c;cases c
  exact .inr ⟨g,cap,a,hv,i,(f.block g d).trans c,r⟩
theorem iK (w:World)(cs:List Value)(t:TypeId):∀ j u,cs[j]? = some u→(w.alloc (.cells cs.toArray t)).cell? ((⟨w.heap.size,0,none⟩:Addr).add j)=some u:=by
 intro j u a;have b:(w.alloc (.cells cs.toArray t)).heap[w.heap.size]? = some (.cells cs.toArray t):=heap_alloc_new w _
 have:(w.alloc (.cells cs.toArray t)).cell? ⟨w.heap.size,j,none⟩=some u:=by
  rw [Lib.cell_of_heap b];simpa using a
 rw [← this];unfold Addr.add;split
 ·rename_i h;rw [h]
 ·simp
theorem Me (t:Tok):∀ u ∈ lN t,u.oneCell'=true:=by
 intro u a;simp [lN] at a
 rcases a with rfl | rfl | rfl <;> rfl
theorem acI (l:Bs)(h:¬ (check l).2=0):read l=([],(check l).1,(check l).2):=by unfold Mist.read;rw [if_pos h]
theorem J6 (l:Bs)(h:(check l).2=0):read l=iq (l.length+1) l (skip l) []:=by unfold Mist.read;rw [if_neg (by simpa using h)]
def Ni (l:Bs)(w:World)(e:Ending)(w':World):Prop:=∃ v,e=.returned (.tuple #[v,.int .i64 (read l).2.1,.int .i64 (read l).2.2])∧oZ w' v (read l).1∧Below w.heap.size w w'
theorem rU {l:Bs}{w w':World}{v:Value}{a b:Int}{t:List Tok}{x y:Nat}(h:read l=(t,x,y))(d:a=x)(e:b=y)(f:oZ w' v t)(c:Below w.heap.size w w') :
  Ni l w (.returned (.tuple #[v,.int .i64 a,.int .i64 b])) w':=by
 subst d;subst e;exact⟨v,by rw [h],by rw [h];exact f,c⟩
theorem oZ.none_ (w:World):oZ w (.slice none 0 0) []:=⟨none,0,rfl,amL _,Reads.none_⟩
theorem PD (l:Bs)(w:World)(Y:Env w)(Q:l.length≤100000000) :
  Calls Tryz.prog 37 #[.string (aG l)] w (Ni l w):=by
 have G:=O Y;clear Y;by_cases x:(check l).2=0
 case neg =>
  have K:((check l).2:Int) != 0:=by simpa using x
  have F:=O (acI l x);clear x;go_in
  go_wp2_with (go_at_call 64;refine (Jl l _ Q).mono ?_;rintro e w' ⟨rfl,rfl⟩)
  go_ret3
  exact rU F.o rfl rfl (oZ.none_ _) (Below.refl _ _)
 have K:(((check l).2:Int) != 0)=false:=by simp [x]
 have F:=O (J6 l x);clear x;obtain⟨i0,M,T,U,V⟩:=info_parts Uo;have R:=VK l;go_in
 go_wp2_with (first
  | (go_at_call 64;refine (Jl l _ Q).mono ?_;rintro e w' ⟨rfl,rfl⟩)
  | (go_at_call 65;refine (Qa l _ Q).mono ?_;rintro e w' ⟨rfl,rfl⟩))
 go_loopw [2,3] (fun v i wr=>∃ (f a:Nat) (b:List Tok),i=.int .i64 a∧a≤l.length∧l.length < f+a∧b.length≤800∧read l=iq f l a b∧wr.ownsRow w.heap.size 112 3 v b.length (jV b)∧Below w.heap.size w wr) (fun _ i _=>l.length - (intOf i).toNat)
 case atStart=>exact⟨l.length+1,skip l,[],rfl,R,by omega,by simp,F.o,World.ownsRow_nil _ _ _ _,Below.refl _ _⟩
 case round =>
  obtain⟨f,a,b,rfl,ha,hf,Z,D,m,hb⟩:=hrel;have E:=O D;clear D;have X:=O hf;clear hf;obtain⟨A,c,rfl⟩:=dA m;have h:=O hb;clear hb;have H:=O m;clear m;obtain⟨f,rfl⟩:∃ f',f=f'+1:=⟨f - 1,by have:=X.o;omega⟩;by_cases hlt:a < l.length
  ·have y:¬ l.length≤a:=by omega
   by_cases j:(first (l.drop a)).1=0
   ·have N:(((first (l.drop a)).1:Int) == 0)=true:=by simp [j]
    have q:=O (xW f l a b y j);clear j y;go_wp2_with (go_at_call 66;refine (wE (l.drop a) _ (G.o.below h.o) (by simp;omega)).mono ?_;rintro e w' ⟨rfl,d⟩)
    go_ret3
    exact rU (E.o.trans q.o) rfl rfl (oZ.none_ _) (h.o.trans (d.mono h.o.size))
   ·have N:(((first (l.drop a)).1:Int) == 0)=false:=by simpa using j
    have C:=sV (l.drop a) j;rw [List.length_drop] at C
    obtain⟨alX,alY⟩:=C;by_cases h8:b.length=800
    ·have J:((b.length:Int) == 800)=true:=by simp [h8]
     have q:=O (xV f l a b y j h8);clear j y h8;go_wp2_with (go_at_call 66;refine (wE (l.drop a) _ (G.o.below h.o) (by simp;omega)).mono ?_;rintro e w' ⟨rfl,d⟩)
     go_ret3
     exact rU (E.o.trans q.o) rfl rfl (oZ.none_ _) (h.o.trans (d.mono h.o.size))
    ·have J:((b.length:Int) == 800)=false:=by simp;omega
     have q:=O (sD f l a b y j h8);clear j y;have I:=VK (l.drop (a+(first (l.drop a)).2.length));rw [List.length_drop] at I
     go_wp2_with (first
      | (go_at_call 66;refine (wE (l.drop a) _ (G.o.below h.o) (by simp;omega)).mono ?_;rintro e w' ⟨rfl,d⟩)
      | (go_at_call 65;refine (Qa (l.drop (a+(first (l.drop a)).2.length)) _ (by simp;omega)).mono ?_;rintro e w'' ⟨rfl,rfl⟩)
      | (at_builtin
         refine wpList_append_own _ rfl (.tmp 46) (.tmp 51) 83 rfl w.heap.size 112 i0 _ 3 32 Tryz.underlying83 M T U V rfl (by decide) _ b.length (jV b) rfl
           ((own_below H.o d).alloc _) ⟨w'.heap.size,0,none⟩ 1 1 (lN ⟨(first (l.drop a)).1,(first (l.drop a)).2,(a:Int)⟩) rfl rfl (iK _ _ _) (Me _) (by simp only [maxLen];omega) (by omega) (by have:=h.o.size;have:=d.size;simp;omega) ?_
         intro v2 w2 u L _))
     have r:Below w.heap.size w w':=h.o.trans (d.mono h.o.size)
     refine⟨⟨f,a+(first (l.drop a)).2.length+skip (l.drop (a+(first (l.drop a)).2.length)),b ++ [⟨(first (l.drop a)).1,(first (l.drop a)).2,(a:Int)⟩],by go_num,by omega,by have:=X.o;omega,by simp;omega,E.o.trans q.o,?_,?_⟩,by simp [intOf];omega⟩
     ·rw [EG,amQ];simpa [jV] using u
     ·exact (r.alloc r.size _).grown L (by have:=r.size;simp;omega) (fun k j=>((own_below H.o d).lt k j).1)
  ·have q:=O (uF f l a b (by omega));go_wp2;go_ret3
   exact rU (E.o.trans q.o) rfl rfl (oZ.DF H.o) h.o
theorem rW (l:List Tok):∀ (k j:Nat) (u:Value),k < l.length→(lN (tg l k))[j]? = some u→(jV l)[k * 3+j]? = some u:=by
 induction l with
 | nil=>intro k j u h;simp at h
 | cons t r b =>
  intro k j u h a
  have c:j < 3:=by
   have:=(amG.1 a).1
   simpa [lN] using this
  have e:jV (t :: r)=lN t ++ jV r:=by simp [jV]
  rw [e]
  cases k with
  | zero =>
   rw [List.getElem?_append_left (by simp [lN];omega)]
   simpa [tg] using a
  | succ k =>
   rw [List.getElem?_append_right (by simp [lN];omega)]
   have:(k+1) * 3+j - (lN t).length=k * 3+j:=by simp [lN];omega
   rw [this];exact b k j u (by simpa using h) (by simpa [tg] using a)
structure FK (w:World) (b o:Nat) (l:List Tok):Prop where
 lt:b < w.heap.size
 kind:∀ k,k < l.length→w.cell? ⟨b,o+k * 3,none⟩=some (.int .u8 (tg l k).kind)
 text:∀ k,k < l.length→w.cell? ⟨b,o+k * 3+1,none⟩=some (.string (aG (tg l k).text))
 at_:∀ k,k < l.length→w.cell? ⟨b,o+k * 3+2,none⟩=some (.int .i64 (tg l k).at_)
theorem FK.below {w w':World}{b o:Nat}{l:List Tok}(h:FK w b o l)(c:Below w.heap.size w w'):FK w' b o l :=
 ⟨amY h.lt c.size,fun k a=>(c.cell (p:=⟨b,_,none⟩) h.lt).trans (h.kind k a),fun k a=>(c.cell (p:=⟨b,_,none⟩) h.lt).trans (h.text k a),fun k a=>(c.cell (p:=⟨b,_,none⟩) h.lt).trans (h.at_ k a)⟩
theorem oZ.row {w:World}{v:Value}{l:List Tok}(h:oZ w v l)(h0:0 < l.length):∃ b o c,v=.slice (some ⟨b,o,none⟩) l.length c∧l.length≤c∧FK w b o l:=by
 obtain⟨A,c,rfl,q,r⟩:=h;obtain⟨ad,rfl,i,a⟩:=r.2 h0;have f:=a 0 _ (rW l 0 0 _ h0 rfl);obtain⟨b,o,m⟩:=ad
 have j:m=none:=by
  cases m with
  | none=>rfl
  | some x =>
   exfalso
   simp only [Addr.add,if_pos] at f
   unfold World.cell? at f
   simp only [Option.isSome_some,if_true] at f
   split at f <;> simp at f
 subst j
 have d:∀ n,(⟨b,o,none⟩:Addr).add n=⟨b,o+n,none⟩:=by
  intro n;unfold Addr.add;split
  ·rename_i h;rw [h];rfl
  ·rfl
 refine⟨b,o,c,rfl,q,i,fun k e=>?_,fun k e=>?_,fun k e=>?_⟩
 ·have:=a _ _ (rW l k 0 _ e rfl);rw [d] at this;exact this
 ·have:=a _ _ (rW l k 1 _ e rfl);rw [d] at this;exact this
 ·have:=a _ _ (rW l k 2 _ e rfl);rw [d] at this;exact this
theorem oZ.TT {w:World}{A:Option Addr}{n c:Nat}{l:List Tok}(h:oZ w (.slice A n c) l)(h0:0 < l.length):∃ b o,A=some ⟨b,o,none⟩∧FK w b o l:=by
 obtain⟨b,o,d,hv,_,a⟩:=h.row h0;injection hv with h1 h2 h3
 exact⟨b,o,h1,a⟩
theorem oZ.empty {w:World}{v:Value}{l:List Tok}(h:oZ w v l)(h0:¬ 0 < l.length):∃ A c,v=.slice A 0 c:=by
 obtain⟨A,c,rfl,_⟩:=h;exact⟨A,c,by rw [show l.length=0 by omega]⟩
theorem oZ.below {w w':World}{v:Value}{l:List Tok}(h:oZ w v l)(a:Below w.heap.size w w'):oZ w' v l:=by
 obtain⟨A,c,rfl,b,d⟩:=h;exact⟨A,c,rfl,b,(d.below a).more a.size⟩
end
section
open Go.RowKit Mist
attribute [local go_sem] ak aN aV aF aj
abbrev NV:=Nd × Value
def iE (x:NV):List Value:=[.int .u8 x.1.kind,.string (aG x.1.text),.int .i64 x.1.n,x.2,.int .i64 x.1.at_]
def jC (xs:List NV):List Value:=xs.flatMap iE
theorem qc (a b:List NV):jC (a ++ b)=jC a ++ jC b:=by simp [jC]
def aH (xs:List NV):List Nd:=xs.map Prod.fst
theorem dK (xs:List NV):(aH xs).length=xs.length:=by simp [aH]
theorem yF (a b:List NV):aH (a ++ b)=aH a ++ aH b:=by simp [aH]
def intCells (ks:List Int):List Value:=ks.map fun a=>Value.int .i64 a
theorem Al (ks:List Int):(intCells ks).length=ks.length:=by simp [intCells]
theorem jf (a b:List Int):intCells (a ++ b)=intCells a ++ intCells b:=by simp [intCells]
def dw (w:World)(v:Value)(ks:List Int):Prop:=w.ownsRow 0 3 1 v ks.length (intCells ks)
theorem dw.none_ (w:World):dw w (.slice none 0 0) []:=World.ownsRow_nil _ _ _ _
theorem Dz:(Tryz.prog.info? 56).map (fun i=>(i.zero,i.size,i.bytes))=some (some (.agg #[.int .u8 0,.string ByteArray.empty,.int .i64 0,.slice none 0 0,.int .i64 0]),5,64):=by kernel_rfl
theorem jq:(Tryz.prog.info? 3).map (fun i=>(i.zero,i.size,i.bytes))=some (some (.int .i64 0),1,8):=by kernel_rfl
structure Mv (g:Nat) (row:Option Nat) (w:World) (row':Option Nat) (w':World):Prop where
 os:w'.os=w.os
 tape:w'.tape=w.tape
 output:w'.output=w.output
 size:w.heap.size≤w'.heap.size
 block:∀ b,b < w.heap.size→b ≠ g→some b ≠ row→w'.heap[b]? = w.heap[b]?
 tgt:row'=row∨∀ b,row'=some b→w.heap.size≤b
section
variable {g:Nat} {r0 r1 r2:Option Nat} {w w1 w2:World}
theorem Mv.refl:Mv g r0 w r0 w:=⟨rfl,rfl,rfl,amL _,fun _ _ _ _=>rfl,.inl rfl⟩
theorem Mv.trans (h:Mv g r0 w r1 w1)(k:Mv g r1 w1 r2 w2):Mv g r0 w r2 w2:=by
 refine⟨k.os.trans h.os,k.tape.trans h.tape,k.output.trans h.output,Nat.le_trans h.size k.size,fun b a d f=>?_,?_⟩
 ·refine (k.block b (amY a h.size) d ?_).trans (h.block b a d f);rcases h.tgt with e | e
  ·rw [e];exact f
  ·intro c;have:=e b c.symm;omega
 ·rcases k.tgt with e | e
  ·rcases h.tgt with c | c
   ·exact .inl (e.trans c)
   ·right;intro b a;rw [e] at a;exact c b a
  ·right;intro b a;have:=e b a;have:=h.size;omega
theorem Mv.of_below (h:Below w.heap.size w w1):Mv g r0 w r0 w1:=⟨h.os,h.tape,h.output,h.size,fun b a _ _=>h.block b a,.inl rfl⟩
theorem Mv.below (h:Mv g r0 w r1 w1)(d:g < w.heap.size){B:Nat}(c:B≤g)(a:∀ b,r0=some b→B≤b):Below B w w1 :=
 ⟨h.os,h.tape,h.output,h.size,fun k f=>h.block k (by omega) (by omega) (fun e=>by have:=a k e.symm;omega)⟩
theorem Mv.jX {T:TypeId}{cs:Array Value}(c:bY w g T cs)(i:Nat)(u:Value):Mv g r0 w r0 (w.setCell ⟨g,i,none⟩ u) :=
 ⟨rfl,rfl,rfl,by simp [World.setCell],fun b _ a _=>Below.heap_setCell w ⟨g,i,none⟩ u b (by simpa using a),.inl rfl⟩
theorem Mv.grown (h:w.grownBy w1 r0)(c:r1=r0∨r1=some w.heap.size):Mv g r0 w r1 w1 :=
 ⟨h.os,h.tape,h.output,h.size,fun b a _ d=>h.block b a d,c.imp id (fun e b a=>by rw [e] at a;injection a with a;omega)⟩
theorem Mv.alloc (o:Obj):Mv g r0 w r0 (w.alloc o):=Mv.of_below ((Below.refl _ _).alloc (amL _) o)
theorem Mv.drewN (n:Nat):Mv g r0 w r0 (w.drewN n):=⟨rfl,rfl,rfl,amL _,fun _ _ _ _=>rfl,.inl rfl⟩
theorem Mv.blk {b:Nat}{T:TypeId}{cs:Array Value}(h:Mv g r0 w r1 w1)(a:bY w b T cs)(c:b ≠ g)(d:some b ≠ r0):bY w1 b T cs:=(h.block b a.lt c d).trans a
theorem Mv.ne (h:Mv g r0 w r1 w1){b:Nat}(d:b < w.heap.size)(c:some b ≠ r0):some b ≠ r1:=by
 rcases h.tgt with e | e
 ·rw [e];exact c
 ·intro a;have:=e b a.symm;omega
theorem Mv.row {base e s n:Nat}{v:Value}{xs:List Value}(h:Mv g r0 w r1 w1)(f:w.ownsRow base e s v n xs)(j:v.ownBlock ≠ some g)(a:v.ownBlock=none∨v.ownBlock ≠ r0):w1.ownsRow base e s v n xs:=by
 refine⟨f.1,?_⟩
 rcases f.2 with h2 | ⟨b,cap,c,rfl,i,d,r⟩
 ·exact .inl h2
 ·refine .inr ⟨b,cap,c,rfl,i,(h.block b (amI.1 d).1 ?_ ?_).trans d,r⟩
  ·intro e;exact j (by simp [Value.ownBlock,e])
  ·intro e;rcases a with a | a
   ·simp [Value.ownBlock] at a
   ·exact a (by simp [Value.ownBlock,← e])
theorem eB {e d:TypeId}{b q s y n x:Nat}{v m:Value}{xs k:List Value}(h:w.ownsRow b e s v n xs)(r:w.ownsRow q d y m x k)(j:e ≠ d):v.ownBlock=none∨v.ownBlock ≠ m.ownBlock:=by
 rcases h.2 with ⟨rfl,_⟩ | ⟨g,cap,c,rfl,_,u,_⟩
 ·left;rfl
 ·right
  rcases r.2 with ⟨rfl,_⟩ | ⟨g',l,a,rfl,_,i,_⟩
  ·simp [Value.ownBlock]
  ·intro f;have f:g=g':=by simpa [Value.ownBlock] using f
   subst f;exact bY.ne_ (show bY w g e c from u) (show bY w g d a from i) j rfl
theorem jr {base base' e s n:Nat}{v:Value}{xs:List Value}(h:w.ownsRow base e s v n xs)(c:∀ k,v.ownBlock=some k→base'≤k):w.ownsRow base' e s v n xs:=by
 refine⟨h.1,?_⟩
 rcases h.2 with h2 | ⟨b,cap,a,rfl,_,r⟩
 ·exact .inl h2
 ·exact .inr ⟨b,cap,a,rfl,c b rfl,r⟩
end
theorem nZ {w:World}{m:Nat}{o:Obj}(h:w.heap[m]? = some o)(x:Obj):(w.alloc x).heap[m]? = some o :=
 (Lib.alloc_old w x m (amI.1 h).1).trans h
section
variable {g:Nat} {r0 r1:Option Nat} {w w1 w2:World}
theorem Mv.R_ {b i:Nat}{u:Value}(h:Mv g r0 w r1 w1)(f:w.heap.size≤b):Mv g r0 w r1 (w1.setCell ⟨b,i,none⟩ u) :=
 ⟨h.os,h.tape,h.output,by simpa [World.setCell] using h.size,fun c a d e=>(Below.heap_setCell w1 ⟨b,i,none⟩ u c (by simp;omega)).trans (h.block c a d e),h.tgt⟩
theorem Mv.ad3 {i:Nat}{u:Value}(h:Mv g r0 w r1 w1):Mv g r0 w r1 (w1.setCell ⟨g,i,none⟩ u) :=
 ⟨h.os,h.tape,h.output,by simpa [World.setCell] using h.size,fun c b a d=>(Below.heap_setCell w1 ⟨g,i,none⟩ u c (by simpa using a)).trans (h.block c b a d),h.tgt⟩
theorem Mv.o_ (h:Mv g r0 w r1 w1)(a:Below w1.heap.size w1 w2):Mv g r0 w r1 w2:=h.trans (Mv.of_below a)
theorem Mv.gT {o:Obj}(h:Mv g r0 w r1 w1):Mv g r0 w r1 (w1.alloc o):=h.trans (Mv.alloc o)
theorem Mv.RV (h:Mv g r0 w r1 w1):Mv g r0 w r1 w1.drew:=h.trans (Mv.drewN 1)
end
theorem gQ {B:Nat}{a w:World}{b i:Nat}{u:Value}(h:Below B a w)(c:B≤b):Below B a (w.setCell ⟨b,i,none⟩ u):=h.setCell (p:=⟨b,i,none⟩) c u
theorem aU {B:Nat}{a w:World}{o:Obj}(h:Below B a w)(b:B≤w.heap.size):Below B a (w.alloc o):=h.alloc b o
def FJ (w:World)(g:Nat)(tv:Value)(l:List Tok):Prop:=∃ A c,tv=.slice A l.length c∧l.length≤c∧Reads w g 3 A l.length (jV l)
theorem FJ.toks {w:World}{g:Nat}{tv:Value}{l:List Tok}(h:FJ w g tv l)(b:g≤w.heap.size):oZ w tv l:=by
 obtain⟨A,c,rfl,a,d⟩:=h;exact⟨A,c,rfl,a,d.more b⟩
theorem FJ.below {w w':World}{g:Nat}{tv:Value}{l:List Tok}(h:FJ w g tv l)(a:Below g w w'):FJ w' g tv l:=by
 obtain⟨A,c,rfl,b,d⟩:=h;exact⟨A,c,rfl,b,d.below a⟩
end
set_option linter.all false
section
open Go.RowKit Mist
def iN (p:Pz):List Value:=[.string (aG p.text),.bool p.blank,.int .i64 p.node]
def gW (l:List Pz):List Value:=l.flatMap iN
theorem He (l:List Pz)(p:Pz):gW (l ++ [p])=gW l ++ iN p:=by simp [gW]
theorem oQ (p:Pz):∀ u ∈ iN p,u.oneCell'=true:=by
 intro u a;simp [iN] at a
 rcases a with rfl | rfl | rfl <;> rfl
theorem vX (l:List Pz):∀ (k j:Nat) (p:Pz) (u:Value),l[k]? = some p→(iN p)[j]? = some u→(gW l)[k * 3+j]? = some u:=by
 induction l with
 | nil=>intro k j p u h;simp at h
 | cons t r b =>
  intro k j p u h a;have e:gW (t :: r)=iN t ++ gW r:=by simp [gW]
  have h3:(iN t).length=3:=rfl;rw [e]
  cases k with
  | zero =>
   have:t=p:=by simpa using h
   subst this;have c:j < 3:=(amG.1 a).1;rw [List.getElem?_append_left (by omega),Nat.zero_mul,Nat.zero_add];exact a
  | succ k =>
   rw [List.getElem?_append_right (by omega),h3,show (k+1) * 3+j - 3=k * 3+j by omega];exact b k j p u (by simpa using h) a
theorem Pv (l:List Pz):∀ a:Nat,a < l.length→(gW l).set (a * 3+1) (.bool false)=gW (nK a l):=by
 induction l with
 | nil=>intro a h;simp at h
 | cons t r b =>
  intro a h;have e:∀ (t:Pz) (r:List Pz),gW (t :: r)=iN t ++ gW r:=fun t r=>by simp [gW]
  cases a with
  | zero =>
   show (gW (t :: r)).set 1 _=gW (⟨t.text,false,t.node⟩ :: r)
   rw [e,e];rfl
  | succ a =>
   show (gW (t :: r)).set ((a+1) * 3+1) _=gW (t :: nK a r)
   have h3:(iN t).length=3:=rfl;rw [e,e,List.set_append_right _ _ (by omega),h3,show (a+1) * 3+1 - 3=a * 3+1 by omega,b a (by simpa using h)]
abbrev Sz:=List (Nat × TypeId × Array Value)
structure PZ (S:Sz) (B g:Nat) (w W:World) (nv iv pv:Value) (ps:List Pz):Prop where
 blk:bY W g 96 #[nv,iv,pv]
 own:W.ownsRow B 107 3 pv ps.length (gW ps)
 MF:Below B w W
 le:B≤g
 lw:B≤W.heap.size
 kp:∀ e ∈ S,bY W e.1 e.2.1 e.2.2∧e.2.1 ≠ 107∧e.1 ≠ g
section
variable {S:Sz} {B g:Nat} {w W w2:World} {nv iv pv v2:Value} {ps:List Pz}
theorem PZ.alloc (h:PZ S B g w W nv iv pv ps)(o:Obj):PZ S B g w (W.alloc o) nv iv pv ps :=
 ⟨h.blk.alloc o,h.own.alloc o,h.MF.alloc h.lw o,h.le,by have:=h.lw;simp;omega,fun e a=>⟨(h.kp e a).1.alloc o,(h.kp e a).2⟩⟩
theorem PZ.add (h:PZ S B g w W nv iv pv ps)(p:Pz)(b:W.grownBy w2 pv.ownBlock)(a:w2.ownsRow B 107 3 v2 (ps.length+1) (gW ps ++ iN p)) :
  PZ S B g w (w2.setCell ⟨g,2,none⟩ v2) nv iv v2 (ps ++ [p]):=by
 have kb:=h.blk.grown b (fun e=>aW h.own h.blk (by decide) e.symm);have m:=aW a kb (by decide)
 refine⟨?_,?_,?_,h.le,?_,fun e d=>?_⟩
 ·have:=kb.jX 2 v2;simpa using this
 ·rw [amQ,amV,He];exact ownsRow_setCell_other a m _
 ·exact (h.MF.grown b h.lw (fun k f=>(h.own.lt k f).1)).setCell (p:=⟨g,2,none⟩) h.le _
 ·have:=b.size;have:=h.lw;simp at *;omega
 ·obtain⟨h1,h2,h3⟩:=h.kp e d;exact⟨(h1.grown b (fun c=>aW h.own h1 (Ne.symm h2) c.symm)).far (p:=⟨g,2,none⟩) h3 _,h2,h3⟩
theorem PZ.drewN (h:PZ S B g w W nv iv pv ps)(n:Nat):PZ S B g w (W.drewN n) nv iv pv ps:=⟨h.blk,h.own,mJ h.MF n,h.le,h.lw,h.kp⟩
theorem PZ.drew (h:PZ S B g w W nv iv pv ps):PZ S B g w W.drew nv iv pv ps:=⟨h.blk,h.own,h.MF.drew,h.le,h.lw,h.kp⟩
theorem PZ.below (h:PZ S B g w W nv iv pv ps){c:World}(a:Below W.heap.size W c):PZ S B g w c nv iv pv ps :=
 ⟨h.blk.below a h.blk.lt,own_below h.own a,h.MF.trans (a.mono h.lw),h.le,Nat.le_trans h.lw a.size,fun e b=>⟨(h.kp e b).1.below a (h.kp e b).1.lt,(h.kp e b).2⟩⟩
theorem PZ.close {b cap:Nat}(h:PZ S B g w W nv iv (.slice (some ⟨b,0,none⟩) ps.length cap) ps){a:Nat}(j:a < ps.length) :
  PZ S B g w (W.setCell ⟨b,a * 3+1,none⟩ (.bool false)) nv iv (.slice (some ⟨b,0,none⟩) ps.length cap) (nK a ps):=by
 have c:=aW h.own h.blk (by decide);have l:=h.own.stored (a * 3+1) (.bool false)
 refine⟨h.blk.far (p:=⟨b,a * 3+1,none⟩) (fun e=>c (by simp [Value.ownBlock,e])) _,?_,h.MF.setCell (p:=⟨b,_,none⟩) (h.own.lt b rfl).1 _,h.le,by have:=h.lw;simpa using this,fun e k=>?_⟩
 ·have e:(nK a ps).length=ps.length:=by unfold nK;rw [List.length_modify]
  have h1:=l.1;rw [Pv ps a j] at h1
  rw [e];exact h1
 ·obtain⟨d,f,m⟩:=h.kp e k;exact⟨d.far (p:=⟨b,a * 3+1,none⟩) (fun i=>aW h.own d (Ne.symm f) (by simp [Value.ownBlock,i])) _,f,m⟩
theorem PZ.more {b:Nat}{T:TypeId}{cs:Array Value}(h:PZ S B g w W nv iv pv ps)(c:bY W b T cs)(f:T ≠ 107)(d:b ≠ g):PZ ((b,T,cs) :: S) B g w W nv iv pv ps :=
 ⟨h.blk,h.own,h.MF,h.le,h.lw,fun e a=>by
  rcases List.mem_cons.1 a with rfl | a
  ·exact⟨c,f,d⟩
  ·exact h.kp e a⟩
theorem PZ.fewer {a:Sz}(h:PZ S B g w W nv iv pv ps)(c:∀ e ∈ a,e ∈ S):PZ a B g w W nv iv pv ps :=
 ⟨h.blk,h.own,h.MF,h.le,h.lw,fun e b=>h.kp e (c e b)⟩
theorem PZ.tl {e:Nat × TypeId × Array Value}(h:PZ (e :: S) B g w W nv iv pv ps):PZ S B g w W nv iv pv ps:=h.fewer fun _ a=>List.mem_cons_of_mem _ a
theorem PZ.box {T:TypeId}{cs:Array Value}(h:PZ S B g w W nv iv pv ps)(a:T ≠ 107):PZ ((W.heap.size,T,cs) :: S) B g w (W.alloc (.cells cs T)) nv iv pv ps :=
 (h.alloc _).more (bY.new W T cs) a (Ne.symm (Nat.ne_of_lt h.blk.lt))
end
end
set_option linter.all false
section
open Go.RowKit Mist
attribute [local go_sem] ak aN aV aF aj
theorem yJ:(Tryz.prog.info? 107).map (fun i=>(i.zero,i.size,i.bytes))=some (some (.agg #[.string ByteArray.empty,.bool false,.int .i64 0]),3,32):=by kernel_rfl
section
variable {S:Sz} {B g:Nat} {w W:World} {nv iv pv:Value} {ps:List Pz}
theorem aaY (h:PZ S B g w W nv iv pv ps)(t:Bs)(n:Int)(K:ps.length≤1000000) :
  Calls Tryz.prog 47 #[.pointer (some ⟨g,0,none⟩),.string (aG t),.int .i64 n] W fun e E=>e=.returned (.tuple #[])∧∃ r,PZ S B g w E nv iv r (ps ++ [⟨t,false,n⟩]):=by
 obtain⟨A,c,rfl⟩:=dA h.own;obtain⟨L,f,j,k,l⟩:=info_parts yJ;have H:=O h;clear h;have c2:=H.o.blk.cell 2;have N:=H.o.blk.frozen 2;have J:=H.o.lw;obtain⟨m,i⟩:∃ m,m=ps.length:=⟨_,rfl⟩;rw [← i] at K c2
 have u:=O i;clear i;have v:=O (show W.ownsRow B 107 3 (.slice A m c) m (gW ps) from by rw [u.o];exact H.o.own)
 have b:∀ w2 v2,(W.alloc (.cells #[.string (aG t),.bool false,.int .i64 n] 107)).grownBy w2 (Value.slice A m c).ownBlock→w2.ownsRow B 107 3 v2 (m+1) (gW ps ++ iN ⟨t,false,n⟩)→PZ S B g w (w2.setCell ⟨g,2,none⟩ v2) nv iv v2 (ps ++ [⟨t,false,n⟩]):=fun w2 v2 x y=>by
  rw [u.o] at x y
  exact (H.o.alloc _).add _ x y
 have D:=O b;clear b;go_in
 go_wp2_with (at_builtin;go_loud (
  refine wpList_append_own _ rfl (.tmp 10) (.tmp 14) 50 rfl B 107 L _ 3 32 Tryz.underlying50 f j k l rfl (by decide) _ m (gW ps) rfl (v.o.alloc _) ⟨W.heap.size,0,none⟩ 1 1 (iN ⟨t,false,n⟩) rfl rfl (iK W (iN ⟨t,false,n⟩) _) (oQ _) (by simp only [maxLen];omega) (by omega) (by simp;omega) ?_;intro v2 w2 a d _;have q:=(H.o.alloc (.cells #[.string (aG t),.bool false,.int .i64 n] 107)).blk.grown d (fun e=>aW (v.o.alloc _) (H.o.alloc (.cells #[.string (aG t),.bool false,.int .i64 n] 107)).blk (by decide) e.symm);have F:=q.cell 2;have I:=q.frozen 2;obtain⟨M,G,rfl⟩:=dA a;have C:=O (D.o _ _ d a);clear q a d))
 go_end0
 exact⟨rfl,_,C.o⟩
theorem RJ (ps:List Pz):∀ a:Nat,ps.length≤a→nK a ps=ps:=by
 induction ps with
 | nil=>intro a _;cases a <;> rfl
 | cons x ps b =>
  intro a h
  cases a with
  | zero=>simp at h
  | succ a =>
   show x :: nK a ps=x :: ps
   rw [b a (by simpa using h)]
theorem UY (h:PZ S B g w W nv iv pv ps)(a:Nat)(D:a≤1000000) :
  Calls Tryz.prog 81 #[.pointer (some ⟨g,0,none⟩),.int .i64 a] W fun e v=>e=.returned (.tuple #[])∧∃ u,PZ S B g w v nv iv u (nK a ps):=by
 obtain⟨A,c,rfl⟩:=dA h.own;have H:=O h;clear h;have c2:=H.o.blk.cell 2;obtain⟨m,q⟩:∃ m,m=ps.length:=⟨_,rfl⟩;rw [← q] at c2
 have j:=O q;clear q;have k:=O (show W.ownsRow B 107 3 (.slice A m c) m (gW ps) from by rw [j.o];exact H.o.own);have F:(0:Int)≤(a:Int):=by omega
 by_cases l:a < m
 ·have y:(a:Int) < (m:Int):=by omega
  obtain⟨d,x⟩:∃ d,A=some ⟨d,0,none⟩:=by
   obtain⟨d,cap,hv,_⟩:=k.o.form (by omega);injection hv with r
   exact⟨d,r⟩
  subst x;have f:a < ps.length:=by rw [← j.o];exact l
  obtain⟨b,E⟩:∃ b,W.cell? ⟨d,a * 3+1,none⟩=some (.bool b):=⟨_,by
   rw [k.o.cellAt (a * 3+1) (by omega)];exact vX ps a 1 ps[a] _ (amF f) rfl⟩
  have C:=k.o.frozenAt (a * 3+1);have i:=O (show PZ S B g w (W.setCell ⟨d,a * 3+1,none⟩ (.bool false)) nv iv (.slice (some ⟨d,0,none⟩) ps.length c) (nK a ps) from PZ.close H.o f);go_in
  go_wp2_with fail;go_end0
  exact⟨rfl,_,i.o⟩
 ·have y:¬ (a:Int) < (m:Int):=by omega
  have i:=O (show PZ S B g w W nv iv _ (nK a ps) from by rw [RJ ps a (by rw [← j.o];omega)];exact H.o);go_in
  go_wp2_with fail;go_end0
  exact⟨rfl,_,i.o⟩
theorem afH (h:PZ S B g w W nv iv pv ps)(t:Bs)(n:Int)(N:ps.length≤1000000) :
  Calls Tryz.prog 46 #[.pointer (some ⟨g,0,none⟩),.string (aG t),.int .i64 n] W fun e I=>e=.returned (.tuple #[])∧∃ v,PZ S B g w I nv iv v (ag1 ps t n):=by
 obtain⟨A,c,rfl⟩:=dA h.own;obtain⟨Q,j,l,q,r⟩:=info_parts yJ;have H:=O h;clear h;have c2:=H.o.blk.cell 2;have R:=H.o.blk.frozen 2;have M:=H.o.lw;have L:=H.o.blk.lt;obtain⟨m,k⟩:∃ m,m=ps.length:=⟨_,rfl⟩;rw [← k] at N c2
 have f:=O k;clear k;have x:=O (show W.ownsRow B 107 3 (.slice A m c) m (gW ps) from by rw [f.o];exact H.o.own);have E:=O (show decide (0 < m)=decide (0 < ps.length) by rw [f.o])
 have d:∀ w2 v2,((W.alloc (.cells #[.string (aG t),.bool (decide (0 < m)),.int .i64 n] 107)).drew).grownBy w2 (Value.slice A m c).ownBlock→w2.ownsRow B 107 3 v2 (m+1) (gW ps ++ iN ⟨t,decide (0 < m),n⟩)→PZ S B g w (w2.setCell ⟨g,2,none⟩ v2) nv iv v2 (ag1 ps t n):=fun w2 v2 y D=>by
  rw [f.o] at y D
  exact ((H.o.alloc _).drew).add ⟨t,decide (0 < ps.length),n⟩ y D
 have G:=O d;clear d;go_in
 go_wp2_with fail
 go_region_law ((refine step_append_lies _ (by rfl) _ _ _ (by rfl) B 107 Q _ 3 32 Tryz.underlying50 j l q r rfl (by omega) _ m (gW ps) (by rfl) ((x.o.alloc _).drew)
                  ⟨W.heap.size,0,none⟩ 1 1 (iN ⟨t,decide (0 < m),n⟩) (by rfl) (by rfl) (World.news_of_block (cs:=#[.string (aG t),.bool (decide (0 < m)),.int .i64 n]) (t:=107) (fr:=(0,0)) (heap_alloc_new W _)) (oQ _)
                  (by omega) (by simp only [maxLen];omega) (by omega) (by simp;omega) (W.heap.size+1) (by simp) ?_;intro T cap w1 b a i C;have u:=((H.o.alloc (.cells #[.string (aG t),.bool (decide (0 < m)),.int .i64 n] 107)).drew).blk.grown a (fun e=>aW (x.o.alloc _) (H.o.alloc (.cells #[.string (aG t),.bool (decide (0 < m)),.int .i64 n] 107)).blk (by decide) e.symm);have J:=u.cell 2;have K:=u.frozen 2;clear u))
 all_goals
  have F:=O (G.o _ _ a b);clear a b i;go_wp2_with fail;go_end0
  exact⟨rfl,_,F.o⟩
end
end
