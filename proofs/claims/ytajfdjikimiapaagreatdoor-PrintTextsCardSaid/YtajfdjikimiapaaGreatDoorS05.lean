/-
  A part of the proof.
-/
import Derived.Deep.AppendLies
import Derived.Test.YtajfdjikimiapaaGreatDoorAtoi
import Derived.Test.YtajfdjikimiapaaGreatDoorS04
set_option linter.all false
set_option maxRecDepth 100000
set_option maxHeartbeats 2000000
namespace Go.Proofs.YtajfdjikimiapaaGreatDoor
section
open Go Go.RowKit
theorem GI (a:Addr)(n:Nat):(a.add n).block=a.block:=by unfold Addr.add;split <;> rfl
def Reads (w:World)(B size:Nat)(A:Option Addr)(n:Nat)(xs:List Value):Prop :=
 xs.length=n * size∧(0 < n→∃ ad,A=some ad∧ad.block < B∧∀ j u,xs[j]? = some u→w.cell? (ad.add j)=some u)
section
variable {w w':World} {B B' size n:Nat} {A:Option Addr} {xs:List Value}
theorem Reads.none_:Reads w B size A 0 []:=⟨by simp,fun h=>absurd h (by omega)⟩
theorem Reads.at_ {k:Nat}(h:Reads w B 1 A n xs)(f:k < n):∃ a u,A=some a∧a.block < B∧xs[k]? = some u∧w.cell? (a.add k)=some u:=by
 obtain⟨a,e,c,d⟩:=h.2 (by omega);have b:k < xs.length:=by have:=h.1;omega
 exact⟨a,xs[k],e,c,aip b,d k _ (aip b)⟩
theorem Reads.keep (h:Reads w B size A n xs)(d:∀ p:Addr,p.block < B→w'.cell? p=w.cell? p):Reads w' B size A n xs :=
 ⟨h.1,fun f=>by
  obtain⟨b,e,a,c⟩:=h.2 f;exact⟨b,e,a,fun j u i=>(d _ (by rw [GI];exact a)).trans (c j u i)⟩⟩
theorem Reads.more (h:Reads w B size A n xs)(d:B≤B'):Reads w B' size A n xs :=
 ⟨h.1,fun c=>by
  obtain⟨a,e,f,b⟩:=h.2 c;exact⟨a,e,by omega,b⟩⟩
theorem Reads.below (h:Reads w B size A n xs)(a:Below B w w'):Reads w' B size A n xs:=h.keep fun _ b=>a.cell b
theorem Reads.drew (h:Reads w B size A n xs):Reads w.drew B size A n xs:=h
theorem Reads.drewN (h:Reads w B size A n xs)(k:Nat):Reads (w.drewN k) B size A n xs:=h
theorem Reads.alloc (h:Reads w B size A n xs)(a:B≤w.heap.size)(o:Obj):Reads (w.alloc o) B size A n xs:=h.keep fun p b=>World.cell?_alloc_lt w o p (by omega)
theorem Reads.setCell (h:Reads w B size A n xs){p:Addr}(a:B≤p.block)(u:Value):Reads (w.setCell p u) B size A n xs :=
 h.keep fun q b=>World.cell?_setCell_other w p q u (fun e=>by subst e;omega)
theorem Reads.grown (h:Reads w B size A n xs){row:Option Nat}(a:w.grownBy w' row)(c:B≤w.heap.size)(b:∀ g,row=some g→B≤g):Reads w' B size A n xs :=
 h.keep fun p d=>World.cell?_of_block (a.block p.block (by omega) (fun e=>by have:=b _ e.symm;omega))
theorem Reads.Ow {base:Nat}{e:TypeId}{c:Nat}(h:w.ownsRow base e size (.slice A n c) n xs):Reads w w.heap.size size A n xs:=by
 refine⟨h.1,fun d=>?_⟩
 obtain⟨g,cap,hv,_,a⟩:=h.form d;have b:A=some ⟨g,0,none⟩:=by injection hv
 subst b;exact⟨_,rfl,a,h.cells (g:=g) rfl⟩
end
def aZ (w:World)(g:Nat)(t:TypeId)(cs:Array Value):Prop:=w.heap[g]? = some (.cells cs t (0,0))
section
variable {w w':World} {g:Nat} {t:TypeId} {cs:Array Value}
theorem aZ.lt (h:aZ w g t cs):g < w.heap.size:=by
 rcases Nat.lt_or_ge g w.heap.size with b | a
 ·exact b
 ·unfold aZ at h;rw [Array.getElem?_eq_none a] at h;cases h
theorem aZ.cell (h:aZ w g t cs)(i:Nat):w.cell? ⟨g,i,none⟩=cs[i]? := cell_of_row w g i cs t (0,0) h
theorem aZ.frozen (h:aZ w g t cs)(i:Nat):w.frozen? ⟨g,i,none⟩=false:=by
 unfold aZ at h
 simp [World.frozen?,h]
theorem aZ.new (w:World)(t:TypeId)(cs:Array Value):aZ (w.alloc (.cells cs t)) w.heap.size t cs:=heap_alloc_new w _
theorem aZ.drew (h:aZ w g t cs):aZ w.drew g t cs:=h
theorem aZ.drewN (h:aZ w g t cs)(n:Nat):aZ (w.drewN n) g t cs:=h
theorem aZ.alloc (h:aZ w g t cs)(o:Obj):aZ (w.alloc o) g t cs:=(Below.heap_alloc w o g h.lt).trans h
theorem aZ.jD (h:aZ w g t cs)(i:Nat)(u:Value):aZ (w.setCell ⟨g,i,none⟩ u) g t (cs.setIfInBounds i u):=by
 unfold aZ at h ⊢
 simp [World.setCell,Array.getElem?_modify,h]
theorem aZ.far (h:aZ w g t cs){p:Addr}(a:g ≠ p.block)(u:Value):aZ (w.setCell p u) g t cs:=(Below.heap_setCell w p u g a).trans h
theorem aZ.below {B:Nat}(h:aZ w g t cs)(a:Below B w w')(b:g < B):aZ w' g t cs:=(a.block g b).trans h
theorem aZ.grown {row:Option Nat}(h:aZ w g t cs)(a:w.grownBy w' row)(b:some g ≠ row):aZ w' g t cs:=(a.block g h.lt b).trans h
theorem aZ.Zk {g':Nat}{c:TypeId}{cs':Array Value}(h:aZ w g t cs)(a:aZ w g' c cs')(b:t ≠ c):g ≠ g':=by
 rintro rfl;unfold aZ at h a
 rw [h] at a
 injection a with a
 injection a with _ d
 exact b d
theorem bJ {base:Nat}{e:TypeId}{size n:Nat}{v:Value}{xs:List Value}(h:w.ownsRow base e size v n xs)(d:aZ w g t cs)(a:e ≠ t):v.ownBlock ≠ some g:=by
 rcases h.2 with ⟨rfl,_⟩ | ⟨g',cap,b,rfl,_,f,_⟩
 ·simp [Value.ownBlock]
 ·intro c
  have:g'=g:=by simpa [Value.ownBlock] using c
  subst this;exact aZ.Zk (t:=e) f d a rfl
end
section
variable {P:Program} (w:World)
theorem yD (base:Nat)(t h e:TypeId)(i:TypeInfo)(size:Nat)(d:P.underlying t=some (.slice e))(hi:P.info? e=some i)
  (v:Value) (n:Nat) (xs:List Value) (a:w.ownsRow base e size v n xs) (c:Nat):(Builtin.append_ #[t,t] h #[v,.slice none 0 c]).run P w=.ok v w:=by
 rcases a.2 with ⟨rfl,rfl⟩ | ⟨g,cap,f,rfl,_,_,b,_⟩
 ·simp [Builtin.append_,run_underlying d,sizeOf,typeInfo,hi,Builtin.lenOf,Builtin.firstCells]
 ·simp [Builtin.append_,run_underlying d,sizeOf,typeInfo,hi,Builtin.lenOf,Builtin.firstCells,b,storeCells]
theorem D9 (base:Nat)(t G e:TypeId)(i:TypeInfo)(z:Value)(size b:Nat)(H:P.underlying t=some (.slice e))(hi:P.info? e=some i)(M:i.zero=some z)
  (o:i.size=size) (C:i.bytes=b) (F:z.cells.size=size) (E:0 < size)
  (v:Value) (n:Nat) (xs:List Value) (d:w.ownsRow base e size v n xs)
  (B:Nat) (A:Option Addr) (m c:Nat) (a:List Value) (r:Reads w B size A m a) (h1:∀ u ∈ a,u.oneCell'=true)
  (h63:n+m≤maxLen) (f:(n+m) * b≤140737488355328) (l:base≤w.heap.size) :
  ∃ q w',(Builtin.append_ #[t,t] G #[v,.slice A m c]).run P w=.ok q w'∧w'.ownsRow base e size q (n+m) (xs ++ a)∧w.grownBy w' v.ownBlock ∧
   (q.ownBlock=v.ownBlock∨q.ownBlock=some w.heap.size):=by
 rcases A with _ | y
 ·have L:m=0:=by
   rcases Nat.eq_zero_or_pos m with h0 | h0
   ·exact h0
   ·obtain⟨y,h,_⟩:=r.2 h0;cases h
  subst L;have D:a=[]:=List.eq_nil_of_length_eq_zero (by simpa using r.1);subst D;exact⟨v,w,yD w base t G e i size H hi v n xs d c,by simpa using d,World.grownBy.refl w _,.inl rfl⟩
 ·have k:∀ j u,a[j]? = some u→w.cell? (y.add j)=some u:=by
   intro j u I;rcases Nat.eq_zero_or_pos m with h0 | h0
   ·subst h0;have D:a=[]:=List.eq_nil_of_length_eq_zero (by simpa using r.1);subst D;simp at I
   ·obtain⟨J,h,_,K⟩:=r.2 h0;injection h with h
    subst h;exact K j u I
  obtain⟨q,w',x,h2,h3,_,h5⟩:=run_append_own_at (P:=P) w base t G e i z size b H hi M o C F E v n xs d y m c a r.1 k h1 h63 f l;exact⟨q,w',x,h2,h3,h5⟩
theorem EW {o:Oper}{a:Act}{K:Act→World→Prop}{Q:Exit→Act→World→Prop}(s x:Operand)(t:TypeId)
  (E:o.op=.call { callee:=.builtin .append,args:=#[s,x],argTypes:=#[t,t] })
  (base:Nat) (e:TypeId) (i:TypeInfo) (z:Value) (size b:Nat) (H:P.underlying t=some (.slice e)) (hi:P.info? e=some i) (J:i.zero=some z)
  (k:i.size=size) (y:i.bytes=b) (D:z.cells.size=size) (C:0 < size)
  (v:Value) (n:Nat) (xs:List Value) (G:a.eval s=v) (q:w.ownsRow base e size v n xs)
  (B:Nat) (A:Option Addr) (m c:Nat) (d:List Value) (I:a.eval x=.slice A m c) (F:Reads w B size A m d) (h1:∀ u ∈ d,u.oneCell'=true)
  (h63:n+m≤maxLen) (f:(n+m) * b≤140737488355328) (j:base≤w.heap.size)
  (h:∀ l w',w'.ownsRow base e size l (n+m) (xs ++ d)→w.grownBy w' v.ownBlock→(l.ownBlock=v.ownBlock∨l.ownBlock=some w.heap.size)→K (a.put o.dst l) w'):o.wp P a w K Q:=by
 obtain⟨l,w',r,h2,h3,h4⟩:=D9 (P:=P) w base t o.type e i z size b H hi J k y D C v n xs q B A m c d F h1 h63 f j;unfold Oper.wp execOp;simp only [E,resolve,invoke,builtin,Sem.run_bind,Sem.run_pure,Result.andThen_ok,List.map_toArray,List.map_cons,List.map_nil,G,I,r];exact h l w' h2 h3 h4
theorem kH {r:Array Oper}{rest:List Oper}{o:Oper}{a:Act}{Q:Exit→Act→World→Prop}(C:o.guard=none)(s x:Operand)(t:TypeId)
  (G:o.op=.call { callee:=.builtin .append,args:=#[s,x],argTypes:=#[t,t] })
  (base:Nat) (e:TypeId) (i:TypeInfo) (z:Value) (size b:Nat) (J:P.underlying t=some (.slice e)) (hi:P.info? e=some i) (L:i.zero=some z)
  (k:i.size=size) (y:i.bytes=b) (E:z.cells.size=size) (D:0 < size)
  (v:Value) (n:Nat) (xs:List Value) (I:a.eval s=v) (q:w.ownsRow base e size v n xs)
  (B:Nat) (A:Option Addr) (m c:Nat) (d:List Value) (K:a.eval x=.slice A m c) (H:Reads w B size A m d) (h1:∀ u ∈ d,u.oneCell'=true)
  (h63:n+m≤maxLen) (f:(n+m) * b≤140737488355328) (j:base≤w.heap.size)
  (h:∀ l w',w'.ownsRow base e size l (n+m) (xs ++ d)→w.grownBy w' v.ownBlock→(l.ownBlock=v.ownBlock∨l.ownBlock=some w.heap.size)→wpList P r Q rest (a.put o.dst l) w'):wpList P r Q (o :: rest) a w :=
 wpList_plain C fun _ F=>EW w s x t G base e i z size b J hi L k y E D v n xs I q B A m c d K H h1 h63 f j fun l w' h2 h3 h4=>F _ _ (h l w' h2 h3 h4)
end
end
section
open Go.RowKit Mist
attribute [local go_sem] au aN aV aM aG
def kR (t:Tok):List Value:=[.int .u8 t.kind,.string (aU t.text),.int .i64 t.at_]
def jf (l:List Tok):List Value:=l.flatMap kR
theorem Bz (l m:List Tok):jf (l ++ m)=jf l ++ jf m:=by simp [jf]
def nS (w:World)(v:Value)(l:List Tok):Prop:=∃ A c,v=.slice A l.length c∧l.length≤c∧Reads w w.heap.size 3 A l.length (jf l)
theorem nS.Ow {w:World}{base:Nat}{v:Value}{l:List Tok}(h:w.ownsRow base 131 3 v l.length (jf l)):nS w v l:=by
 rcases h.2 with ⟨hv,h0⟩ | ⟨g,cap,a,hv,_,_,b,_⟩
 ·have:l=[]:=List.eq_nil_of_length_eq_zero h0
  subst this;exact⟨none,0,hv,aiv _,Reads.none_⟩
 ·exact⟨_,cap,hv,b,Reads.Ow (hv ▸ h)⟩
theorem Pm:(Tryz.prog.info? 131).map (fun i=>(i.zero,i.size,i.bytes))=some (some (.agg #[.int .u8 0,.string ByteArray.empty,.int .i64 0]),3,32):=by kernel_rfl
theorem dh {w:World}{base e size n:Nat}{v:Value}{xs:List Value}(h:w.ownsRow base e size v n xs):∃ A c,v=.slice A n c:=by
 rcases h.2 with ⟨hv,h0⟩ | ⟨g,cap,a,hv,_⟩
 ·exact⟨none,0,by rw [hv,h0]⟩
 ·exact⟨_,_,hv⟩
theorem own_below {w w':World}{base e size n:Nat}{v:Value}{xs:List Value}(h:w.ownsRow base e size v n xs)(f:Below w.heap.size w w'):w'.ownsRow base e size v n xs:=by
 refine⟨h.1,?_⟩
 rcases h.2 with h2 | ⟨g,cap,a,hv,i,c,r⟩
 ·exact .inl h2
 ·have d:g < w.heap.size:=by
   rcases Nat.lt_or_ge g w.heap.size with b | b
   ·exact b
   ·rw [Array.getElem?_eq_none b] at c;cases c
  exact .inr ⟨g,cap,a,hv,i,(f.block g d).trans c,r⟩
theorem h_ (w:World)(cs:List Value)(t:TypeId):∀ j u,cs[j]? = some u→(w.alloc (.cells cs.toArray t)).cell? ((⟨w.heap.size,0,none⟩:Addr).add j)=some u:=by
 intro j u a;have b:(w.alloc (.cells cs.toArray t)).heap[w.heap.size]? = some (.cells cs.toArray t):=heap_alloc_new w _
 have:(w.alloc (.cells cs.toArray t)).cell? ⟨w.heap.size,j,none⟩=some u:=by
  rw [Lib.cell_of_heap b];simpa using a
 rw [← this];unfold Addr.add;split
 ·rename_i h;rw [h]
 ·simp
theorem Iz (t:Tok):∀ u ∈ kR t,u.oneCell'=true:=by
 intro u a;simp [kR] at a
 rcases a with rfl | rfl | rfl <;> rfl
theorem YA (l:Bs)(h:¬ (check l).2=0):read l=([],(check l).1,(check l).2):=by unfold Mist.read;rw [if_pos h]
theorem F6 (l:Bs)(h:(check l).2=0):read l=iD (l.length+1) l (skip l) []:=by unfold Mist.read;rw [if_neg (by simpa using h)]
def Jo (l:Bs)(w:World)(e:Ending)(w':World):Prop:=∃ v,e=.returned (.tuple #[v,.int .i64 (read l).2.1,.int .i64 (read l).2.2])∧nS w' v (read l).1∧Below w.heap.size w w'
theorem qo {l:Bs}{w w':World}{v:Value}{a b:Int}{t:List Tok}{x y:Nat}(h:read l=(t,x,y))(d:a=x)(e:b=y)(f:nS w' v t)(c:Below w.heap.size w w') :
  Jo l w (.returned (.tuple #[v,.int .i64 a,.int .i64 b])) w':=by
 subst d;subst e;exact⟨v,by rw [h],by rw [h];exact f,c⟩
theorem nS.none_ (w:World):nS w (.slice none 0 0) []:=⟨none,0,rfl,aiv _,Reads.none_⟩
theorem Yz (l:Bs)(w:World)(Y:Env w)(Q:l.length≤100000000) :
  Calls Tryz.prog 47 #[.string (aU l)] w (Jo l w):=by
 have G:=O Y;clear Y;by_cases x:(check l).2=0
 case neg =>
  have K:((check l).2:Int) != 0:=by simpa using x
  have F:=O (YA l x);clear x;go_in
  go_wp2_with (go_at_call 93;refine (Fy l _ Q).mono ?_;rintro e w' ⟨rfl,rfl⟩)
  go_ret3
  exact qo F.o rfl rfl (nS.none_ _) (Below.refl _ _)
 have K:(((check l).2:Int) != 0)=false:=by simp [x]
 have F:=O (F6 l x);clear x;obtain⟨i0,M,T,U,V⟩:=info_parts Pm;have R:=QE l;go_in
 go_wp2_with (first
  | (go_at_call 93;refine (Fy l _ Q).mono ?_;rintro e w' ⟨rfl,rfl⟩)
  | (go_at_call 94;refine (Lh l _ Q).mono ?_;rintro e w' ⟨rfl,rfl⟩))
 go_loopw [2,3] (fun v i wr=>∃ (f a:Nat) (b:List Tok),i=.int .i64 a∧a≤l.length∧l.length < f+a∧b.length≤800∧read l=iD f l a b∧wr.ownsRow w.heap.size 131 3 v b.length (jf b)∧Below w.heap.size w wr) (fun _ i _=>l.length - (intOf i).toNat)
 case atStart=>exact⟨l.length+1,skip l,[],rfl,R,by omega,by simp,F.o,World.ownsRow_nil _ _ _ _,Below.refl _ _⟩
 case round =>
  obtain⟨f,a,b,rfl,ha,hf,Z,D,m,hb⟩:=hrel;have E:=O D;clear D;have X:=O hf;clear hf;obtain⟨A,c,rfl⟩:=dh m;have h:=O hb;clear hb;have H:=O m;clear m;obtain⟨f,rfl⟩:∃ f',f=f'+1:=⟨f - 1,by have:=X.o;omega⟩;by_cases hlt:a < l.length
  ·have y:¬ l.length≤a:=by omega
   by_cases j:(first (l.drop a)).1=0
   ·have N:(((first (l.drop a)).1:Int) == 0)=true:=by simp [j]
    have q:=O (u_ f l a b y j);clear j y;go_wp2_with (go_at_call 95;refine (t_ (l.drop a) _ (G.o.below h.o) (by simp;omega)).mono ?_;rintro e w' ⟨rfl,d⟩)
    go_ret3
    exact qo (E.o.trans q.o) rfl rfl (nS.none_ _) (h.o.trans (d.mono h.o.size))
   ·have N:(((first (l.drop a)).1:Int) == 0)=false:=by simpa using j
    have C:=zA (l.drop a) j;rw [List.length_drop] at C
    obtain⟨ahM,ahN⟩:=C;by_cases h8:b.length=800
    ·have J:((b.length:Int) == 800)=true:=by simp [h8]
     have q:=O (u6 f l a b y j h8);clear j y h8;go_wp2_with (go_at_call 95;refine (t_ (l.drop a) _ (G.o.below h.o) (by simp;omega)).mono ?_;rintro e w' ⟨rfl,d⟩)
     go_ret3
     exact qo (E.o.trans q.o) rfl rfl (nS.none_ _) (h.o.trans (d.mono h.o.size))
    ·have J:((b.length:Int) == 800)=false:=by simp;omega
     have q:=O (vg f l a b y j h8);clear j y;have I:=QE (l.drop (a+(first (l.drop a)).2.length));rw [List.length_drop] at I
     go_wp2_with (first
      | (go_at_call 95;refine (t_ (l.drop a) _ (G.o.below h.o) (by simp;omega)).mono ?_;rintro e w' ⟨rfl,d⟩)
      | (go_at_call 94;refine (Lh (l.drop (a+(first (l.drop a)).2.length)) _ (by simp;omega)).mono ?_;rintro e w'' ⟨rfl,rfl⟩)
      | (at_builtin
         refine wpList_append_own _ rfl (.tmp 46) (.tmp 51) 81 rfl w.heap.size 131 i0 _ 3 32 Tryz.underlying81 M T U V rfl (by decide) _ b.length (jf b) rfl
           ((own_below H.o d).alloc _) ⟨w'.heap.size,0,none⟩ 1 1 (kR ⟨(first (l.drop a)).1,(first (l.drop a)).2,(a:Int)⟩) rfl rfl (h_ _ _ _) (Iz _) (by simp only [maxLen];omega) (by omega) (by have:=h.o.size;have:=d.size;simp;omega) ?_
         intro v2 w2 u L _))
     have r:Below w.heap.size w w':=h.o.trans (d.mono h.o.size)
     refine⟨⟨f,a+(first (l.drop a)).2.length+skip (l.drop (a+(first (l.drop a)).2.length)),b ++ [⟨(first (l.drop a)).1,(first (l.drop a)).2,(a:Int)⟩],by go_num,by omega,by have:=X.o;omega,by simp;omega,E.o.trans q.o,?_,?_⟩,by simp [intOf];omega⟩
     ·rw [Bz,aiA];simpa [jf] using u
     ·exact (r.alloc r.size _).grown L (by have:=r.size;simp;omega) (fun k j=>((own_below H.o d).lt k j).1)
  ·have q:=O (yB f l a b (by omega));go_wp2;go_ret3
   exact qo (E.o.trans q.o) rfl rfl (nS.Ow H.o) h.o
theorem qw (l:List Tok):∀ (k j:Nat) (u:Value),k < l.length→(kR (tg l k))[j]? = some u→(jf l)[k * 3+j]? = some u:=by
 induction l with
 | nil=>intro k j u h;simp at h
 | cons t r b =>
  intro k j u h a
  have c:j < 3:=by
   have:=(aiq.1 a).1
   simpa [kR] using this
  have e:jf (t :: r)=kR t ++ jf r:=by simp [jf]
  rw [e]
  cases k with
  | zero =>
   rw [List.getElem?_append_left (by simp [kR];omega)]
   simpa [tg] using a
  | succ k =>
   rw [List.getElem?_append_right (by simp [kR];omega)]
   have:(k+1) * 3+j - (kR t).length=k * 3+j:=by simp [kR];omega
   rw [this];exact b k j u (by simpa using h) (by simpa [tg] using a)
structure Cw (w:World) (b o:Nat) (l:List Tok):Prop where
 lt:b < w.heap.size
 kind:∀ k,k < l.length→w.cell? ⟨b,o+k * 3,none⟩=some (.int .u8 (tg l k).kind)
 text:∀ k,k < l.length→w.cell? ⟨b,o+k * 3+1,none⟩=some (.string (aU (tg l k).text))
 at_:∀ k,k < l.length→w.cell? ⟨b,o+k * 3+2,none⟩=some (.int .i64 (tg l k).at_)
theorem Cw.below {w w':World}{b o:Nat}{l:List Tok}(h:Cw w b o l)(c:Below w.heap.size w w'):Cw w' b o l :=
 ⟨aiI h.lt c.size,fun k a=>(c.cell (p:=⟨b,_,none⟩) h.lt).trans (h.kind k a),fun k a=>(c.cell (p:=⟨b,_,none⟩) h.lt).trans (h.text k a),fun k a=>(c.cell (p:=⟨b,_,none⟩) h.lt).trans (h.at_ k a)⟩
theorem nS.row {w:World}{v:Value}{l:List Tok}(h:nS w v l)(h0:0 < l.length):∃ b o c,v=.slice (some ⟨b,o,none⟩) l.length c∧l.length≤c∧Cw w b o l:=by
 obtain⟨A,c,rfl,r,u⟩:=h;obtain⟨q,rfl,i,a⟩:=u.2 h0;have f:=a 0 _ (qw l 0 0 _ h0 rfl);obtain⟨b,o,m⟩:=q
 have j:m=none:=by
  cases m with
  | none=>rfl
  | some x =>
   exfalso
   simp only [Addr.add,if_pos] at f
   unfold World.cell? at f
   simp only [Option.isSome_some,if_true] at f
   split at f <;> simp at f
 subst j
 have d:∀ n,(⟨b,o,none⟩:Addr).add n=⟨b,o+n,none⟩:=by
  intro n;unfold Addr.add;split
  ·rename_i h;rw [h];rfl
  ·rfl
 refine⟨b,o,c,rfl,r,i,fun k e=>?_,fun k e=>?_,fun k e=>?_⟩
 ·have:=a _ _ (qw l k 0 _ e rfl);rw [d] at this;exact this
 ·have:=a _ _ (qw l k 1 _ e rfl);rw [d] at this;exact this
 ·have:=a _ _ (qw l k 2 _ e rfl);rw [d] at this;exact this
theorem nS.agQ {w:World}{A:Option Addr}{n c:Nat}{l:List Tok}(h:nS w (.slice A n c) l)(h0:0 < l.length):∃ b o,A=some ⟨b,o,none⟩∧Cw w b o l:=by
 obtain⟨b,o,d,hv,_,a⟩:=h.row h0;injection hv with h1 h2 h3
 exact⟨b,o,h1,a⟩
theorem nS.empty {w:World}{v:Value}{l:List Tok}(h:nS w v l)(h0:¬ 0 < l.length):∃ A c,v=.slice A 0 c:=by
 obtain⟨A,c,rfl,_⟩:=h;exact⟨A,c,by rw [show l.length=0 by omega]⟩
theorem nS.below {w w':World}{v:Value}{l:List Tok}(h:nS w v l)(a:Below w.heap.size w w'):nS w' v l:=by
 obtain⟨A,c,rfl,b,d⟩:=h;exact⟨A,c,rfl,b,(d.below a).more a.size⟩
end
section
open Go.RowKit Mist
attribute [local go_sem] au aN aV aM aG
abbrev NV:=Nd × Value
def gu (x:NV):List Value:=[.int .u8 x.1.kind,.string (aU x.1.text),.int .i64 x.1.n,x.2,.int .i64 x.1.at_]
def jH (xs:List NV):List Value:=xs.flatMap gu
theorem rH (a b:List NV):jH (a ++ b)=jH a ++ jH b:=by simp [jH]
def aj (xs:List NV):List Nd:=xs.map Prod.fst
theorem bW (xs:List NV):(aj xs).length=xs.length:=by simp [aj]
theorem DI (a b:List NV):aj (a ++ b)=aj a ++ aj b:=by simp [aj]
def intCells (ks:List Int):List Value:=ks.map fun a=>Value.int .i64 a
theorem w_ (ks:List Int):(intCells ks).length=ks.length:=by simp [intCells]
theorem iU (a b:List Int):intCells (a ++ b)=intCells a ++ intCells b:=by simp [intCells]
def gX (w:World)(v:Value)(ks:List Int):Prop:=w.ownsRow 0 3 1 v ks.length (intCells ks)
theorem gX.none_ (w:World):gX w (.slice none 0 0) []:=World.ownsRow_nil _ _ _ _
theorem FU:(Tryz.prog.info? 39).map (fun i=>(i.zero,i.size,i.bytes))=some (some (.agg #[.int .u8 0,.string ByteArray.empty,.int .i64 0,.slice none 0 0,.int .i64 0]),5,64):=by kernel_rfl
theorem mE:(Tryz.prog.info? 3).map (fun i=>(i.zero,i.size,i.bytes))=some (some (.int .i64 0),1,8):=by kernel_rfl
structure Mv (g:Nat) (row:Option Nat) (w:World) (row':Option Nat) (w':World):Prop where
 os:w'.os=w.os
 tape:w'.tape=w.tape
 output:w'.output=w.output
 size:w.heap.size≤w'.heap.size
 block:∀ b,b < w.heap.size→b ≠ g→some b ≠ row→w'.heap[b]? = w.heap[b]?
 tgt:row'=row∨∀ b,row'=some b→w.heap.size≤b
section
variable {g:Nat} {r0 r1 r2:Option Nat} {w w1 w2:World}
theorem Mv.refl:Mv g r0 w r0 w:=⟨rfl,rfl,rfl,aiv _,fun _ _ _ _=>rfl,.inl rfl⟩
theorem Mv.trans (h:Mv g r0 w r1 w1)(k:Mv g r1 w1 r2 w2):Mv g r0 w r2 w2:=by
 refine⟨k.os.trans h.os,k.tape.trans h.tape,k.output.trans h.output,Nat.le_trans h.size k.size,fun b a d f=>?_,?_⟩
 ·refine (k.block b (aiI a h.size) d ?_).trans (h.block b a d f);rcases h.tgt with e | e
  ·rw [e];exact f
  ·intro c;have:=e b c.symm;omega
 ·rcases k.tgt with e | e
  ·rcases h.tgt with c | c
   ·exact .inl (e.trans c)
   ·right;intro b a;rw [e] at a;exact c b a
  ·right;intro b a;have:=e b a;have:=h.size;omega
theorem Mv.of_below (h:Below w.heap.size w w1):Mv g r0 w r0 w1:=⟨h.os,h.tape,h.output,h.size,fun b a _ _=>h.block b a,.inl rfl⟩
theorem Mv.below (h:Mv g r0 w r1 w1)(d:g < w.heap.size){B:Nat}(c:B≤g)(a:∀ b,r0=some b→B≤b):Below B w w1 :=
 ⟨h.os,h.tape,h.output,h.size,fun k f=>h.block k (by omega) (by omega) (fun e=>by have:=a k e.symm;omega)⟩
theorem Mv.jD {T:TypeId}{cs:Array Value}(c:aZ w g T cs)(i:Nat)(u:Value):Mv g r0 w r0 (w.setCell ⟨g,i,none⟩ u) :=
 ⟨rfl,rfl,rfl,by simp [World.setCell],fun b _ a _=>Below.heap_setCell w ⟨g,i,none⟩ u b (by simpa using a),.inl rfl⟩
theorem Mv.grown (h:w.grownBy w1 r0)(c:r1=r0∨r1=some w.heap.size):Mv g r0 w r1 w1 :=
 ⟨h.os,h.tape,h.output,h.size,fun b a _ d=>h.block b a d,c.imp id (fun e b a=>by rw [e] at a;injection a with a;omega)⟩
theorem Mv.alloc (o:Obj):Mv g r0 w r0 (w.alloc o):=Mv.of_below ((Below.refl _ _).alloc (aiv _) o)
theorem Mv.drewN (n:Nat):Mv g r0 w r0 (w.drewN n):=⟨rfl,rfl,rfl,aiv _,fun _ _ _ _=>rfl,.inl rfl⟩
theorem Mv.blk {b:Nat}{T:TypeId}{cs:Array Value}(h:Mv g r0 w r1 w1)(a:aZ w b T cs)(c:b ≠ g)(d:some b ≠ r0):aZ w1 b T cs:=(h.block b a.lt c d).trans a
theorem Mv.ne (h:Mv g r0 w r1 w1){b:Nat}(d:b < w.heap.size)(c:some b ≠ r0):some b ≠ r1:=by
 rcases h.tgt with e | e
 ·rw [e];exact c
 ·intro a;have:=e b a.symm;omega
theorem Mv.row {base e s n:Nat}{v:Value}{xs:List Value}(h:Mv g r0 w r1 w1)(f:w.ownsRow base e s v n xs)(j:v.ownBlock ≠ some g)(a:v.ownBlock=none∨v.ownBlock ≠ r0):w1.ownsRow base e s v n xs:=by
 refine⟨f.1,?_⟩
 rcases f.2 with h2 | ⟨b,cap,c,rfl,i,d,r⟩
 ·exact .inl h2
 ·refine .inr ⟨b,cap,c,rfl,i,(h.block b (ais.1 d).1 ?_ ?_).trans d,r⟩
  ·intro e;exact j (by simp [Value.ownBlock,e])
  ·intro e;rcases a with a | a
   ·simp [Value.ownBlock] at a
   ·exact a (by simp [Value.ownBlock,← e])
theorem eT {e d:TypeId}{b o s x n u:Nat}{v m:Value}{xs k:List Value}(h:w.ownsRow b e s v n xs)(q:w.ownsRow o d x m u k)(j:e ≠ d):v.ownBlock=none∨v.ownBlock ≠ m.ownBlock:=by
 rcases h.2 with ⟨rfl,_⟩ | ⟨g,cap,c,rfl,_,r,_⟩
 ·left;rfl
 ·right
  rcases q.2 with ⟨rfl,_⟩ | ⟨g',l,a,rfl,_,i,_⟩
  ·simp [Value.ownBlock]
  ·intro f;have f:g=g':=by simpa [Value.ownBlock] using f
   subst f;exact aZ.Zk (show aZ w g e c from r) (show aZ w g d a from i) j rfl
theorem iC {base base' e s n:Nat}{v:Value}{xs:List Value}(h:w.ownsRow base e s v n xs)(c:∀ k,v.ownBlock=some k→base'≤k):w.ownsRow base' e s v n xs:=by
 refine⟨h.1,?_⟩
 rcases h.2 with h2 | ⟨b,cap,a,rfl,_,r⟩
 ·exact .inl h2
 ·exact .inr ⟨b,cap,a,rfl,c b rfl,r⟩
end
theorem mX {w:World}{m:Nat}{o:Obj}(h:w.heap[m]? = some o)(x:Obj):(w.alloc x).heap[m]? = some o :=
 (Lib.alloc_old w x m (ais.1 h).1).trans h
section
variable {g:Nat} {r0 r1:Option Nat} {w w1 w2:World}
theorem Mv.WM {b i:Nat}{u:Value}(h:Mv g r0 w r1 w1)(f:w.heap.size≤b):Mv g r0 w r1 (w1.setCell ⟨b,i,none⟩ u) :=
 ⟨h.os,h.tape,h.output,by simpa [World.setCell] using h.size,fun c a d e=>(Below.heap_setCell w1 ⟨b,i,none⟩ u c (by simp;omega)).trans (h.block c a d e),h.tgt⟩
theorem Mv.acN {i:Nat}{u:Value}(h:Mv g r0 w r1 w1):Mv g r0 w r1 (w1.setCell ⟨g,i,none⟩ u) :=
 ⟨h.os,h.tape,h.output,by simpa [World.setCell] using h.size,fun c b a d=>(Below.heap_setCell w1 ⟨g,i,none⟩ u c (by simpa using a)).trans (h.block c b a d),h.tgt⟩
theorem Mv.zo (h:Mv g r0 w r1 w1)(a:Below w1.heap.size w1 w2):Mv g r0 w r1 w2:=h.trans (Mv.of_below a)
theorem Mv.nT {o:Obj}(h:Mv g r0 w r1 w1):Mv g r0 w r1 (w1.alloc o):=h.trans (Mv.alloc o)
theorem Mv.acH (h:Mv g r0 w r1 w1):Mv g r0 w r1 w1.drew:=h.trans (Mv.drewN 1)
end
theorem dS {B:Nat}{a w:World}{b i:Nat}{u:Value}(h:Below B a w)(c:B≤b):Below B a (w.setCell ⟨b,i,none⟩ u):=h.setCell (p:=⟨b,i,none⟩) c u
theorem aF {B:Nat}{a w:World}{o:Obj}(h:Below B a w)(b:B≤w.heap.size):Below B a (w.alloc o):=h.alloc b o
def Cv (w:World)(g:Nat)(tv:Value)(l:List Tok):Prop:=∃ A c,tv=.slice A l.length c∧l.length≤c∧Reads w g 3 A l.length (jf l)
theorem Cv.toks {w:World}{g:Nat}{tv:Value}{l:List Tok}(h:Cv w g tv l)(b:g≤w.heap.size):nS w tv l:=by
 obtain⟨A,c,rfl,a,d⟩:=h;exact⟨A,c,rfl,a,d.more b⟩
theorem Cv.below {w w':World}{g:Nat}{tv:Value}{l:List Tok}(h:Cv w g tv l)(a:Below g w w'):Cv w' g tv l:=by
 obtain⟨A,c,rfl,b,d⟩:=h;exact⟨A,c,rfl,b,d.below a⟩
end
set_option linter.all false
section
open Go.RowKit Mist
def gP (p:Pz):List Value:=[.string (aU p.text),.bool p.blank,.int .i64 p.node]
def fP (l:List Pz):List Value:=l.flatMap gP
theorem D6 (l:List Pz)(p:Pz):fP (l ++ [p])=fP l ++ gP p:=by simp [fP]
theorem nM (p:Pz):∀ u ∈ gP p,u.oneCell'=true:=by
 intro u a;simp [gP] at a
 rcases a with rfl | rfl | rfl <;> rfl
theorem tT (l:List Pz):∀ (k j:Nat) (p:Pz) (u:Value),l[k]? = some p→(gP p)[j]? = some u→(fP l)[k * 3+j]? = some u:=by
 induction l with
 | nil=>intro k j p u h;simp at h
 | cons t r b =>
  intro k j p u h a;have e:fP (t :: r)=gP t ++ fP r:=by simp [fP]
  have h3:(gP t).length=3:=rfl;rw [e]
  cases k with
  | zero =>
   have:t=p:=by simpa using h
   subst this;have c:j < 3:=(aiq.1 a).1;rw [List.getElem?_append_left (by omega),Nat.zero_mul,Nat.zero_add];exact a
  | succ k =>
   rw [List.getElem?_append_right (by omega),h3,show (k+1) * 3+j - 3=k * 3+j by omega];exact b k j p u (by simpa using h) a
theorem KN (l:List Pz):∀ a:Nat,a < l.length→(fP l).set (a * 3+1) (.bool false)=fP (mq a l):=by
 induction l with
 | nil=>intro a h;simp at h
 | cons t r b =>
  intro a h;have e:∀ (t:Pz) (r:List Pz),fP (t :: r)=gP t ++ fP r:=fun t r=>by simp [fP]
  cases a with
  | zero =>
   show (fP (t :: r)).set 1 _=fP (⟨t.text,false,t.node⟩ :: r)
   rw [e,e];rfl
  | succ a =>
   show (fP (t :: r)).set ((a+1) * 3+1) _=fP (t :: mq a r)
   have h3:(gP t).length=3:=rfl;rw [e,e,List.set_append_right _ _ (by omega),h3,show (a+1) * 3+1 - 3=a * 3+1 by omega,b a (by simpa using h)]
abbrev Sz:=List (Nat × TypeId × Array Value)
structure PZ (S:Sz) (B g:Nat) (w W:World) (nv iv pv:Value) (ps:List Pz):Prop where
 blk:aZ W g 74 #[nv,iv,pv]
 own:W.ownsRow B 92 3 pv ps.length (fP ps)
 IU:Below B w W
 le:B≤g
 lw:B≤W.heap.size
 kp:∀ e ∈ S,aZ W e.1 e.2.1 e.2.2∧e.2.1 ≠ 92∧e.1 ≠ g
section
variable {S:Sz} {B g:Nat} {w W w2:World} {nv iv pv v2:Value} {ps:List Pz}
theorem PZ.alloc (h:PZ S B g w W nv iv pv ps)(o:Obj):PZ S B g w (W.alloc o) nv iv pv ps :=
 ⟨h.blk.alloc o,h.own.alloc o,h.IU.alloc h.lw o,h.le,by have:=h.lw;simp;omega,fun e a=>⟨(h.kp e a).1.alloc o,(h.kp e a).2⟩⟩
theorem PZ.add (h:PZ S B g w W nv iv pv ps)(p:Pz)(b:W.grownBy w2 pv.ownBlock)(a:w2.ownsRow B 92 3 v2 (ps.length+1) (fP ps ++ gP p)) :
  PZ S B g w (w2.setCell ⟨g,2,none⟩ v2) nv iv v2 (ps ++ [p]):=by
 have kb:=h.blk.grown b (fun e=>bJ h.own h.blk (by decide) e.symm);have m:=bJ a kb (by decide)
 refine⟨?_,?_,?_,h.le,?_,fun e d=>?_⟩
 ·have:=kb.jD 2 v2;simpa using this
 ·rw [aiA,aiF,D6];exact ownsRow_setCell_other a m _
 ·exact (h.IU.grown b h.lw (fun k f=>(h.own.lt k f).1)).setCell (p:=⟨g,2,none⟩) h.le _
 ·have:=b.size;have:=h.lw;simp at *;omega
 ·obtain⟨h1,h2,h3⟩:=h.kp e d;exact⟨(h1.grown b (fun c=>bJ h.own h1 (Ne.symm h2) c.symm)).far (p:=⟨g,2,none⟩) h3 _,h2,h3⟩
theorem PZ.drewN (h:PZ S B g w W nv iv pv ps)(n:Nat):PZ S B g w (W.drewN n) nv iv pv ps:=⟨h.blk,h.own,jJ h.IU n,h.le,h.lw,h.kp⟩
theorem PZ.drew (h:PZ S B g w W nv iv pv ps):PZ S B g w W.drew nv iv pv ps:=⟨h.blk,h.own,h.IU.drew,h.le,h.lw,h.kp⟩
theorem PZ.below (h:PZ S B g w W nv iv pv ps){c:World}(a:Below W.heap.size W c):PZ S B g w c nv iv pv ps :=
 ⟨h.blk.below a h.blk.lt,own_below h.own a,h.IU.trans (a.mono h.lw),h.le,Nat.le_trans h.lw a.size,fun e b=>⟨(h.kp e b).1.below a (h.kp e b).1.lt,(h.kp e b).2⟩⟩
theorem PZ.close {b cap:Nat}(h:PZ S B g w W nv iv (.slice (some ⟨b,0,none⟩) ps.length cap) ps){a:Nat}(j:a < ps.length) :
  PZ S B g w (W.setCell ⟨b,a * 3+1,none⟩ (.bool false)) nv iv (.slice (some ⟨b,0,none⟩) ps.length cap) (mq a ps):=by
 have c:=bJ h.own h.blk (by decide);have l:=h.own.stored (a * 3+1) (.bool false)
 refine⟨h.blk.far (p:=⟨b,a * 3+1,none⟩) (fun e=>c (by simp [Value.ownBlock,e])) _,?_,h.IU.setCell (p:=⟨b,_,none⟩) (h.own.lt b rfl).1 _,h.le,by have:=h.lw;simpa using this,fun e k=>?_⟩
 ·have e:(mq a ps).length=ps.length:=by unfold mq;rw [List.length_modify]
  have h1:=l.1;rw [KN ps a j] at h1
  rw [e];exact h1
 ·obtain⟨d,f,m⟩:=h.kp e k;exact⟨d.far (p:=⟨b,a * 3+1,none⟩) (fun i=>bJ h.own d (Ne.symm f) (by simp [Value.ownBlock,i])) _,f,m⟩
theorem PZ.more {b:Nat}{T:TypeId}{cs:Array Value}(h:PZ S B g w W nv iv pv ps)(c:aZ W b T cs)(f:T ≠ 92)(d:b ≠ g):PZ ((b,T,cs) :: S) B g w W nv iv pv ps :=
 ⟨h.blk,h.own,h.IU,h.le,h.lw,fun e a=>by
  rcases List.mem_cons.1 a with rfl | a
  ·exact⟨c,f,d⟩
  ·exact h.kp e a⟩
theorem PZ.fewer {a:Sz}(h:PZ S B g w W nv iv pv ps)(c:∀ e ∈ a,e ∈ S):PZ a B g w W nv iv pv ps :=
 ⟨h.blk,h.own,h.IU,h.le,h.lw,fun e b=>h.kp e (c e b)⟩
theorem PZ.tl {e:Nat × TypeId × Array Value}(h:PZ (e :: S) B g w W nv iv pv ps):PZ S B g w W nv iv pv ps:=h.fewer fun _ a=>List.mem_cons_of_mem _ a
theorem PZ.box {T:TypeId}{cs:Array Value}(h:PZ S B g w W nv iv pv ps)(a:T ≠ 92):PZ ((W.heap.size,T,cs) :: S) B g w (W.alloc (.cells cs T)) nv iv pv ps :=
 (h.alloc _).more (aZ.new W T cs) a (Ne.symm (Nat.ne_of_lt h.blk.lt))
end
end
set_option linter.all false
section
open Go.RowKit Mist
attribute [local go_sem] au aN aV aM aG
theorem vN:(Tryz.prog.info? 92).map (fun i=>(i.zero,i.size,i.bytes))=some (some (.agg #[.string ByteArray.empty,.bool false,.int .i64 0]),3,32):=by kernel_rfl
section
variable {S:Sz} {B g:Nat} {w W:World} {nv iv pv:Value} {ps:List Pz}
theorem WO (h:PZ S B g w W nv iv pv ps)(t:Bs)(n:Int)(K:ps.length≤1000000) :
  Calls Tryz.prog 55 #[.pointer (some ⟨g,0,none⟩),.string (aU t),.int .i64 n] W fun e F=>e=.returned (.tuple #[])∧∃ r,PZ S B g w F nv iv r (ps ++ [⟨t,false,n⟩]):=by
 obtain⟨A,c,rfl⟩:=dh h.own;obtain⟨L,f,j,k,l⟩:=info_parts vN;have H:=O h;clear h;have c2:=H.o.blk.cell 2;have f2:=H.o.blk.frozen 2;have N:=H.o.lw;obtain⟨m,i⟩:∃ m,m=ps.length:=⟨_,rfl⟩;rw [← i] at K c2
 have u:=O i;clear i;have x:=O (show W.ownsRow B 92 3 (.slice A m c) m (fP ps) from by rw [u.o];exact H.o.own)
 have b:∀ w2 v2,(W.alloc (.cells #[.string (aU t),.bool false,.int .i64 n] 92)).grownBy w2 (Value.slice A m c).ownBlock→w2.ownsRow B 92 3 v2 (m+1) (fP ps ++ gP ⟨t,false,n⟩)→PZ S B g w (w2.setCell ⟨g,2,none⟩ v2) nv iv v2 (ps ++ [⟨t,false,n⟩]):=fun w2 v2 y C=>by
  rw [u.o] at y C
  exact (H.o.alloc _).add _ y C
 have E:=O b;clear b;go_in
 go_wp2_with (at_builtin;go_loud (
  refine wpList_append_own _ rfl (.tmp 10) (.tmp 14) 52 rfl B 92 L _ 3 32 Tryz.underlying52 f j k l rfl (by decide) _ m (fP ps) rfl (x.o.alloc _) ⟨W.heap.size,0,none⟩ 1 1 (gP ⟨t,false,n⟩) rfl rfl (h_ W (gP ⟨t,false,n⟩) _) (nM _) (by simp only [maxLen];omega) (by omega) (by simp;omega) ?_;intro v2 w2 a d _;have q:=(H.o.alloc (.cells #[.string (aU t),.bool false,.int .i64 n] 92)).blk.grown d (fun e=>bJ (x.o.alloc _) (H.o.alloc (.cells #[.string (aU t),.bool false,.int .i64 n] 92)).blk (by decide) e.symm);have G:=q.cell 2;have J:=q.frozen 2;obtain⟨M,I,rfl⟩:=dh a;have D:=O (E.o _ _ d a);clear q a d))
 go_end0
 exact⟨rfl,_,D.o⟩
theorem Nj (ps:List Pz):∀ a:Nat,ps.length≤a→mq a ps=ps:=by
 induction ps with
 | nil=>intro a _;cases a <;> rfl
 | cons x ps b =>
  intro a h
  cases a with
  | zero=>simp at h
  | succ a =>
   show x :: mq a ps=x :: ps
   rw [b a (by simpa using h)]
theorem Qb (h:PZ S B g w W nv iv pv ps)(a:Nat)(D:a≤1000000) :
  Calls Tryz.prog 75 #[.pointer (some ⟨g,0,none⟩),.int .i64 a] W fun e x=>e=.returned (.tuple #[])∧∃ u,PZ S B g w x nv iv u (mq a ps):=by
 obtain⟨A,c,rfl⟩:=dh h.own;have H:=O h;clear h;have c2:=H.o.blk.cell 2;obtain⟨m,q⟩:∃ m,m=ps.length:=⟨_,rfl⟩;rw [← q] at c2
 have j:=O q;clear q;have k:=O (show W.ownsRow B 92 3 (.slice A m c) m (fP ps) from by rw [j.o];exact H.o.own);have F:(0:Int)≤(a:Int):=by omega
 by_cases l:a < m
 ·have C:(a:Int) < (m:Int):=by omega
  obtain⟨d,y⟩:∃ d,A=some ⟨d,0,none⟩:=by
   obtain⟨d,cap,hv,_⟩:=k.o.form (by omega);injection hv with r
   exact⟨d,r⟩
  subst y;have f:a < ps.length:=by rw [← j.o];exact l
  obtain⟨b,E⟩:∃ b,W.cell? ⟨d,a * 3+1,none⟩=some (.bool b):=⟨_,by
   rw [k.o.cellAt (a * 3+1) (by omega)];exact tT ps a 1 ps[a] _ (aip f) rfl⟩
  have fb:=k.o.frozenAt (a * 3+1);have i:=O (show PZ S B g w (W.setCell ⟨d,a * 3+1,none⟩ (.bool false)) nv iv (.slice (some ⟨d,0,none⟩) ps.length c) (mq a ps) from PZ.close H.o f);go_in
  go_wp2_with fail;go_end0
  exact⟨rfl,_,i.o⟩
 ·have C:¬ (a:Int) < (m:Int):=by omega
  have i:=O (show PZ S B g w W nv iv _ (mq a ps) from by rw [Nj ps a (by rw [← j.o];omega)];exact H.o);go_in
  go_wp2_with fail;go_end0
  exact⟨rfl,_,i.o⟩
theorem abW (h:PZ S B g w W nv iv pv ps)(t:Bs)(n:Int)(N:ps.length≤1000000) :
  Calls Tryz.prog 54 #[.pointer (some ⟨g,0,none⟩),.string (aU t),.int .i64 n] W fun e J=>e=.returned (.tuple #[])∧∃ x,PZ S B g w J nv iv x (adi ps t n):=by
 obtain⟨A,c,rfl⟩:=dh h.own;obtain⟨Q,j,l,q,r⟩:=info_parts vN;have H:=O h;clear h;have c2:=H.o.blk.cell 2;have f2:=H.o.blk.frozen 2;have R:=H.o.lw;have M:=H.o.blk.lt;obtain⟨m,k⟩:∃ m,m=ps.length:=⟨_,rfl⟩;rw [← k] at N c2
 have f:=O k;clear k;have y:=O (show W.ownsRow B 92 3 (.slice A m c) m (fP ps) from by rw [f.o];exact H.o.own);have F:=O (show decide (0 < m)=decide (0 < ps.length) by rw [f.o])
 have d:∀ w2 v2,((W.alloc (.cells #[.string (aU t),.bool (decide (0 < m)),.int .i64 n] 92)).drew).grownBy w2 (Value.slice A m c).ownBlock→w2.ownsRow B 92 3 v2 (m+1) (fP ps ++ gP ⟨t,decide (0 < m),n⟩)→PZ S B g w (w2.setCell ⟨g,2,none⟩ v2) nv iv v2 (adi ps t n):=fun w2 v2 C E=>by
  rw [f.o] at C E
  exact ((H.o.alloc _).drew).add ⟨t,decide (0 < ps.length),n⟩ C E
 have I:=O d;clear d;go_in
 go_wp2_with fail
 go_region_law ((refine step_append_lies _ (by rfl) _ _ _ (by rfl) B 92 Q _ 3 32 Tryz.underlying52 j l q r rfl (by omega) _ m (fP ps) (by rfl) ((y.o.alloc _).drew)
                  ⟨W.heap.size,0,none⟩ 1 1 (gP ⟨t,decide (0 < m),n⟩) (by rfl) (by rfl) (World.news_of_block (cs:=#[.string (aU t),.bool (decide (0 < m)),.int .i64 n]) (t:=92) (fr:=(0,0)) (heap_alloc_new W _)) (nM _)
                  (by omega) (by simp only [maxLen];omega) (by omega) (by simp;omega) (W.heap.size+1) (by simp) ?_;intro T cap w1 b a i D;have u:=((H.o.alloc (.cells #[.string (aU t),.bool (decide (0 < m)),.int .i64 n] 92)).drew).blk.grown a (fun e=>bJ (y.o.alloc _) (H.o.alloc (.cells #[.string (aU t),.bool (decide (0 < m)),.int .i64 n] 92)).blk (by decide) e.symm);have K:=u.cell 2;have L:=u.frozen 2;clear u))
 all_goals
  have G:=O (I.o _ _ a b);clear a b i;go_wp2_with fail;go_end0
  exact⟨rfl,_,G.o⟩
end
end
set_option linter.all false
section
open Go.RowKit Mist
attribute [local go_sem] au aN aV aM aG
section
variable {S:Sz} {B g:Nat} {w W:World} {nv iv pv:Value} {ps:List Pz}
theorem Xw (h:PZ S B g w W nv iv pv ps)(k:Nat)(a:Array Value)(l:List Pz)(x:ps.length≤1000000)(y:∀ b,Sem.run Tryz.prog (callFunc k a) b=.ok (.enter k a) b)
  (j:∀ b d,PZ S B g w b nv iv d ps→Below W.heap.size W b→Calls Tryz.prog k a b fun e u=>e=.returned (.tuple #[])∧∃ m,PZ S B g w u nv iv m (gH ps l)) :
  Calls Tryz.prog 79 #[.pointer (some ⟨g,0,none⟩),.func (.func k) #[] a] W fun e b=>e=.returned (.tuple #[])∧∃ d,PZ S B g w b nv iv d (ps ++ aH false l):=by
 obtain⟨A,c,rfl⟩:=dh h.own;have i:=O (j W _ h (Below.refl _ _));clear j;have H:=O h;clear h;have c2:=H.o.blk.cell 2;go_in
 go_wp2_with fail;refine i.o.mono ?_;rintro e w2⟨rfl,m,f⟩;have q:=O f;clear f i;go_wp2_with fail;refine (Qb q.o ps.length x).mono ?_;rintro e D⟨rfl,C,f⟩;rw [uo] at f
 have r:=O f;clear f;go_wp2_with fail;go_end0
 exact⟨rfl,_,r.o⟩
theorem adb (h:PZ S B g w W nv iv pv ps)(k:Nat)(a:Array Value)(L:Nat→List Pz)(many:Nat)(h0:L 0 ≠ [])(hm:many≤1000000)(R:∀ m,m≤many→ps.length+(dZ L m).length < 1000000)
  (u:∀ (j:Nat) d,Sem.run Tryz.prog (callFunc k (#[.int .i64 (j:Nat)] ++ a)) d=.ok (.enter k (#[.int .i64 (j:Nat)] ++ a)) d)
  (T:∀ (j:Nat) d c qs,j < many→qs.length+(L j).length≤1000000→PZ S B g w d nv iv c qs→Calls Tryz.prog k (#[.int .i64 (j:Nat)] ++ a) d fun e Y=>e=.returned (.tuple #[])∧∃ J,PZ S B g w Y nv iv J (gH qs (L j))) :
  Calls Tryz.prog 63 #[.pointer (some ⟨g,0,none⟩),.int .i64 (many:Nat),.func (.func k) #[] a] W fun e d=>e=.returned (.tuple #[])∧∃ c,PZ S B g w d nv iv c (gH ps (dZ L many)):=by
 have N:=O T;clear T;have K:=O R;clear R;have H:=O h;clear h;go_in
 go_wp2_with fail;go_loopw [6,8] (fun _ E wr=>∃ (m:Nat) (c:Value),m≤many∧E=.int .i64 m∧Hid (PZ S B g w wr nv iv c (gH ps (dZ L m)))) (fun _ E _=>many - (intOf E).toNat)
 case atStart=>exact⟨0,pv,aix _,rfl,O (by show PZ S B g w W nv iv pv (gH ps []);rw [Ia];exact H.o)⟩
 case round =>
  obtain⟨m,vP,hm1,rfl,y⟩:=hrel;by_cases l:m < many
  ·have y0:(m:Int) < (many:Int):=by omega
   have F:=u m;have i:=K.o (m+1) (by omega);have q:=K.o m (by omega);have b:(gH ps (dZ L m)).length=ps.length+(dZ L m).length:=dR _ _;rcases Nat.eq_zero_or_pos m with I | I
   ·subst I;have M:=O (N.o 0 wr vP (gH ps (dZ L 0)) l (by rw [b];show ps.length+0+(L 0).length≤_;have:dZ L 1=L 0:=rfl;rw [this] at i;omega) y.o);have Z:∀ d,Sem.run Tryz.prog (callFunc k (#[.int .i64 0] ++ a)) d=.ok (.enter k (#[.int .i64 0] ++ a)) d:=u 0;clear i q b u F;go_wp2_with fail;refine Calls.mono (show Calls Tryz.prog k (#[.int .i64 0] ++ a) wr _ from M.o) ?_;rintro e V⟨rfl,x,f⟩;rw [← Te] at f
    have D:=O f;clear f M;go_wp2_with fail;exact⟨⟨1,x,by omega,by go_num,D⟩,by simp [intOf];omega⟩
   ·have y1:(0:Int) < (m:Int):=by omega
    have U:dZ L (m+1)=dZ L m ++ tz [44] (-1) :: aH true (L m):=by rw [dZ,if_neg (by omega)]
    have G:(dZ L (m+1)).length=(dZ L m).length+1+(L m).length:=by rw [U,aiA,List.length_cons,ak];omega
    have Q:=O (WO y.o [44] (-1) (by rw [b];omega));have X:=O (show (gH ps (dZ L m) ++ [(⟨[44],false,-1⟩:Pz)]).length+(L m).length≤1000000 by rw [aiA,b];simp;omega);clear i q b u U G;go_wp2_with fail;refine Q.o.mono ?_;rintro e w2⟨rfl,J,f⟩;have C:=O f;clear f Q;go_wp2_with fail;refine (N.o m w2 J _ l X.o C.o).mono ?_;rintro e V⟨rfl,x,f⟩;have r:PZ S B g w V nv iv x (gH ps (dZ L (m+1))):=by rw [X9 ps L h0 I];exact f
    have D:=O r;clear f r;go_wp2_with fail;exact⟨⟨m+1,x,by omega,by go_num,D⟩,by simp [intOf];omega⟩
  ·obtain rfl:many=m:=by omega
   have y0:¬ (many:Int) < (many:Int):=by omega
   clear l;go_wp2_with fail;go_end0
   exact⟨rfl,_,y.o⟩
example (w:World) (c:Array Value):Sem.run Tryz.prog (callFunc 110 c) w=.ok (.enter 110 c) w:=by kernel_rfl
end
def PV (l:Bs)(w:World)(e:Ending)(w':World):Prop:=e=.returned (.tuple #[.int .i64 (numberOf l).1,.int .i64 (numberOf l).2])∧Below w.heap.size w w'
theorem vK {l:Bs}{w w':World}{x y:Int}{p q:Nat}(h:numberOf l=(p,q))(b:x=p)(hy:y=q)(a:Below w.heap.size w w'):PV l w (.returned (.tuple #[.int .i64 x,.int .i64 y])) w':=by
 subst b;subst hy;exact⟨by rw [h],a⟩
theorem Wi (l:Bs)(w:World)(h:kind l=2) :
  Calls Tryz.prog 219 #[.string (aU l)] w fun e w'=>e=.returned (.tuple #[.int .i64 (numOf l),.nilIface])∧Below w.heap.size w w':=by
 obtain⟨h1,h2,h3⟩:=Kn l h;refine (Tryz.strconv_Atoi_ok (aU l) (by rw [aN];omega) (numOf l) (by rw [show (aU l).data.toList=l by simp [aU]];exact Jq l h3 h1 h2) w).mono ?_;rintro e w' ⟨rfl,a⟩
 refine⟨rfl,?_⟩
 rcases a with rfl | ⟨t,rfl⟩
 ·exact Below.refl _ _
 ·exact Lib.bytesWorld_below w _ t
theorem Hw (s:Bs)(h:kind s=0):ig s=4:=by unfold ig;rw [if_pos h]
theorem Og (s:Bs)(h:¬ kind s=0):ig s=0:=by unfold ig;rw [if_neg h]
theorem Ot (l:Bs)(w:World)(h:Env w)(f:l.length≤100000000) :
  Calls Tryz.prog 214 #[.string (aU l)] w (PV l w):=by
 have c:=O h;clear h;by_cases h0:kind l=0
 ·have h1:((ig l:Int) != 0)=true:=by rw [Hw l h0];rfl
  have b:=O (AB l (by omega));clear h0;go_in
  go_wp2_with (go_at_call 187;refine (xA l _ c.o f).mono ?_;rintro e w1⟨rfl,a⟩)
  go_ret2
  exact vK b.o rfl rfl a
 have h1:((ig l:Int) != 0)=false:=by rw [Og l h0];rfl
 by_cases h2:kind l=2
 ·have h3:((kind l:Int) != 2)=false:=by simp;omega
  have b:=O (yg l h2);have i:=O h2;clear h0 h2;go_in
  go_wp2_with (first
   | (go_at_call 187;refine (xA l _ c.o f).mono ?_;rintro e w1⟨rfl,a⟩)
   | (go_at_call 219;refine (Wi l _ i.o).mono ?_;rintro e w2⟨rfl,d⟩))
  go_ret2
  exact vK b.o rfl rfl (a.trans (d.mono a.size))
 ·have h3:((kind l:Int) != 2)=true:=by simp;omega
  have b:=O (AB l h2);clear h0 h2;go_in
  go_wp2_with (go_at_call 187;refine (xA l _ c.o f).mono ?_;rintro e w1⟨rfl,a⟩)
  go_ret2
  exact vK b.o rfl rfl a
end
