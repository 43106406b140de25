/-
  A part of the proof.
-/
import Derived.Deep.AppendLies
import Derived.Deep.RegionHeld3
import Derived.Test.YtflnfhhgamldhaaGreatDoorS03
import Derived.Test.YtflnfhhgamldhaaGreatDoorS06
set_option linter.all false
set_option maxRecDepth 100000
set_option maxHeartbeats 3200000
namespace Go.Proofs.YtflnfhhgamldhaaGreatDoor
section
open Go.RowKit Mist
attribute [local go_sem] ah aM aV au ak
def Pp (l:Bs)(a:Nat):Int:=if (first l).1=0 then 0 else a
theorem NH (l:Bs)(a:Nat):o_ l a=.agg #[.int .u8 (first l).1,.string (aH (first l).2),.int .i64 (Pp l a)]:=by
 unfold o_ Pp Rj;by_cases h:(first l).1=0
 ·rw [if_pos h,if_pos h,Pv l h,h]
 ·rw [if_neg h,if_neg h]
theorem wQ (l:Bs)(a:Nat)(w:World)(c:l.length≤100000000)(b:a≤l.length) :
  Calls Tryz.prog 67 #[.string (aH l),.int .i64 a] w fun e w' =>
   e=.returned (.agg #[.int .u8 (first (l.drop a)).1,.string (aH (first (l.drop a)).2),.int .i64 (Pp (l.drop a) a)])∧Below w.heap.size w w' :=
 (Fe l a w c b).mono fun e w' h=>⟨by rw [h.1,NH],h.2⟩
theorem Nf (l:Bs)(w:World)(a:l.length≤100000000) :
  Calls Tryz.prog 67 #[.string (aH l),.int .i64 0] w fun e w' =>
   e=.returned (.agg #[.int .u8 (first l).1,.string (aH (first l).2),.int .i64 0])∧Below w.heap.size w w' :=
 (Fe l 0 w a (ak2 _)).mono fun e w' h=>⟨by rw [h.1,NH,List.drop_zero];simp [Pp],h.2⟩
theorem Nb {l:Bs}{a b:Int}(c:a=kind l)(d:b=iK l):Ending.returned (.tuple #[.int .u8 a,.int .i64 b])=.returned (.tuple #[.int .u8 (kind l),.int .i64 (iK l)]):=by
 rw [c,d]
theorem Eb (l:Bs):((((first l).1:Int) == 0)=true∧kind l=0∧iK l=4)∨((((first l).1:Int) == 0)=false∧((first l).2 == l)=false∧kind l=0∧iK l=4) ∨
  ((((first l).1:Int) == 0)=false∧((first l).2 == l)=true∧kind l=(first l).1∧iK l=0):=by
 by_cases h:(first l).1=0
 ·have:kind l=0:=by unfold kind;rw [h];simp
  exact .inl ⟨by simp [h],this,by simp [iK,this]⟩
 ·by_cases g:(first l).2=l
  ·have:kind l=(first l).1:=by unfold kind;rw [if_pos g]
   exact .inr (.inr ⟨by simp;omega,by simp [g],this,by simp [iK,this,h]⟩)
  ·have:kind l=0:=by unfold kind;rw [if_neg g]
   exact .inr (.inl ⟨by simp;omega,by simp [g],this,by simp [iK,this]⟩)
theorem yJ (l:Bs)(w:World)(c:Env w)(h:l.length≤100000000) :
  Calls Tryz.prog 168 #[.string (aH l)] w fun e w'=>e=.returned (.tuple #[.int .u8 (kind l),.int .i64 (iK l)])∧Below w.heap.size w w':=by
 have d:=O c;clear c;rcases Eb l with ⟨h1,a⟩ | ⟨h1,h2,a⟩ | ⟨h1,h2,a⟩
 all_goals
  have b:=O a;clear a;go_in
  go_wp2_with (go_at_call 43;refine (vg l _ d.o h).mono ?_;rintro e w' ⟨rfl,f⟩)
  go_ret2
  exact⟨Nb (by simp [b.o.1]) (by simp [b.o.2]),f⟩
theorem AP (l:Bs)(w:World)(f:l.length≤100000000) :
  Calls Tryz.prog 180 #[.string (aH l)] w fun e w'=>e=.returned (.tuple #[.int .u8 (kind l),.int .i64 (iK l)])∧Below w.heap.size w w':=by
 rcases Eb l with ⟨h1,b⟩ | ⟨h1,h2,b⟩ | ⟨h1,h2,b⟩
 case' inl=>have a:(((first l).1:Int) != 0)=false:=by simpa using h1
 case' inr.inl=>have a:(((first l).1:Int) != 0)=true:=by simpa using h1
 case' inr.inr=>have a:(((first l).1:Int) != 0)=true:=by simpa using h1
 all_goals
  have c:=O b;clear b;go_in
  go_wp2_with (go_at_call 67;refine (Nf l _ f).mono ?_;rintro e w' ⟨rfl,d⟩)
  go_ret2
  exact⟨Nb (by simp [c.o.1]) (by simp [c.o.2]),d.alloc d.size _⟩
theorem Qf (l:Bs):((iK l:Int) == 0)=!((kind l:Int) == 0):=by
 rw [akZ];unfold iK;split <;> simp_all
theorem Js (l:Bs):(((iK l:Int) == 0)=true∧isName l=((kind l:Int) == 1))∨(((iK l:Int) == 0)=false∧isName l=false):=by
 rw [Qf];by_cases h:kind l=0
 ·exact .inr ⟨by simp [h],by simp [isName,h]⟩
 ·refine .inl ⟨by simp [h],?_⟩;rw [akZ,isName];simp;omega
theorem D7 (l:Bs)(w:World)(b:Env w)(h:l.length≤100000000) :
  Calls Tryz.prog 133 #[.string (aH l)] w fun e w'=>e=.returned (.bool (isName l))∧Below w.heap.size w w':=by
 have c:=O b;clear b;rcases Js l with ⟨h1,a⟩ | ⟨h1,a⟩
 all_goals
  have d:=O a;clear a;go_in
  go_wp2_with (go_at_call 168;refine (yJ l _ c.o h).mono ?_;rintro e w' ⟨rfl,f⟩)
  go_ret;exact⟨bM d.o.symm,f⟩
end
section
open Go Go.RowKit
theorem Jc (a:Addr)(n:Nat):(a.add n).block=a.block:=by unfold Addr.add;split <;> rfl
def Reads (w:World)(B size:Nat)(A:Option Addr)(n:Nat)(xs:List Value):Prop :=
 xs.length=n * size∧(0 < n→∃ ad,A=some ad∧ad.block < B∧∀ j u,xs[j]? = some u→w.cell? (ad.add j)=some u)
section
variable {w w':World} {B B' size n:Nat} {A:Option Addr} {xs:List Value}
theorem Reads.none_:Reads w B size A 0 []:=⟨by simp,fun h=>absurd h (by omega)⟩
theorem Reads.at_ {k:Nat}(h:Reads w B 1 A n xs)(f:k < n):∃ a u,A=some a∧a.block < B∧xs[k]? = some u∧w.cell? (a.add k)=some u:=by
 obtain⟨a,e,c,d⟩:=h.2 (by omega);have b:k < xs.length:=by have:=h.1;omega
 exact⟨a,xs[k],e,c,akU b,d k _ (akU b)⟩
theorem Reads.keep (h:Reads w B size A n xs)(d:∀ p:Addr,p.block < B→w'.cell? p=w.cell? p):Reads w' B size A n xs :=
 ⟨h.1,fun f=>by
  obtain⟨b,e,a,c⟩:=h.2 f;exact⟨b,e,a,fun j u i=>(d _ (by rw [Jc];exact a)).trans (c j u i)⟩⟩
theorem Reads.more (h:Reads w B size A n xs)(d:B≤B'):Reads w B' size A n xs :=
 ⟨h.1,fun c=>by
  obtain⟨a,e,f,b⟩:=h.2 c;exact⟨a,e,by omega,b⟩⟩
theorem Reads.below (h:Reads w B size A n xs)(a:Below B w w'):Reads w' B size A n xs:=h.keep fun _ b=>a.cell b
theorem Reads.drew (h:Reads w B size A n xs):Reads w.drew B size A n xs:=h
theorem Reads.drewN (h:Reads w B size A n xs)(k:Nat):Reads (w.drewN k) B size A n xs:=h
theorem Reads.alloc (h:Reads w B size A n xs)(a:B≤w.heap.size)(o:Obj):Reads (w.alloc o) B size A n xs:=h.keep fun p b=>World.cell?_alloc_lt w o p (by omega)
theorem Reads.setCell (h:Reads w B size A n xs){p:Addr}(a:B≤p.block)(u:Value):Reads (w.setCell p u) B size A n xs :=
 h.keep fun q b=>World.cell?_setCell_other w p q u (fun e=>by subst e;omega)
theorem Reads.grown (h:Reads w B size A n xs){row:Option Nat}(a:w.grownBy w' row)(c:B≤w.heap.size)(b:∀ g,row=some g→B≤g):Reads w' B size A n xs :=
 h.keep fun p d=>World.cell?_of_block (a.block p.block (by omega) (fun e=>by have:=b _ e.symm;omega))
theorem Reads.JF {base:Nat}{e:TypeId}{c:Nat}(h:w.ownsRow base e size (.slice A n c) n xs):Reads w w.heap.size size A n xs:=by
 refine⟨h.1,fun d=>?_⟩
 obtain⟨g,cap,hv,_,a⟩:=h.form d;have b:A=some ⟨g,0,none⟩:=by injection hv
 subst b;exact⟨_,rfl,a,h.cells (g:=g) rfl⟩
end
def bf (w:World)(g:Nat)(t:TypeId)(cs:Array Value):Prop:=w.heap[g]? = some (.cells cs t (0,0))
section
variable {w w':World} {g:Nat} {t:TypeId} {cs:Array Value}
theorem bf.lt (h:bf w g t cs):g < w.heap.size:=by
 rcases Nat.lt_or_ge g w.heap.size with b | a
 ·exact b
 ·unfold bf at h;rw [Array.getElem?_eq_none a] at h;cases h
theorem bf.cell (h:bf w g t cs)(i:Nat):w.cell? ⟨g,i,none⟩=cs[i]? := cell_of_row w g i cs t (0,0) h
theorem bf.frozen (h:bf w g t cs)(i:Nat):w.frozen? ⟨g,i,none⟩=false:=by
 unfold bf at h
 simp [World.frozen?,h]
theorem bf.new (w:World)(t:TypeId)(cs:Array Value):bf (w.alloc (.cells cs t)) w.heap.size t cs:=heap_alloc_new w _
theorem bf.drew (h:bf w g t cs):bf w.drew g t cs:=h
theorem bf.drewN (h:bf w g t cs)(n:Nat):bf (w.drewN n) g t cs:=h
theorem bf.alloc (h:bf w g t cs)(o:Obj):bf (w.alloc o) g t cs:=(Below.heap_alloc w o g h.lt).trans h
theorem bf.g_ (h:bf w g t cs)(i:Nat)(u:Value):bf (w.setCell ⟨g,i,none⟩ u) g t (cs.setIfInBounds i u):=by
 unfold bf at h ⊢
 simp [World.setCell,Array.getElem?_modify,h]
theorem bf.far (h:bf w g t cs){p:Addr}(a:g ≠ p.block)(u:Value):bf (w.setCell p u) g t cs:=(Below.heap_setCell w p u g a).trans h
theorem bf.below {B:Nat}(h:bf w g t cs)(a:Below B w w')(b:g < B):bf w' g t cs:=(a.block g b).trans h
theorem bf.grown {row:Option Nat}(h:bf w g t cs)(a:w.grownBy w' row)(b:some g ≠ row):bf w' g t cs:=(a.block g h.lt b).trans h
theorem bf.ne_ {g':Nat}{c:TypeId}{cs':Array Value}(h:bf w g t cs)(a:bf w g' c cs')(b:t ≠ c):g ≠ g':=by
 rintro rfl;unfold bf at h a
 rw [h] at a
 injection a with a
 injection a with _ d
 exact b d
theorem bD {base:Nat}{e:TypeId}{size n:Nat}{v:Value}{xs:List Value}(h:w.ownsRow base e size v n xs)(d:bf w g t cs)(a:e ≠ t):v.ownBlock ≠ some g:=by
 rcases h.2 with ⟨rfl,_⟩ | ⟨g',cap,b,rfl,_,f,_⟩
 ·simp [Value.ownBlock]
 ·intro c
  have:g'=g:=by simpa [Value.ownBlock] using c
  subst this;exact bf.ne_ (t:=e) f d a rfl
end
section
variable {P:Program} (w:World)
end
end
section
open Go.RowKit Mist
attribute [local go_sem] ah aM aV au ak
def kV (t:Tok):List Value:=[.int .u8 t.kind,.string (aH t.text),.int .i64 t.at_]
def iY (l:List Tok):List Value:=l.flatMap kV
theorem tN (l m:List Tok):iY (l ++ m)=iY l ++ iY m:=by simp [iY]
def mH (w:World)(v:Value)(l:List Tok):Prop:=∃ A c,v=.slice A l.length c∧l.length≤c∧Reads w w.heap.size 3 A l.length (iY l)
theorem mH.JF {w:World}{base:Nat}{v:Value}{l:List Tok}(h:w.ownsRow base 80 3 v l.length (iY l)):mH w v l:=by
 rcases h.2 with ⟨hv,h0⟩ | ⟨g,cap,a,hv,_,_,b,_⟩
 ·have:l=[]:=List.eq_nil_of_length_eq_zero h0
  subst this;exact⟨none,0,hv,ak0 _,Reads.none_⟩
 ·exact⟨_,cap,hv,b,Reads.JF (hv ▸ h)⟩
theorem FI:(Tryz.prog.info? 80).map (fun i=>(i.zero,i.size,i.bytes))=some (some (.agg #[.int .u8 0,.string ByteArray.empty,.int .i64 0]),3,32):=by kernel_rfl
theorem d_ {w:World}{base e size n:Nat}{v:Value}{xs:List Value}(h:w.ownsRow base e size v n xs):∃ A c,v=.slice A n c:=by
 rcases h.2 with ⟨hv,h0⟩ | ⟨g,cap,a,hv,_⟩
 ·exact⟨none,0,by rw [hv,h0]⟩
 ·exact⟨_,_,hv⟩
theorem own_below {w w':World}{base e size n:Nat}{v:Value}{xs:List Value}(h:w.ownsRow base e size v n xs)(f:Below w.heap.size w w'):w'.ownsRow base e size v n xs:=by
 refine⟨h.1,?_⟩
 rcases h.2 with h2 | ⟨g,cap,a,hv,i,c,r⟩
 ·exact .inl h2
 ·have d:g < w.heap.size:=by
   rcases Nat.lt_or_ge g w.heap.size with b | b
   ·exact b
   ·rw [Array.getElem?_eq_none b] at c;cases c
  exact .inr ⟨g,cap,a,hv,i,(f.block g d).trans c,r⟩
theorem iD (w:World)(cs:List Value)(t:TypeId):∀ j u,cs[j]? = some u→(w.alloc (.cells cs.toArray t)).cell? ((⟨w.heap.size,0,none⟩:Addr).add j)=some u:=by
 intro j u a;have b:(w.alloc (.cells cs.toArray t)).heap[w.heap.size]? = some (.cells cs.toArray t):=heap_alloc_new w _
 have:(w.alloc (.cells cs.toArray t)).cell? ⟨w.heap.size,j,none⟩=some u:=by
  rw [Lib.cell_of_heap b];simpa using a
 rw [← this];unfold Addr.add;split
 ·rename_i h;rw [h]
 ·simp
theorem zf (t:Tok):∀ u ∈ kV t,u.oneCell'=true:=by
 intro u a;simp [kV] at a
 rcases a with rfl | rfl | rfl <;> rfl
theorem MZ (l:Bs)(h:¬ (check l).2=0):read l=([],(check l).1,(check l).2):=by unfold Mist.read;rw [if_pos h]
theorem vD (l:Bs)(h:(check l).2=0):read l=gY (l.length+1) l (skip l) []:=by unfold Mist.read;rw [if_neg (by simpa using h)]
def Dq (l:Bs)(w:World)(e:Ending)(w':World):Prop:=∃ v,e=.returned (.tuple #[v,.int .i64 (read l).2.1,.int .i64 (read l).2.2])∧mH w' v (read l).1∧Below w.heap.size w w'
theorem kI {l:Bs}{w w':World}{v:Value}{a b:Int}{t:List Tok}{x y:Nat}(h:read l=(t,x,y))(d:a=x)(e:b=y)(f:mH w' v t)(c:Below w.heap.size w w') :
  Dq l w (.returned (.tuple #[v,.int .i64 a,.int .i64 b])) w':=by
 subst d;subst e;exact⟨v,by rw [h],by rw [h];exact f,c⟩
theorem mH.none_ (w:World):mH w (.slice none 0 0) []:=⟨none,0,rfl,ak0 _,Reads.none_⟩
theorem Fb (l:Bs)(w:World)(Y:Env w)(Q:l.length≤100000000) :
  Calls Tryz.prog 15 #[.string (aH l)] w (Dq l w):=by
 have G:=O Y;clear Y;by_cases x:(check l).2=0
 case neg =>
  have K:((check l).2:Int) != 0:=by simpa using x
  have F:=O (MZ l x);clear x;go_in
  go_wp2_with (go_at_call 41;refine (GN l _ Q).mono ?_;rintro e w' ⟨rfl,rfl⟩)
  go_ret3
  exact kI F.o rfl rfl (mH.none_ _) (Below.refl _ _)
 have K:(((check l).2:Int) != 0)=false:=by simp [x]
 have F:=O (vD l x);clear x;obtain⟨i0,M,T,U,V⟩:=info_parts FI;have R:=Cx l;go_in
 go_wp2_with (first
  | (go_at_call 41;refine (GN l _ Q).mono ?_;rintro e w' ⟨rfl,rfl⟩)
  | (go_at_call 42;refine (NA l _ Q).mono ?_;rintro e w' ⟨rfl,rfl⟩))
 go_loopw [2,3] (fun v i wr=>∃ (f a:Nat) (b:List Tok),i=.int .i64 a∧a≤l.length∧l.length < f+a∧b.length≤800∧read l=gY f l a b∧wr.ownsRow w.heap.size 80 3 v b.length (iY b)∧Below w.heap.size w wr) (fun _ i _=>l.length - (intOf i).toNat)
 case atStart=>exact⟨l.length+1,skip l,[],rfl,R,by omega,by simp,F.o,World.ownsRow_nil _ _ _ _,Below.refl _ _⟩
 case round =>
  obtain⟨f,a,b,rfl,ha,hf,Z,D,m,hb⟩:=hrel;have E:=O D;clear D;have X:=O hf;clear hf;obtain⟨A,c,rfl⟩:=d_ m;have h:=O hb;clear hb;have H:=O m;clear m;obtain⟨f,rfl⟩:∃ f',f=f'+1:=⟨f - 1,by have:=X.o;omega⟩;by_cases hlt:a < l.length
  ·have y:¬ l.length≤a:=by omega
   by_cases j:(first (l.drop a)).1=0
   ·have N:(((first (l.drop a)).1:Int) == 0)=true:=by simp [j]
    have q:=O (oL f l a b y j);clear j y;go_wp2_with (go_at_call 43;refine (vg (l.drop a) _ (G.o.below h.o) (by simp;omega)).mono ?_;rintro e w' ⟨rfl,d⟩)
    go_ret3
    exact kI (E.o.trans q.o) rfl rfl (mH.none_ _) (h.o.trans (d.mono h.o.size))
   ·have N:(((first (l.drop a)).1:Int) == 0)=false:=by simpa using j
    have C:=rX (l.drop a) j;rw [List.length_drop] at C
    obtain⟨ain,aio⟩:=C;by_cases h8:b.length=800
    ·have J:((b.length:Int) == 800)=true:=by simp [h8]
     have q:=O (oK f l a b y j h8);clear j y h8;go_wp2_with (go_at_call 43;refine (vg (l.drop a) _ (G.o.below h.o) (by simp;omega)).mono ?_;rintro e w' ⟨rfl,d⟩)
     go_ret3
     exact kI (E.o.trans q.o) rfl rfl (mH.none_ _) (h.o.trans (d.mono h.o.size))
    ·have J:((b.length:Int) == 800)=false:=by simp;omega
     have q:=O (oM f l a b y j h8);clear j y;have I:=Cx (l.drop (a+(first (l.drop a)).2.length));rw [List.length_drop] at I
     go_wp2_with (first
      | (go_at_call 43;refine (vg (l.drop a) _ (G.o.below h.o) (by simp;omega)).mono ?_;rintro e w' ⟨rfl,d⟩)
      | (go_at_call 42;refine (NA (l.drop (a+(first (l.drop a)).2.length)) _ (by simp;omega)).mono ?_;rintro e w'' ⟨rfl,rfl⟩)
      | (at_builtin
         refine wpList_append_own _ rfl (.tmp 46) (.tmp 51) 43 rfl w.heap.size 80 i0 _ 3 32 Tryz.underlying43 M T U V rfl (by decide) _ b.length (iY b) rfl
           ((own_below H.o d).alloc _) ⟨w'.heap.size,0,none⟩ 1 1 (kV ⟨(first (l.drop a)).1,(first (l.drop a)).2,(a:Int)⟩) rfl rfl (iD _ _ _) (zf _) (by simp only [maxLen];omega) (by omega) (by have:=h.o.size;have:=d.size;simp;omega) ?_
         intro v2 w2 u L _))
     have r:Below w.heap.size w w':=h.o.trans (d.mono h.o.size)
     refine⟨⟨f,a+(first (l.drop a)).2.length+skip (l.drop (a+(first (l.drop a)).2.length)),b ++ [⟨(first (l.drop a)).1,(first (l.drop a)).2,(a:Int)⟩],by go_num,by omega,by have:=X.o;omega,by simp;omega,E.o.trans q.o,?_,?_⟩,by simp [intOf];omega⟩
     ·rw [tN,ak5];simpa [iY] using u
     ·exact (r.alloc r.size _).grown L (by have:=r.size;simp;omega) (fun k j=>((own_below H.o d).lt k j).1)
  ·have q:=O (qd f l a b (by omega));go_wp2;go_ret3
   exact kI (E.o.trans q.o) rfl rfl (mH.JF H.o) h.o
theorem AU (l:Bs)(w:World)(E:l.length≤100000000) :
  Calls Tryz.prog 34 #[.string (aH l)] w (Dq l w):=by
 by_cases G:(check l).2=0
 case neg =>
  have hc':((check l).2:Int) != 0:=by simpa using G
  have Q:=O (MZ l G);clear G;go_in
  go_wp2_with (go_at_call 65;refine (Fa l _ E).mono ?_;rintro e w' ⟨rfl,rfl⟩)
  go_ret3
  exact kI Q.o rfl rfl (mH.none_ _) (Below.refl _ _)
 have hc':(((check l).2:Int) != 0)=false:=by simp [G]
 have Q:=O (vD l G);clear G;obtain⟨i0,hi0,hz0,hz1,hz2⟩:=info_parts FI;have hsk:=Cx l;have D:=fun w=>GY l 0 w E (ak2 _)
 simp only [List.drop_zero,Int.natCast_zero,Int.zero_add] at D
 have T:=O D;clear D;go_in
 go_wp2_with (first
  | (go_at_call 65;refine (Fa l _ E).mono ?_;rintro e w' ⟨rfl,rfl⟩)
  | (go_at_call 66;refine (T.o _).mono ?_;rintro e w' ⟨rfl,rfl⟩))
 go_loopw [7,8] (fun v i wr=>∃ (f a:Nat) (b:List Tok),i=.int .i64 a∧a≤l.length∧l.length < f+a∧b.length≤800∧Mist.read l=gY f l a b∧wr.ownsRow w.heap.size 80 3 v b.length (iY b)∧Below w.heap.size w wr) (fun _ i _=>l.length - (intOf i).toNat)
 case atStart=>exact⟨l.length+1,skip l,[],rfl,hsk,by omega,by simp,Q.o,World.ownsRow_made _ _ _ (ak0 _) (by simp [maxLen]) rfl,(Below.refl _ _).alloc (ak0 _) _⟩
 case round =>
  obtain⟨f,a,b,rfl,ha,hf,hacc,K,u,hb⟩:=hrel;have N:=O K;clear K;have HF:=O hf;clear hf;obtain⟨A,c,rfl⟩:=d_ u;have x:=O hb;clear hb;have U:=O u;clear u;obtain⟨f,rfl⟩:∃ f',f=f'+1:=⟨f - 1,by have:=HF.o;omega⟩;by_cases hlt:a < l.length
  ·have H:¬ l.length≤a:=by omega
   by_cases r:(first (l.drop a)).1=0
   ·have hk':(((first (l.drop a)).1:Int) == 0)=true:=by simp [r]
    have y:=O (oL f l a b H r);clear r H;go_wp2_with (go_at_call 67;refine (wQ l a _ E ha).mono ?_;rintro e w' ⟨rfl,q⟩)
    go_ret3
    have j:Below w.heap.size w w':=x.o.trans (q.mono x.o.size);exact kI (N.o.trans y.o) rfl rfl (mH.none_ _) (j.alloc j.size _)
   ·have hk':(((first (l.drop a)).1:Int) == 0)=false:=by simpa using r
    have J:=rX (l.drop a) r;rw [List.length_drop] at J
    obtain⟨ain,aio⟩:=J;by_cases h8:b.length=800
    ·have Z:((b.length:Int) == 800)=true:=by simp [h8]
     have y:=O (oK f l a b H r h8);clear r H h8;go_wp2_with (go_at_call 67;refine (wQ l a _ E ha).mono ?_;rintro e w' ⟨rfl,q⟩)
     go_ret3
     have j:Below w.heap.size w w':=x.o.trans (q.mono x.o.size);exact kI (N.o.trans y.o) rfl rfl (mH.none_ _) (j.alloc j.size _)
    ·have Z:((b.length:Int) == 800)=false:=by simp;omega
     have I:Pp (l.drop a) a=a:=by unfold Pp;rw [if_neg r]
     have R:=O I;clear I;have y:=O (oM f l a b H r h8);clear r H;have X:=Cx (l.drop (a+(first (l.drop a)).2.length));rw [List.length_drop] at X
     go_wp2_with (go_at_call 67;refine (wQ l a _ E ha).mono ?_;rintro e w' ⟨rfl,q⟩)
     have j:Below w.heap.size w w':=x.o.trans (q.mono x.o.size);have M:=O (j.alloc j.size (Obj.cells #[Value.int IntKind.u8 (first (l.drop a)).1,Value.string (aH (first (l.drop a)).2),Value.int IntKind.i64 (Pp (l.drop a) a)] 80));have C:=O ((own_below U.o q).alloc (Obj.cells #[Value.int IntKind.u8 (first (l.drop a)).1,Value.string (aH (first (l.drop a)).2),Value.int IntKind.i64 (Pp (l.drop a) a)] 80));have V:=fun k r=>((own_below U.o q).lt k r).2
     have d:=heap_alloc_new w' (Obj.cells #[Value.int IntKind.u8 (first (l.drop a)).1,Value.string (aH (first (l.drop a)).2),Value.int IntKind.i64 (Pp (l.drop a) a)] 80);have L:w'.heap.size < (w'.alloc (Obj.cells #[Value.int IntKind.u8 (first (l.drop a)).1,Value.string (aH (first (l.drop a)).2),Value.int IntKind.i64 (Pp (l.drop a) a)] 80)).heap.size:=by simp
     obtain⟨W,hW⟩:∃ W,W=w'.alloc (Obj.cells #[Value.int IntKind.u8 (first (l.drop a)).1,Value.string (aH (first (l.drop a)).2),Value.int IntKind.i64 (Pp (l.drop a) a)] 80):=⟨_,rfl⟩;rw [← hW] at M C d L ⊢
     clear hW q j;obtain⟨g,hg⟩:∃ g,g=w'.heap.size:=⟨_,rfl⟩;rw [← hg] at V d L ⊢
     clear hg;have c0:W.cell? ⟨g,0,none⟩=some (.int .u8 (first (l.drop a)).1):=by rw [Lib.cell_of_heap d];rfl
     have c1:W.cell? ⟨g,1,none⟩=some (.string (aH (first (l.drop a)).2)):=by rw [Lib.cell_of_heap d];rfl
     have c2:W.cell? ⟨g,2,none⟩=some (.int .i64 (Pp (l.drop a) a)):=by rw [Lib.cell_of_heap d];rfl
     clear d;have Y:(Value.slice A b.length c).ownBlock ≠ some g:=fun h=>by have:=V g h;omega
     clear V;have hwr:IntKind.i64.wrap ((a:Int)+((first (l.drop a)).2.length:Int))=(a:Int)+((first (l.drop a)).2.length:Int):=IntWalk.i64_in _ (by omega)
     go_region_held3 (fun w'=>w'.cell? ⟨g,0,none⟩=some (.int .u8 (first (l.drop a)).1)∧w'.cell? ⟨g,1,none⟩=some (.string (aH (first (l.drop a)).2))∧w'.cell? ⟨g,2,none⟩=some (.int .i64 (Pp (l.drop a) a)))
      (first
       | go_keep
       | (go_split_ands
          refine⟨?_,?_,?_⟩
          ·(rw [m.cell_far _ (by simp;omega) (Ne.symm Y)];assumption)
          ·(rw [m.cell_far _ (by simp;omega) (Ne.symm Y)];assumption)
          ·(rw [m.cell_far _ (by simp;omega) (Ne.symm Y)];assumption)))
      (first
       | (go_at_call 66;refine (GY l (a+(first (l.drop a)).2.length) _ E (by omega)).mono ?_;rintro e w' ⟨rfl,rfl⟩)
       | (refine step_append_lies _ (by rfl) _ _ _ (by rfl) w.heap.size 80 i0 _ 3 32 Tryz.underlying43 hi0 hz0 hz1 hz2 rfl (by omega) _ b.length (iY b) (by rfl) ((C.o.alloc _).drew)
            ⟨W.heap.size,0,none⟩ 1 1 (kV ⟨(first (l.drop a)).1,(first (l.drop a)).2,Pp (l.drop a) a⟩) (by rfl) (by rfl) (World.news_of_block (cs:=#[.int .u8 (first (l.drop a)).1,.string (aH (first (l.drop a)).2),.int .i64 (Pp (l.drop a) a)]) (t:=80) (fr:=(0,0)) (heap_alloc_new W _)) (zf _)
            (by omega) (by simp only [maxLen];omega) (by omega) (by have:=M.o.size;simp;omega) (W.heap.size+1) (by simp) ?_;intro gg cap w1 F m hat hlt))
     clear hwr;go_wp2
     refine⟨⟨f,a+(first (l.drop a)).2.length+skip (l.drop (a+(first (l.drop a)).2.length)),b ++ [⟨(first (l.drop a)).1,(first (l.drop a)).2,(a:Int)⟩],by go_num,by omega,by have:=HF.o;omega,by simp;omega,N.o.trans y.o,?_,?_⟩,by simp [intOf];omega⟩
     ·rw [tN,ak5,← R.o];simpa [iY] using F
     ·exact (M.o.drew.alloc (by have:=M.o.size;simpa using this) _).grown m (by have:=M.o.size;simp;omega) (fun k r=>(C.o.lt k r).1)
  ·have y:=O (qd f l a b (by omega));go_wp2;go_ret3
   exact kI (N.o.trans y.o) rfl rfl (mH.JF U.o) x.o
theorem rG (l:List Tok):∀ (k j:Nat) (u:Value),k < l.length→(kV (tg l k))[j]? = some u→(iY l)[k * 3+j]? = some u:=by
 induction l with
 | nil=>intro k j u h;simp at h
 | cons t r b =>
  intro k j u h a
  have c:j < 3:=by
   have:=(akV.1 a).1
   simpa [kV] using this
  have e:iY (t :: r)=kV t ++ iY r:=by simp [iY]
  rw [e]
  cases k with
  | zero =>
   rw [List.getElem?_append_left (by simp [kV];omega)]
   simpa [tg] using a
  | succ k =>
   rw [List.getElem?_append_right (by simp [kV];omega)]
   have:(k+1) * 3+j - (kV t).length=k * 3+j:=by simp [kV];omega
   rw [this];exact b k j u (by simpa using h) (by simpa [tg] using a)
structure Dr (w:World) (b o:Nat) (l:List Tok):Prop where
 lt:b < w.heap.size
 kind:∀ k,k < l.length→w.cell? ⟨b,o+k * 3,none⟩=some (.int .u8 (tg l k).kind)
 text:∀ k,k < l.length→w.cell? ⟨b,o+k * 3+1,none⟩=some (.string (aH (tg l k).text))
 at_:∀ k,k < l.length→w.cell? ⟨b,o+k * 3+2,none⟩=some (.int .i64 (tg l k).at_)
theorem Dr.below {w w':World}{b o:Nat}{l:List Tok}(h:Dr w b o l)(c:Below w.heap.size w w'):Dr w' b o l :=
 ⟨alb h.lt c.size,fun k a=>(c.cell (p:=⟨b,_,none⟩) h.lt).trans (h.kind k a),fun k a=>(c.cell (p:=⟨b,_,none⟩) h.lt).trans (h.text k a),fun k a=>(c.cell (p:=⟨b,_,none⟩) h.lt).trans (h.at_ k a)⟩
theorem mH.row {w:World}{v:Value}{l:List Tok}(h:mH w v l)(h0:0 < l.length):∃ b o c,v=.slice (some ⟨b,o,none⟩) l.length c∧l.length≤c∧Dr w b o l:=by
 obtain⟨A,c,rfl,r,u⟩:=h;obtain⟨q,rfl,i,a⟩:=u.2 h0;have f:=a 0 _ (rG l 0 0 _ h0 rfl);obtain⟨b,o,m⟩:=q
 have j:m=none:=by
  cases m with
  | none=>rfl
  | some x =>
   exfalso
   simp only [Addr.add,if_pos] at f
   unfold World.cell? at f
   simp only [Option.isSome_some,if_true] at f
   split at f <;> simp at f
 subst j
 have d:∀ n,(⟨b,o,none⟩:Addr).add n=⟨b,o+n,none⟩:=by
  intro n;unfold Addr.add;split
  ·rename_i h;rw [h];rfl
  ·rfl
 refine⟨b,o,c,rfl,r,i,fun k e=>?_,fun k e=>?_,fun k e=>?_⟩
 ·have:=a _ _ (rG l k 0 _ e rfl);rw [d] at this;exact this
 ·have:=a _ _ (rG l k 1 _ e rfl);rw [d] at this;exact this
 ·have:=a _ _ (rG l k 2 _ e rfl);rw [d] at this;exact this
theorem mH.aaY {w:World}{A:Option Addr}{n c:Nat}{l:List Tok}(h:mH w (.slice A n c) l)(h0:0 < l.length):∃ b o,A=some ⟨b,o,none⟩∧Dr w b o l:=by
 obtain⟨b,o,d,hv,_,a⟩:=h.row h0;injection hv with h1 h2 h3
 exact⟨b,o,h1,a⟩
theorem mH.empty {w:World}{v:Value}{l:List Tok}(h:mH w v l)(h0:¬ 0 < l.length):∃ A c,v=.slice A 0 c:=by
 obtain⟨A,c,rfl,_⟩:=h;exact⟨A,c,by rw [show l.length=0 by omega]⟩
theorem mH.below {w w':World}{v:Value}{l:List Tok}(h:mH w v l)(a:Below w.heap.size w w'):mH w' v l:=by
 obtain⟨A,c,rfl,b,d⟩:=h;exact⟨A,c,rfl,b,(d.below a).more a.size⟩
end
section
open Go.RowKit Mist
attribute [local go_sem] ah aM aV au ak
abbrev NV:=Nd × Value
def iL (x:NV):List Value:=[.int .u8 x.1.kind,.string (aH x.1.text),.int .i64 x.1.n,x.2,.int .i64 x.1.at_]
def jK (xs:List NV):List Value:=xs.flatMap iL
theorem pY (a b:List NV):jK (a ++ b)=jK a ++ jK b:=by simp [jK]
def aF (xs:List NV):List Nd:=xs.map Prod.fst
theorem dL (xs:List NV):(aF xs).length=xs.length:=by simp [aF]
theorem Eh (a b:List NV):aF (a ++ b)=aF a ++ aF b:=by simp [aF]
def intCells (ks:List Int):List Value:=ks.map fun a=>Value.int .i64 a
theorem fU (a b:List Int):intCells (a ++ b)=intCells a ++ intCells b:=by simp [intCells]
def dD (w:World)(v:Value)(ks:List Int):Prop:=w.ownsRow 0 3 1 v ks.length (intCells ks)
theorem dD.none_ (w:World):dD w (.slice none 0 0) []:=World.ownsRow_nil _ _ _ _
theorem Hy:(Tryz.prog.info? 50).map (fun i=>(i.zero,i.size,i.bytes))=some (some (.agg #[.int .u8 0,.string ByteArray.empty,.int .i64 0,.slice none 0 0,.int .i64 0]),5,64):=by kernel_rfl
theorem kR:(Tryz.prog.info? 3).map (fun i=>(i.zero,i.size,i.bytes))=some (some (.int .i64 0),1,8):=by kernel_rfl
structure Mv (g:Nat) (row:Option Nat) (w:World) (row':Option Nat) (w':World):Prop where
 os:w'.os=w.os
 tape:w'.tape=w.tape
 output:w'.output=w.output
 size:w.heap.size≤w'.heap.size
 block:∀ b,b < w.heap.size→b ≠ g→some b ≠ row→w'.heap[b]? = w.heap[b]?
 tgt:row'=row∨∀ b,row'=some b→w.heap.size≤b
section
variable {g:Nat} {r0 r1 r2:Option Nat} {w w1 w2:World}
theorem Mv.refl:Mv g r0 w r0 w:=⟨rfl,rfl,rfl,ak0 _,fun _ _ _ _=>rfl,.inl rfl⟩
theorem Mv.trans (h:Mv g r0 w r1 w1)(k:Mv g r1 w1 r2 w2):Mv g r0 w r2 w2:=by
 refine⟨k.os.trans h.os,k.tape.trans h.tape,k.output.trans h.output,Nat.le_trans h.size k.size,fun b a d f=>?_,?_⟩
 ·refine (k.block b (alb a h.size) d ?_).trans (h.block b a d f);rcases h.tgt with e | e
  ·rw [e];exact f
  ·intro c;have:=e b c.symm;omega
 ·rcases k.tgt with e | e
  ·rcases h.tgt with c | c
   ·exact .inl (e.trans c)
   ·right;intro b a;rw [e] at a;exact c b a
  ·right;intro b a;have:=e b a;have:=h.size;omega
theorem Mv.of_below (h:Below w.heap.size w w1):Mv g r0 w r0 w1:=⟨h.os,h.tape,h.output,h.size,fun b a _ _=>h.block b a,.inl rfl⟩
theorem Mv.below (h:Mv g r0 w r1 w1)(d:g < w.heap.size){B:Nat}(c:B≤g)(a:∀ b,r0=some b→B≤b):Below B w w1 :=
 ⟨h.os,h.tape,h.output,h.size,fun k f=>h.block k (by omega) (by omega) (fun e=>by have:=a k e.symm;omega)⟩
theorem Mv.g_ {T:TypeId}{cs:Array Value}(c:bf w g T cs)(i:Nat)(u:Value):Mv g r0 w r0 (w.setCell ⟨g,i,none⟩ u) :=
 ⟨rfl,rfl,rfl,by simp [World.setCell],fun b _ a _=>Below.heap_setCell w ⟨g,i,none⟩ u b (by simpa using a),.inl rfl⟩
theorem Mv.grown (h:w.grownBy w1 r0)(c:r1=r0∨r1=some w.heap.size):Mv g r0 w r1 w1 :=
 ⟨h.os,h.tape,h.output,h.size,fun b a _ d=>h.block b a d,c.imp id (fun e b a=>by rw [e] at a;injection a with a;omega)⟩
theorem Mv.alloc (o:Obj):Mv g r0 w r0 (w.alloc o):=Mv.of_below ((Below.refl _ _).alloc (ak0 _) o)
theorem Mv.drewN (n:Nat):Mv g r0 w r0 (w.drewN n):=⟨rfl,rfl,rfl,ak0 _,fun _ _ _ _=>rfl,.inl rfl⟩
theorem Mv.blk {b:Nat}{T:TypeId}{cs:Array Value}(h:Mv g r0 w r1 w1)(a:bf w b T cs)(c:b ≠ g)(d:some b ≠ r0):bf w1 b T cs:=(h.block b a.lt c d).trans a
theorem Mv.ne (h:Mv g r0 w r1 w1){b:Nat}(d:b < w.heap.size)(c:some b ≠ r0):some b ≠ r1:=by
 rcases h.tgt with e | e
 ·rw [e];exact c
 ·intro a;have:=e b a.symm;omega
theorem Mv.row {base e s n:Nat}{v:Value}{xs:List Value}(h:Mv g r0 w r1 w1)(f:w.ownsRow base e s v n xs)(j:v.ownBlock ≠ some g)(a:v.ownBlock=none∨v.ownBlock ≠ r0):w1.ownsRow base e s v n xs:=by
 refine⟨f.1,?_⟩
 rcases f.2 with h2 | ⟨b,cap,c,rfl,i,d,r⟩
 ·exact .inl h2
 ·refine .inr ⟨b,cap,c,rfl,i,(h.block b (akX.1 d).1 ?_ ?_).trans d,r⟩
  ·intro e;exact j (by simp [Value.ownBlock,e])
  ·intro e;rcases a with a | a
   ·simp [Value.ownBlock] at a
   ·exact a (by simp [Value.ownBlock,← e])
theorem eY {e d:TypeId}{b o s x n u:Nat}{v m:Value}{xs k:List Value}(h:w.ownsRow b e s v n xs)(q:w.ownsRow o d x m u k)(j:e ≠ d):v.ownBlock=none∨v.ownBlock ≠ m.ownBlock:=by
 rcases h.2 with ⟨rfl,_⟩ | ⟨g,cap,c,rfl,_,r,_⟩
 ·left;rfl
 ·right
  rcases q.2 with ⟨rfl,_⟩ | ⟨g',l,a,rfl,_,i,_⟩
  ·simp [Value.ownBlock]
  ·intro f;have f:g=g':=by simpa [Value.ownBlock] using f
   subst f;exact bf.ne_ (show bf w g e c from r) (show bf w g d a from i) j rfl
theorem jm {base base' e s n:Nat}{v:Value}{xs:List Value}(h:w.ownsRow base e s v n xs)(c:∀ k,v.ownBlock=some k→base'≤k):w.ownsRow base' e s v n xs:=by
 refine⟨h.1,?_⟩
 rcases h.2 with h2 | ⟨b,cap,a,rfl,_,r⟩
 ·exact .inl h2
 ·exact .inr ⟨b,cap,a,rfl,c b rfl,r⟩
end
theorem nW {w:World}{m:Nat}{o:Obj}(h:w.heap[m]? = some o)(x:Obj):(w.alloc x).heap[m]? = some o :=
 (Lib.alloc_old w x m (akX.1 h).1).trans h
section
variable {g:Nat} {r0 r1:Option Nat} {w w1 w2:World}
theorem Mv.jV {b i:Nat}{u:Value}(h:Mv g r0 w r1 w1)(f:w.heap.size≤b):Mv g r0 w r1 (w1.setCell ⟨b,i,none⟩ u) :=
 ⟨h.os,h.tape,h.output,by simpa [World.setCell] using h.size,fun c a d e=>(Below.heap_setCell w1 ⟨b,i,none⟩ u c (by simp;omega)).trans (h.block c a d e),h.tgt⟩
theorem Mv.ab6 {i:Nat}{u:Value}(h:Mv g r0 w r1 w1):Mv g r0 w r1 (w1.setCell ⟨g,i,none⟩ u) :=
 ⟨h.os,h.tape,h.output,by simpa [World.setCell] using h.size,fun c b a d=>(Below.heap_setCell w1 ⟨g,i,none⟩ u c (by simpa using a)).trans (h.block c b a d),h.tgt⟩
theorem Mv.aU (h:Mv g r0 w r1 w1)(a:Below w1.heap.size w1 w2):Mv g r0 w r1 w2:=h.trans (Mv.of_below a)
theorem Mv.dK {o:Obj}(h:Mv g r0 w r1 w1):Mv g r0 w r1 (w1.alloc o):=h.trans (Mv.alloc o)
theorem Mv.YV (h:Mv g r0 w r1 w1):Mv g r0 w r1 w1.drew:=h.trans (Mv.drewN 1)
end
theorem eF {B:Nat}{a w:World}{b i:Nat}{u:Value}(h:Below B a w)(c:B≤b):Below B a (w.setCell ⟨b,i,none⟩ u):=h.setCell (p:=⟨b,i,none⟩) c u
theorem aG {B:Nat}{a w:World}{o:Obj}(h:Below B a w)(b:B≤w.heap.size):Below B a (w.alloc o):=h.alloc b o
def A9 (w:World)(g:Nat)(tv:Value)(l:List Tok):Prop:=∃ A c,tv=.slice A l.length c∧l.length≤c∧Reads w g 3 A l.length (iY l)
theorem A9.toks {w:World}{g:Nat}{tv:Value}{l:List Tok}(h:A9 w g tv l)(b:g≤w.heap.size):mH w tv l:=by
 obtain⟨A,c,rfl,a,d⟩:=h;exact⟨A,c,rfl,a,d.more b⟩
theorem A9.below {w w':World}{g:Nat}{tv:Value}{l:List Tok}(h:A9 w g tv l)(a:Below g w w'):A9 w' g tv l:=by
 obtain⟨A,c,rfl,b,d⟩:=h;exact⟨A,c,rfl,b,d.below a⟩
end
set_option linter.all false
section
open Go.RowKit Mist
def iM (p:Pz):List Value:=[.string (aH p.text),.bool p.blank,.int .i64 p.node]
def gV (l:List Pz):List Value:=l.flatMap iM
theorem E8 (l:List Pz)(p:Pz):gV (l ++ [p])=gV l ++ iM p:=by simp [gV]
theorem o7 (p:Pz):∀ u ∈ iM p,u.oneCell'=true:=by
 intro u a;simp [iM] at a
 rcases a with rfl | rfl | rfl <;> rfl
theorem uV (l:List Pz):∀ (k j:Nat) (p:Pz) (u:Value),l[k]? = some p→(iM p)[j]? = some u→(gV l)[k * 3+j]? = some u:=by
 induction l with
 | nil=>intro k j p u h;simp at h
 | cons t r b =>
  intro k j p u h a;have e:gV (t :: r)=iM t ++ gV r:=by simp [gV]
  have h3:(iM t).length=3:=rfl;rw [e]
  cases k with
  | zero =>
   have:t=p:=by simpa using h
   subst this;have c:j < 3:=(akV.1 a).1;rw [List.getElem?_append_left (by omega),Nat.zero_mul,Nat.zero_add];exact a
  | succ k =>
   rw [List.getElem?_append_right (by omega),h3,show (k+1) * 3+j - 3=k * 3+j by omega];exact b k j p u (by simpa using h) a
theorem ML (l:List Pz):∀ a:Nat,a < l.length→(gV l).set (a * 3+1) (.bool false)=gV (nJ a l):=by
 induction l with
 | nil=>intro a h;simp at h
 | cons t r b =>
  intro a h;have e:∀ (t:Pz) (r:List Pz),gV (t :: r)=iM t ++ gV r:=fun t r=>by simp [gV]
  cases a with
  | zero =>
   show (gV (t :: r)).set 1 _=gV (⟨t.text,false,t.node⟩ :: r)
   rw [e,e];rfl
  | succ a =>
   show (gV (t :: r)).set ((a+1) * 3+1) _=gV (t :: nJ a r)
   have h3:(iM t).length=3:=rfl;rw [e,e,List.set_append_right _ _ (by omega),h3,show (a+1) * 3+1 - 3=a * 3+1 by omega,b a (by simpa using h)]
abbrev Sz:=List (Nat × TypeId × Array Value)
structure PZ (S:Sz) (B g:Nat) (w W:World) (nv iv pv:Value) (ps:List Pz):Prop where
 blk:bf W g 102 #[nv,iv,pv]
 own:W.ownsRow B 113 3 pv ps.length (gV ps)
 Ki:Below B w W
 le:B≤g
 lw:B≤W.heap.size
 kp:∀ e ∈ S,bf W e.1 e.2.1 e.2.2∧e.2.1 ≠ 113∧e.1 ≠ g
section
variable {S:Sz} {B g:Nat} {w W w2:World} {nv iv pv v2:Value} {ps:List Pz}
theorem PZ.alloc (h:PZ S B g w W nv iv pv ps)(o:Obj):PZ S B g w (W.alloc o) nv iv pv ps :=
 ⟨h.blk.alloc o,h.own.alloc o,h.Ki.alloc h.lw o,h.le,by have:=h.lw;simp;omega,fun e a=>⟨(h.kp e a).1.alloc o,(h.kp e a).2⟩⟩
theorem PZ.add (h:PZ S B g w W nv iv pv ps)(p:Pz)(b:W.grownBy w2 pv.ownBlock)(a:w2.ownsRow B 113 3 v2 (ps.length+1) (gV ps ++ iM p)) :
  PZ S B g w (w2.setCell ⟨g,2,none⟩ v2) nv iv v2 (ps ++ [p]):=by
 have kb:=h.blk.grown b (fun e=>bD h.own h.blk (by decide) e.symm);have m:=bD a kb (by decide)
 refine⟨?_,?_,?_,h.le,?_,fun e d=>?_⟩
 ·have:=kb.g_ 2 v2;simpa using this
 ·rw [ak5,ak_,E8];exact ownsRow_setCell_other a m _
 ·exact (h.Ki.grown b h.lw (fun k f=>(h.own.lt k f).1)).setCell (p:=⟨g,2,none⟩) h.le _
 ·have:=b.size;have:=h.lw;simp at *;omega
 ·obtain⟨h1,h2,h3⟩:=h.kp e d;exact⟨(h1.grown b (fun c=>bD h.own h1 (Ne.symm h2) c.symm)).far (p:=⟨g,2,none⟩) h3 _,h2,h3⟩
theorem PZ.drewN (h:PZ S B g w W nv iv pv ps)(n:Nat):PZ S B g w (W.drewN n) nv iv pv ps:=⟨h.blk,h.own,gJ h.Ki n,h.le,h.lw,h.kp⟩
theorem PZ.drew (h:PZ S B g w W nv iv pv ps):PZ S B g w W.drew nv iv pv ps:=⟨h.blk,h.own,h.Ki.drew,h.le,h.lw,h.kp⟩
theorem PZ.below (h:PZ S B g w W nv iv pv ps){c:World}(a:Below W.heap.size W c):PZ S B g w c nv iv pv ps :=
 ⟨h.blk.below a h.blk.lt,own_below h.own a,h.Ki.trans (a.mono h.lw),h.le,Nat.le_trans h.lw a.size,fun e b=>⟨(h.kp e b).1.below a (h.kp e b).1.lt,(h.kp e b).2⟩⟩
theorem PZ.close {b cap:Nat}(h:PZ S B g w W nv iv (.slice (some ⟨b,0,none⟩) ps.length cap) ps){a:Nat}(j:a < ps.length) :
  PZ S B g w (W.setCell ⟨b,a * 3+1,none⟩ (.bool false)) nv iv (.slice (some ⟨b,0,none⟩) ps.length cap) (nJ a ps):=by
 have c:=bD h.own h.blk (by decide);have l:=h.own.stored (a * 3+1) (.bool false)
 refine⟨h.blk.far (p:=⟨b,a * 3+1,none⟩) (fun e=>c (by simp [Value.ownBlock,e])) _,?_,h.Ki.setCell (p:=⟨b,_,none⟩) (h.own.lt b rfl).1 _,h.le,by have:=h.lw;simpa using this,fun e k=>?_⟩
 ·have e:(nJ a ps).length=ps.length:=by unfold nJ;rw [List.length_modify]
  have h1:=l.1;rw [ML ps a j] at h1
  rw [e];exact h1
 ·obtain⟨d,f,m⟩:=h.kp e k;exact⟨d.far (p:=⟨b,a * 3+1,none⟩) (fun i=>bD h.own d (Ne.symm f) (by simp [Value.ownBlock,i])) _,f,m⟩
theorem PZ.more {b:Nat}{T:TypeId}{cs:Array Value}(h:PZ S B g w W nv iv pv ps)(c:bf W b T cs)(f:T ≠ 113)(d:b ≠ g):PZ ((b,T,cs) :: S) B g w W nv iv pv ps :=
 ⟨h.blk,h.own,h.Ki,h.le,h.lw,fun e a=>by
  rcases List.mem_cons.1 a with rfl | a
  ·exact⟨c,f,d⟩
  ·exact h.kp e a⟩
theorem PZ.fewer {a:Sz}(h:PZ S B g w W nv iv pv ps)(c:∀ e ∈ a,e ∈ S):PZ a B g w W nv iv pv ps :=
 ⟨h.blk,h.own,h.Ki,h.le,h.lw,fun e b=>h.kp e (c e b)⟩
theorem PZ.tl {e:Nat × TypeId × Array Value}(h:PZ (e :: S) B g w W nv iv pv ps):PZ S B g w W nv iv pv ps:=h.fewer fun _ a=>List.mem_cons_of_mem _ a
theorem PZ.box {T:TypeId}{cs:Array Value}(h:PZ S B g w W nv iv pv ps)(a:T ≠ 113):PZ ((W.heap.size,T,cs) :: S) B g w (W.alloc (.cells cs T)) nv iv pv ps :=
 (h.alloc _).more (bf.new W T cs) a (Ne.symm (Nat.ne_of_lt h.blk.lt))
end
end
set_option linter.all false
section
open Go.RowKit Mist
attribute [local go_sem] ah aM aV au ak
theorem wO:(Tryz.prog.info? 113).map (fun i=>(i.zero,i.size,i.bytes))=some (some (.agg #[.string ByteArray.empty,.bool false,.int .i64 0]),3,32):=by kernel_rfl
section
variable {S:Sz} {B g:Nat} {w W:World} {nv iv pv:Value} {ps:List Pz}
theorem YZ (h:PZ S B g w W nv iv pv ps)(t:Bs)(n:Int)(J:ps.length≤1000000) :
  Calls Tryz.prog 53 #[.pointer (some ⟨g,0,none⟩),.string (aH t),.int .i64 n] W fun e E=>e=.returned (.tuple #[])∧∃ r,PZ S B g w E nv iv r (ps ++ [⟨t,false,n⟩]):=by
 obtain⟨A,c,rfl⟩:=d_ h.own;obtain⟨K,f,j,k,l⟩:=info_parts wO;have H:=O h;clear h;have c2:=H.o.blk.cell 2;have N:=H.o.blk.frozen 2;have M:=H.o.lw;obtain⟨m,i⟩:∃ m,m=ps.length:=⟨_,rfl⟩;rw [← i] at J c2
 have u:=O i;clear i;have v:=O (show W.ownsRow B 113 3 (.slice A m c) m (gV ps) from by rw [u.o];exact H.o.own)
 have b:∀ w2 v2,(W.alloc (.cells #[.string (aH t),.bool false,.int .i64 n] 113)).grownBy w2 (Value.slice A m c).ownBlock→w2.ownsRow B 113 3 v2 (m+1) (gV ps ++ iM ⟨t,false,n⟩)→PZ S B g w (w2.setCell ⟨g,2,none⟩ v2) nv iv v2 (ps ++ [⟨t,false,n⟩]):=fun w2 v2 x y=>by
  rw [u.o] at x y
  exact (H.o.alloc _).add _ x y
 have D:=O b;clear b;go_in
 go_wp2_with (at_builtin;go_loud (
  refine wpList_append_own _ rfl (.tmp 10) (.tmp 14) 54 rfl B 113 K _ 3 32 Tryz.underlying54 f j k l rfl (by decide) _ m (gV ps) rfl (v.o.alloc _) ⟨W.heap.size,0,none⟩ 1 1 (iM ⟨t,false,n⟩) rfl rfl (iD W (iM ⟨t,false,n⟩) _) (o7 _) (by simp only [maxLen];omega) (by omega) (by simp;omega) ?_;intro v2 w2 a d _;have q:=(H.o.alloc (.cells #[.string (aH t),.bool false,.int .i64 n] 113)).blk.grown d (fun e=>bD (v.o.alloc _) (H.o.alloc (.cells #[.string (aH t),.bool false,.int .i64 n] 113)).blk (by decide) e.symm);have F:=q.cell 2;have I:=q.frozen 2;obtain⟨L,G,rfl⟩:=d_ a;have C:=O (D.o _ _ d a);clear q a d))
 go_end0
 exact⟨rfl,_,C.o⟩
theorem Pk (ps:List Pz):∀ a:Nat,ps.length≤a→nJ a ps=ps:=by
 induction ps with
 | nil=>intro a _;cases a <;> rfl
 | cons x ps b =>
  intro a h
  cases a with
  | zero=>simp at h
  | succ a =>
   show x :: nJ a ps=x :: ps
   rw [b a (by simpa using h)]
theorem RV (h:PZ S B g w W nv iv pv ps)(a:Nat)(D:a≤1000000) :
  Calls Tryz.prog 94 #[.pointer (some ⟨g,0,none⟩),.int .i64 a] W fun e v=>e=.returned (.tuple #[])∧∃ u,PZ S B g w v nv iv u (nJ a ps):=by
 obtain⟨A,c,rfl⟩:=d_ h.own;have H:=O h;clear h;have c2:=H.o.blk.cell 2;obtain⟨m,q⟩:∃ m,m=ps.length:=⟨_,rfl⟩;rw [← q] at c2
 have j:=O q;clear q;have k:=O (show W.ownsRow B 113 3 (.slice A m c) m (gV ps) from by rw [j.o];exact H.o.own);have F:(0:Int)≤(a:Int):=by omega
 by_cases l:a < m
 ·have y:(a:Int) < (m:Int):=by omega
  obtain⟨d,x⟩:∃ d,A=some ⟨d,0,none⟩:=by
   obtain⟨d,cap,hv,_⟩:=k.o.form (by omega);injection hv with r
   exact⟨d,r⟩
  subst x;have f:a < ps.length:=by rw [← j.o];exact l
  obtain⟨b,E⟩:∃ b,W.cell? ⟨d,a * 3+1,none⟩=some (.bool b):=⟨_,by
   rw [k.o.cellAt (a * 3+1) (by omega)];exact uV ps a 1 ps[a] _ (akU f) rfl⟩
  have C:=k.o.frozenAt (a * 3+1);have i:=O (show PZ S B g w (W.setCell ⟨d,a * 3+1,none⟩ (.bool false)) nv iv (.slice (some ⟨d,0,none⟩) ps.length c) (nJ a ps) from PZ.close H.o f);go_in
  go_wp2_with fail;go_end0
  exact⟨rfl,_,i.o⟩
 ·have y:¬ (a:Int) < (m:Int):=by omega
  have i:=O (show PZ S B g w W nv iv _ (nJ a ps) from by rw [Pk ps a (by rw [← j.o];omega)];exact H.o);go_in
  go_wp2_with fail;go_end0
  exact⟨rfl,_,i.o⟩
theorem adV (h:PZ S B g w W nv iv pv ps)(t:Bs)(n:Int)(M:ps.length≤1000000) :
  Calls Tryz.prog 52 #[.pointer (some ⟨g,0,none⟩),.string (aH t),.int .i64 n] W fun e I=>e=.returned (.tuple #[])∧∃ v,PZ S B g w I nv iv v (afk ps t n):=by
 obtain⟨A,c,rfl⟩:=d_ h.own;obtain⟨N,j,l,q,r⟩:=info_parts wO;have H:=O h;clear h;have c2:=H.o.blk.cell 2;have R:=H.o.blk.frozen 2;have Q:=H.o.lw;have L:=H.o.blk.lt;obtain⟨m,k⟩:∃ m,m=ps.length:=⟨_,rfl⟩;rw [← k] at M c2
 have f:=O k;clear k;have x:=O (show W.ownsRow B 113 3 (.slice A m c) m (gV ps) from by rw [f.o];exact H.o.own);have E:=O (show decide (0 < m)=decide (0 < ps.length) by rw [f.o])
 have d:∀ w2 v2,((W.alloc (.cells #[.string (aH t),.bool (decide (0 < m)),.int .i64 n] 113)).drew).grownBy w2 (Value.slice A m c).ownBlock→w2.ownsRow B 113 3 v2 (m+1) (gV ps ++ iM ⟨t,decide (0 < m),n⟩)→PZ S B g w (w2.setCell ⟨g,2,none⟩ v2) nv iv v2 (afk ps t n):=fun w2 v2 y D=>by
  rw [f.o] at y D
  exact ((H.o.alloc _).drew).add ⟨t,decide (0 < ps.length),n⟩ y D
 have G:=O d;clear d;go_in
 go_wp2_with fail
 go_region_law ((refine step_append_lies _ (by rfl) _ _ _ (by rfl) B 113 N _ 3 32 Tryz.underlying54 j l q r rfl (by omega) _ m (gV ps) (by rfl) ((x.o.alloc _).drew)
                  ⟨W.heap.size,0,none⟩ 1 1 (iM ⟨t,decide (0 < m),n⟩) (by rfl) (by rfl) (World.news_of_block (cs:=#[.string (aH t),.bool (decide (0 < m)),.int .i64 n]) (t:=113) (fr:=(0,0)) (heap_alloc_new W _)) (o7 _)
                  (by omega) (by simp only [maxLen];omega) (by omega) (by simp;omega) (W.heap.size+1) (by simp) ?_;intro T cap w1 b a i C;have u:=((H.o.alloc (.cells #[.string (aH t),.bool (decide (0 < m)),.int .i64 n] 113)).drew).blk.grown a (fun e=>bD (x.o.alloc _) (H.o.alloc (.cells #[.string (aH t),.bool (decide (0 < m)),.int .i64 n] 113)).blk (by decide) e.symm);have J:=u.cell 2;have K:=u.frozen 2;clear u))
 all_goals
  have F:=O (G.o _ _ a b);clear a b i;go_wp2_with fail;go_end0
  exact⟨rfl,_,F.o⟩
end
end
set_option linter.all false
section
open Go.RowKit Mist
attribute [local go_sem] ah aM aV au ak
section
variable {S:Sz} {B g:Nat} {w W:World} {nv iv pv:Value} {ps:List Pz}
theorem Zy (h:PZ S B g w W nv iv pv ps)(k:Nat)(a:Array Value)(l:List Pz)(v:ps.length≤1000000)(x:∀ b,Sem.run Tryz.prog (callFunc k a) b=.ok (.enter k a) b)
  (j:∀ b d,PZ S B g w b nv iv d ps→Below W.heap.size W b→Calls Tryz.prog k a b fun e u=>e=.returned (.tuple #[])∧∃ m,PZ S B g w u nv iv m (iG ps l)) :
  Calls Tryz.prog 95 #[.pointer (some ⟨g,0,none⟩),.func (.func k) #[] a] W fun e b=>e=.returned (.tuple #[])∧∃ d,PZ S B g w b nv iv d (ps ++ dI false l):=by
 obtain⟨A,c,rfl⟩:=d_ h.own;have i:=O (j W _ h (Below.refl _ _));clear j;have H:=O h;clear h;have c2:=H.o.blk.cell 2;go_in
 go_wp2_with fail;refine i.o.mono ?_;rintro e w2⟨rfl,m,f⟩;have q:=O f;clear f i;go_wp2_with fail;refine (RV q.o ps.length v).mono ?_;rintro e C⟨rfl,y,f⟩;rw [vv] at f
 have r:=O f;clear f;go_wp2_with fail;go_end0
 exact⟨rfl,_,r.o⟩
theorem afa (h:PZ S B g w W nv iv pv ps)(k:Nat)(a:Array Value)(L:Nat→List Pz)(many:Nat)(h0:L 0 ≠ [])(hm:many≤1000000)(Q:∀ m,m≤many→ps.length+(gP L m).length < 1000000)
  (u:∀ (j:Nat) d,Sem.run Tryz.prog (callFunc k (#[.int .i64 (j:Nat)] ++ a)) d=.ok (.enter k (#[.int .i64 (j:Nat)] ++ a)) d)
  (R:∀ (j:Nat) d c qs,j < many→qs.length+(L j).length≤1000000→PZ S B g w d nv iv c qs→Calls Tryz.prog k (#[.int .i64 (j:Nat)] ++ a) d fun e X=>e=.returned (.tuple #[])∧∃ I,PZ S B g w X nv iv I (iG qs (L j))) :
  Calls Tryz.prog 61 #[.pointer (some ⟨g,0,none⟩),.int .i64 (many:Nat),.func (.func k) #[] a] W fun e d=>e=.returned (.tuple #[])∧∃ c,PZ S B g w d nv iv c (iG ps (gP L many)):=by
 have M:=O R;clear R;have J:=O Q;clear Q;have H:=O h;clear h;go_in
 go_wp2_with fail;go_loopw [6,8] (fun _ D wr=>∃ (m:Nat) (c:Value),m≤many∧D=.int .i64 m∧Hid (PZ S B g w wr nv iv c (iG ps (gP L m)))) (fun _ D _=>many - (intOf D).toNat)
 case atStart=>exact⟨0,pv,ak2 _,rfl,O (by show PZ S B g w W nv iv pv (iG ps []);rw [JG];exact H.o)⟩
 case round =>
  obtain⟨m,wP,Z,rfl,x⟩:=hrel;by_cases l:m < many
  ·have y0:(m:Int) < (many:Int):=by omega
   have E:=u m;have i:=J.o (m+1) (by omega);have q:=J.o m (by omega);have b:(iG ps (gP L m)).length=ps.length+(gP L m).length:=eU _ _;rcases Nat.eq_zero_or_pos m with G | G
   ·subst G;have K:=O (M.o 0 wr wP (iG ps (gP L 0)) l (by rw [b];show ps.length+0+(L 0).length≤_;have:gP L 1=L 0:=rfl;rw [this] at i;omega) x.o);have Y:∀ d,Sem.run Tryz.prog (callFunc k (#[.int .i64 0] ++ a)) d=.ok (.enter k (#[.int .i64 0] ++ a)) d:=u 0;clear i q b u E;go_wp2_with fail;refine Calls.mono (show Calls Tryz.prog k (#[.int .i64 0] ++ a) wr _ from K.o) ?_;rintro e U⟨rfl,v,f⟩;rw [← U8] at f
    have C:=O f;clear f K;go_wp2_with fail;exact⟨⟨1,v,by omega,by go_num,C⟩,by simp [intOf];omega⟩
   ·have y1:(0:Int) < (m:Int):=by omega
    have T:gP L (m+1)=gP L m ++ tz [44] (-1) :: dI true (L m):=by rw [gP,if_neg (by omega)]
    have F:(gP L (m+1)).length=(gP L m).length+1+(L m).length:=by rw [T,ak5,List.length_cons,aj];omega
    have N:=O (YZ x.o [44] (-1) (by rw [b];omega));have V:=O (show (iG ps (gP L m) ++ [(⟨[44],false,-1⟩:Pz)]).length+(L m).length≤1000000 by rw [ak5,b];simp;omega);clear i q b u T F;go_wp2_with fail;refine N.o.mono ?_;rintro e w2⟨rfl,I,f⟩;have y:=O f;clear f N;go_wp2_with fail;refine (M.o m w2 I _ l V.o y.o).mono ?_;rintro e U⟨rfl,v,f⟩;have r:PZ S B g w U nv iv v (iG ps (gP L (m+1))):=by rw [aak ps L h0 G];exact f
    have C:=O r;clear f r;go_wp2_with fail;exact⟨⟨m+1,v,by omega,by go_num,C⟩,by simp [intOf];omega⟩
  ·obtain rfl:many=m:=by omega
   have y0:¬ (many:Int) < (many:Int):=by omega
   clear l;go_wp2_with fail;go_end0
   exact⟨rfl,_,x.o⟩
example (w:World) (c:Array Value):Sem.run Tryz.prog (callFunc 102 c) w=.ok (.enter 102 c) w:=by kernel_rfl
end
end
