/-
  A part of the proof.
-/
import Derived.Test.YtalghggmkojblaaGreatDoorS03
set_option linter.all false
set_option maxRecDepth 100000
namespace Mist
theorem mU {t:Tr}{i:Nat}{n:Nd}(h:t.nodes[i]? = some n):nd t i=n:=by simp [nd,amJ,h]
theorem AP {t:Tr}{i:Nat}(h:i < t.nodes.length):t.nodes[i]? = some (nd t i):=by
 rw [amF h];simp [nd,amJ,amF h]
theorem NY (ks:List Nat):fits [] ks=true↔ks.length=0:=by
 simp [fits]
theorem NZ (a b:Int)(p:Pd)(ks:List Nat):fits [⟨a,b,p⟩] ks=true↔(a≤(ks.length:Int)∧(ks.length:Int)≤b)∧∀ j,j < ks.length→p.is (ks.getD j 0)=true:=by
 have e:((ks.length:Int) - kP []).toNat=ks.length:=by simp [kP]
 have d:(ks.length:Int) - kP []=(ks.length:Int):=by simp [kP]
 unfold fits;simp only [e];rw [List.take_length,List.drop_length];simp only [amU,within,decide_eq_true_eq,d,amT,fits,List.isEmpty_nil,and_true];constructor
 ·rintro⟨h1,h2⟩
  exact⟨h1,fun j c=>by rw [amJ,amF c];exact h2 _ (List.getElem_mem c)⟩
 ·rintro⟨h1,h2⟩
  refine⟨h1,fun x f=>?_⟩
  obtain⟨j,c,rfl⟩:=List.getElem_of_mem f
  have:=h2 j c
  rwa [amJ,amF c] at this
theorem NW (ks:List Nat):fits [⟨0,801,.param⟩,⟨1,1,.typ⟩,⟨1,1,.expr⟩] ks=true↔(2≤ks.length∧ks.length≤803)∧∀ j,j < ks.length→(if j+1=ks.length then iT (ks.getD j 0) else if j+2=ks.length then kg (ks.getD j 0) else decide (ks.getD j 0=34))=true:=by
 rcases Nat.lt_or_ge ks.length 2 with h2 | h2
 ·constructor
  ·intro h;unfold fits at h
   simp only [amU,within,kP] at h
   simp at h
   omega
  ·rintro⟨⟨h,_⟩,_⟩;omega
 obtain⟨a,x,y,rfl⟩:∃ (a:List Nat) (x y:Nat),ks=a ++ [x,y]:=by
  refine⟨ks.take (ks.length - 2),ks[ks.length - 2],ks[ks.length - 1],?_⟩
  have g:=List.take_append_drop (ks.length - 2) ks
  have i:ks.drop (ks.length - 2)=[ks[ks.length - 2],ks[ks.length - 1]]:=by
   rw [amZ (by omega),amZ (by omega),List.drop_of_length_le (by omega)]
   have:ks.length - 2+1=ks.length - 1:=by omega
   simp only [this]
  rw [← i];exact g.symm
 have l1:(a ++ [x,y]).length=a.length+2:=by simp
 have e:(((a ++ [x,y]).length:Int) - kP [⟨1,1,.typ⟩,⟨1,1,.expr⟩]).toNat=a.length:=by rw [l1];simp [kP]
 have f:((a ++ [x,y]).length:Int) - kP [⟨1,1,.typ⟩,⟨1,1,.expr⟩]=(a.length:Int):=by rw [l1];simp [kP]
 have d:fits [⟨0,801,.param⟩,⟨1,1,.typ⟩,⟨1,1,.expr⟩] (a ++ [x,y])=(within (a.length:Int) 0 801 && (a.all Pd.param.is && (kg x && iT y))):=by
  rw [fits];simp only [e];rw [f,List.take_left,List.drop_left]
  congr 2
  simp [fits,kP,within,Pd.is]
 rw [d];simp only [amU,within,decide_eq_true_eq,amT,Pd.is];constructor
 ·rintro⟨⟨_,h3⟩,h4,h5,h6⟩
  refine⟨⟨by omega,by rw [l1];omega⟩,fun j c=>?_⟩
  rw [l1] at c ⊢
  by_cases c1:j=a.length+1
  ·subst c1;rw [if_pos rfl];simpa [amJ] using h6
  ·by_cases c2:j=a.length
   ·subst c2;rw [if_neg (by omega),if_pos rfl];simpa [amJ] using h5
   ·rw [if_neg (by omega),if_neg (by omega)];have b:j < a.length:=by omega
    have:=h4 a[j] (List.getElem_mem b)
    simpa [amJ,List.getElem?_append_left b,amF b] using this
 ·rintro⟨⟨_,h3⟩,h4⟩
  rw [l1] at h3 h4
  refine⟨⟨by omega,by omega⟩,fun z k=>?_,?_,?_⟩
  ·obtain⟨j,c,rfl⟩:=List.getElem_of_mem k
   have:=h4 j (by omega)
   rw [if_neg (by omega),if_neg (by omega)] at this
   simpa [amJ,List.getElem?_append_left c,amF c] using this
  ·have:=h4 a.length (by omega)
   rw [if_neg (by omega),if_pos rfl] at this
   simpa [amJ] using this
  ·have:=h4 (a.length+1) (by omega)
   rw [if_pos rfl] at this
   simpa [amJ] using this
def D6 (n:Nd)(ks:List Nat):Bool :=
 match shapeOf n.kind n.n with
 | none=>false
 | some s=>(s.named == !n.text.isEmpty) && (!s.named || isName n.text) && fits s.parts ks && (within n.n s.low s.high || (n.kind == 1 && within n.n (-9999) (-1)))
def yu (n:Nd)(ks:List Nat):Prop :=
 known n.kind=true∧(iM n.kind == isName n.text)=true∧(iM n.kind || n.text.isEmpty)=true∧kH n=true∧gL n=true∧∀ j,j < ks.length→ku n j (ks.getD j 0)=true
theorem b_ {n:Nd}{ks:List Nat}{nm:Bool}{lo hi:Int}{ps:List Part}{M Nu:Bool}(q:shapeOf n.kind n.n=some ⟨nm,lo,hi,ps⟩)(k:known n.kind=true)(b:iM n.kind=nm)
  (g:kH n=M) (i:gL n=Nu)
  (c:fits ps ks=true→M=true∧∀ j,j < ks.length→ku n j (ks.getD j 0)=true)
  (d:ks.length≤801→M=true→(∀ j,j < ks.length→ku n j (ks.getD j 0)=true)→fits ps ks=true)
  (w:(within n.n lo hi || (n.kind == 1 && within n.n (-9999) (-1)))=Nu) :
  (D6 n ks=true→yu n ks)∧(ks.length≤801→yu n ks→D6 n ks=true):=by
 have a:n.text.isEmpty=true→isName n.text=false:=fun h=>by rw [List.isEmpty_iff.1 h];decide
 unfold D6 yu;simp only [q,k,b,g,i,w];constructor
 ·intro h;simp only [amU] at h
  obtain⟨⟨⟨h1,h2⟩,h3⟩,h4⟩:=h;obtain⟨e,f⟩:=c h3
  refine⟨trivial,?_,?_,e,h4,f⟩
  ·cases nm
   ·have:n.text.isEmpty=true:=by simpa using h1
    rw [a this];rfl
   ·have:isName n.text=true:=by simpa using h2
    rw [this];rfl
  ·cases nm
   ·simpa using h1
   ·rfl
 ·rintro m⟨_,h1,h2,h3,h4,h5⟩;simp only [amU]
  refine⟨⟨⟨?_,?_⟩,d m h3 h5⟩,h4⟩
  ·cases nm
   ·simpa using h2
   ·have:isName n.text=true:=by simpa using h1
    cases r:n.text.isEmpty
    ·rfl
    ·rw [a r] at this;cases this
  ·cases nm
   ·rfl
   ·simpa using h1
theorem jE {a b:Int}{p:Pd}{ks:List Nat}{n:Nd}{M:Bool}(d:∀ j k,ku n j k=p.is k)(h1:a≤(ks.length:Int)→(ks.length:Int)≤b→M=true)(h2:ks.length≤801→M=true→a≤(ks.length:Int)∧(ks.length:Int)≤b) :
  (fits [⟨a,b,p⟩] ks=true→M=true∧∀ j,j < ks.length→ku n j (ks.getD j 0)=true)∧(ks.length≤801→M=true→(∀ j,j < ks.length→ku n j (ks.getD j 0)=true)→fits [⟨a,b,p⟩] ks=true):=by
 constructor
 ·intro h;rw [NZ] at h
  exact⟨h1 h.1.1 h.1.2,fun j c=>by rw [d];exact h.2 j c⟩
 ·intro e f h;rw [NZ];exact⟨h2 e f,fun j c=>by rw [← d j];exact h j c⟩
theorem Ea {ks:List Nat}{n:Nd}{M:Bool}(h1:ks.length=0↔M=true) :
  (fits [] ks=true→M=true∧∀ j,j < ks.length→ku n j (ks.getD j 0)=true)∧(ks.length≤801→M=true→(∀ j,j < ks.length→ku n j (ks.getD j 0)=true)→fits [] ks=true):=by
 constructor
 ·intro h;rw [NY] at h
  exact⟨h1.1 h,fun j b=>by omega⟩
 ·intro _ a _;rw [NY];exact h1.2 a
theorem dh (N:Int):(within N 0 0 || false)=(N == 0):=by
 rw [amK];simp [within];omega
theorem Cr (n:Nd)(ks:List Nat)(f:n.kids.length=ks.length)(m:pY≤n.n∧n.n≤kV):(D6 n ks=true→yu n ks)∧(ks.length≤801→yu n ks→D6 n ks=true):=by
 obtain⟨k,x,N,kids,a⟩:=n;simp only at f m
 have g:(k=0∨(27≤k∧k≤29)∨(35≤k∧k≤39)∨47≤k)∨k=1∨k=2∨(k=3∨k=32∨k=45)∨(k=4∨k=5)∨(k=6∨k=7∨k=8∨k=9∨k=10∨k=11∨k=12∨k=13∨k=14∨k=15∨k=16∨k=17∨k=18∨k=23)∨k=19∨k=20∨k=21∨(k=22∨k=25∨k=43∨k=44)∨k=24∨k=26∨(k=30∨k=31)∨k=33∨k=34∨k=40∨k=41∨k=42∨k=46:=by omega
 rcases g with h | rfl | rfl | h | h | h | rfl | rfl | rfl | h | rfl | rfl | h | rfl | rfl | rfl | rfl | rfl | rfl
 ·
  have e:shapeOf k N=none:=by
   unfold shapeOf
   repeat (rw [if_neg (by omega)])
  have r:known k=false:=by
   simp [known,iT,kg,fM];omega
  constructor
  ·intro h;unfold D6 at h;simp only [e] at h;cases h
  ·rintro _⟨h1,_⟩;simp only [r] at h1;cases h1
 ·obtain⟨c,d⟩:=Ea (ks:=ks) (n:=⟨1,x,N,kids,a⟩) (M:=kids.length == 0) (by rw [f];simp);exact b_ (Nu:=within N (-9999) 9999) rfl rfl rfl rfl rfl c d (by rw [amK];simp [within];omega)
 ·obtain⟨c,d⟩:=Ea (ks:=ks) (n:=⟨2,x,N,kids,a⟩) (M:=kids.length == 0) (by rw [f];simp);exact b_ (Nu:=within N 0 1) rfl rfl rfl rfl rfl c d (by rw [amK];simp [within])
 ·rcases h with rfl | rfl | rfl
  ·obtain⟨c,d⟩:=Ea (ks:=ks) (n:=⟨3,x,N,kids,a⟩) (M:=kids.length == 0) (by rw [f];simp);exact b_ (Nu:=N == 0) rfl rfl rfl rfl rfl c d (dh N)
  ·obtain⟨c,d⟩:=Ea (ks:=ks) (n:=⟨32,x,N,kids,a⟩) (M:=kids.length == 0) (by rw [f];simp);exact b_ (Nu:=N == 0) rfl rfl rfl rfl rfl c d (dh N)
  ·obtain⟨c,d⟩:=Ea (ks:=ks) (n:=⟨45,x,N,kids,a⟩) (M:=kids.length == 0) (by rw [f];simp);exact b_ (Nu:=N == 0) rfl rfl rfl rfl rfl c d (dh N)
 ·rcases h with rfl | rfl
  ·obtain⟨c,d⟩:=jE (a:=1) (b:=1) (p:=.expr) (ks:=ks) (n:=⟨4,x,N,kids,a⟩) (M:=kids.length == 1) (fun _ _=>rfl) (by rw [f];simp;omega) (by rw [f];simp;omega);exact b_ (Nu:=N == 0) rfl rfl rfl rfl rfl c d (dh N)
  ·obtain⟨c,d⟩:=jE (a:=1) (b:=1) (p:=.expr) (ks:=ks) (n:=⟨5,x,N,kids,a⟩) (M:=kids.length == 1) (fun _ _=>rfl) (by rw [f];simp;omega) (by rw [f];simp;omega);exact b_ (Nu:=N == 0) rfl rfl rfl rfl rfl c d (dh N)
 ·rcases h with rfl | rfl | rfl | rfl | rfl | rfl | rfl | rfl | rfl | rfl | rfl | rfl | rfl | rfl
  ·obtain⟨c,d⟩:=jE (a:=2) (b:=2) (p:=.expr) (ks:=ks) (n:=⟨6,x,N,kids,a⟩) (M:=kids.length == 2) (fun _ _=>rfl) (by rw [f];simp;omega) (by rw [f];simp;omega);exact b_ (Nu:=N == 0) rfl rfl rfl rfl rfl c d (dh N)
  ·obtain⟨c,d⟩:=jE (a:=2) (b:=2) (p:=.expr) (ks:=ks) (n:=⟨7,x,N,kids,a⟩) (M:=kids.length == 2) (fun _ _=>rfl) (by rw [f];simp;omega) (by rw [f];simp;omega);exact b_ (Nu:=N == 0) rfl rfl rfl rfl rfl c d (dh N)
  ·obtain⟨c,d⟩:=jE (a:=2) (b:=2) (p:=.expr) (ks:=ks) (n:=⟨8,x,N,kids,a⟩) (M:=kids.length == 2) (fun _ _=>rfl) (by rw [f];simp;omega) (by rw [f];simp;omega);exact b_ (Nu:=N == 0) rfl rfl rfl rfl rfl c d (dh N)
  ·obtain⟨c,d⟩:=jE (a:=2) (b:=2) (p:=.expr) (ks:=ks) (n:=⟨9,x,N,kids,a⟩) (M:=kids.length == 2) (fun _ _=>rfl) (by rw [f];simp;omega) (by rw [f];simp;omega);exact b_ (Nu:=N == 0) rfl rfl rfl rfl rfl c d (dh N)
  ·obtain⟨c,d⟩:=jE (a:=2) (b:=2) (p:=.expr) (ks:=ks) (n:=⟨10,x,N,kids,a⟩) (M:=kids.length == 2) (fun _ _=>rfl) (by rw [f];simp;omega) (by rw [f];simp;omega);exact b_ (Nu:=N == 0) rfl rfl rfl rfl rfl c d (dh N)
  ·obtain⟨c,d⟩:=jE (a:=2) (b:=2) (p:=.expr) (ks:=ks) (n:=⟨11,x,N,kids,a⟩) (M:=kids.length == 2) (fun _ _=>rfl) (by rw [f];simp;omega) (by rw [f];simp;omega);exact b_ (Nu:=N == 0) rfl rfl rfl rfl rfl c d (dh N)
  ·obtain⟨c,d⟩:=jE (a:=2) (b:=2) (p:=.expr) (ks:=ks) (n:=⟨12,x,N,kids,a⟩) (M:=kids.length == 2) (fun _ _=>rfl) (by rw [f];simp;omega) (by rw [f];simp;omega);exact b_ (Nu:=N == 0) rfl rfl rfl rfl rfl c d (dh N)
  ·obtain⟨c,d⟩:=jE (a:=2) (b:=2) (p:=.expr) (ks:=ks) (n:=⟨13,x,N,kids,a⟩) (M:=kids.length == 2) (fun _ _=>rfl) (by rw [f];simp;omega) (by rw [f];simp;omega);exact b_ (Nu:=N == 0) rfl rfl rfl rfl rfl c d (dh N)
  ·obtain⟨c,d⟩:=jE (a:=2) (b:=2) (p:=.expr) (ks:=ks) (n:=⟨14,x,N,kids,a⟩) (M:=kids.length == 2) (fun _ _=>rfl) (by rw [f];simp;omega) (by rw [f];simp;omega);exact b_ (Nu:=N == 0) rfl rfl rfl rfl rfl c d (dh N)
  ·obtain⟨c,d⟩:=jE (a:=2) (b:=2) (p:=.expr) (ks:=ks) (n:=⟨15,x,N,kids,a⟩) (M:=kids.length == 2) (fun _ _=>rfl) (by rw [f];simp;omega) (by rw [f];simp;omega);exact b_ (Nu:=N == 0) rfl rfl rfl rfl rfl c d (dh N)
  ·obtain⟨c,d⟩:=jE (a:=2) (b:=2) (p:=.expr) (ks:=ks) (n:=⟨16,x,N,kids,a⟩) (M:=kids.length == 2) (fun _ _=>rfl) (by rw [f];simp;omega) (by rw [f];simp;omega);exact b_ (Nu:=N == 0) rfl rfl rfl rfl rfl c d (dh N)
  ·obtain⟨c,d⟩:=jE (a:=2) (b:=2) (p:=.expr) (ks:=ks) (n:=⟨17,x,N,kids,a⟩) (M:=kids.length == 2) (fun _ _=>rfl) (by rw [f];simp;omega) (by rw [f];simp;omega);exact b_ (Nu:=N == 0) rfl rfl rfl rfl rfl c d (dh N)
  ·obtain⟨c,d⟩:=jE (a:=2) (b:=2) (p:=.expr) (ks:=ks) (n:=⟨18,x,N,kids,a⟩) (M:=kids.length == 2) (fun _ _=>rfl) (by rw [f];simp;omega) (by rw [f];simp;omega);exact b_ (Nu:=N == 0) rfl rfl rfl rfl rfl c d (dh N)
  ·obtain⟨c,d⟩:=jE (a:=2) (b:=2) (p:=.expr) (ks:=ks) (n:=⟨23,x,N,kids,a⟩) (M:=kids.length == 2) (fun _ _=>rfl) (by rw [f];simp;omega) (by rw [f];simp;omega);exact b_ (Nu:=N == 0) rfl rfl rfl rfl rfl c d (dh N)
 ·obtain⟨c,d⟩:=jE (a:=3) (b:=3) (p:=.expr) (ks:=ks) (n:=⟨19,x,N,kids,a⟩) (M:=kids.length == 3) (fun _ _=>rfl) (by rw [f];simp;omega) (by rw [f];simp;omega);exact b_ (Nu:=N == 0) rfl rfl rfl rfl rfl c d (dh N)
 ·obtain⟨c,d⟩:=jE (a:=2) (b:=2) (p:=.expr) (ks:=ks) (n:=⟨20,x,N,kids,a⟩) (M:=kids.length == 2) (fun _ _=>rfl) (by rw [f];simp;omega) (by rw [f];simp;omega);exact b_ (Nu:=N == 0) rfl rfl rfl rfl rfl c d (dh N)
 ·obtain⟨c,d⟩:=jE (a:=0) (b:=801) (p:=.expr) (ks:=ks) (n:=⟨21,x,N,kids,a⟩) (M:=true) (fun _ _=>rfl) (fun _ _=>rfl) (fun _ _=>by omega);exact b_ (Nu:=N == 0) rfl rfl rfl rfl rfl c d (dh N)
 ·rcases h with rfl | rfl | rfl | rfl
  ·obtain⟨c,d⟩:=jE (a:=1) (b:=1) (p:=.expr) (ks:=ks) (n:=⟨22,x,N,kids,a⟩) (M:=kids.length == 1) (fun _ _=>rfl) (by rw [f];simp;omega) (by rw [f];simp;omega);exact b_ (Nu:=N == 0) rfl rfl rfl rfl rfl c d (dh N)
  ·obtain⟨c,d⟩:=jE (a:=1) (b:=1) (p:=.expr) (ks:=ks) (n:=⟨25,x,N,kids,a⟩) (M:=kids.length == 1) (fun _ _=>rfl) (by rw [f];simp;omega) (by rw [f];simp;omega);exact b_ (Nu:=N == 0) rfl rfl rfl rfl rfl c d (dh N)
  ·obtain⟨c,d⟩:=jE (a:=1) (b:=1) (p:=.expr) (ks:=ks) (n:=⟨43,x,N,kids,a⟩) (M:=kids.length == 1) (fun _ _=>rfl) (by rw [f];simp;omega) (by rw [f];simp;omega);exact b_ (Nu:=N == 0) rfl rfl rfl rfl rfl c d (dh N)
  ·obtain⟨c,d⟩:=jE (a:=1) (b:=1) (p:=.expr) (ks:=ks) (n:=⟨44,x,N,kids,a⟩) (M:=kids.length == 1) (fun _ _=>rfl) (by rw [f];simp;omega) (by rw [f];simp;omega);exact b_ (Nu:=N == 0) rfl rfl rfl rfl rfl c d (dh N)
 ·obtain⟨c,d⟩:=jE (a:=1) (b:=801) (p:=.put) (ks:=ks) (n:=⟨24,x,N,kids,a⟩) (M:=decide (1≤kids.length)) (fun _ _=>rfl) (by rw [f];simp;omega) (by rw [f];simp;omega);exact b_ (Nu:=N == 0) rfl rfl rfl rfl rfl c d (dh N)
 ·obtain⟨c,d⟩:=jE (a:=1) (b:=801) (p:=.expr) (ks:=ks) (n:=⟨26,x,N,kids,a⟩) (M:=decide (1≤kids.length)) (fun _ _=>rfl) (by rw [f];simp;omega) (by rw [f];simp;omega);exact b_ (Nu:=N == 0) rfl rfl rfl rfl rfl c d (dh N)
 ·rcases h with rfl | rfl
  ·obtain⟨c,d⟩:=Ea (ks:=ks) (n:=⟨30,x,N,kids,a⟩) (M:=kids.length == 0) (by rw [f];simp);exact b_ (Nu:=N == 0) rfl rfl rfl rfl rfl c d (dh N)
  ·obtain⟨c,d⟩:=Ea (ks:=ks) (n:=⟨31,x,N,kids,a⟩) (M:=kids.length == 0) (by rw [f];simp);exact b_ (Nu:=N == 0) rfl rfl rfl rfl rfl c d (dh N)
 ·obtain⟨c,d⟩:=jE (a:=1) (b:=1) (p:=.typ) (ks:=ks) (n:=⟨33,x,N,kids,a⟩) (M:=kids.length == 1) (fun _ _=>rfl) (by rw [f];simp;omega) (by rw [f];simp;omega);exact b_ (Nu:=true) rfl rfl rfl rfl rfl c d (by rw [amK];simp [within];exact m)
 ·obtain⟨c,d⟩:=jE (a:=1) (b:=1) (p:=.typ) (ks:=ks) (n:=⟨34,x,N,kids,a⟩) (M:=kids.length == 1) (fun _ _=>rfl) (by rw [f];simp;omega) (by rw [f];simp;omega);exact b_ (Nu:=N == 0) rfl rfl rfl rfl rfl c d (dh N)
 ·obtain⟨c,d⟩:=jE (a:=2) (b:=2) (p:=.num) (ks:=ks) (n:=⟨40,x,N,kids,a⟩) (M:=kids.length == 2) (fun _ _=>rfl) (by rw [f];simp;omega) (by rw [f];simp;omega);exact b_ (Nu:=N == 0) rfl rfl rfl rfl rfl c d (dh N)
 ·obtain⟨c,d⟩:=jE (a:=1) (b:=801) (p:=.param) (ks:=ks) (n:=⟨41,x,N,kids,a⟩) (M:=decide (1≤kids.length)) (fun _ _=>rfl) (by rw [f];simp;omega) (by rw [f];simp;omega);exact b_ (Nu:=N == 0) rfl rfl rfl rfl rfl c d (dh N)
 ·refine b_ (M:=decide (2≤kids.length)) (Nu:=decide (0≤N)) (ps:=[⟨0,801,.param⟩,⟨1,1,.typ⟩,⟨1,1,.expr⟩]) rfl rfl rfl rfl rfl ?_ ?_ (by rw [amK];simp [within];exact fun _=>m.2)
  ·intro h;rw [NW] at h
   refine⟨by rw [f];exact amW h.1.1,fun j i=>?_⟩
   have:=h.2 j i
   show (if (42:Nat)=24 then _ else _:Bool)=true
   simp only [ku];rw [f];simpa using this
  ·intro h8 q h;rw [NW]
   refine⟨⟨by rw [f] at q;simpa using q,by omega⟩,fun j i=>?_⟩
   have:=h j i
   simp only [ku] at this
   rw [f] at this;simpa using this
 ·by_cases h7:N=7
  ·subst h7;obtain⟨c,d⟩:=Ea (ks:=ks) (n:=⟨46,x,7,kids,a⟩) (M:=kids.length == 0) (by rw [f];simp);exact b_ rfl rfl rfl rfl rfl c d rfl
  ·by_cases h8:N=8
   ·subst h8;obtain⟨c,d⟩:=jE (a:=1) (b:=801) (p:=.expr) (ks:=ks) (n:=⟨46,x,8,kids,a⟩) (M:=decide (1≤kids.length)) (fun _ _=>rfl) (by rw [f];simp;omega) (by rw [f];simp;omega);exact b_ rfl rfl rfl rfl rfl c d rfl
   ·obtain⟨c,d⟩:=jE (a:=1) (b:=1) (p:=.expr) (ks:=ks) (n:=⟨46,x,N,kids,a⟩) (M:=kids.length == 1) (fun _ _=>rfl) (by rw [f];simp;omega) (by rw [f];simp;omega);refine b_ (nm:=false) (lo:=1) (hi:=8) (Nu:=within N 1 8) (ps:=[⟨1,1,.expr⟩]) ?_ rfl rfl ?_ rfl c d ?_
    ·show some (asked N)=_
     unfold asked;rw [if_neg h7,if_neg h8]
    ·simp [kH,h7,h8]
    ·simp
theorem J8 (t:Tr)(i:Nat):qO t i=true↔yu (nd t i) (kinds t (nd t i).kids)∧within (nd t i).at_ 0 2000=true∧∀ c ∈ (nd t i).kids,(nd t c.toNat).kind=1→(nd t c.toNat).n < 0→(nd t i).kind=40:=by
 unfold qO yu known;simp only [amU,amT,List.mem_range];have d:(kinds t (nd t i).kids).length=(nd t i).kids.length:=by simp [kinds]
 have b:∀ j,j < (nd t i).kids.length→(kinds t (nd t i).kids).getD j 0=(nd t ((nd t i).kids.getD j 0).toNat).kind:=by
  intro j a;simp [kinds,amJ,amF a]
 constructor
 ·rintro⟨⟨⟨⟨⟨⟨h1,h2⟩,h3⟩,h4⟩,h5⟩,h6⟩,h7⟩
  refine⟨⟨h1,h2,h3,h4,h5,fun j a=>?_⟩,h6,fun c g e f=>?_⟩
  ·rw [d] at a;rw [b j a];exact (h7 j a).1
  ·obtain⟨j,a,rfl⟩:=List.getElem_of_mem g
   have:=(h7 j a).2
   rw [amJ,amF a,Option.getD_some] at this
   simp [e,f] at this
   exact this
 ·rintro⟨⟨h1,h2,h3,h4,h5,h8⟩,h6,h7⟩
  refine⟨⟨⟨⟨⟨⟨h1,h2⟩,h3⟩,h4⟩,h5⟩,h6⟩,fun j a=>⟨?_,?_⟩⟩
  ·rw [← b j a];exact h8 j (by rw [d];exact a)
  ·have k:(nd t i).kids.getD j 0 ∈ (nd t i).kids:=by
    rw [amJ,amF a];exact List.getElem_mem a
   by_cases e:(nd t ((nd t i).kids.getD j 0).toNat).kind=1∧(nd t ((nd t i).kids.getD j 0).toNat).n < 0
   ·simp [h7 _ k e.1 e.2]
   ·cases m:((nd t ((nd t i).kids.getD j 0).toNat).kind == 1)
    ·rfl
    ·have:¬ (nd t ((nd t i).kids.getD j 0).toNat).n < 0:=fun h=>e ⟨by simpa using m,h⟩
     simp only [this,decide_false,Bool.and_false,Bool.false_and,Bool.not_false]
theorem oq (t:Tr)(i:Nat):formed t i=true↔D6 (nd t i) (kinds t (nd t i).kids)=true∧within (nd t i).at_ 0 2000=true∧∀ c ∈ (nd t i).kids,0≤c∧c≤(i:Int) - 1:=by
 unfold formed D6
 cases shapeOf (nd t i).kind (nd t i).n with
 | none=>simp
 | some s =>
  simp only [amU,amT];constructor
  ·rintro⟨⟨⟨⟨⟨h1,h2⟩,h3⟩,h4⟩,h5⟩,h6⟩
   exact⟨⟨⟨⟨h2,h3⟩,h5⟩,h6⟩,h1,fun c a=>by simpa [within] using h4 c a⟩
  ·rintro⟨⟨⟨⟨h2,h3⟩,h5⟩,h6⟩,h1,h4⟩
   exact⟨⟨⟨⟨⟨h1,h2⟩,h3⟩,fun c a=>by simpa [within] using h4 c a⟩,h5⟩,h6⟩
theorem uK (g:Nat→Int→Option Nat):∀ l:List Int,l.foldl (fun (o:Option Nat) c=>o.bind fun x=>g x c) none=none
 | []=>rfl
 | _ :: r=>uK g r
theorem Ik {t:Tr}{g:Nat→Int→Option Nat}:∀ (l:List Int) (a y:Nat),(∀ c ∈ l,∀ x z,g x c=some z→0≤c∧z=c.toNat+1∧∃ n,t.nodes[c.toNat]? = some n∧Fo t.nodes x c.toNat n.kids) →
  l.foldl (fun (o:Option Nat) c=>o.bind fun x=>g x c) (some a)=some y→Fo t.nodes a y l
 | [],a,y,_,h=>by
  have:a=y:=amR h
  subst this;exact .nil _
 | c :: r,a,y,hg,h=>by
  rw [List.foldl_cons,Option.bind_some] at h
  rcases b:g a c with _ | z
  ·rw [b,uK] at h;cases h
  ·rw [b] at h
   obtain⟨h0,rfl,n,e,i⟩:=hg c (List.mem_cons_self ..) a z b;have h1:=Fo.one i e;have f:((c.toNat:Nat):Int)=c:=by omega
   rw [f] at h1
   exact h1.append (Ik r _ y (fun d hd=>hg d (List.mem_cons_of_mem _ hd)) h)
theorem VQ {t:Tr}(j:∀ (i:Nat) n,t.nodes[i]? = some n→∀ c ∈ n.kids,0≤c∧c≤(i:Int) - 1):∀ (f i:Nat) (root:Bool) (next x:Nat) n,t.nodes[i]? = some n→walk t f i root next=some x→x=i+1∧Fo t.nodes next i n.kids∧fM n.kind=root
 | 0,_,_,_,_,_,_,h=>by cases h
 | f+1,i,root,next,x,n,e,h=>by
  unfold walk at h
  rw [mU e] at h
  have u:=(amG.1 e).1;rcases d:n.kids.foldl (fun (o:Option Nat) c=>o.bind fun x=>walk t f c.toNat false x) (some next) with _ | y
  ·rw [d] at h;cases h
  ·rw [d] at h
   have a:=Ik n.kids next y (fun c q x z r=>by
    have h1:=j i n e c q;have b:c.toNat < t.nodes.length:=by omega
    have g:=amF b;obtain⟨k,m,_⟩:=VQ j f c.toNat false x z _ g r;exact⟨h1.1,k,_,g,m⟩) d
   by_cases h1:i=y
   ·subst h1;by_cases h2:fM n.kind=root
    ·simp only [if_pos h2] at h
     exact⟨(amR h).symm,a,h2⟩
    ·simp [h2] at h
   ·simp only [if_neg h1] at h;cases h
theorem adY {t:Tr}(d:∀ (i:Nat) n,t.nodes[i]? = some n→∀ c ∈ n.kids,fM (nd t c.toNat).kind=false){a b:Nat}{as:List Int}(h:Fo t.nodes a b as):∀ f,b≤f→(∀ c ∈ as,fM (nd t c.toNat).kind=false)→as.foldl (fun (o:Option Nat) c=>o.bind fun x=>walk t f c.toNat false x) (some a)=some b:=by
 induction h with
 | nil=>intro f _ _;rfl
 | @snoc a m b as n h k e ih jh =>
  intro f q hi;have h8:=k.le;obtain⟨f,rfl⟩:∃ g,f=g+1:=⟨f - 1,by omega⟩;rw [List.foldl_append,ih _ (by omega) (fun c j=>hi c (List.mem_append_left _ j))];simp only [List.foldl_cons,List.foldl_nil,Option.bind_some,amS];unfold walk;rw [mU e,jh f (by omega) (d b n e)]
  have:=hi (b:Int) (List.mem_append_right _ (List.mem_singleton.2 rfl))
  rw [amS,mU e] at this
  simp [this]
theorem R7 {t:Tr}(d:∀ (i:Nat) n,t.nodes[i]? = some n→∀ c ∈ n.kids,fM (nd t c.toNat).kind=false){a b:Nat}{as:List Int}(h:Fo t.nodes a b as):(∀ c ∈ as,fM (nd t c.toNat).kind=true) →
  as.foldl (fun (o:Option Nat) (i:Int)=>o.bind fun x=>if within i x ((t.nodes.length:Int) - 1)=true then walk t (i.toNat+1) i.toNat true x else none) (some a)=some b:=by
 induction h with
 | nil=>intro _;rfl
 | @snoc a m b as n h k e ih jh =>
  intro hi;have h8:=k.le;have g:=(amG.1 e).1;rw [List.foldl_append,ih (fun c f=>hi c (List.mem_append_left _ f))];simp only [List.foldl_cons,List.foldl_nil,Option.bind_some,amS];rw [if_pos (by simp [within];omega)];unfold walk;rw [mU e,adY d k b (amL _) (d b n e)]
  have:=hi (b:Int) (List.mem_append_right _ (List.mem_singleton.2 rfl))
  rw [amS,mU e] at this
  simp [this]
theorem GK {t:Tr}(A:∀ (i:Nat) n,t.nodes[i]? = some n→∀ c ∈ n.kids,0≤c∧c≤(i:Int) - 1)(h:ordered t=true):KO t:=by
 unfold ordered at h
 rcases f:t.items.foldl (fun (o:Option Nat) (i:Int)=>o.bind fun x=>if within i x ((t.nodes.length:Int) - 1)=true then walk t (i.toNat+1) i.toNat true x else none) (some 0) with _ | y
 ·rw [f] at h;cases h
 ·rw [f] at h
  have:y=t.nodes.length:=by simpa using h
  subst this
  have u:∀ (c:Int) (x z:Nat),(if within c x ((t.nodes.length:Int) - 1)=true then walk t (c.toNat+1) c.toNat true x else none)=some z→0≤c∧z=c.toNat+1∧fM (nd t c.toNat).kind=true∧∃ n,t.nodes[c.toNat]? = some n∧Fo t.nodes x c.toNat n.kids:=by
   intro c x z b;split at b
   ·rename_i B
    simp only [within,amU,decide_eq_true_eq] at B
    have q:c.toNat < t.nodes.length:=by omega
    have j:=amF q;obtain⟨k,m,w⟩:=VQ A _ c.toNat true x z _ j b
    refine⟨by omega,k,?_,_,j,m⟩
    rw [mU j];exact w
   ·cases b
  refine⟨Ik (g:=fun x c=>if within c x ((t.nodes.length:Int) - 1)=true then walk t (c.toNat+1) c.toNat true x else none) t.items 0 _ (fun c _ x z b=>?_) f,?_⟩
  ·obtain⟨v,k,_,m⟩:=u c x z b;exact⟨v,k,m⟩
  ·
   have:∀ (l:List Int) (a y:Nat),l.foldl (fun (o:Option Nat) (i:Int)=>o.bind fun x=>if within i x ((t.nodes.length:Int) - 1)=true then walk t (i.toNat+1) i.toNat true x else none) (some a)=some y→∀ c ∈ l,fM (nd t c.toNat).kind=true:=by
    intro l
    induction l with
    | nil=>intro a y _ c e;cases e
    | cons d r C =>
     intro a y h c e;rw [List.foldl_cons,Option.bind_some] at h
     rcases b:(if within d a ((t.nodes.length:Int) - 1)=true then walk t (d.toNat+1) d.toNat true a else none) with _ | z
     ·rw [b,uK (fun x c=>if within c x ((t.nodes.length:Int) - 1)=true then walk t (c.toNat+1) c.toNat true x else none)] at h;cases h
     ·rw [b] at h
      rcases List.mem_cons.1 e with rfl | e
      ·exact (u _ _ _ b).2.2.1
      ·exact C _ _ h c e
   exact this _ _ _ f
theorem abC {n:Nd}{j k:Nat}(h:ku n j k=true):fM k=false:=by
 have:iT k=true∨kg k=true∨k=25∨k=34∨k=1:=by
  unfold ku at h
  split at h
  ·exact .inr (.inr (.inl (by simpa using h)))
  ·split at h
   ·exact .inr (.inr (.inr (.inl (by simpa using h))))
   ·split at h
    ·exact .inr (.inl h)
    ·split at h
     ·exact .inr (.inr (.inr (.inr (by simpa using h))))
     ·split at h
      ·split at h
       ·exact .inl h
       ·split at h
        ·exact .inr (.inl h)
        ·exact .inr (.inr (.inr (.inl (by simpa using h))))
      ·exact .inl h
 simp only [iT,kg,amU,decide_eq_true_eq] at this
 simp [fM];omega
theorem Oa (t:Tr)(T:∀ n ∈ t.nodes,pY≤n.n∧n.n≤kV)(W:t.nodes.length≤801):((List.range t.nodes.length).all (formed t)=true∧ordered t=true∧signed t=true)↔N_ t=true:=by
 have w:∀ i,i < t.nodes.length→pY≤(nd t i).n∧(nd t i).n≤kV:=fun i hi=>T _ (amO (AP hi))
 have b:∀ i,(nd t i).kids.length=(kinds t (nd t i).kids).length:=fun i=>by simp [kinds]
 rw [Dk];constructor
 ·rintro⟨h1,h2,h3⟩
  have G:∀ i,i < t.nodes.length→formed t i=true:=fun i hi=>amT.1 h1 i (List.mem_range.2 hi)
  have y:∀ (i:Nat) n,t.nodes[i]? = some n→∀ c ∈ n.kids,0≤c∧c≤(i:Int) - 1:=fun i n e=>by
   have:=((oq t i).1 (G i (amG.1 e).1)).2.2
   rwa [mU e] at this
  have a:=GK y h2
  refine⟨a,fun i hi=>?_⟩
  obtain⟨L,M,_⟩:=(oq t i).1 (G i hi);refine (J8 t i).2 ⟨(Cr _ _ (b i) (w i hi)).1 L,M,fun c g J C=>?_⟩;have Q:=y i _ (AP hi) c g;have H:=amT.1 h3 c.toNat (List.mem_range.2 (by omega));simp [J,C] at H
  obtain⟨d,hd,D,N⟩:=H;have R:=a.fo.ids d hd;have P:((c.toNat:Nat):Int)=c:=by omega
  have E:c ∈ (nd t d.toNat).kids:=(show max c 0=c by omega) ▸ N
  have:=a.fo.GI (i:=i) (j:=d.toNat) hi (by omega) (AP hi) (AP (by omega)) g E
  rw [this];exact D
 ·rintro⟨a,h1⟩
  have x:∀ i,i < t.nodes.length→_:=fun i hi=>(J8 t i).1 (h1 i hi)
  have y:∀ (i:Nat),i < t.nodes.length→∀ c ∈ (nd t i).kids,0≤c∧c≤(i:Int) - 1:=fun i hi c g=>by
   obtain⟨n,m,e,_,f⟩:=a.fo.each i (amN _) hi;rw [mU e] at g
   have:=f.ids c g
   omega
  have v:∀ (i:Nat) n,t.nodes[i]? = some n→∀ c ∈ n.kids,fM (nd t c.toNat).kind=false:=fun i n e c g=>by
   have hi:=(amG.1 e).1;obtain⟨j,u,rfl⟩:=List.getElem_of_mem g;have F:=(x i hi).1.2.2.2.2.2 j (by rw [← b i,mU e];exact u);rw [mU e] at F
   have K:(kinds t n.kids).getD j 0=(nd t (n.kids[j]).toNat).kind:=by simp [kinds,amJ,amF u]
   rw [K] at F
   exact abC F
  refine⟨?_,?_,?_⟩
  ·rw [amT];intro i hi;have hi:=List.mem_range.1 hi;refine (oq t i).2 ⟨(Cr _ _ (b i) (w i hi)).2 ?_ (x i hi).1,(x i hi).2.1,y i hi⟩;rw [← b i];obtain⟨n,m,e,_,f⟩:=a.fo.each i (amN _) hi;rw [mU e]
   have:=f.len
   omega
  ·unfold ordered;rw [R7 v a.fo a.item];simp
  ·unfold signed;rw [amT];intro i hi;have hi:=List.mem_range.1 hi;by_cases A:(nd t i).kind=1∧(nd t i).n < 0
   ·have k:(i:Int) ∉ t.items:=fun h=>by
     have:=a.item _ h
     rw [amS] at this
     simp [fM,A.1] at this
    rcases a.fo.parent i (amN _) hi with h | ⟨j,n,_,u,e,q⟩
    ·exact absurd h k
    ·have I:=(x j u).2.2 (i:Int) (by rw [mU e];exact q) (by rw [amS];exact A.1) (by rw [amS];exact A.2)
     have B:(j:Int) ∈ t.items:=by
      rcases a.fo.parent j (amN _) u with h | ⟨U,V,_,S,C,r⟩
      ·exact h
      ·exfalso
       have:=v U V C _ r
       rw [amS] at this
       simp [fM,I] at this
     simp only [Bool.or_eq_true,List.any_eq_true,amU];refine .inr ⟨(j:Int),B,?_,?_⟩
     ·rw [amS,I];rfl
     ·rw [amS,mU e];simpa using q
   ·simp only [Bool.or_eq_true];left
    cases hy:((nd t i).kind == 1 && decide ((nd t i).n < 0))
    ·rfl
    ·exfalso;apply A;simpa using hy
end Mist
namespace Mist
def pI (q:Nat × Bool):Bool:=fM q.1
theorem Qd {q:Nat × Bool}(h:kg q.1=true):(q.1 == 1)=false:=by
 unfold kg at h;simp at h ⊢;omega
theorem JF {n:Nd}(e:n.kind=42):∀ (f:List (Nat × Bool)) (i:Nat) (b a:Nat × Bool),i+f.length+2=n.kids.length→(∀ q ∈ f,(q.1 == 34)=true)→kg b.1=true→pE a=true→uP n i (f ++ [b] ++ [a])=true
 | [],i,b,a,hl,_,h1,h2=>by
  have c:¬ i+1=n.kids.length:=by simp at hl;omega
  have d:i+2=n.kids.length:=by simpa using hl
  have b1:i+1+1=n.kids.length:=by omega
  unfold pE at h2
  simp only [amU] at h2
  have h3:=h2.2;simp only [List.nil_append,List.cons_append,uP,yD,ku,e,Qd h1,if_neg c,if_pos d,if_pos b1,h1,h2.1]
  revert h3
  cases (a.1 == 1) <;> cases a.2 <;> simp
 | q :: r,i,b,a,hl,hq,h1,h2=>by
  have c:¬ i+1=n.kids.length:=by simp at hl;omega
  have d:¬ i+2=n.kids.length:=by simp at hl;omega
  have h0:=hq q (List.mem_cons_self ..);have h9:q.1=34:=by simpa using h0
  have h:=JF e r (i+1) b a (by simp at hl;omega) (fun x g=>hq x (List.mem_cons_of_mem _ g)) h1 h2
  show (yD n i q && uP n (i+1) (r ++ [b] ++ [a]))=true
  rw [h];simp [yD,ku,e,if_neg c,if_neg d,h9]
section
variable {l:List Tok} {en:Int} (hT:KQ l)
include hT
end
end Mist
namespace Mist
theorem Io (p:UInt8→Bool)(s:Bs):aZ p (s.take (aZ p s))=aZ p s:=by
 induction s with
 | nil=>rfl
 | cons b r a =>
  by_cases h:p b=true
  ·unfold aZ at a ⊢
   rw [List.takeWhile_cons_of_pos h,List.length_cons,List.take_succ_cons,List.takeWhile_cons_of_pos h,List.length_cons,a]
  ·unfold aZ;rw [List.takeWhile_cons_of_neg h];rfl
theorem P8:∀ g ∈ signs,first g=(4,g):=by decide +kernel
theorem Ga (s:Bs)(n:Nat)(h:0 < n):gt (s.take n) 0=gt s 0:=by
 cases n with
 | zero=>omega
 | succ n=>cases s <;> simp [gt]
theorem R6 (s:Bs)(h:(first s).1 ≠ 0):first (first s).2=first s:=by
 by_cases h0:s.length=0
 ·rw [rM s h0] at h;exact absurd rfl h
 by_cases c:fF (gt s 0)=true
 ·have j:=wY dM s h0 (by simp [dM,c]);have m:=qW dM s;have i:¬ (s.take (aZ dM s)).length=0:=by rw [List.length_take];omega
  have d:fF (gt (s.take (aZ dM s)) 0)=true:=by rw [Ga s _ j];exact c
  have a:=Io dM s;have b:(s.take (aZ dM s)).take (aZ dM s)=s.take (aZ dM s):=by rw [List.take_take,Nat.min_self]
  by_cases f:hasB keywords (s.take (aZ dM s))=true
  ·rw [oN s h0 c f];rw [oN _ i d (by rw [a,b];exact f),a,b]
  ·by_cases e:aZ dM s≤12
   ·rw [kK s h0 c f e];rw [kK _ i d (by rw [a,b];exact f) (by rw [a];exact e),a,b]
   ·rw [oh s h0 c f e] at h;exact absurd rfl h
 ·by_cases hd:bJ (gt s 0)=true
  ·have j:=wY bJ s h0 hd;have m:=qW bJ s;have i:¬ (s.take (aZ bJ s)).length=0:=by rw [List.length_take];omega
   have d:bJ (gt (s.take (aZ bJ s)) 0)=true:=by rw [Ga s _ j];exact hd
   have k:¬ fF (gt (s.take (aZ bJ s)) 0)=true:=by rw [Ga s _ j];exact c
   have a:=Io bJ s;have b:(s.take (aZ bJ s)).take (aZ bJ s)=s.take (aZ bJ s):=by rw [List.take_take,Nat.min_self]
   by_cases e:iB (s.take (aZ bJ s))=true
   ·rw [l9 s h0 c hd e];rw [l9 _ i k d (by rw [a,b];exact e),a,b]
   ·rw [oO s h0 c hd e] at h;exact absurd rfl h
  ·cases d:lM s with
   | none=>rw [mZ s h0 c hd d] at h;exact absurd rfl h
   | some g =>
    rw [m_ s h0 c hd g d];exact P8 g (List.mem_of_find?_eq_some d)
theorem IX (s:Bs)(h:(first s).1 ≠ 0):kind (first s).2=(first s).1:=by
 unfold kind;rw [R6 s h,if_pos rfl]
def Placed (s:Bs):Nat→List Tok→Prop
 | a,[]=>s.length≤a
 | a,t :: r=>a < s.length∧t.at_=(a:Int)∧first (s.drop a)=(t.kind,t.text)∧t.kind ≠ 0∧Placed s (a+t.text.length+skip (s.drop (a+t.text.length))) r
theorem uS (s:Bs):∀ (f a:Nat) (b l:List Tok) (x:Nat),s.length < f+a→iq f s a b=(l,x,0)→∃ r,l=b ++ r∧Placed s a r
 | 0,a,b,l,x,hf,h=>by
  rw [iq] at h
  simp only [Prod.mk.injEq] at h
  exact⟨[],by rw [h.1];simp,by show s.length≤a;omega⟩
 | f+1,a,b,l,x,hf,h=>by
  by_cases c:s.length≤a
  ·rw [uF f s a b c] at h
   simp only [Prod.mk.injEq] at h
   exact⟨[],by rw [h.1];simp,c⟩
  ·by_cases d:(first (s.drop a)).1=0
   ·rw [xW f s a b c d] at h
    simp at h
   ·by_cases h8:b.length=800
    ·rw [xV f s a b c d h8] at h
     simp at h
    ·rw [sD f s a b c d h8] at h
     have i:=sV _ d;obtain⟨r,g,e⟩:=uS s f _ _ l x (by omega) h
     refine⟨⟨(first (s.drop a)).1,(first (s.drop a)).2,(a:Int)⟩ :: r,by rw [g];simp,by omega,rfl,rfl,d,e⟩
theorem PE (s:Bs)(h:(Mist.read s).2.2=0):Placed s (skip s) (Mist.read s).1:=by
 by_cases a:(check s).2=0
 ·have e:Mist.read s=iq (s.length+1) s (skip s) []:=by unfold Mist.read;rw [if_neg (by simpa using a)]
  obtain⟨r,c,b⟩:=uS s (s.length+1) (skip s) [] (Mist.read s).1 (Mist.read s).2.1 (by omega) (by rw [← e,← h]);rw [c];exact b
 ·have e:Mist.read s=([],(check s).1,(check s).2):=by unfold Mist.read;rw [if_pos a]
  rw [e] at h
  exact absurd h a
end Mist
