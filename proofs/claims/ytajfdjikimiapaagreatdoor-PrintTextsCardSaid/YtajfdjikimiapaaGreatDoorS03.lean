/-
  A part of the proof.
-/
import Derived.Test.YtajfdjikimiapaaGreatDoorS02
set_option linter.all false
set_option maxRecDepth 100000
namespace Mist
theorem jX {t:Tr}{i:Nat}{n:Nd}(h:t.nodes[i]? = some n):nd t i=n:=by simp [nd,ait,h]
theorem FT {t:Tr}{i:Nat}(h:i < t.nodes.length):t.nodes[i]? = some (nd t i):=by
 rw [aip h];simp [nd,ait,aip h]
theorem JH (ks:List Nat):fits [] ks=true↔ks.length=0:=by
 simp [fits]
theorem JI (a b:Int)(p:Pd)(ks:List Nat):fits [⟨a,b,p⟩] ks=true↔(a≤(ks.length:Int)∧(ks.length:Int)≤b)∧∀ j,j < ks.length→p.is (ks.getD j 0)=true:=by
 have e:((ks.length:Int) - jQ []).toNat=ks.length:=by simp [jQ]
 have d:(ks.length:Int) - jQ []=(ks.length:Int):=by simp [jQ]
 unfold fits;simp only [e];rw [List.take_length,List.drop_length];simp only [aiE,within,decide_eq_true_eq,d,aiD,fits,List.isEmpty_nil,and_true];constructor
 ·rintro⟨h1,h2⟩
  exact⟨h1,fun j c=>by rw [ait,aip c];exact h2 _ (List.getElem_mem c)⟩
 ·rintro⟨h1,h2⟩
  refine⟨h1,fun x f=>?_⟩
  obtain⟨j,c,rfl⟩:=List.getElem_of_mem f
  have:=h2 j c
  rwa [ait,aip c] at this
theorem JG (ks:List Nat):fits [⟨0,801,.param⟩,⟨1,1,.typ⟩,⟨1,1,.expr⟩] ks=true↔(2≤ks.length∧ks.length≤803)∧∀ j,j < ks.length→(if j+1=ks.length then eZ (ks.getD j 0) else if j+2=ks.length then gF (ks.getD j 0) else decide (ks.getD j 0=34))=true:=by
 rcases Nat.lt_or_ge ks.length 2 with h2 | h2
 ·constructor
  ·intro h;unfold fits at h
   simp only [aiE,within,jQ] at h
   simp at h
   omega
  ·rintro⟨⟨h,_⟩,_⟩;omega
 obtain⟨a,x,y,rfl⟩:∃ (a:List Nat) (x y:Nat),ks=a ++ [x,y]:=by
  refine⟨ks.take (ks.length - 2),ks[ks.length - 2],ks[ks.length - 1],?_⟩
  have g:=List.take_append_drop (ks.length - 2) ks
  have i:ks.drop (ks.length - 2)=[ks[ks.length - 2],ks[ks.length - 1]]:=by
   rw [aiJ (by omega),aiJ (by omega),List.drop_of_length_le (by omega)]
   have:ks.length - 2+1=ks.length - 1:=by omega
   simp only [this]
  rw [← i];exact g.symm
 have l1:(a ++ [x,y]).length=a.length+2:=by simp
 have e:(((a ++ [x,y]).length:Int) - jQ [⟨1,1,.typ⟩,⟨1,1,.expr⟩]).toNat=a.length:=by rw [l1];simp [jQ]
 have f:((a ++ [x,y]).length:Int) - jQ [⟨1,1,.typ⟩,⟨1,1,.expr⟩]=(a.length:Int):=by rw [l1];simp [jQ]
 have d:fits [⟨0,801,.param⟩,⟨1,1,.typ⟩,⟨1,1,.expr⟩] (a ++ [x,y])=(within (a.length:Int) 0 801 && (a.all Pd.param.is && (gF x && eZ y))):=by
  rw [fits];simp only [e];rw [f,List.take_left,List.drop_left]
  congr 2
  simp [fits,jQ,within,Pd.is]
 rw [d];simp only [aiE,within,decide_eq_true_eq,aiD,Pd.is];constructor
 ·rintro⟨⟨_,h3⟩,h4,h5,h6⟩
  refine⟨⟨by omega,by rw [l1];omega⟩,fun j c=>?_⟩
  rw [l1] at c ⊢
  by_cases c1:j=a.length+1
  ·subst c1;rw [if_pos rfl];simpa [ait] using h6
  ·by_cases c2:j=a.length
   ·subst c2;rw [if_neg (by omega),if_pos rfl];simpa [ait] using h5
   ·rw [if_neg (by omega),if_neg (by omega)];have b:j < a.length:=by omega
    have:=h4 a[j] (List.getElem_mem b)
    simpa [ait,List.getElem?_append_left b,aip b] using this
 ·rintro⟨⟨_,h3⟩,h4⟩
  rw [l1] at h3 h4
  refine⟨⟨by omega,by omega⟩,fun z k=>?_,?_,?_⟩
  ·obtain⟨j,c,rfl⟩:=List.getElem_of_mem k
   have:=h4 j (by omega)
   rw [if_neg (by omega),if_neg (by omega)] at this
   simpa [ait,List.getElem?_append_left c,aip c] using this
  ·have:=h4 a.length (by omega)
   rw [if_neg (by omega),if_pos rfl] at this
   simpa [ait] using this
  ·have:=h4 (a.length+1) (by omega)
   rw [if_pos rfl] at this
   simpa [ait] using this
def Af (n:Nd)(ks:List Nat):Bool :=
 match shapeOf n.kind n.n with
 | none=>false
 | some s=>(s.named == !n.text.isEmpty) && (!s.named || isName n.text) && fits s.parts ks && (within n.n s.low s.high || (n.kind == 1 && within n.n (-9999) (-1)))
def vE (n:Nd)(ks:List Nat):Prop :=
 known n.kind=true∧(jN n.kind == isName n.text)=true∧(jN n.kind || n.text.isEmpty)=true∧lD n=true∧kG n=true∧∀ j,j < ks.length→jL n j (ks.getD j 0)=true
theorem bY {n:Nd}{ks:List Nat}{nm:Bool}{lo hi:Int}{ps:List Part}{M Nu:Bool}(k:shapeOf n.kind n.n=some ⟨nm,lo,hi,ps⟩)(g:known n.kind=true)(b:jN n.kind=nm)
  (e:lD n=M) (f:kG n=Nu)
  (f1:fits ps ks=true→M=true∧∀ j,j < ks.length→jL n j (ks.getD j 0)=true)
  (f2:ks.length≤801→M=true→(∀ j,j < ks.length→jL n j (ks.getD j 0)=true)→fits ps ks=true)
  (w:(within n.n lo hi || (n.kind == 1 && within n.n (-9999) (-1)))=Nu) :
  (Af n ks=true→vE n ks)∧(ks.length≤801→vE n ks→Af n ks=true):=by
 have a:n.text.isEmpty=true→isName n.text=false:=fun h=>by rw [List.isEmpty_iff.1 h];decide
 unfold Af vE;simp only [k,g,b,e,f,w];constructor
 ·intro h;simp only [aiE] at h
  obtain⟨⟨⟨h1,h2⟩,h3⟩,h4⟩:=h;obtain⟨c,d⟩:=f1 h3
  refine⟨trivial,?_,?_,c,h4,d⟩
  ·cases nm
   ·have:n.text.isEmpty=true:=by simpa using h1
    rw [a this];rfl
   ·have:isName n.text=true:=by simpa using h2
    rw [this];rfl
  ·cases nm
   ·simpa using h1
   ·rfl
 ·rintro i⟨_,h1,h2,h3,h4,h5⟩;simp only [aiE]
  refine⟨⟨⟨?_,?_⟩,f2 i h3 h5⟩,h4⟩
  ·cases nm
   ·simpa using h2
   ·have:isName n.text=true:=by simpa using h1
    cases l:n.text.isEmpty
    ·rfl
    ·rw [a l] at this;cases this
  ·cases nm
   ·rfl
   ·simpa using h1
theorem iI {a b:Int}{p:Pd}{ks:List Nat}{n:Nd}{M:Bool}(d:∀ j k,jL n j k=p.is k)(h1:a≤(ks.length:Int)→(ks.length:Int)≤b→M=true)(h2:ks.length≤801→M=true→a≤(ks.length:Int)∧(ks.length:Int)≤b) :
  (fits [⟨a,b,p⟩] ks=true→M=true∧∀ j,j < ks.length→jL n j (ks.getD j 0)=true)∧(ks.length≤801→M=true→(∀ j,j < ks.length→jL n j (ks.getD j 0)=true)→fits [⟨a,b,p⟩] ks=true):=by
 constructor
 ·intro h;rw [JI] at h
  exact⟨h1 h.1.1 h.1.2,fun j c=>by rw [d];exact h.2 j c⟩
 ·intro e f h;rw [JI];exact⟨h2 e f,fun j c=>by rw [← d j];exact h j c⟩
theorem Az {ks:List Nat}{n:Nd}{M:Bool}(h1:ks.length=0↔M=true) :
  (fits [] ks=true→M=true∧∀ j,j < ks.length→jL n j (ks.getD j 0)=true)∧(ks.length≤801→M=true→(∀ j,j < ks.length→jL n j (ks.getD j 0)=true)→fits [] ks=true):=by
 constructor
 ·intro h;rw [JH] at h
  exact⟨h1.1 h,fun j b=>by omega⟩
 ·intro _ a _;rw [JH];exact h1.2 a
theorem cB (N:Int):(within N 0 0 || false)=(N == 0):=by
 rw [aiu];simp [within];omega
theorem yG (n:Nd)(ks:List Nat)(c:n.kids.length=ks.length)(g:j6≤n.n∧n.n≤gL):(Af n ks=true→vE n ks)∧(ks.length≤801→vE n ks→Af n ks=true):=by
 obtain⟨k,x,N,kids,a⟩:=n;simp only at c g
 have d:(k=0∨(27≤k∧k≤29)∨(35≤k∧k≤39)∨47≤k)∨k=1∨k=2∨(k=3∨k=32∨k=45)∨(k=4∨k=5)∨(k=6∨k=7∨k=8∨k=9∨k=10∨k=11∨k=12∨k=13∨k=14∨k=15∨k=16∨k=17∨k=18∨k=23)∨k=19∨k=20∨k=21∨(k=22∨k=25∨k=43∨k=44)∨k=24∨k=26∨(k=30∨k=31)∨k=33∨k=34∨k=40∨k=41∨k=42∨k=46:=by omega
 rcases d with h | rfl | rfl | h | h | h | rfl | rfl | rfl | h | rfl | rfl | h | rfl | rfl | rfl | rfl | rfl | rfl
 ·
  have e:shapeOf k N=none:=by
   unfold shapeOf
   repeat (rw [if_neg (by omega)])
  have l:known k=false:=by
   simp [known,eZ,gF,dB];omega
  constructor
  ·intro h;unfold Af at h;simp only [e] at h;cases h
  ·rintro _⟨h1,_⟩;simp only [l] at h1;cases h1
 ·obtain⟨f1,f2⟩:=Az (ks:=ks) (n:=⟨1,x,N,kids,a⟩) (M:=kids.length == 0) (by rw [c];simp);exact bY (Nu:=within N (-9999) 9999) rfl rfl rfl rfl rfl f1 f2 (by rw [aiu];simp [within];omega)
 ·obtain⟨f1,f2⟩:=Az (ks:=ks) (n:=⟨2,x,N,kids,a⟩) (M:=kids.length == 0) (by rw [c];simp);exact bY (Nu:=within N 0 1) rfl rfl rfl rfl rfl f1 f2 (by rw [aiu];simp [within])
 ·rcases h with rfl | rfl | rfl
  ·obtain⟨f1,f2⟩:=Az (ks:=ks) (n:=⟨3,x,N,kids,a⟩) (M:=kids.length == 0) (by rw [c];simp);exact bY (Nu:=N == 0) rfl rfl rfl rfl rfl f1 f2 (cB N)
  ·obtain⟨f1,f2⟩:=Az (ks:=ks) (n:=⟨32,x,N,kids,a⟩) (M:=kids.length == 0) (by rw [c];simp);exact bY (Nu:=N == 0) rfl rfl rfl rfl rfl f1 f2 (cB N)
  ·obtain⟨f1,f2⟩:=Az (ks:=ks) (n:=⟨45,x,N,kids,a⟩) (M:=kids.length == 0) (by rw [c];simp);exact bY (Nu:=N == 0) rfl rfl rfl rfl rfl f1 f2 (cB N)
 ·rcases h with rfl | rfl
  ·obtain⟨f1,f2⟩:=iI (a:=1) (b:=1) (p:=.expr) (ks:=ks) (n:=⟨4,x,N,kids,a⟩) (M:=kids.length == 1) (fun _ _=>rfl) (by rw [c];simp;omega) (by rw [c];simp;omega);exact bY (Nu:=N == 0) rfl rfl rfl rfl rfl f1 f2 (cB N)
  ·obtain⟨f1,f2⟩:=iI (a:=1) (b:=1) (p:=.expr) (ks:=ks) (n:=⟨5,x,N,kids,a⟩) (M:=kids.length == 1) (fun _ _=>rfl) (by rw [c];simp;omega) (by rw [c];simp;omega);exact bY (Nu:=N == 0) rfl rfl rfl rfl rfl f1 f2 (cB N)
 ·rcases h with rfl | rfl | rfl | rfl | rfl | rfl | rfl | rfl | rfl | rfl | rfl | rfl | rfl | rfl
  ·obtain⟨f1,f2⟩:=iI (a:=2) (b:=2) (p:=.expr) (ks:=ks) (n:=⟨6,x,N,kids,a⟩) (M:=kids.length == 2) (fun _ _=>rfl) (by rw [c];simp;omega) (by rw [c];simp;omega);exact bY (Nu:=N == 0) rfl rfl rfl rfl rfl f1 f2 (cB N)
  ·obtain⟨f1,f2⟩:=iI (a:=2) (b:=2) (p:=.expr) (ks:=ks) (n:=⟨7,x,N,kids,a⟩) (M:=kids.length == 2) (fun _ _=>rfl) (by rw [c];simp;omega) (by rw [c];simp;omega);exact bY (Nu:=N == 0) rfl rfl rfl rfl rfl f1 f2 (cB N)
  ·obtain⟨f1,f2⟩:=iI (a:=2) (b:=2) (p:=.expr) (ks:=ks) (n:=⟨8,x,N,kids,a⟩) (M:=kids.length == 2) (fun _ _=>rfl) (by rw [c];simp;omega) (by rw [c];simp;omega);exact bY (Nu:=N == 0) rfl rfl rfl rfl rfl f1 f2 (cB N)
  ·obtain⟨f1,f2⟩:=iI (a:=2) (b:=2) (p:=.expr) (ks:=ks) (n:=⟨9,x,N,kids,a⟩) (M:=kids.length == 2) (fun _ _=>rfl) (by rw [c];simp;omega) (by rw [c];simp;omega);exact bY (Nu:=N == 0) rfl rfl rfl rfl rfl f1 f2 (cB N)
  ·obtain⟨f1,f2⟩:=iI (a:=2) (b:=2) (p:=.expr) (ks:=ks) (n:=⟨10,x,N,kids,a⟩) (M:=kids.length == 2) (fun _ _=>rfl) (by rw [c];simp;omega) (by rw [c];simp;omega);exact bY (Nu:=N == 0) rfl rfl rfl rfl rfl f1 f2 (cB N)
  ·obtain⟨f1,f2⟩:=iI (a:=2) (b:=2) (p:=.expr) (ks:=ks) (n:=⟨11,x,N,kids,a⟩) (M:=kids.length == 2) (fun _ _=>rfl) (by rw [c];simp;omega) (by rw [c];simp;omega);exact bY (Nu:=N == 0) rfl rfl rfl rfl rfl f1 f2 (cB N)
  ·obtain⟨f1,f2⟩:=iI (a:=2) (b:=2) (p:=.expr) (ks:=ks) (n:=⟨12,x,N,kids,a⟩) (M:=kids.length == 2) (fun _ _=>rfl) (by rw [c];simp;omega) (by rw [c];simp;omega);exact bY (Nu:=N == 0) rfl rfl rfl rfl rfl f1 f2 (cB N)
  ·obtain⟨f1,f2⟩:=iI (a:=2) (b:=2) (p:=.expr) (ks:=ks) (n:=⟨13,x,N,kids,a⟩) (M:=kids.length == 2) (fun _ _=>rfl) (by rw [c];simp;omega) (by rw [c];simp;omega);exact bY (Nu:=N == 0) rfl rfl rfl rfl rfl f1 f2 (cB N)
  ·obtain⟨f1,f2⟩:=iI (a:=2) (b:=2) (p:=.expr) (ks:=ks) (n:=⟨14,x,N,kids,a⟩) (M:=kids.length == 2) (fun _ _=>rfl) (by rw [c];simp;omega) (by rw [c];simp;omega);exact bY (Nu:=N == 0) rfl rfl rfl rfl rfl f1 f2 (cB N)
  ·obtain⟨f1,f2⟩:=iI (a:=2) (b:=2) (p:=.expr) (ks:=ks) (n:=⟨15,x,N,kids,a⟩) (M:=kids.length == 2) (fun _ _=>rfl) (by rw [c];simp;omega) (by rw [c];simp;omega);exact bY (Nu:=N == 0) rfl rfl rfl rfl rfl f1 f2 (cB N)
  ·obtain⟨f1,f2⟩:=iI (a:=2) (b:=2) (p:=.expr) (ks:=ks) (n:=⟨16,x,N,kids,a⟩) (M:=kids.length == 2) (fun _ _=>rfl) (by rw [c];simp;omega) (by rw [c];simp;omega);exact bY (Nu:=N == 0) rfl rfl rfl rfl rfl f1 f2 (cB N)
  ·obtain⟨f1,f2⟩:=iI (a:=2) (b:=2) (p:=.expr) (ks:=ks) (n:=⟨17,x,N,kids,a⟩) (M:=kids.length == 2) (fun _ _=>rfl) (by rw [c];simp;omega) (by rw [c];simp;omega);exact bY (Nu:=N == 0) rfl rfl rfl rfl rfl f1 f2 (cB N)
  ·obtain⟨f1,f2⟩:=iI (a:=2) (b:=2) (p:=.expr) (ks:=ks) (n:=⟨18,x,N,kids,a⟩) (M:=kids.length == 2) (fun _ _=>rfl) (by rw [c];simp;omega) (by rw [c];simp;omega);exact bY (Nu:=N == 0) rfl rfl rfl rfl rfl f1 f2 (cB N)
  ·obtain⟨f1,f2⟩:=iI (a:=2) (b:=2) (p:=.expr) (ks:=ks) (n:=⟨23,x,N,kids,a⟩) (M:=kids.length == 2) (fun _ _=>rfl) (by rw [c];simp;omega) (by rw [c];simp;omega);exact bY (Nu:=N == 0) rfl rfl rfl rfl rfl f1 f2 (cB N)
 ·obtain⟨f1,f2⟩:=iI (a:=3) (b:=3) (p:=.expr) (ks:=ks) (n:=⟨19,x,N,kids,a⟩) (M:=kids.length == 3) (fun _ _=>rfl) (by rw [c];simp;omega) (by rw [c];simp;omega);exact bY (Nu:=N == 0) rfl rfl rfl rfl rfl f1 f2 (cB N)
 ·obtain⟨f1,f2⟩:=iI (a:=2) (b:=2) (p:=.expr) (ks:=ks) (n:=⟨20,x,N,kids,a⟩) (M:=kids.length == 2) (fun _ _=>rfl) (by rw [c];simp;omega) (by rw [c];simp;omega);exact bY (Nu:=N == 0) rfl rfl rfl rfl rfl f1 f2 (cB N)
 ·obtain⟨f1,f2⟩:=iI (a:=0) (b:=801) (p:=.expr) (ks:=ks) (n:=⟨21,x,N,kids,a⟩) (M:=true) (fun _ _=>rfl) (fun _ _=>rfl) (fun _ _=>by omega);exact bY (Nu:=N == 0) rfl rfl rfl rfl rfl f1 f2 (cB N)
 ·rcases h with rfl | rfl | rfl | rfl
  ·obtain⟨f1,f2⟩:=iI (a:=1) (b:=1) (p:=.expr) (ks:=ks) (n:=⟨22,x,N,kids,a⟩) (M:=kids.length == 1) (fun _ _=>rfl) (by rw [c];simp;omega) (by rw [c];simp;omega);exact bY (Nu:=N == 0) rfl rfl rfl rfl rfl f1 f2 (cB N)
  ·obtain⟨f1,f2⟩:=iI (a:=1) (b:=1) (p:=.expr) (ks:=ks) (n:=⟨25,x,N,kids,a⟩) (M:=kids.length == 1) (fun _ _=>rfl) (by rw [c];simp;omega) (by rw [c];simp;omega);exact bY (Nu:=N == 0) rfl rfl rfl rfl rfl f1 f2 (cB N)
  ·obtain⟨f1,f2⟩:=iI (a:=1) (b:=1) (p:=.expr) (ks:=ks) (n:=⟨43,x,N,kids,a⟩) (M:=kids.length == 1) (fun _ _=>rfl) (by rw [c];simp;omega) (by rw [c];simp;omega);exact bY (Nu:=N == 0) rfl rfl rfl rfl rfl f1 f2 (cB N)
  ·obtain⟨f1,f2⟩:=iI (a:=1) (b:=1) (p:=.expr) (ks:=ks) (n:=⟨44,x,N,kids,a⟩) (M:=kids.length == 1) (fun _ _=>rfl) (by rw [c];simp;omega) (by rw [c];simp;omega);exact bY (Nu:=N == 0) rfl rfl rfl rfl rfl f1 f2 (cB N)
 ·obtain⟨f1,f2⟩:=iI (a:=1) (b:=801) (p:=.put) (ks:=ks) (n:=⟨24,x,N,kids,a⟩) (M:=decide (1≤kids.length)) (fun _ _=>rfl) (by rw [c];simp;omega) (by rw [c];simp;omega);exact bY (Nu:=N == 0) rfl rfl rfl rfl rfl f1 f2 (cB N)
 ·obtain⟨f1,f2⟩:=iI (a:=1) (b:=801) (p:=.expr) (ks:=ks) (n:=⟨26,x,N,kids,a⟩) (M:=decide (1≤kids.length)) (fun _ _=>rfl) (by rw [c];simp;omega) (by rw [c];simp;omega);exact bY (Nu:=N == 0) rfl rfl rfl rfl rfl f1 f2 (cB N)
 ·rcases h with rfl | rfl
  ·obtain⟨f1,f2⟩:=Az (ks:=ks) (n:=⟨30,x,N,kids,a⟩) (M:=kids.length == 0) (by rw [c];simp);exact bY (Nu:=N == 0) rfl rfl rfl rfl rfl f1 f2 (cB N)
  ·obtain⟨f1,f2⟩:=Az (ks:=ks) (n:=⟨31,x,N,kids,a⟩) (M:=kids.length == 0) (by rw [c];simp);exact bY (Nu:=N == 0) rfl rfl rfl rfl rfl f1 f2 (cB N)
 ·obtain⟨f1,f2⟩:=iI (a:=1) (b:=1) (p:=.typ) (ks:=ks) (n:=⟨33,x,N,kids,a⟩) (M:=kids.length == 1) (fun _ _=>rfl) (by rw [c];simp;omega) (by rw [c];simp;omega);exact bY (Nu:=true) rfl rfl rfl rfl rfl f1 f2 (by rw [aiu];simp [within];exact g)
 ·obtain⟨f1,f2⟩:=iI (a:=1) (b:=1) (p:=.typ) (ks:=ks) (n:=⟨34,x,N,kids,a⟩) (M:=kids.length == 1) (fun _ _=>rfl) (by rw [c];simp;omega) (by rw [c];simp;omega);exact bY (Nu:=N == 0) rfl rfl rfl rfl rfl f1 f2 (cB N)
 ·obtain⟨f1,f2⟩:=iI (a:=2) (b:=2) (p:=.num) (ks:=ks) (n:=⟨40,x,N,kids,a⟩) (M:=kids.length == 2) (fun _ _=>rfl) (by rw [c];simp;omega) (by rw [c];simp;omega);exact bY (Nu:=N == 0) rfl rfl rfl rfl rfl f1 f2 (cB N)
 ·obtain⟨f1,f2⟩:=iI (a:=1) (b:=801) (p:=.param) (ks:=ks) (n:=⟨41,x,N,kids,a⟩) (M:=decide (1≤kids.length)) (fun _ _=>rfl) (by rw [c];simp;omega) (by rw [c];simp;omega);exact bY (Nu:=N == 0) rfl rfl rfl rfl rfl f1 f2 (cB N)
 ·refine bY (M:=decide (2≤kids.length)) (Nu:=decide (0≤N)) (ps:=[⟨0,801,.param⟩,⟨1,1,.typ⟩,⟨1,1,.expr⟩]) rfl rfl rfl rfl rfl ?_ ?_ (by rw [aiu];simp [within];exact fun _=>g.2)
  ·intro h;rw [JG] at h
   refine⟨by rw [c];exact aiG h.1.1,fun j f=>?_⟩
   have:=h.2 j f
   show (if (42:Nat)=24 then _ else _:Bool)=true
   simp only [jL];rw [c];simpa using this
  ·intro h8 i h;rw [JG]
   refine⟨⟨by rw [c] at i;simpa using i,by omega⟩,fun j f=>?_⟩
   have:=h j f
   simp only [jL] at this
   rw [c] at this;simpa using this
 ·by_cases h7:N=7
  ·subst h7;obtain⟨f1,f2⟩:=Az (ks:=ks) (n:=⟨46,x,7,kids,a⟩) (M:=kids.length == 0) (by rw [c];simp);exact bY rfl rfl rfl rfl rfl f1 f2 rfl
  ·by_cases h8:N=8
   ·subst h8;obtain⟨f1,f2⟩:=iI (a:=1) (b:=801) (p:=.expr) (ks:=ks) (n:=⟨46,x,8,kids,a⟩) (M:=decide (1≤kids.length)) (fun _ _=>rfl) (by rw [c];simp;omega) (by rw [c];simp;omega);exact bY rfl rfl rfl rfl rfl f1 f2 rfl
   ·obtain⟨f1,f2⟩:=iI (a:=1) (b:=1) (p:=.expr) (ks:=ks) (n:=⟨46,x,N,kids,a⟩) (M:=kids.length == 1) (fun _ _=>rfl) (by rw [c];simp;omega) (by rw [c];simp;omega);refine bY (nm:=false) (lo:=1) (hi:=8) (Nu:=within N 1 8) (ps:=[⟨1,1,.expr⟩]) ?_ rfl rfl ?_ rfl f1 f2 ?_
    ·show some (asked N)=_
     unfold asked;rw [if_neg h7,if_neg h8]
    ·simp [lD,h7,h8]
    ·simp
theorem zR (t:Tr)(i:Nat):gV t i=true↔vE (nd t i) (kinds t (nd t i).kids)∧within (nd t i).at_ 0 2000=true∧∀ c ∈ (nd t i).kids,(nd t c.toNat).kind=1→(nd t c.toNat).n < 0→(nd t i).kind=40:=by
 unfold gV vE known;simp only [aiE,aiD,List.mem_range];have d:(kinds t (nd t i).kids).length=(nd t i).kids.length:=by simp [kinds]
 have b:∀ j,j < (nd t i).kids.length→(kinds t (nd t i).kids).getD j 0=(nd t ((nd t i).kids.getD j 0).toNat).kind:=by
  intro j a;simp [kinds,ait,aip a]
 constructor
 ·rintro⟨⟨⟨⟨⟨⟨h1,h2⟩,h3⟩,h4⟩,h5⟩,h6⟩,h7⟩
  refine⟨⟨h1,h2,h3,h4,h5,fun j a=>?_⟩,h6,fun c g e f=>?_⟩
  ·rw [d] at a;rw [b j a];exact (h7 j a).1
  ·obtain⟨j,a,rfl⟩:=List.getElem_of_mem g
   have:=(h7 j a).2
   rw [ait,aip a,Option.getD_some] at this
   simp [e,f] at this
   exact this
 ·rintro⟨⟨h1,h2,h3,h4,h5,h8⟩,h6,h7⟩
  refine⟨⟨⟨⟨⟨⟨h1,h2⟩,h3⟩,h4⟩,h5⟩,h6⟩,fun j a=>⟨?_,?_⟩⟩
  ·rw [← b j a];exact h8 j (by rw [d];exact a)
  ·have k:(nd t i).kids.getD j 0 ∈ (nd t i).kids:=by
    rw [ait,aip a];exact List.getElem_mem a
   by_cases e:(nd t ((nd t i).kids.getD j 0).toNat).kind=1∧(nd t ((nd t i).kids.getD j 0).toNat).n < 0
   ·simp [h7 _ k e.1 e.2]
   ·cases l:((nd t ((nd t i).kids.getD j 0).toNat).kind == 1)
    ·rfl
    ·have:¬ (nd t ((nd t i).kids.getD j 0).toNat).n < 0:=fun h=>e ⟨by simpa using l,h⟩
     simp only [this,decide_false,Bool.and_false,Bool.false_and,Bool.not_false]
theorem mZ (t:Tr)(i:Nat):formed t i=true↔Af (nd t i) (kinds t (nd t i).kids)=true∧within (nd t i).at_ 0 2000=true∧∀ c ∈ (nd t i).kids,0≤c∧c≤(i:Int) - 1:=by
 unfold formed Af
 cases shapeOf (nd t i).kind (nd t i).n with
 | none=>simp
 | some s =>
  simp only [aiE,aiD];constructor
  ·rintro⟨⟨⟨⟨⟨h1,h2⟩,h3⟩,h4⟩,h5⟩,h6⟩
   exact⟨⟨⟨⟨h2,h3⟩,h5⟩,h6⟩,h1,fun c a=>by simpa [within] using h4 c a⟩
  ·rintro⟨⟨⟨⟨h2,h3⟩,h5⟩,h6⟩,h1,h4⟩
   exact⟨⟨⟨⟨⟨h1,h2⟩,h3⟩,fun c a=>by simpa [within] using h4 c a⟩,h5⟩,h6⟩
theorem rV (g:Nat→Int→Option Nat):∀ l:List Int,l.foldl (fun (o:Option Nat) c=>o.bind fun x=>g x c) none=none
 | []=>rfl
 | _ :: r=>rV g r
theorem Ej {t:Tr}{g:Nat→Int→Option Nat}:∀ (l:List Int) (a y:Nat),(∀ c ∈ l,∀ x z,g x c=some z→0≤c∧z=c.toNat+1∧∃ n,t.nodes[c.toNat]? = some n∧Fo t.nodes x c.toNat n.kids) →
  l.foldl (fun (o:Option Nat) c=>o.bind fun x=>g x c) (some a)=some y→Fo t.nodes a y l
 | [],a,y,_,h=>by
  have:a=y:=aiB h
  subst this;exact .nil _
 | c :: r,a,y,hg,h=>by
  rw [List.foldl_cons,Option.bind_some] at h
  rcases b:g a c with _ | z
  ·rw [b,rV] at h;cases h
  ·rw [b] at h
   obtain⟨h0,rfl,n,e,i⟩:=hg c (List.mem_cons_self ..) a z b;have h1:=Fo.one i e;have f:((c.toNat:Nat):Int)=c:=by omega
   rw [f] at h1
   exact h1.append (Ej r _ y (fun d hd=>hg d (List.mem_cons_of_mem _ hd)) h)
theorem QM {t:Tr}(j:∀ (i:Nat) n,t.nodes[i]? = some n→∀ c ∈ n.kids,0≤c∧c≤(i:Int) - 1):∀ (f i:Nat) (root:Bool) (next x:Nat) n,t.nodes[i]? = some n→walk t f i root next=some x→x=i+1∧Fo t.nodes next i n.kids∧dB n.kind=root
 | 0,_,_,_,_,_,_,h=>by cases h
 | f+1,i,root,next,x,n,e,h=>by
  unfold walk at h
  rw [jX e] at h
  have r:=(aiq.1 e).1;rcases d:n.kids.foldl (fun (o:Option Nat) c=>o.bind fun x=>walk t f c.toNat false x) (some next) with _ | y
  ·rw [d] at h;cases h
  ·rw [d] at h
   have a:=Ej n.kids next y (fun c m x z q=>by
    have h1:=j i n e c m;have b:c.toNat < t.nodes.length:=by omega
    have g:=aip b;obtain⟨k,l,_⟩:=QM j f c.toNat false x z _ g q;exact⟨h1.1,k,_,g,l⟩) d
   by_cases h1:i=y
   ·subst h1;by_cases h2:dB n.kind=root
    ·simp only [if_pos h2] at h
     exact⟨(aiB h).symm,a,h2⟩
    ·simp [h2] at h
   ·simp only [if_neg h1] at h;cases h
theorem aar {t:Tr}(d:∀ (i:Nat) n,t.nodes[i]? = some n→∀ c ∈ n.kids,dB (nd t c.toNat).kind=false){a b:Nat}{as:List Int}(h:Fo t.nodes a b as):∀ f,b≤f→(∀ c ∈ as,dB (nd t c.toNat).kind=false)→as.foldl (fun (o:Option Nat) c=>o.bind fun x=>walk t f c.toNat false x) (some a)=some b:=by
 induction h with
 | nil=>intro f _ _;rfl
 | @snoc a m b as n h k e ih jh =>
  intro f j hi;have h8:=k.le;obtain⟨f,rfl⟩:∃ f0,f=f0+1:=⟨f - 1,by omega⟩;rw [List.foldl_append,ih _ (by omega) (fun c g=>hi c (List.mem_append_left _ g))];simp only [List.foldl_cons,List.foldl_nil,Option.bind_some,aiC];unfold walk;rw [jX e,jh f (by omega) (d b n e)]
  have:=hi (b:Int) (List.mem_append_right _ (List.mem_singleton.2 rfl))
  rw [aiC,jX e] at this
  simp [this]
theorem Nt {t:Tr}(d:∀ (i:Nat) n,t.nodes[i]? = some n→∀ c ∈ n.kids,dB (nd t c.toNat).kind=false){a b:Nat}{as:List Int}(h:Fo t.nodes a b as):(∀ c ∈ as,dB (nd t c.toNat).kind=true) →
  as.foldl (fun (o:Option Nat) (i:Int)=>o.bind fun x=>if within i x ((t.nodes.length:Int) - 1)=true then walk t (i.toNat+1) i.toNat true x else none) (some a)=some b:=by
 induction h with
 | nil=>intro _;rfl
 | @snoc a m b as n h k e ih jh =>
  intro hi;have h8:=k.le;have g:=(aiq.1 e).1;rw [List.foldl_append,ih (fun c f=>hi c (List.mem_append_left _ f))];simp only [List.foldl_cons,List.foldl_nil,Option.bind_some,aiC];rw [if_pos (by simp [within];omega)];unfold walk;rw [jX e,aar d k b (aiv _) (d b n e)]
  have:=hi (b:Int) (List.mem_append_right _ (List.mem_singleton.2 rfl))
  rw [aiC,jX e] at this
  simp [this]
theorem DL {t:Tr}(B:∀ (i:Nat) n,t.nodes[i]? = some n→∀ c ∈ n.kids,0≤c∧c≤(i:Int) - 1)(h:ordered t=true):Cu t:=by
 unfold ordered at h
 rcases f:t.items.foldl (fun (o:Option Nat) (i:Int)=>o.bind fun x=>if within i x ((t.nodes.length:Int) - 1)=true then walk t (i.toNat+1) i.toNat true x else none) (some 0) with _ | y
 ·rw [f] at h;cases h
 ·rw [f] at h
  have:y=t.nodes.length:=by simpa using h
  subst this
  have u:∀ (c:Int) (x z:Nat),(if within c x ((t.nodes.length:Int) - 1)=true then walk t (c.toNat+1) c.toNat true x else none)=some z→0≤c∧z=c.toNat+1∧dB (nd t c.toNat).kind=true∧∃ n,t.nodes[c.toNat]? = some n∧Fo t.nodes x c.toNat n.kids:=by
   intro c x z b;split at b
   ·rename_i C
    simp only [within,aiE,decide_eq_true_eq] at C
    have q:c.toNat < t.nodes.length:=by omega
    have j:=aip q;obtain⟨k,m,A⟩:=QM B _ c.toNat true x z _ j b
    refine⟨by omega,k,?_,_,j,m⟩
    rw [jX j];exact A
   ·cases b
  refine⟨Ej (g:=fun x c=>if within c x ((t.nodes.length:Int) - 1)=true then walk t (c.toNat+1) c.toNat true x else none) t.items 0 _ (fun c _ x z b=>?_) f,?_⟩
  ·obtain⟨w,k,_,m⟩:=u c x z b;exact⟨w,k,m⟩
  ·
   have:∀ (l:List Int) (a y:Nat),l.foldl (fun (o:Option Nat) (i:Int)=>o.bind fun x=>if within i x ((t.nodes.length:Int) - 1)=true then walk t (i.toNat+1) i.toNat true x else none) (some a)=some y→∀ c ∈ l,dB (nd t c.toNat).kind=true:=by
    intro l
    induction l with
    | nil=>intro a y _ c e;cases e
    | cons d r D =>
     intro a y h c e;rw [List.foldl_cons,Option.bind_some] at h
     rcases b:(if within d a ((t.nodes.length:Int) - 1)=true then walk t (d.toNat+1) d.toNat true a else none) with _ | z
     ·rw [b,rV (fun x c=>if within c x ((t.nodes.length:Int) - 1)=true then walk t (c.toNat+1) c.toNat true x else none)] at h;cases h
     ·rw [b] at h
      rcases List.mem_cons.1 e with rfl | e
      ·exact (u _ _ _ b).2.2.1
      ·exact D _ _ h c e
   exact this _ _ _ f
theorem XF {n:Nd}{j k:Nat}(h:jL n j k=true):dB k=false:=by
 have:eZ k=true∨gF k=true∨k=25∨k=34∨k=1:=by
  unfold jL at h
  split at h
  ·exact .inr (.inr (.inl (by simpa using h)))
  ·split at h
   ·exact .inr (.inr (.inr (.inl (by simpa using h))))
   ·split at h
    ·exact .inr (.inl h)
    ·split at h
     ·exact .inr (.inr (.inr (.inr (by simpa using h))))
     ·split at h
      ·split at h
       ·exact .inl h
       ·split at h
        ·exact .inr (.inl h)
        ·exact .inr (.inr (.inr (.inl (by simpa using h))))
      ·exact .inl h
 simp only [eZ,gF,aiE,decide_eq_true_eq] at this
 simp [dB];omega
theorem JL (t:Tr)(S:∀ n ∈ t.nodes,j6≤n.n∧n.n≤gL)(V:t.nodes.length≤801):((List.range t.nodes.length).all (formed t)=true∧ordered t=true∧signed t=true)↔lg t=true:=by
 have u:∀ i,i < t.nodes.length→j6≤(nd t i).n∧(nd t i).n≤gL:=fun i hi=>S _ (aiy (FT hi))
 have b:∀ i,(nd t i).kids.length=(kinds t (nd t i).kids).length:=fun i=>by simp [kinds]
 rw [uh];constructor
 ·rintro⟨h1,h2,h3⟩
  have F:∀ i,i < t.nodes.length→formed t i=true:=fun i hi=>aiD.1 h1 i (List.mem_range.2 hi)
  have x:∀ (i:Nat) n,t.nodes[i]? = some n→∀ c ∈ n.kids,0≤c∧c≤(i:Int) - 1:=fun i n e=>by
   have:=((mZ t i).1 (F i (aiq.1 e).1)).2.2
   rwa [jX e] at this
  have a:=DL x h2
  refine⟨a,fun i hi=>?_⟩
  obtain⟨K,L,_⟩:=(mZ t i).1 (F i hi);refine (zR t i).2 ⟨(yG _ _ (b i) (u i hi)).1 K,L,fun c g I B=>?_⟩;have P:=x i _ (FT hi) c g;have G:=aiD.1 h3 c.toNat (List.mem_range.2 (by omega));simp [I,B] at G
  obtain⟨d,hd,C,M⟩:=G;have Q:=a.fo.ids d hd;have N:((c.toNat:Nat):Int)=c:=by omega
  have D:c ∈ (nd t d.toNat).kids:=(show max c 0=c by omega) ▸ M
  have:=a.fo.Ox (i:=i) (j:=d.toNat) hi (by omega) (FT hi) (FT (by omega)) g D
  rw [this];exact C
 ·rintro⟨a,h1⟩
  have w:∀ i,i < t.nodes.length→_:=fun i hi=>(zR t i).1 (h1 i hi)
  have x:∀ (i:Nat),i < t.nodes.length→∀ c ∈ (nd t i).kids,0≤c∧c≤(i:Int) - 1:=fun i hi c g=>by
   obtain⟨n,m,e,_,f⟩:=a.fo.each i (aix _) hi;rw [jX e] at g
   have:=f.ids c g
   omega
  have r:∀ (i:Nat) n,t.nodes[i]? = some n→∀ c ∈ n.kids,dB (nd t c.toNat).kind=false:=fun i n e c g=>by
   have hi:=(aiq.1 e).1;obtain⟨j,q,rfl⟩:=List.getElem_of_mem g;have E:=(w i hi).1.2.2.2.2.2 j (by rw [← b i,jX e];exact q);rw [jX e] at E
   have J:(kinds t n.kids).getD j 0=(nd t (n.kids[j]).toNat).kind:=by simp [kinds,ait,aip q]
   rw [J] at E
   exact XF E
  refine⟨?_,?_,?_⟩
  ·rw [aiD];intro i hi;have hi:=List.mem_range.1 hi;refine (mZ t i).2 ⟨(yG _ _ (b i) (u i hi)).2 ?_ (w i hi).1,(w i hi).2.1,x i hi⟩;rw [← b i];obtain⟨n,m,e,_,f⟩:=a.fo.each i (aix _) hi;rw [jX e]
   have:=f.len
   omega
  ·unfold ordered;rw [Nt r a.fo a.item];simp
  ·unfold signed;rw [aiD];intro i hi;have hi:=List.mem_range.1 hi;by_cases y:(nd t i).kind=1∧(nd t i).n < 0
   ·have k:(i:Int) ∉ t.items:=fun h=>by
     have:=a.item _ h
     rw [aiC] at this
     simp [dB,y.1] at this
    rcases a.fo.parent i (aix _) hi with h | ⟨j,n,_,q,e,l⟩
    ·exact absurd h k
    ·have H:=(w j q).2.2 (i:Int) (by rw [jX e];exact l) (by rw [aiC];exact y.1) (by rw [aiC];exact y.2)
     have A:(j:Int) ∈ t.items:=by
      rcases a.fo.parent j (aix _) q with h | ⟨T,U,_,R,B,o⟩
      ·exact h
      ·exfalso
       have:=r T U B _ o
       rw [aiC] at this
       simp [dB,H] at this
     simp only [Bool.or_eq_true,List.any_eq_true,aiE];refine .inr ⟨(j:Int),A,?_,?_⟩
     ·rw [aiC,H];rfl
     ·rw [aiC,jX e];simpa using l
   ·simp only [Bool.or_eq_true];left
    cases hy:((nd t i).kind == 1 && decide ((nd t i).n < 0))
    ·rfl
    ·exfalso;apply y;simpa using hy
theorem YV {t:Tr}{i:Nat}(c:gV t i=true):sized t (nd t i)=kg t (nd t i):=by
 have a:=((zR t i).1 c).1.2.2.2.1;unfold sized kg;by_cases b:(nd t i).kind=40
 ·rw [if_pos b,if_pos b];rw [aiu];simp [within];omega
 rw [if_neg b,if_neg b];by_cases h46:(nd t i).kind=46
 ·simp only [h46];simp [lD,h46] at a
  by_cases h7:(nd t i).n=7
  ·simp [h7] at a;simp [h7,a]
  ·by_cases h8:(nd t i).n=8
   ·simp [h8]
   ·simp [h7,h8] at a;simp [a]
 ·simp [h46]
end Mist
namespace Mist
theorem Eo (p:UInt8→Bool)(s:Bs):bQ p (s.take (bQ p s))=bQ p s:=by
 induction s with
 | nil=>rfl
 | cons b r a =>
  by_cases h:p b=true
  ·unfold bQ at a ⊢
   rw [List.takeWhile_cons_of_pos h,List.length_cons,List.take_succ_cons,List.takeWhile_cons_of_pos h,List.length_cons,a]
  ·unfold bQ;rw [List.takeWhile_cons_of_neg h];rfl
theorem Lc:∀ g ∈ signs,first g=(4,g):=by decide +kernel
theorem Di (s:Bs)(n:Nat)(h:0 < n):gt (s.take n) 0=gt s 0:=by
 cases n with
 | zero=>omega
 | succ n=>cases s <;> simp [gt]
theorem Nr (s:Bs)(h:(first s).1 ≠ 0):first (first s).2=first s:=by
 by_cases h0:s.length=0
 ·rw [nK s h0] at h;exact absurd rfl h
 by_cases b:eY (gt s 0)=true
 ·have j:=uI dQ s h0 (by simp [dQ,b]);have l:=pq dQ s;have i:¬ (s.take (bQ dQ s)).length=0:=by rw [List.length_take];omega
  have c:eY (gt (s.take (bQ dQ s)) 0)=true:=by rw [Di s _ j];exact b
  have a:=Eo dQ s;have d:(s.take (bQ dQ s)).take (bQ dQ s)=s.take (bQ dQ s):=by rw [List.take_take,Nat.min_self]
  by_cases f:hasB keywords (s.take (bQ dQ s))=true
  ·rw [qJ s h0 b f];rw [qJ _ i c (by rw [a,d];exact f),a,d]
  ·by_cases e:bQ dQ s≤12
   ·rw [lW s h0 b f e];rw [lW _ i c (by rw [a,d];exact f) (by rw [a];exact e),a,d]
   ·rw [oI s h0 b f e] at h;exact absurd rfl h
 ·by_cases hd:bU (gt s 0)=true
  ·have j:=uI bU s h0 hd;have l:=pq bU s;have i:¬ (s.take (bQ bU s)).length=0:=by rw [List.length_take];omega
   have c:bU (gt (s.take (bQ bU s)) 0)=true:=by rw [Di s _ j];exact hd
   have k:¬ eY (gt (s.take (bQ bU s)) 0)=true:=by rw [Di s _ j];exact b
   have a:=Eo bU s;have d:(s.take (bQ bU s)).take (bQ bU s)=s.take (bQ bU s):=by rw [List.take_take,Nat.min_self]
   by_cases e:iB (s.take (bQ bU s))=true
   ·rw [l6 s h0 b hd e];rw [l6 _ i k c (by rw [a,d];exact e),a,d]
   ·rw [lZ s h0 b hd e] at h;exact absurd rfl h
  ·cases c:oZ s with
   | none=>rw [oJ s h0 b hd c] at h;exact absurd rfl h
   | some g =>
    rw [oK s h0 b hd g c];exact Lc g (List.mem_of_find?_eq_some c)
theorem EK (s:Bs)(h:(first s).1 ≠ 0):kind (first s).2=(first s).1:=by
 unfold kind;rw [Nr s h,if_pos rfl]
def Placed (s:Bs):Nat→List Tok→Prop
 | a,[]=>s.length≤a
 | a,t :: r=>a < s.length∧t.at_=(a:Int)∧first (s.drop a)=(t.kind,t.text)∧t.kind ≠ 0∧Placed s (a+t.text.length+skip (s.drop (a+t.text.length))) r
theorem rY (s:Bs):∀ (f a:Nat) (b l:List Tok) (x:Nat),s.length < f+a→iD f s a b=(l,x,0)→∃ r,l=b ++ r∧Placed s a r
 | 0,a,b,l,x,hf,h=>by
  rw [iD] at h
  simp only [Prod.mk.injEq] at h
  exact⟨[],by rw [h.1];simp,by show s.length≤a;omega⟩
 | f+1,a,b,l,x,hf,h=>by
  by_cases c:s.length≤a
  ·rw [yB f s a b c] at h
   simp only [Prod.mk.injEq] at h
   exact⟨[],by rw [h.1];simp,c⟩
  ·by_cases d:(first (s.drop a)).1=0
   ·rw [u_ f s a b c d] at h
    simp at h
   ·by_cases h8:b.length=800
    ·rw [u6 f s a b c d h8] at h
     simp at h
    ·rw [vg f s a b c d h8] at h
     have i:=zA _ d;obtain⟨r,g,e⟩:=rY s f _ _ l x (by omega) h
     refine⟨⟨(first (s.drop a)).1,(first (s.drop a)).2,(a:Int)⟩ :: r,by rw [g];simp,by omega,rfl,rfl,d,e⟩
theorem KU (s:Bs)(h:(Mist.read s).2.2=0):Placed s (skip s) (Mist.read s).1:=by
 by_cases a:(check s).2=0
 ·have e:Mist.read s=iD (s.length+1) s (skip s) []:=by unfold Mist.read;rw [if_neg (by simpa using a)]
  obtain⟨r,c,b⟩:=rY s (s.length+1) (skip s) [] (Mist.read s).1 (Mist.read s).2.1 (by omega) (by rw [← e,← h]);rw [c];exact b
 ·have e:Mist.read s=([],(check s).1,(check s).2):=by unfold Mist.read;rw [if_pos a]
  rw [e] at h
  exact absurd h a
end Mist
namespace Mist
theorem AO (s:Bs):∀ (l:List Tok) (a:Nat),Placed s a l→∀ t ∈ l,Mist.kind t.text=t.kind∧0≤t.at_∧t.at_≤(s.length:Int)∧t.text.length≤s.length
 | [],_,_,t,b=>by cases b
 | x :: r,a,h,t,b=>by
  obtain⟨h1,h2,h3,h4,h5⟩:=h;rcases List.mem_cons.1 b with rfl | b
  ·have h6:(first (s.drop a)).1 ≠ 0:=by rw [h3];exact h4
   have h7:=EK _ h6;have h8:=(zA _ h6).2;rw [h3] at h7 h8
   rw [List.length_drop] at h8
   exact⟨h7,by omega,by omega,by simp only at h8;omega⟩
  ·exact AO s r _ h5 t b
theorem F6 {s:Bs}{l:List Tok}(h:Mist.read s=(l,0,0)):PW l∧(∀ t ∈ l,t.text.length≤2000)∧s.length≤2000:=by
 have h0:(Mist.read s).2.2=0:=by rw [h]
 have c:=KU s h0;rw [h] at c
 have d:s.length≤2000:=by
  rcases Nat.lt_or_ge 2000 s.length with h1 | h1
  ·exfalso
   have e:check s=(2000,5):=by unfold check;rw [if_pos h1]
   have:Mist.read s=([],2000,5):=by unfold Mist.read;rw [e];rfl
   rw [this] at h0
   cases h0
  ·exact h1
 have b:=AO s l _ c;exact⟨⟨fun t a=>(b t a).1,fun t a=>⟨(b t a).2.1,by have:=(b t a).2.2.1;omega⟩⟩,fun t a=>Nat.le_trans (b t a).2.2.2 d,d⟩
theorem Fo.few {ns:List Nd}{a b:Nat}{as:List Int}(h:Fo ns a b as):as.length+a≤b:=by
 induction h with
 | nil=>simp
 | snoc h k e i j=>rw [aiA,aiF];have:=Fo.le k;omega
end Mist
namespace Mist
def oN:List (Bs × Nat × Bs)→Bs
 | []=>[]
 | (g,_,t) :: r=>g ++ (t ++ oN r)
end Mist
namespace Mist
def after (t:Tok)(c:UInt8):Bool :=
 if t.kind=2 then !bU c else if t.kind=4 then first (t.text ++ [c]) == (4,t.text) else !dQ c
theorem yL (s t:Bs)(n:Nat)(h:t.length < n)(a:n≤s.length):s.take n ≠ t:=by
 intro e
 have:=congrArg List.length e
 rw [List.length_take] at this
 omega
def items:List (Bs × Tok)→List (Bs × Nat × Bs)
 | []=>[]
 | (g,t) :: r=>(g,t.kind,t.text) :: items r
end Mist
