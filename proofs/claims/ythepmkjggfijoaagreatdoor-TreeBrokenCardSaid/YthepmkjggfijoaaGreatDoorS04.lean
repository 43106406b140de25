/-
  A part of the proof.
-/
import Derived.Test.YthepmkjggfijoaaGreatDoorSA
import Derived.Test.YthepmkjggfijoaaGreatDoorS03
set_option linter.all false
set_option maxRecDepth 100000
namespace Mist
theorem kH {t:Tr}{i:Nat}{n:Nd}(h:t.nodes[i]? = some n):nd t i=n:=by simp [nd,aaH,h]
theorem Cw {t:Tr}{i:Nat}(h:i < t.nodes.length):t.nodes[i]? = some (nd t i):=by
 rw [aaD h];simp [nd,aaH,aaD h]
theorem N_ (ks:List Nat):fits [] ks=true↔ks.length=0:=by
 simp [fits]
theorem Oa (a b:Int)(p:Pd)(ks:List Nat):fits [⟨a,b,p⟩] ks=true↔(a≤(ks.length:Int)∧(ks.length:Int)≤b)∧∀ j,j < ks.length→p.is (ks.getD j 0)=true:=by
 have e:((ks.length:Int) - lM []).toNat=ks.length:=by simp [lM]
 have d:(ks.length:Int) - lM []=(ks.length:Int):=by simp [lM]
 unfold fits;simp only [e];rw [List.take_length,List.drop_length];simp only [aaS,within,decide_eq_true_eq,d,aaR,fits,List.isEmpty_nil,and_true];constructor
 ·rintro⟨h1,h2⟩
  exact⟨h1,fun j c=>by rw [aaH,aaD c];exact h2 _ (List.getElem_mem c)⟩
 ·rintro⟨h1,h2⟩
  refine⟨h1,fun x f=>?_⟩
  obtain⟨j,c,rfl⟩:=List.getElem_of_mem f
  have:=h2 j c
  rwa [aaH,aaD c] at this
theorem NZ (ks:List Nat):fits [⟨0,801,.param⟩,⟨1,1,.typ⟩,⟨1,1,.expr⟩] ks=true↔(2≤ks.length∧ks.length≤803)∧∀ j,j < ks.length→(if j+1=ks.length then lq (ks.getD j 0) else if j+2=ks.length then iH (ks.getD j 0) else decide (ks.getD j 0=34))=true:=by
 rcases Nat.lt_or_ge ks.length 2 with h2 | h2
 ·constructor
  ·intro h;unfold fits at h
   simp only [aaS,within,lM] at h
   simp at h
   omega
  ·rintro⟨⟨h,_⟩,_⟩;omega
 obtain⟨a,x,y,rfl⟩:∃ (a:List Nat) (x y:Nat),ks=a ++ [x,y]:=by
  refine⟨ks.take (ks.length - 2),ks[ks.length - 2],ks[ks.length - 1],?_⟩
  have g:=List.take_append_drop (ks.length - 2) ks
  have i:ks.drop (ks.length - 2)=[ks[ks.length - 2],ks[ks.length - 1]]:=by
   rw [aaX (by omega),aaX (by omega),List.drop_of_length_le (by omega)]
   have:ks.length - 2+1=ks.length - 1:=by omega
   simp only [this]
  rw [← i];exact g.symm
 have l1:(a ++ [x,y]).length=a.length+2:=by simp
 have e:(((a ++ [x,y]).length:Int) - lM [⟨1,1,.typ⟩,⟨1,1,.expr⟩]).toNat=a.length:=by rw [l1];simp [lM]
 have f:((a ++ [x,y]).length:Int) - lM [⟨1,1,.typ⟩,⟨1,1,.expr⟩]=(a.length:Int):=by rw [l1];simp [lM]
 have d:fits [⟨0,801,.param⟩,⟨1,1,.typ⟩,⟨1,1,.expr⟩] (a ++ [x,y])=(within (a.length:Int) 0 801 && (a.all Pd.param.is && (iH x && lq y))):=by
  rw [fits];simp only [e];rw [f,List.take_left,List.drop_left]
  congr 2
  simp [fits,lM,within,Pd.is]
 rw [d];simp only [aaS,within,decide_eq_true_eq,aaR,Pd.is];constructor
 ·rintro⟨⟨_,h3⟩,h4,h5,h6⟩
  refine⟨⟨by omega,by rw [l1];omega⟩,fun j c=>?_⟩
  rw [l1] at c ⊢
  by_cases c1:j=a.length+1
  ·subst c1;rw [if_pos rfl];simpa [aaH] using h6
  ·by_cases c2:j=a.length
   ·subst c2;rw [if_neg (by omega),if_pos rfl];simpa [aaH] using h5
   ·rw [if_neg (by omega),if_neg (by omega)];have b:j < a.length:=by omega
    have:=h4 a[j] (List.getElem_mem b)
    simpa [aaH,List.getElem?_append_left b,aaD b] using this
 ·rintro⟨⟨_,h3⟩,h4⟩
  rw [l1] at h3 h4
  refine⟨⟨by omega,by omega⟩,fun z k=>?_,?_,?_⟩
  ·obtain⟨j,c,rfl⟩:=List.getElem_of_mem k
   have:=h4 j (by omega)
   rw [if_neg (by omega),if_neg (by omega)] at this
   simpa [aaH,List.getElem?_append_left c,aaD c] using this
  ·have:=h4 a.length (by omega)
   rw [if_neg (by omega),if_pos rfl] at this
   simpa [aaH] using this
  ·have:=h4 (a.length+1) (by omega)
   rw [if_pos rfl] at this
   simpa [aaH] using this
def ED (n:Nd)(ks:List Nat):Bool :=
 match shapeOf n.kind n.n with
 | none=>false
 | some s=>(s.named == !n.text.isEmpty) && (!s.named || isName n.text) && fits s.parts ks && (within n.n s.low s.high || (n.kind == 1 && within n.n (-9999) (-1)))
def zP (n:Nd)(ks:List Nat):Prop :=
 known n.kind=true∧(ig n.kind == isName n.text)=true∧(ig n.kind || n.text.isEmpty)=true∧jC n=true∧gu n=true∧∀ j,j < ks.length→mJ n j (ks.getD j 0)=true
theorem b_ {n:Nd}{ks:List Nat}{nm:Bool}{lo hi:Int}{ps:List Part}{M Nu:Bool}(m:shapeOf n.kind n.n=some ⟨nm,lo,hi,ps⟩)(k:known n.kind=true)(b:ig n.kind=nm)
  (g:jC n=M) (i:gu n=Nu)
  (c:fits ps ks=true→M=true∧∀ j,j < ks.length→mJ n j (ks.getD j 0)=true)
  (d:ks.length≤801→M=true→(∀ j,j < ks.length→mJ n j (ks.getD j 0)=true)→fits ps ks=true)
  (w:(within n.n lo hi || (n.kind == 1 && within n.n (-9999) (-1)))=Nu) :
  (ED n ks=true→zP n ks)∧(ks.length≤801→zP n ks→ED n ks=true):=by
 have a:n.text.isEmpty=true→isName n.text=false:=fun h=>by rw [List.isEmpty_iff.1 h];decide
 unfold ED zP;simp only [m,k,b,g,i,w];constructor
 ·intro h;simp only [aaS] at h
  obtain⟨⟨⟨h1,h2⟩,h3⟩,h4⟩:=h;obtain⟨e,f⟩:=c h3
  refine⟨trivial,?_,?_,e,h4,f⟩
  ·cases nm
   ·have:n.text.isEmpty=true:=by simpa using h1
    rw [a this];rfl
   ·have:isName n.text=true:=by simpa using h2
    rw [this];rfl
  ·cases nm
   ·simpa using h1
   ·rfl
 ·rintro l⟨_,h1,h2,h3,h4,h5⟩;simp only [aaS]
  refine⟨⟨⟨?_,?_⟩,d l h3 h5⟩,h4⟩
  ·cases nm
   ·simpa using h2
   ·have:isName n.text=true:=by simpa using h1
    cases o:n.text.isEmpty
    ·rfl
    ·rw [a o] at this;cases this
  ·cases nm
   ·rfl
   ·simpa using h1
theorem jV {a b:Int}{p:Pd}{ks:List Nat}{n:Nd}{M:Bool}(d:∀ j k,mJ n j k=p.is k)(h1:a≤(ks.length:Int)→(ks.length:Int)≤b→M=true)(h2:ks.length≤801→M=true→a≤(ks.length:Int)∧(ks.length:Int)≤b) :
  (fits [⟨a,b,p⟩] ks=true→M=true∧∀ j,j < ks.length→mJ n j (ks.getD j 0)=true)∧(ks.length≤801→M=true→(∀ j,j < ks.length→mJ n j (ks.getD j 0)=true)→fits [⟨a,b,p⟩] ks=true):=by
 constructor
 ·intro h;rw [Oa] at h
  exact⟨h1 h.1.1 h.1.2,fun j c=>by rw [d];exact h.2 j c⟩
 ·intro e f h;rw [Oa];exact⟨h2 e f,fun j c=>by rw [← d j];exact h j c⟩
theorem EI {ks:List Nat}{n:Nd}{M:Bool}(h1:ks.length=0↔M=true) :
  (fits [] ks=true→M=true∧∀ j,j < ks.length→mJ n j (ks.getD j 0)=true)∧(ks.length≤801→M=true→(∀ j,j < ks.length→mJ n j (ks.getD j 0)=true)→fits [] ks=true):=by
 constructor
 ·intro h;rw [N_] at h
  exact⟨h1.1 h,fun j b=>by omega⟩
 ·intro _ a _;rw [N_];exact h1.2 a
theorem dw (N:Int):(within N 0 0 || false)=(N == 0):=by
 rw [aaI];simp [within];omega
theorem Dg (n:Nd)(ks:List Nat)(g:n.kids.length=ks.length)(m:jq≤n.n∧n.n≤gq):(ED n ks=true→zP n ks)∧(ks.length≤801→zP n ks→ED n ks=true):=by
 obtain⟨k,x,N,c,a⟩:=n;simp only at g m
 have i:(k=0∨(27≤k∧k≤29)∨(35≤k∧k≤39)∨47≤k)∨k=1∨k=2∨(k=3∨k=32∨k=45)∨(k=4∨k=5)∨(k=6∨k=7∨k=8∨k=9∨k=10∨k=11∨k=12∨k=13∨k=14∨k=15∨k=16∨k=17∨k=18∨k=23)∨k=19∨k=20∨k=21∨(k=22∨k=25∨k=43∨k=44)∨k=24∨k=26∨(k=30∨k=31)∨k=33∨k=34∨k=40∨k=41∨k=42∨k=46:=by omega
 rcases i with h | rfl | rfl | h | h | h | rfl | rfl | rfl | h | rfl | rfl | h | rfl | rfl | rfl | rfl | rfl | rfl
 ·
  have e:shapeOf k N=none:=by
   unfold shapeOf
   repeat (rw [if_neg (by omega)])
  have q:known k=false:=by
   simp [known,lq,iH,eP];omega
  constructor
  ·intro h;unfold ED at h;simp only [e] at h;cases h
  ·rintro _⟨h1,_⟩;simp only [q] at h1;cases h1
 ·obtain⟨d,f⟩:=EI (ks:=ks) (n:=⟨1,x,N,c,a⟩) (M:=c.length == 0) (by rw [g];simp);exact b_ (Nu:=within N (-9999) 9999) rfl rfl rfl rfl rfl d f (by rw [aaI];simp [within];omega)
 ·obtain⟨d,f⟩:=EI (ks:=ks) (n:=⟨2,x,N,c,a⟩) (M:=c.length == 0) (by rw [g];simp);exact b_ (Nu:=within N 0 1) rfl rfl rfl rfl rfl d f (by rw [aaI];simp [within])
 ·rcases h with rfl | rfl | rfl
  ·obtain⟨d,f⟩:=EI (ks:=ks) (n:=⟨3,x,N,c,a⟩) (M:=c.length == 0) (by rw [g];simp);exact b_ (Nu:=N == 0) rfl rfl rfl rfl rfl d f (dw N)
  ·obtain⟨d,f⟩:=EI (ks:=ks) (n:=⟨32,x,N,c,a⟩) (M:=c.length == 0) (by rw [g];simp);exact b_ (Nu:=N == 0) rfl rfl rfl rfl rfl d f (dw N)
  ·obtain⟨d,f⟩:=EI (ks:=ks) (n:=⟨45,x,N,c,a⟩) (M:=c.length == 0) (by rw [g];simp);exact b_ (Nu:=N == 0) rfl rfl rfl rfl rfl d f (dw N)
 ·rcases h with rfl | rfl
  ·obtain⟨d,f⟩:=jV (a:=1) (b:=1) (p:=.expr) (ks:=ks) (n:=⟨4,x,N,c,a⟩) (M:=c.length == 1) (fun _ _=>rfl) (by rw [g];simp;omega) (by rw [g];simp;omega);exact b_ (Nu:=N == 0) rfl rfl rfl rfl rfl d f (dw N)
  ·obtain⟨d,f⟩:=jV (a:=1) (b:=1) (p:=.expr) (ks:=ks) (n:=⟨5,x,N,c,a⟩) (M:=c.length == 1) (fun _ _=>rfl) (by rw [g];simp;omega) (by rw [g];simp;omega);exact b_ (Nu:=N == 0) rfl rfl rfl rfl rfl d f (dw N)
 ·rcases h with rfl | rfl | rfl | rfl | rfl | rfl | rfl | rfl | rfl | rfl | rfl | rfl | rfl | rfl
  ·obtain⟨d,f⟩:=jV (a:=2) (b:=2) (p:=.expr) (ks:=ks) (n:=⟨6,x,N,c,a⟩) (M:=c.length == 2) (fun _ _=>rfl) (by rw [g];simp;omega) (by rw [g];simp;omega);exact b_ (Nu:=N == 0) rfl rfl rfl rfl rfl d f (dw N)
  ·obtain⟨d,f⟩:=jV (a:=2) (b:=2) (p:=.expr) (ks:=ks) (n:=⟨7,x,N,c,a⟩) (M:=c.length == 2) (fun _ _=>rfl) (by rw [g];simp;omega) (by rw [g];simp;omega);exact b_ (Nu:=N == 0) rfl rfl rfl rfl rfl d f (dw N)
  ·obtain⟨d,f⟩:=jV (a:=2) (b:=2) (p:=.expr) (ks:=ks) (n:=⟨8,x,N,c,a⟩) (M:=c.length == 2) (fun _ _=>rfl) (by rw [g];simp;omega) (by rw [g];simp;omega);exact b_ (Nu:=N == 0) rfl rfl rfl rfl rfl d f (dw N)
  ·obtain⟨d,f⟩:=jV (a:=2) (b:=2) (p:=.expr) (ks:=ks) (n:=⟨9,x,N,c,a⟩) (M:=c.length == 2) (fun _ _=>rfl) (by rw [g];simp;omega) (by rw [g];simp;omega);exact b_ (Nu:=N == 0) rfl rfl rfl rfl rfl d f (dw N)
  ·obtain⟨d,f⟩:=jV (a:=2) (b:=2) (p:=.expr) (ks:=ks) (n:=⟨10,x,N,c,a⟩) (M:=c.length == 2) (fun _ _=>rfl) (by rw [g];simp;omega) (by rw [g];simp;omega);exact b_ (Nu:=N == 0) rfl rfl rfl rfl rfl d f (dw N)
  ·obtain⟨d,f⟩:=jV (a:=2) (b:=2) (p:=.expr) (ks:=ks) (n:=⟨11,x,N,c,a⟩) (M:=c.length == 2) (fun _ _=>rfl) (by rw [g];simp;omega) (by rw [g];simp;omega);exact b_ (Nu:=N == 0) rfl rfl rfl rfl rfl d f (dw N)
  ·obtain⟨d,f⟩:=jV (a:=2) (b:=2) (p:=.expr) (ks:=ks) (n:=⟨12,x,N,c,a⟩) (M:=c.length == 2) (fun _ _=>rfl) (by rw [g];simp;omega) (by rw [g];simp;omega);exact b_ (Nu:=N == 0) rfl rfl rfl rfl rfl d f (dw N)
  ·obtain⟨d,f⟩:=jV (a:=2) (b:=2) (p:=.expr) (ks:=ks) (n:=⟨13,x,N,c,a⟩) (M:=c.length == 2) (fun _ _=>rfl) (by rw [g];simp;omega) (by rw [g];simp;omega);exact b_ (Nu:=N == 0) rfl rfl rfl rfl rfl d f (dw N)
  ·obtain⟨d,f⟩:=jV (a:=2) (b:=2) (p:=.expr) (ks:=ks) (n:=⟨14,x,N,c,a⟩) (M:=c.length == 2) (fun _ _=>rfl) (by rw [g];simp;omega) (by rw [g];simp;omega);exact b_ (Nu:=N == 0) rfl rfl rfl rfl rfl d f (dw N)
  ·obtain⟨d,f⟩:=jV (a:=2) (b:=2) (p:=.expr) (ks:=ks) (n:=⟨15,x,N,c,a⟩) (M:=c.length == 2) (fun _ _=>rfl) (by rw [g];simp;omega) (by rw [g];simp;omega);exact b_ (Nu:=N == 0) rfl rfl rfl rfl rfl d f (dw N)
  ·obtain⟨d,f⟩:=jV (a:=2) (b:=2) (p:=.expr) (ks:=ks) (n:=⟨16,x,N,c,a⟩) (M:=c.length == 2) (fun _ _=>rfl) (by rw [g];simp;omega) (by rw [g];simp;omega);exact b_ (Nu:=N == 0) rfl rfl rfl rfl rfl d f (dw N)
  ·obtain⟨d,f⟩:=jV (a:=2) (b:=2) (p:=.expr) (ks:=ks) (n:=⟨17,x,N,c,a⟩) (M:=c.length == 2) (fun _ _=>rfl) (by rw [g];simp;omega) (by rw [g];simp;omega);exact b_ (Nu:=N == 0) rfl rfl rfl rfl rfl d f (dw N)
  ·obtain⟨d,f⟩:=jV (a:=2) (b:=2) (p:=.expr) (ks:=ks) (n:=⟨18,x,N,c,a⟩) (M:=c.length == 2) (fun _ _=>rfl) (by rw [g];simp;omega) (by rw [g];simp;omega);exact b_ (Nu:=N == 0) rfl rfl rfl rfl rfl d f (dw N)
  ·obtain⟨d,f⟩:=jV (a:=2) (b:=2) (p:=.expr) (ks:=ks) (n:=⟨23,x,N,c,a⟩) (M:=c.length == 2) (fun _ _=>rfl) (by rw [g];simp;omega) (by rw [g];simp;omega);exact b_ (Nu:=N == 0) rfl rfl rfl rfl rfl d f (dw N)
 ·obtain⟨d,f⟩:=jV (a:=3) (b:=3) (p:=.expr) (ks:=ks) (n:=⟨19,x,N,c,a⟩) (M:=c.length == 3) (fun _ _=>rfl) (by rw [g];simp;omega) (by rw [g];simp;omega);exact b_ (Nu:=N == 0) rfl rfl rfl rfl rfl d f (dw N)
 ·obtain⟨d,f⟩:=jV (a:=2) (b:=2) (p:=.expr) (ks:=ks) (n:=⟨20,x,N,c,a⟩) (M:=c.length == 2) (fun _ _=>rfl) (by rw [g];simp;omega) (by rw [g];simp;omega);exact b_ (Nu:=N == 0) rfl rfl rfl rfl rfl d f (dw N)
 ·obtain⟨d,f⟩:=jV (a:=0) (b:=801) (p:=.expr) (ks:=ks) (n:=⟨21,x,N,c,a⟩) (M:=true) (fun _ _=>rfl) (fun _ _=>rfl) (fun _ _=>by omega);exact b_ (Nu:=N == 0) rfl rfl rfl rfl rfl d f (dw N)
 ·rcases h with rfl | rfl | rfl | rfl
  ·obtain⟨d,f⟩:=jV (a:=1) (b:=1) (p:=.expr) (ks:=ks) (n:=⟨22,x,N,c,a⟩) (M:=c.length == 1) (fun _ _=>rfl) (by rw [g];simp;omega) (by rw [g];simp;omega);exact b_ (Nu:=N == 0) rfl rfl rfl rfl rfl d f (dw N)
  ·obtain⟨d,f⟩:=jV (a:=1) (b:=1) (p:=.expr) (ks:=ks) (n:=⟨25,x,N,c,a⟩) (M:=c.length == 1) (fun _ _=>rfl) (by rw [g];simp;omega) (by rw [g];simp;omega);exact b_ (Nu:=N == 0) rfl rfl rfl rfl rfl d f (dw N)
  ·obtain⟨d,f⟩:=jV (a:=1) (b:=1) (p:=.expr) (ks:=ks) (n:=⟨43,x,N,c,a⟩) (M:=c.length == 1) (fun _ _=>rfl) (by rw [g];simp;omega) (by rw [g];simp;omega);exact b_ (Nu:=N == 0) rfl rfl rfl rfl rfl d f (dw N)
  ·obtain⟨d,f⟩:=jV (a:=1) (b:=1) (p:=.expr) (ks:=ks) (n:=⟨44,x,N,c,a⟩) (M:=c.length == 1) (fun _ _=>rfl) (by rw [g];simp;omega) (by rw [g];simp;omega);exact b_ (Nu:=N == 0) rfl rfl rfl rfl rfl d f (dw N)
 ·obtain⟨d,f⟩:=jV (a:=1) (b:=801) (p:=.put) (ks:=ks) (n:=⟨24,x,N,c,a⟩) (M:=decide (1≤c.length)) (fun _ _=>rfl) (by rw [g];simp;omega) (by rw [g];simp;omega);exact b_ (Nu:=N == 0) rfl rfl rfl rfl rfl d f (dw N)
 ·obtain⟨d,f⟩:=jV (a:=1) (b:=801) (p:=.expr) (ks:=ks) (n:=⟨26,x,N,c,a⟩) (M:=decide (1≤c.length)) (fun _ _=>rfl) (by rw [g];simp;omega) (by rw [g];simp;omega);exact b_ (Nu:=N == 0) rfl rfl rfl rfl rfl d f (dw N)
 ·rcases h with rfl | rfl
  ·obtain⟨d,f⟩:=EI (ks:=ks) (n:=⟨30,x,N,c,a⟩) (M:=c.length == 0) (by rw [g];simp);exact b_ (Nu:=N == 0) rfl rfl rfl rfl rfl d f (dw N)
  ·obtain⟨d,f⟩:=EI (ks:=ks) (n:=⟨31,x,N,c,a⟩) (M:=c.length == 0) (by rw [g];simp);exact b_ (Nu:=N == 0) rfl rfl rfl rfl rfl d f (dw N)
 ·obtain⟨d,f⟩:=jV (a:=1) (b:=1) (p:=.typ) (ks:=ks) (n:=⟨33,x,N,c,a⟩) (M:=c.length == 1) (fun _ _=>rfl) (by rw [g];simp;omega) (by rw [g];simp;omega);exact b_ (Nu:=true) rfl rfl rfl rfl rfl d f (by rw [aaI];simp [within];exact m)
 ·obtain⟨d,f⟩:=jV (a:=1) (b:=1) (p:=.typ) (ks:=ks) (n:=⟨34,x,N,c,a⟩) (M:=c.length == 1) (fun _ _=>rfl) (by rw [g];simp;omega) (by rw [g];simp;omega);exact b_ (Nu:=N == 0) rfl rfl rfl rfl rfl d f (dw N)
 ·obtain⟨d,f⟩:=jV (a:=2) (b:=2) (p:=.num) (ks:=ks) (n:=⟨40,x,N,c,a⟩) (M:=c.length == 2) (fun _ _=>rfl) (by rw [g];simp;omega) (by rw [g];simp;omega);exact b_ (Nu:=N == 0) rfl rfl rfl rfl rfl d f (dw N)
 ·obtain⟨d,f⟩:=jV (a:=1) (b:=801) (p:=.param) (ks:=ks) (n:=⟨41,x,N,c,a⟩) (M:=decide (1≤c.length)) (fun _ _=>rfl) (by rw [g];simp;omega) (by rw [g];simp;omega);exact b_ (Nu:=N == 0) rfl rfl rfl rfl rfl d f (dw N)
 ·refine b_ (M:=decide (2≤c.length)) (Nu:=decide (0≤N)) (ps:=[⟨0,801,.param⟩,⟨1,1,.typ⟩,⟨1,1,.expr⟩]) rfl rfl rfl rfl rfl ?_ ?_ (by rw [aaI];simp [within];exact fun _=>m.2)
  ·intro h;rw [NZ] at h
   refine⟨by rw [g];exact aaU h.1.1,fun j l=>?_⟩
   have:=h.2 j l
   show (if (42:Nat)=24 then _ else _:Bool)=true
   simp only [mJ];rw [g];simpa using this
  ·intro h8 o h;rw [NZ]
   refine⟨⟨by rw [g] at o;simpa using o,by omega⟩,fun j l=>?_⟩
   have:=h j l
   simp only [mJ] at this
   rw [g] at this;simpa using this
 ·by_cases h7:N=7
  ·subst h7;obtain⟨d,f⟩:=EI (ks:=ks) (n:=⟨46,x,7,c,a⟩) (M:=c.length == 0) (by rw [g];simp);exact b_ rfl rfl rfl rfl rfl d f rfl
  ·by_cases h8:N=8
   ·subst h8;obtain⟨d,f⟩:=jV (a:=1) (b:=801) (p:=.expr) (ks:=ks) (n:=⟨46,x,8,c,a⟩) (M:=decide (1≤c.length)) (fun _ _=>rfl) (by rw [g];simp;omega) (by rw [g];simp;omega);exact b_ rfl rfl rfl rfl rfl d f rfl
   ·obtain⟨d,f⟩:=jV (a:=1) (b:=1) (p:=.expr) (ks:=ks) (n:=⟨46,x,N,c,a⟩) (M:=c.length == 1) (fun _ _=>rfl) (by rw [g];simp;omega) (by rw [g];simp;omega);refine b_ (nm:=false) (lo:=1) (hi:=8) (Nu:=within N 1 8) (ps:=[⟨1,1,.expr⟩]) ?_ rfl rfl ?_ rfl d f ?_
    ·show some (asked N)=_
     unfold asked;rw [if_neg h7,if_neg h8]
    ·simp [jC,h7,h8]
    ·simp
theorem Eo (t:Tr)(i:Nat):je t i=true↔zP (nd t i) (kinds t (nd t i).kids)∧within (nd t i).at_ 0 2000=true∧∀ c ∈ (nd t i).kids,(nd t c.toNat).kind=1→(nd t c.toNat).n < 0→(nd t i).kind=40:=by
 unfold je zP known;simp only [aaS,aaR,List.mem_range];have d:(kinds t (nd t i).kids).length=(nd t i).kids.length:=by simp [kinds]
 have b:∀ j,j < (nd t i).kids.length→(kinds t (nd t i).kids).getD j 0=(nd t ((nd t i).kids.getD j 0).toNat).kind:=by
  intro j a;simp [kinds,aaH,aaD a]
 constructor
 ·rintro⟨⟨⟨⟨⟨⟨h1,h2⟩,h3⟩,h4⟩,h5⟩,h6⟩,h7⟩
  refine⟨⟨h1,h2,h3,h4,h5,fun j a=>?_⟩,h6,fun c g e f=>?_⟩
  ·rw [d] at a;rw [b j a];exact (h7 j a).1
  ·obtain⟨j,a,rfl⟩:=List.getElem_of_mem g
   have:=(h7 j a).2
   rw [aaH,aaD a,Option.getD_some] at this
   simp [e,f] at this
   exact this
 ·rintro⟨⟨h1,h2,h3,h4,h5,h8⟩,h6,h7⟩
  refine⟨⟨⟨⟨⟨⟨h1,h2⟩,h3⟩,h4⟩,h5⟩,h6⟩,fun j a=>⟨?_,?_⟩⟩
  ·rw [← b j a];exact h8 j (by rw [d];exact a)
  ·have k:(nd t i).kids.getD j 0 ∈ (nd t i).kids:=by
    rw [aaH,aaD a];exact List.getElem_mem a
   by_cases e:(nd t ((nd t i).kids.getD j 0).toNat).kind=1∧(nd t ((nd t i).kids.getD j 0).toNat).n < 0
   ·simp [h7 _ k e.1 e.2]
   ·cases l:((nd t ((nd t i).kids.getD j 0).toNat).kind == 1)
    ·rfl
    ·have:¬ (nd t ((nd t i).kids.getD j 0).toNat).n < 0:=fun h=>e ⟨by simpa using l,h⟩
     simp only [this,decide_false,Bool.and_false,Bool.false_and,Bool.not_false]
theorem nW (t:Tr)(i:Nat):formed t i=true↔ED (nd t i) (kinds t (nd t i).kids)=true∧within (nd t i).at_ 0 2000=true∧∀ c ∈ (nd t i).kids,0≤c∧c≤(i:Int) - 1:=by
 unfold formed ED
 cases shapeOf (nd t i).kind (nd t i).n with
 | none=>simp
 | some s =>
  simp only [aaS,aaR];constructor
  ·rintro⟨⟨⟨⟨⟨h1,h2⟩,h3⟩,h4⟩,h5⟩,h6⟩
   exact⟨⟨⟨⟨h2,h3⟩,h5⟩,h6⟩,h1,fun c a=>by simpa [within] using h4 c a⟩
  ·rintro⟨⟨⟨⟨h2,h3⟩,h5⟩,h6⟩,h1,h4⟩
   exact⟨⟨⟨⟨⟨h1,h2⟩,h3⟩,fun c a=>by simpa [within] using h4 c a⟩,h5⟩,h6⟩
theorem wR (g:Nat→Int→Option Nat):∀ l:List Int,l.foldl (fun (o:Option Nat) c=>o.bind fun x=>g x c) none=none
 | []=>rfl
 | _ :: r=>wR g r
theorem Jc {t:Tr}{g:Nat→Int→Option Nat}:∀ (l:List Int) (a y:Nat),(∀ c ∈ l,∀ x z,g x c=some z→0≤c∧z=c.toNat+1∧∃ n,t.nodes[c.toNat]? = some n∧Fo t.nodes x c.toNat n.kids) →
  l.foldl (fun (o:Option Nat) c=>o.bind fun x=>g x c) (some a)=some y→Fo t.nodes a y l
 | [],a,y,_,h=>by
  have:a=y:=aaP h
  subst this;exact .nil _
 | c :: r,a,y,hg,h=>by
  rw [List.foldl_cons,Option.bind_some] at h
  rcases b:g a c with _ | z
  ·rw [b,wR] at h;cases h
  ·rw [b] at h
   obtain⟨h0,rfl,n,e,i⟩:=hg c (List.mem_cons_self ..) a z b;have h1:=Fo.one i e;have f:((c.toNat:Nat):Int)=c:=by omega
   rw [f] at h1
   exact h1.append (Jc r _ y (fun d hd=>hg d (List.mem_cons_of_mem _ hd)) h)
theorem UU {t:Tr}(j:∀ (i:Nat) n,t.nodes[i]? = some n→∀ c ∈ n.kids,0≤c∧c≤(i:Int) - 1):∀ (f i:Nat) (root:Bool) (next x:Nat) n,t.nodes[i]? = some n→walk t f i root next=some x→x=i+1∧Fo t.nodes next i n.kids∧eP n.kind=root
 | 0,_,_,_,_,_,_,h=>by cases h
 | f+1,i,root,next,x,n,e,h=>by
  unfold walk at h
  rw [kH e] at h
  have r:=(aaE.1 e).1;rcases d:n.kids.foldl (fun (o:Option Nat) c=>o.bind fun x=>walk t f c.toNat false x) (some next) with _ | y
  ·rw [d] at h;cases h
  ·rw [d] at h
   have a:=Jc n.kids next y (fun c m x z q=>by
    have h1:=j i n e c m;have b:c.toNat < t.nodes.length:=by omega
    have g:=aaD b;obtain⟨k,l,_⟩:=UU j f c.toNat false x z _ g q;exact⟨h1.1,k,_,g,l⟩) d
   by_cases h1:i=y
   ·subst h1;by_cases h2:eP n.kind=root
    ·simp only [if_pos h2] at h
     exact⟨(aaP h).symm,a,h2⟩
    ·simp [h2] at h
   ·simp only [if_neg h1] at h;cases h
theorem fo_walk {t:Tr}(d:∀ (i:Nat) n,t.nodes[i]? = some n→∀ c ∈ n.kids,eP (nd t c.toNat).kind=false){a b:Nat}{as:List Int}(h:Fo t.nodes a b as):∀ f,b≤f→(∀ c ∈ as,eP (nd t c.toNat).kind=false)→as.foldl (fun (o:Option Nat) c=>o.bind fun x=>walk t f c.toNat false x) (some a)=some b:=by
 induction h with
 | nil=>intro f _ _;rfl
 | @snoc a m b as n h k e ih jh =>
  intro f l hi;have h8:=k.le;obtain⟨f,rfl⟩:∃ g,f=g+1:=⟨f - 1,by omega⟩;rw [List.foldl_append,ih _ (by omega) (fun c j=>hi c (List.mem_append_left _ j))];simp only [List.foldl_cons,List.foldl_nil,Option.bind_some,aaQ];unfold walk;rw [kH e,jh f (by omega) (d b n e)]
  have:=hi (b:Int) (List.mem_append_right _ (List.mem_singleton.2 rfl))
  rw [aaQ,kH e] at this
  simp [this]
theorem RH {t:Tr}(d:∀ (i:Nat) n,t.nodes[i]? = some n→∀ c ∈ n.kids,eP (nd t c.toNat).kind=false){a b:Nat}{as:List Int}(h:Fo t.nodes a b as):(∀ c ∈ as,eP (nd t c.toNat).kind=true) →
  as.foldl (fun (o:Option Nat) (i:Int)=>o.bind fun x=>if within i x ((t.nodes.length:Int) - 1)=true then walk t (i.toNat+1) i.toNat true x else none) (some a)=some b:=by
 induction h with
 | nil=>intro _;rfl
 | @snoc a m b as n h k e ih jh =>
  intro hi;have h8:=k.le;have g:=(aaE.1 e).1;rw [List.foldl_append,ih (fun c f=>hi c (List.mem_append_left _ f))];simp only [List.foldl_cons,List.foldl_nil,Option.bind_some,aaQ];rw [if_pos (by simp [within];omega)];unfold walk;rw [kH e,fo_walk d k b (aaJ _) (d b n e)]
  have:=hi (b:Int) (List.mem_append_right _ (List.mem_singleton.2 rfl))
  rw [aaQ,kH e] at this
  simp [this]
theorem Al {t:Tr}(A:∀ (i:Nat) n,t.nodes[i]? = some n→∀ c ∈ n.kids,0≤c∧c≤(i:Int) - 1)(h:ordered t=true):qV t:=by
 unfold ordered at h
 rcases f:t.items.foldl (fun (o:Option Nat) (i:Int)=>o.bind fun x=>if within i x ((t.nodes.length:Int) - 1)=true then walk t (i.toNat+1) i.toNat true x else none) (some 0) with _ | y
 ·rw [f] at h;cases h
 ·rw [f] at h
  have:y=t.nodes.length:=by simpa using h
  subst this
  have u:∀ (c:Int) (x z:Nat),(if within c x ((t.nodes.length:Int) - 1)=true then walk t (c.toNat+1) c.toNat true x else none)=some z→0≤c∧z=c.toNat+1∧eP (nd t c.toNat).kind=true∧∃ n,t.nodes[c.toNat]? = some n∧Fo t.nodes x c.toNat n.kids:=by
   intro c x z b;split at b
   ·rename_i B
    simp only [within,aaS,decide_eq_true_eq] at B
    have q:c.toNat < t.nodes.length:=by omega
    have j:=aaD q;obtain⟨k,m,w⟩:=UU A _ c.toNat true x z _ j b
    refine⟨by omega,k,?_,_,j,m⟩
    rw [kH j];exact w
   ·cases b
  refine⟨Jc (g:=fun x c=>if within c x ((t.nodes.length:Int) - 1)=true then walk t (c.toNat+1) c.toNat true x else none) t.items 0 _ (fun c _ x z b=>?_) f,?_⟩
  ·obtain⟨v,k,_,m⟩:=u c x z b;exact⟨v,k,m⟩
  ·
   have:∀ (l:List Int) (a y:Nat),l.foldl (fun (o:Option Nat) (i:Int)=>o.bind fun x=>if within i x ((t.nodes.length:Int) - 1)=true then walk t (i.toNat+1) i.toNat true x else none) (some a)=some y→∀ c ∈ l,eP (nd t c.toNat).kind=true:=by
    intro l
    induction l with
    | nil=>intro a y _ c e;cases e
    | cons d r C =>
     intro a y h c e;rw [List.foldl_cons,Option.bind_some] at h
     rcases b:(if within d a ((t.nodes.length:Int) - 1)=true then walk t (d.toNat+1) d.toNat true a else none) with _ | z
     ·rw [b,wR (fun x c=>if within c x ((t.nodes.length:Int) - 1)=true then walk t (c.toNat+1) c.toNat true x else none)] at h;cases h
     ·rw [b] at h
      rcases List.mem_cons.1 e with rfl | e
      ·exact (u _ _ _ b).2.2.1
      ·exact C _ _ h c e
   exact this _ _ _ f
theorem aah {n:Nd}{j k:Nat}(h:mJ n j k=true):eP k=false:=by
 have:lq k=true∨iH k=true∨k=25∨k=34∨k=1:=by
  unfold mJ at h
  split at h
  ·exact .inr (.inr (.inl (by simpa using h)))
  ·split at h
   ·exact .inr (.inr (.inr (.inl (by simpa using h))))
   ·split at h
    ·exact .inr (.inl h)
    ·split at h
     ·exact .inr (.inr (.inr (.inr (by simpa using h))))
     ·split at h
      ·split at h
       ·exact .inl h
       ·split at h
        ·exact .inr (.inl h)
        ·exact .inr (.inr (.inr (.inl (by simpa using h))))
      ·exact .inl h
 simp only [lq,iH,aaS,decide_eq_true_eq] at this
 simp [eP];omega
theorem Ce (t:Tr)(R:∀ n ∈ t.nodes,jq≤n.n∧n.n≤gq)(U:t.nodes.length≤801):((List.range t.nodes.length).all (formed t)=true∧ordered t=true∧signed t=true)↔kE t=true:=by
 have v:∀ i,i < t.nodes.length→jq≤(nd t i).n∧(nd t i).n≤gq:=fun i hi=>R _ (aaM (Cw hi))
 have g:∀ i,(nd t i).kids.length=(kinds t (nd t i).kids).length:=fun i=>by simp [kinds]
 rw [rR];constructor
 ·rintro⟨h1,h2,h3⟩
  have E:∀ i,i < t.nodes.length→formed t i=true:=fun i hi=>aaR.1 h1 i (List.mem_range.2 hi)
  have x:∀ (i:Nat) n,t.nodes[i]? = some n→∀ c ∈ n.kids,0≤c∧c≤(i:Int) - 1:=fun i n e=>by
   have:=((nW t i).1 (E i (aaE.1 e).1)).2.2
   rwa [kH e] at this
  have a:=Al x h2
  refine⟨a,fun i hi=>?_⟩
  obtain⟨J,K,_⟩:=(nW t i).1 (E i hi);refine (Eo t i).2 ⟨(Dg _ _ (g i) (v i hi)).1 J,K,fun c k H A=>?_⟩;have N:=x i _ (Cw hi) c k;have F:=aaR.1 h3 c.toNat (List.mem_range.2 (by omega));simp [H,A] at F
  obtain⟨d,hd,B,L⟩:=F;have P:=a.fo.ids d hd;have M:((c.toNat:Nat):Int)=c:=by omega
  have C:c ∈ (nd t d.toNat).kids:=(show max c 0=c by omega) ▸ L
  have:=a.fo.Ae (i:=i) (j:=d.toNat) hi (by omega) (Cw hi) (Cw (by omega)) k C
  rw [this];exact B
 ·rintro⟨a,h1⟩
  have w:∀ i,i < t.nodes.length→_:=fun i hi=>(Eo t i).1 (h1 i hi)
  have x:∀ (i:Nat),i < t.nodes.length→∀ c ∈ (nd t i).kids,0≤c∧c≤(i:Int) - 1:=fun i hi c k=>by
   obtain⟨n,m,e,_,f⟩:=a.fo.each i (aaL _) hi;rw [kH e] at k
   have:=f.ids c k
   omega
  have u:∀ (i:Nat) n,t.nodes[i]? = some n→∀ c ∈ n.kids,eP (nd t c.toNat).kind=false:=fun i n e c k=>by
   have hi:=(aaE.1 e).1;obtain⟨j,r,rfl⟩:=List.getElem_of_mem k;have D:=(w i hi).1.2.2.2.2.2 j (by rw [← g i,kH e];exact r);rw [kH e] at D
   have I:(kinds t n.kids).getD j 0=(nd t (n.kids[j]).toNat).kind:=by simp [kinds,aaH,aaD r]
   rw [I] at D
   exact aah D
  refine⟨?_,?_,?_⟩
  ·rw [aaR];intro i hi;have hi:=List.mem_range.1 hi;refine (nW t i).2 ⟨(Dg _ _ (g i) (v i hi)).2 ?_ (w i hi).1,(w i hi).2.1,x i hi⟩;rw [← g i];obtain⟨n,m,e,_,f⟩:=a.fo.each i (aaL _) hi;rw [kH e]
   have:=f.len
   omega
  ·unfold ordered;rw [RH u a.fo a.item];simp
  ·unfold signed;rw [aaR];intro i hi;have hi:=List.mem_range.1 hi;by_cases y:(nd t i).kind=1∧(nd t i).n < 0
   ·have l:(i:Int) ∉ t.items:=fun h=>by
     have:=a.item _ h
     rw [aaQ] at this
     simp [eP,y.1] at this
    rcases a.fo.parent i (aaL _) hi with h | ⟨j,n,_,r,e,o⟩
    ·exact absurd h l
    ·have G:=(w j r).2.2 (i:Int) (by rw [kH e];exact o) (by rw [aaQ];exact y.1) (by rw [aaQ];exact y.2)
     have b:(j:Int) ∈ t.items:=by
      rcases a.fo.parent j (aaL _) r with h | ⟨S,T,_,Q,A,q⟩
      ·exact h
      ·exfalso
       have:=u S T A _ q
       rw [aaQ] at this
       simp [eP,G] at this
     simp only [Bool.or_eq_true,List.any_eq_true,aaS];refine .inr ⟨(j:Int),b,?_,?_⟩
     ·rw [aaQ,G];rfl
     ·rw [aaQ,kH e];simpa using o
   ·simp only [Bool.or_eq_true];left
    cases hy:((nd t i).kind == 1 && decide ((nd t i).n < 0))
    ·rfl
    ·exfalso;apply y;simpa using hy
theorem I4 {t:Tr}{i:Nat}(c:je t i=true):sized t (nd t i)=gD t (nd t i):=by
 have a:=((Eo t i).1 c).1.2.2.2.1;unfold sized gD;by_cases b:(nd t i).kind=40
 ·rw [if_pos b,if_pos b];rw [aaI];simp [within];omega
 rw [if_neg b,if_neg b];by_cases h46:(nd t i).kind=46
 ·simp only [h46];simp [jC,h46] at a
  by_cases h7:(nd t i).n=7
  ·simp [h7] at a;simp [h7,a]
  ·by_cases h8:(nd t i).n=8
   ·simp [h8]
   ·simp [h7,h8] at a;simp [a]
 ·simp [h46]
end Mist
