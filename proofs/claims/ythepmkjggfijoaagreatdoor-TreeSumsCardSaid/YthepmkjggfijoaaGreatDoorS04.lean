/-
  A part of the proof.
-/
import Derived.Test.YthepmkjggfijoaaGreatDoorSA
import Derived.Test.YthepmkjggfijoaaGreatDoorS03
set_option linter.all false
set_option maxRecDepth 100000
namespace Mist
theorem kH {t:Tr}{i:Nat}{n:Nd}(h:t.nodes[i]? = some n):nd t i=n:=by simp [nd,aaH,h]
theorem Cw {t:Tr}{i:Nat}(h:i < t.nodes.length):t.nodes[i]? = some (nd t i):=by
 rw [aaD h];simp [nd,aaH,aaD h]
theorem N_ (ks:List Nat):fits [] ks=true↔ks.length=0:=by
 simp [fits]
theorem Oa (a b:Int)(p:Pd)(ks:List Nat):fits [⟨a,b,p⟩] ks=true↔(a≤(ks.length:Int)∧(ks.length:Int)≤b)∧∀ j,j < ks.length→p.is (ks.getD j 0)=true:=by
 have e:((ks.length:Int) - lM []).toNat=ks.length:=by simp [lM]
 have e2:(ks.length:Int) - lM []=(ks.length:Int):=by simp [lM]
 unfold fits;simp only [e];rw [List.take_length,List.drop_length];simp only [aaS,within,decide_eq_true_eq,e2,aaR,fits,List.isEmpty_nil,and_true];constructor
 ·rintro⟨h1,h2⟩
  exact⟨h1,fun j hj=>by rw [aaH,aaD hj];exact h2 _ (List.getElem_mem hj)⟩
 ·rintro⟨h1,h2⟩
  refine⟨h1,fun x hx=>?_⟩
  obtain⟨j,hj,rfl⟩:=List.getElem_of_mem hx
  have:=h2 j hj
  rwa [aaH,aaD hj] at this
theorem NZ (ks:List Nat):fits [⟨0,801,.param⟩,⟨1,1,.typ⟩,⟨1,1,.expr⟩] ks=true↔(2≤ks.length∧ks.length≤803)∧∀ j,j < ks.length→(if j+1=ks.length then lq (ks.getD j 0) else if j+2=ks.length then iH (ks.getD j 0) else decide (ks.getD j 0=34))=true:=by
 rcases Nat.lt_or_ge ks.length 2 with h2 | h2
 ·constructor
  ·intro h;unfold fits at h
   simp only [aaS,within,lM] at h
   simp at h
   omega
  ·rintro⟨⟨h,_⟩,_⟩;omega
 obtain⟨a,x,y,rfl⟩:∃ (a:List Nat) (x y:Nat),ks=a ++ [x,y]:=by
  refine⟨ks.take (ks.length - 2),ks[ks.length - 2],ks[ks.length - 1],?_⟩
  have e1:=List.take_append_drop (ks.length - 2) ks
  have e2:ks.drop (ks.length - 2)=[ks[ks.length - 2],ks[ks.length - 1]]:=by
   rw [aaX (by omega),aaX (by omega),List.drop_of_length_le (by omega)]
   have:ks.length - 2+1=ks.length - 1:=by omega
   simp only [this]
  rw [← e2];exact e1.symm
 have l1:(a ++ [x,y]).length=a.length+2:=by simp
 have e:(((a ++ [x,y]).length:Int) - lM [⟨1,1,.typ⟩,⟨1,1,.expr⟩]).toNat=a.length:=by rw [l1];simp [lM]
 have e0:((a ++ [x,y]).length:Int) - lM [⟨1,1,.typ⟩,⟨1,1,.expr⟩]=(a.length:Int):=by rw [l1];simp [lM]
 have key:fits [⟨0,801,.param⟩,⟨1,1,.typ⟩,⟨1,1,.expr⟩] (a ++ [x,y])=(within (a.length:Int) 0 801 && (a.all Pd.param.is && (iH x && lq y))):=by
  rw [fits];simp only [e];rw [e0,List.take_left,List.drop_left]
  congr 2
  simp [fits,lM,within,Pd.is]
 rw [key];simp only [aaS,within,decide_eq_true_eq,aaR,Pd.is];constructor
 ·rintro⟨⟨_,h3⟩,h4,h5,h6⟩
  refine⟨⟨by omega,by rw [l1];omega⟩,fun j hj=>?_⟩
  rw [l1] at hj ⊢
  by_cases c1:j=a.length+1
  ·subst c1;rw [if_pos rfl];simpa [aaH] using h6
  ·by_cases c2:j=a.length
   ·subst c2;rw [if_neg (by omega),if_pos rfl];simpa [aaH] using h5
   ·rw [if_neg (by omega),if_neg (by omega)];have hj2:j < a.length:=by omega
    have:=h4 a[j] (List.getElem_mem hj2)
    simpa [aaH,List.getElem?_append_left hj2,aaD hj2] using this
 ·rintro⟨⟨_,h3⟩,h4⟩
  rw [l1] at h3 h4
  refine⟨⟨by omega,by omega⟩,fun z hz=>?_,?_,?_⟩
  ·obtain⟨j,hj,rfl⟩:=List.getElem_of_mem hz
   have:=h4 j (by omega)
   rw [if_neg (by omega),if_neg (by omega)] at this
   simpa [aaH,List.getElem?_append_left hj,aaD hj] using this
  ·have:=h4 a.length (by omega)
   rw [if_neg (by omega),if_pos rfl] at this
   simpa [aaH] using this
  ·have:=h4 (a.length+1) (by omega)
   rw [if_pos rfl] at this
   simpa [aaH] using this
def ED (n:Nd)(ks:List Nat):Bool :=
 match shapeOf n.kind n.n with
 | none=>false
 | some s=>(s.named == !n.text.isEmpty) && (!s.named || isName n.text) && fits s.parts ks && (within n.n s.low s.high || (n.kind == 1 && within n.n (-9999) (-1)))
def zP (n:Nd)(ks:List Nat):Prop :=
 known n.kind=true∧(ig n.kind == isName n.text)=true∧(ig n.kind || n.text.isEmpty)=true∧jC n=true∧gu n=true∧∀ j,j < ks.length→mJ n j (ks.getD j 0)=true
theorem b_ {n:Nd}{ks:List Nat}{nm:Bool}{lo hi:Int}{ps:List Part}{M Nu:Bool}(hs:shapeOf n.kind n.n=some ⟨nm,lo,hi,ps⟩)(hk:known n.kind=true)(hnm:ig n.kind=nm)
  (hM:jC n=M) (hN:gu n=Nu)
  (f1:fits ps ks=true→M=true∧∀ j,j < ks.length→mJ n j (ks.getD j 0)=true)
  (f2:ks.length≤801→M=true→(∀ j,j < ks.length→mJ n j (ks.getD j 0)=true)→fits ps ks=true)
  (w:(within n.n lo hi || (n.kind == 1 && within n.n (-9999) (-1)))=Nu) :
  (ED n ks=true→zP n ks)∧(ks.length≤801→zP n ks→ED n ks=true):=by
 have hem:n.text.isEmpty=true→isName n.text=false:=fun h=>by rw [List.isEmpty_iff.1 h];decide
 unfold ED zP;simp only [hs,hk,hnm,hM,hN,w];constructor
 ·intro h;simp only [aaS] at h
  obtain⟨⟨⟨h1,h2⟩,h3⟩,h4⟩:=h;obtain⟨g1,g2⟩:=f1 h3
  refine⟨trivial,?_,?_,g1,h4,g2⟩
  ·cases nm
   ·have:n.text.isEmpty=true:=by simpa using h1
    rw [hem this];rfl
   ·have:isName n.text=true:=by simpa using h2
    rw [this];rfl
  ·cases nm
   ·simpa using h1
   ·rfl
 ·rintro hl⟨_,h1,h2,h3,h4,h5⟩;simp only [aaS]
  refine⟨⟨⟨?_,?_⟩,f2 hl h3 h5⟩,h4⟩
  ·cases nm
   ·simpa using h2
   ·have:isName n.text=true:=by simpa using h1
    cases hx:n.text.isEmpty
    ·rfl
    ·rw [hem hx] at this;cases this
  ·cases nm
   ·rfl
   ·simpa using h1
theorem jV {a b:Int}{p:Pd}{ks:List Nat}{n:Nd}{M:Bool}(hk:∀ j k,mJ n j k=p.is k)(h1:a≤(ks.length:Int)→(ks.length:Int)≤b→M=true)(h2:ks.length≤801→M=true→a≤(ks.length:Int)∧(ks.length:Int)≤b) :
  (fits [⟨a,b,p⟩] ks=true→M=true∧∀ j,j < ks.length→mJ n j (ks.getD j 0)=true)∧(ks.length≤801→M=true→(∀ j,j < ks.length→mJ n j (ks.getD j 0)=true)→fits [⟨a,b,p⟩] ks=true):=by
 constructor
 ·intro h;rw [Oa] at h
  exact⟨h1 h.1.1 h.1.2,fun j hj=>by rw [hk];exact h.2 j hj⟩
 ·intro hl hm h;rw [Oa];exact⟨h2 hl hm,fun j hj=>by rw [← hk j];exact h j hj⟩
theorem EI {ks:List Nat}{n:Nd}{M:Bool}(h1:ks.length=0↔M=true) :
  (fits [] ks=true→M=true∧∀ j,j < ks.length→mJ n j (ks.getD j 0)=true)∧(ks.length≤801→M=true→(∀ j,j < ks.length→mJ n j (ks.getD j 0)=true)→fits [] ks=true):=by
 constructor
 ·intro h;rw [N_] at h
  exact⟨h1.1 h,fun j hj=>by omega⟩
 ·intro _ hm _;rw [N_];exact h1.2 hm
theorem dw (N:Int):(within N 0 0 || false)=(N == 0):=by
 rw [aaI];simp [within];omega
theorem Dg (n:Nd)(ks:List Nat)(hl:n.kids.length=ks.length)(hn:jq≤n.n∧n.n≤gq):(ED n ks=true→zP n ks)∧(ks.length≤801→zP n ks→ED n ks=true):=by
 obtain⟨k,x,N,kids,a⟩:=n;simp only at hl hn
 have hcase:(k=0∨(27≤k∧k≤29)∨(35≤k∧k≤39)∨47≤k)∨k=1∨k=2∨(k=3∨k=32∨k=45)∨(k=4∨k=5)∨(k=6∨k=7∨k=8∨k=9∨k=10∨k=11∨k=12∨k=13∨k=14∨k=15∨k=16∨k=17∨k=18∨k=23)∨k=19∨k=20∨k=21∨(k=22∨k=25∨k=43∨k=44)∨k=24∨k=26∨(k=30∨k=31)∨k=33∨k=34∨k=40∨k=41∨k=42∨k=46:=by omega
 rcases hcase with h | rfl | rfl | h | h | h | rfl | rfl | rfl | h | rfl | rfl | h | rfl | rfl | rfl | rfl | rfl | rfl
 ·
  have e:shapeOf k N=none:=by
   unfold shapeOf
   repeat (rw [if_neg (by omega)])
  have e2:known k=false:=by
   simp [known,lq,iH,eP];omega
  constructor
  ·intro h;unfold ED at h;simp only [e] at h;cases h
  ·rintro _⟨h1,_⟩;simp only [e2] at h1;cases h1
 ·obtain⟨f1,f2⟩:=EI (ks:=ks) (n:=⟨1,x,N,kids,a⟩) (M:=kids.length == 0) (by rw [hl];simp);exact b_ (Nu:=within N (-9999) 9999) rfl rfl rfl rfl rfl f1 f2 (by rw [aaI];simp [within];omega)
 ·obtain⟨f1,f2⟩:=EI (ks:=ks) (n:=⟨2,x,N,kids,a⟩) (M:=kids.length == 0) (by rw [hl];simp);exact b_ (Nu:=within N 0 1) rfl rfl rfl rfl rfl f1 f2 (by rw [aaI];simp [within])
 ·rcases h with rfl | rfl | rfl
  ·obtain⟨f1,f2⟩:=EI (ks:=ks) (n:=⟨3,x,N,kids,a⟩) (M:=kids.length == 0) (by rw [hl];simp);exact b_ (Nu:=N == 0) rfl rfl rfl rfl rfl f1 f2 (dw N)
  ·obtain⟨f1,f2⟩:=EI (ks:=ks) (n:=⟨32,x,N,kids,a⟩) (M:=kids.length == 0) (by rw [hl];simp);exact b_ (Nu:=N == 0) rfl rfl rfl rfl rfl f1 f2 (dw N)
  ·obtain⟨f1,f2⟩:=EI (ks:=ks) (n:=⟨45,x,N,kids,a⟩) (M:=kids.length == 0) (by rw [hl];simp);exact b_ (Nu:=N == 0) rfl rfl rfl rfl rfl f1 f2 (dw N)
 ·rcases h with rfl | rfl
  ·obtain⟨f1,f2⟩:=jV (a:=1) (b:=1) (p:=.expr) (ks:=ks) (n:=⟨4,x,N,kids,a⟩) (M:=kids.length == 1) (fun _ _=>rfl) (by rw [hl];simp;omega) (by rw [hl];simp;omega);exact b_ (Nu:=N == 0) rfl rfl rfl rfl rfl f1 f2 (dw N)
  ·obtain⟨f1,f2⟩:=jV (a:=1) (b:=1) (p:=.expr) (ks:=ks) (n:=⟨5,x,N,kids,a⟩) (M:=kids.length == 1) (fun _ _=>rfl) (by rw [hl];simp;omega) (by rw [hl];simp;omega);exact b_ (Nu:=N == 0) rfl rfl rfl rfl rfl f1 f2 (dw N)
 ·rcases h with rfl | rfl | rfl | rfl | rfl | rfl | rfl | rfl | rfl | rfl | rfl | rfl | rfl | rfl
  ·obtain⟨f1,f2⟩:=jV (a:=2) (b:=2) (p:=.expr) (ks:=ks) (n:=⟨6,x,N,kids,a⟩) (M:=kids.length == 2) (fun _ _=>rfl) (by rw [hl];simp;omega) (by rw [hl];simp;omega);exact b_ (Nu:=N == 0) rfl rfl rfl rfl rfl f1 f2 (dw N)
  ·obtain⟨f1,f2⟩:=jV (a:=2) (b:=2) (p:=.expr) (ks:=ks) (n:=⟨7,x,N,kids,a⟩) (M:=kids.length == 2) (fun _ _=>rfl) (by rw [hl];simp;omega) (by rw [hl];simp;omega);exact b_ (Nu:=N == 0) rfl rfl rfl rfl rfl f1 f2 (dw N)
  ·obtain⟨f1,f2⟩:=jV (a:=2) (b:=2) (p:=.expr) (ks:=ks) (n:=⟨8,x,N,kids,a⟩) (M:=kids.length == 2) (fun _ _=>rfl) (by rw [hl];simp;omega) (by rw [hl];simp;omega);exact b_ (Nu:=N == 0) rfl rfl rfl rfl rfl f1 f2 (dw N)
  ·obtain⟨f1,f2⟩:=jV (a:=2) (b:=2) (p:=.expr) (ks:=ks) (n:=⟨9,x,N,kids,a⟩) (M:=kids.length == 2) (fun _ _=>rfl) (by rw [hl];simp;omega) (by rw [hl];simp;omega);exact b_ (Nu:=N == 0) rfl rfl rfl rfl rfl f1 f2 (dw N)
  ·obtain⟨f1,f2⟩:=jV (a:=2) (b:=2) (p:=.expr) (ks:=ks) (n:=⟨10,x,N,kids,a⟩) (M:=kids.length == 2) (fun _ _=>rfl) (by rw [hl];simp;omega) (by rw [hl];simp;omega);exact b_ (Nu:=N == 0) rfl rfl rfl rfl rfl f1 f2 (dw N)
  ·obtain⟨f1,f2⟩:=jV (a:=2) (b:=2) (p:=.expr) (ks:=ks) (n:=⟨11,x,N,kids,a⟩) (M:=kids.length == 2) (fun _ _=>rfl) (by rw [hl];simp;omega) (by rw [hl];simp;omega);exact b_ (Nu:=N == 0) rfl rfl rfl rfl rfl f1 f2 (dw N)
  ·obtain⟨f1,f2⟩:=jV (a:=2) (b:=2) (p:=.expr) (ks:=ks) (n:=⟨12,x,N,kids,a⟩) (M:=kids.length == 2) (fun _ _=>rfl) (by rw [hl];simp;omega) (by rw [hl];simp;omega);exact b_ (Nu:=N == 0) rfl rfl rfl rfl rfl f1 f2 (dw N)
  ·obtain⟨f1,f2⟩:=jV (a:=2) (b:=2) (p:=.expr) (ks:=ks) (n:=⟨13,x,N,kids,a⟩) (M:=kids.length == 2) (fun _ _=>rfl) (by rw [hl];simp;omega) (by rw [hl];simp;omega);exact b_ (Nu:=N == 0) rfl rfl rfl rfl rfl f1 f2 (dw N)
  ·obtain⟨f1,f2⟩:=jV (a:=2) (b:=2) (p:=.expr) (ks:=ks) (n:=⟨14,x,N,kids,a⟩) (M:=kids.length == 2) (fun _ _=>rfl) (by rw [hl];simp;omega) (by rw [hl];simp;omega);exact b_ (Nu:=N == 0) rfl rfl rfl rfl rfl f1 f2 (dw N)
  ·obtain⟨f1,f2⟩:=jV (a:=2) (b:=2) (p:=.expr) (ks:=ks) (n:=⟨15,x,N,kids,a⟩) (M:=kids.length == 2) (fun _ _=>rfl) (by rw [hl];simp;omega) (by rw [hl];simp;omega);exact b_ (Nu:=N == 0) rfl rfl rfl rfl rfl f1 f2 (dw N)
  ·obtain⟨f1,f2⟩:=jV (a:=2) (b:=2) (p:=.expr) (ks:=ks) (n:=⟨16,x,N,kids,a⟩) (M:=kids.length == 2) (fun _ _=>rfl) (by rw [hl];simp;omega) (by rw [hl];simp;omega);exact b_ (Nu:=N == 0) rfl rfl rfl rfl rfl f1 f2 (dw N)
  ·obtain⟨f1,f2⟩:=jV (a:=2) (b:=2) (p:=.expr) (ks:=ks) (n:=⟨17,x,N,kids,a⟩) (M:=kids.length == 2) (fun _ _=>rfl) (by rw [hl];simp;omega) (by rw [hl];simp;omega);exact b_ (Nu:=N == 0) rfl rfl rfl rfl rfl f1 f2 (dw N)
  ·obtain⟨f1,f2⟩:=jV (a:=2) (b:=2) (p:=.expr) (ks:=ks) (n:=⟨18,x,N,kids,a⟩) (M:=kids.length == 2) (fun _ _=>rfl) (by rw [hl];simp;omega) (by rw [hl];simp;omega);exact b_ (Nu:=N == 0) rfl rfl rfl rfl rfl f1 f2 (dw N)
  ·obtain⟨f1,f2⟩:=jV (a:=2) (b:=2) (p:=.expr) (ks:=ks) (n:=⟨23,x,N,kids,a⟩) (M:=kids.length == 2) (fun _ _=>rfl) (by rw [hl];simp;omega) (by rw [hl];simp;omega);exact b_ (Nu:=N == 0) rfl rfl rfl rfl rfl f1 f2 (dw N)
 ·obtain⟨f1,f2⟩:=jV (a:=3) (b:=3) (p:=.expr) (ks:=ks) (n:=⟨19,x,N,kids,a⟩) (M:=kids.length == 3) (fun _ _=>rfl) (by rw [hl];simp;omega) (by rw [hl];simp;omega);exact b_ (Nu:=N == 0) rfl rfl rfl rfl rfl f1 f2 (dw N)
 ·obtain⟨f1,f2⟩:=jV (a:=2) (b:=2) (p:=.expr) (ks:=ks) (n:=⟨20,x,N,kids,a⟩) (M:=kids.length == 2) (fun _ _=>rfl) (by rw [hl];simp;omega) (by rw [hl];simp;omega);exact b_ (Nu:=N == 0) rfl rfl rfl rfl rfl f1 f2 (dw N)
 ·obtain⟨f1,f2⟩:=jV (a:=0) (b:=801) (p:=.expr) (ks:=ks) (n:=⟨21,x,N,kids,a⟩) (M:=true) (fun _ _=>rfl) (fun _ _=>rfl) (fun _ _=>by omega);exact b_ (Nu:=N == 0) rfl rfl rfl rfl rfl f1 f2 (dw N)
 ·rcases h with rfl | rfl | rfl | rfl
  ·obtain⟨f1,f2⟩:=jV (a:=1) (b:=1) (p:=.expr) (ks:=ks) (n:=⟨22,x,N,kids,a⟩) (M:=kids.length == 1) (fun _ _=>rfl) (by rw [hl];simp;omega) (by rw [hl];simp;omega);exact b_ (Nu:=N == 0) rfl rfl rfl rfl rfl f1 f2 (dw N)
  ·obtain⟨f1,f2⟩:=jV (a:=1) (b:=1) (p:=.expr) (ks:=ks) (n:=⟨25,x,N,kids,a⟩) (M:=kids.length == 1) (fun _ _=>rfl) (by rw [hl];simp;omega) (by rw [hl];simp;omega);exact b_ (Nu:=N == 0) rfl rfl rfl rfl rfl f1 f2 (dw N)
  ·obtain⟨f1,f2⟩:=jV (a:=1) (b:=1) (p:=.expr) (ks:=ks) (n:=⟨43,x,N,kids,a⟩) (M:=kids.length == 1) (fun _ _=>rfl) (by rw [hl];simp;omega) (by rw [hl];simp;omega);exact b_ (Nu:=N == 0) rfl rfl rfl rfl rfl f1 f2 (dw N)
  ·obtain⟨f1,f2⟩:=jV (a:=1) (b:=1) (p:=.expr) (ks:=ks) (n:=⟨44,x,N,kids,a⟩) (M:=kids.length == 1) (fun _ _=>rfl) (by rw [hl];simp;omega) (by rw [hl];simp;omega);exact b_ (Nu:=N == 0) rfl rfl rfl rfl rfl f1 f2 (dw N)
 ·obtain⟨f1,f2⟩:=jV (a:=1) (b:=801) (p:=.put) (ks:=ks) (n:=⟨24,x,N,kids,a⟩) (M:=decide (1≤kids.length)) (fun _ _=>rfl) (by rw [hl];simp;omega) (by rw [hl];simp;omega);exact b_ (Nu:=N == 0) rfl rfl rfl rfl rfl f1 f2 (dw N)
 ·obtain⟨f1,f2⟩:=jV (a:=1) (b:=801) (p:=.expr) (ks:=ks) (n:=⟨26,x,N,kids,a⟩) (M:=decide (1≤kids.length)) (fun _ _=>rfl) (by rw [hl];simp;omega) (by rw [hl];simp;omega);exact b_ (Nu:=N == 0) rfl rfl rfl rfl rfl f1 f2 (dw N)
 ·rcases h with rfl | rfl
  ·obtain⟨f1,f2⟩:=EI (ks:=ks) (n:=⟨30,x,N,kids,a⟩) (M:=kids.length == 0) (by rw [hl];simp);exact b_ (Nu:=N == 0) rfl rfl rfl rfl rfl f1 f2 (dw N)
  ·obtain⟨f1,f2⟩:=EI (ks:=ks) (n:=⟨31,x,N,kids,a⟩) (M:=kids.length == 0) (by rw [hl];simp);exact b_ (Nu:=N == 0) rfl rfl rfl rfl rfl f1 f2 (dw N)
 ·obtain⟨f1,f2⟩:=jV (a:=1) (b:=1) (p:=.typ) (ks:=ks) (n:=⟨33,x,N,kids,a⟩) (M:=kids.length == 1) (fun _ _=>rfl) (by rw [hl];simp;omega) (by rw [hl];simp;omega);exact b_ (Nu:=true) rfl rfl rfl rfl rfl f1 f2 (by rw [aaI];simp [within];exact hn)
 ·obtain⟨f1,f2⟩:=jV (a:=1) (b:=1) (p:=.typ) (ks:=ks) (n:=⟨34,x,N,kids,a⟩) (M:=kids.length == 1) (fun _ _=>rfl) (by rw [hl];simp;omega) (by rw [hl];simp;omega);exact b_ (Nu:=N == 0) rfl rfl rfl rfl rfl f1 f2 (dw N)
 ·obtain⟨f1,f2⟩:=jV (a:=2) (b:=2) (p:=.num) (ks:=ks) (n:=⟨40,x,N,kids,a⟩) (M:=kids.length == 2) (fun _ _=>rfl) (by rw [hl];simp;omega) (by rw [hl];simp;omega);exact b_ (Nu:=N == 0) rfl rfl rfl rfl rfl f1 f2 (dw N)
 ·obtain⟨f1,f2⟩:=jV (a:=1) (b:=801) (p:=.param) (ks:=ks) (n:=⟨41,x,N,kids,a⟩) (M:=decide (1≤kids.length)) (fun _ _=>rfl) (by rw [hl];simp;omega) (by rw [hl];simp;omega);exact b_ (Nu:=N == 0) rfl rfl rfl rfl rfl f1 f2 (dw N)
 ·refine b_ (M:=decide (2≤kids.length)) (Nu:=decide (0≤N)) (ps:=[⟨0,801,.param⟩,⟨1,1,.typ⟩,⟨1,1,.expr⟩]) rfl rfl rfl rfl rfl ?_ ?_ (by rw [aaI];simp [within];exact fun _=>hn.2)
  ·intro h;rw [NZ] at h
   refine⟨by rw [hl];exact aaU h.1.1,fun j hj=>?_⟩
   have:=h.2 j hj
   show (if (42:Nat)=24 then _ else _:Bool)=true
   simp only [mJ];rw [hl];simpa using this
  ·intro h8 hm h;rw [NZ]
   refine⟨⟨by rw [hl] at hm;simpa using hm,by omega⟩,fun j hj=>?_⟩
   have:=h j hj
   simp only [mJ] at this
   rw [hl] at this;simpa using this
 ·by_cases h7:N=7
  ·subst h7;obtain⟨f1,f2⟩:=EI (ks:=ks) (n:=⟨46,x,7,kids,a⟩) (M:=kids.length == 0) (by rw [hl];simp);exact b_ rfl rfl rfl rfl rfl f1 f2 rfl
  ·by_cases h8:N=8
   ·subst h8;obtain⟨f1,f2⟩:=jV (a:=1) (b:=801) (p:=.expr) (ks:=ks) (n:=⟨46,x,8,kids,a⟩) (M:=decide (1≤kids.length)) (fun _ _=>rfl) (by rw [hl];simp;omega) (by rw [hl];simp;omega);exact b_ rfl rfl rfl rfl rfl f1 f2 rfl
   ·obtain⟨f1,f2⟩:=jV (a:=1) (b:=1) (p:=.expr) (ks:=ks) (n:=⟨46,x,N,kids,a⟩) (M:=kids.length == 1) (fun _ _=>rfl) (by rw [hl];simp;omega) (by rw [hl];simp;omega);refine b_ (nm:=false) (lo:=1) (hi:=8) (Nu:=within N 1 8) (ps:=[⟨1,1,.expr⟩]) ?_ rfl rfl ?_ rfl f1 f2 ?_
    ·show some (asked N)=_
     unfold asked;rw [if_neg h7,if_neg h8]
    ·simp [jC,h7,h8]
    ·simp
theorem Eo (t:Tr)(i:Nat):je t i=true↔zP (nd t i) (kinds t (nd t i).kids)∧within (nd t i).at_ 0 2000=true∧∀ c ∈ (nd t i).kids,(nd t c.toNat).kind=1→(nd t c.toNat).n < 0→(nd t i).kind=40:=by
 unfold je zP known;simp only [aaS,aaR,List.mem_range];have hlen:(kinds t (nd t i).kids).length=(nd t i).kids.length:=by simp [kinds]
 have hget:∀ j,j < (nd t i).kids.length→(kinds t (nd t i).kids).getD j 0=(nd t ((nd t i).kids.getD j 0).toNat).kind:=by
  intro j hj;simp [kinds,aaH,aaD hj]
 constructor
 ·rintro⟨⟨⟨⟨⟨⟨h1,h2⟩,h3⟩,h4⟩,h5⟩,h6⟩,h7⟩
  refine⟨⟨h1,h2,h3,h4,h5,fun j hj=>?_⟩,h6,fun c hc e1 e2=>?_⟩
  ·rw [hlen] at hj;rw [hget j hj];exact (h7 j hj).1
  ·obtain⟨j,hj,rfl⟩:=List.getElem_of_mem hc
   have:=(h7 j hj).2
   rw [aaH,aaD hj,Option.getD_some] at this
   simp [e1,e2] at this
   exact this
 ·rintro⟨⟨h1,h2,h3,h4,h5,h8⟩,h6,h7⟩
  refine⟨⟨⟨⟨⟨⟨h1,h2⟩,h3⟩,h4⟩,h5⟩,h6⟩,fun j hj=>⟨?_,?_⟩⟩
  ·rw [← hget j hj];exact h8 j (by rw [hlen];exact hj)
  ·have hm:(nd t i).kids.getD j 0 ∈ (nd t i).kids:=by
    rw [aaH,aaD hj];exact List.getElem_mem hj
   by_cases e1:(nd t ((nd t i).kids.getD j 0).toNat).kind=1∧(nd t ((nd t i).kids.getD j 0).toNat).n < 0
   ·simp [h7 _ hm e1.1 e1.2]
   ·cases hx:((nd t ((nd t i).kids.getD j 0).toNat).kind == 1)
    ·rfl
    ·have:¬ (nd t ((nd t i).kids.getD j 0).toNat).n < 0:=fun h=>e1 ⟨by simpa using hx,h⟩
     simp only [this,decide_false,Bool.and_false,Bool.false_and,Bool.not_false]
theorem nW (t:Tr)(i:Nat):formed t i=true↔ED (nd t i) (kinds t (nd t i).kids)=true∧within (nd t i).at_ 0 2000=true∧∀ c ∈ (nd t i).kids,0≤c∧c≤(i:Int) - 1:=by
 unfold formed ED
 cases shapeOf (nd t i).kind (nd t i).n with
 | none=>simp
 | some s =>
  simp only [aaS,aaR];constructor
  ·rintro⟨⟨⟨⟨⟨h1,h2⟩,h3⟩,h4⟩,h5⟩,h6⟩
   exact⟨⟨⟨⟨h2,h3⟩,h5⟩,h6⟩,h1,fun c hc=>by simpa [within] using h4 c hc⟩
  ·rintro⟨⟨⟨⟨h2,h3⟩,h5⟩,h6⟩,h1,h4⟩
   exact⟨⟨⟨⟨⟨h1,h2⟩,h3⟩,fun c hc=>by simpa [within] using h4 c hc⟩,h5⟩,h6⟩
theorem wR (g:Nat→Int→Option Nat):∀ l:List Int,l.foldl (fun (o:Option Nat) c=>o.bind fun x=>g x c) none=none
 | []=>rfl
 | _ :: r=>wR g r
theorem Jc {t:Tr}{g:Nat→Int→Option Nat}:∀ (l:List Int) (a y:Nat),(∀ c ∈ l,∀ x z,g x c=some z→0≤c∧z=c.toNat+1∧∃ n,t.nodes[c.toNat]? = some n∧Fo t.nodes x c.toNat n.kids) →
  l.foldl (fun (o:Option Nat) c=>o.bind fun x=>g x c) (some a)=some y→Fo t.nodes a y l
 | [],a,y,_,h=>by
  have:a=y:=aaP h
  subst this;exact .nil _
 | c :: r,a,y,hg,h=>by
  rw [List.foldl_cons,Option.bind_some] at h
  rcases hx:g a c with _ | z
  ·rw [hx,wR] at h;cases h
  ·rw [hx] at h
   obtain⟨h0,rfl,n,e,hf⟩:=hg c (List.mem_cons_self ..) a z hx;have h1:=Fo.one hf e;have e2:((c.toNat:Nat):Int)=c:=by omega
   rw [e2] at h1
   exact h1.append (Jc r _ y (fun d hd=>hg d (List.mem_cons_of_mem _ hd)) h)
theorem UU {t:Tr}(hk:∀ (i:Nat) n,t.nodes[i]? = some n→∀ c ∈ n.kids,0≤c∧c≤(i:Int) - 1):∀ (f i:Nat) (root:Bool) (next x:Nat) n,t.nodes[i]? = some n→walk t f i root next=some x→x=i+1∧Fo t.nodes next i n.kids∧eP n.kind=root
 | 0,_,_,_,_,_,_,h=>by cases h
 | f+1,i,root,next,x,n,e,h=>by
  unfold walk at h
  rw [kH e] at h
  have hl:=(aaE.1 e).1;rcases hx:n.kids.foldl (fun (o:Option Nat) c=>o.bind fun x=>walk t f c.toNat false x) (some next) with _ | y
  ·rw [hx] at h;cases h
  ·rw [hx] at h
   have hfo:=Jc n.kids next y (fun c hc x z hz=>by
    have h1:=hk i n e c hc;have hlt:c.toNat < t.nodes.length:=by omega
    have e2:=aaD hlt;obtain⟨g1,g2,_⟩:=UU hk f c.toNat false x z _ e2 hz;exact⟨h1.1,g1,_,e2,g2⟩) hx
   by_cases h1:i=y
   ·subst h1;by_cases h2:eP n.kind=root
    ·simp only [if_pos h2] at h
     exact⟨(aaP h).symm,hfo,h2⟩
    ·simp [h2] at h
   ·simp only [if_neg h1] at h;cases h
theorem fo_walk {t:Tr}(hni:∀ (i:Nat) n,t.nodes[i]? = some n→∀ c ∈ n.kids,eP (nd t c.toNat).kind=false){a b:Nat}{as:List Int}(h:Fo t.nodes a b as):∀ f,b≤f→(∀ c ∈ as,eP (nd t c.toNat).kind=false)→as.foldl (fun (o:Option Nat) c=>o.bind fun x=>walk t f c.toNat false x) (some a)=some b:=by
 induction h with
 | nil=>intro f _ _;rfl
 | @snoc a m b as n h k e ih jh =>
  intro f hf hi;have h8:=k.le;obtain⟨f,rfl⟩:∃ f0,f=f0+1:=⟨f - 1,by omega⟩;rw [List.foldl_append,ih _ (by omega) (fun c hc=>hi c (List.mem_append_left _ hc))];simp only [List.foldl_cons,List.foldl_nil,Option.bind_some,aaQ];unfold walk;rw [kH e,jh f (by omega) (hni b n e)]
  have:=hi (b:Int) (List.mem_append_right _ (List.mem_singleton.2 rfl))
  rw [aaQ,kH e] at this
  simp [this]
theorem RH {t:Tr}(hni:∀ (i:Nat) n,t.nodes[i]? = some n→∀ c ∈ n.kids,eP (nd t c.toNat).kind=false){a b:Nat}{as:List Int}(h:Fo t.nodes a b as):(∀ c ∈ as,eP (nd t c.toNat).kind=true) →
  as.foldl (fun (o:Option Nat) (i:Int)=>o.bind fun x=>if within i x ((t.nodes.length:Int) - 1)=true then walk t (i.toNat+1) i.toNat true x else none) (some a)=some b:=by
 induction h with
 | nil=>intro _;rfl
 | @snoc a m b as n h k e ih jh =>
  intro hi;have h8:=k.le;have hl:=(aaE.1 e).1;rw [List.foldl_append,ih (fun c hc=>hi c (List.mem_append_left _ hc))];simp only [List.foldl_cons,List.foldl_nil,Option.bind_some,aaQ];rw [if_pos (by simp [within];omega)];unfold walk;rw [kH e,fo_walk hni k b (aaJ _) (hni b n e)]
  have:=hi (b:Int) (List.mem_append_right _ (List.mem_singleton.2 rfl))
  rw [aaQ,kH e] at this
  simp [this]
theorem Al {t:Tr}(hk:∀ (i:Nat) n,t.nodes[i]? = some n→∀ c ∈ n.kids,0≤c∧c≤(i:Int) - 1)(h:ordered t=true):qV t:=by
 unfold ordered at h
 rcases hx:t.items.foldl (fun (o:Option Nat) (i:Int)=>o.bind fun x=>if within i x ((t.nodes.length:Int) - 1)=true then walk t (i.toNat+1) i.toNat true x else none) (some 0) with _ | y
 ·rw [hx] at h;cases h
 ·rw [hx] at h
  have:y=t.nodes.length:=by simpa using h
  subst this
  have hg:∀ (c:Int) (x z:Nat),(if within c x ((t.nodes.length:Int) - 1)=true then walk t (c.toNat+1) c.toNat true x else none)=some z→0≤c∧z=c.toNat+1∧eP (nd t c.toNat).kind=true∧∃ n,t.nodes[c.toNat]? = some n∧Fo t.nodes x c.toNat n.kids:=by
   intro c x z hz;split at hz
   ·rename_i hw
    simp only [within,aaS,decide_eq_true_eq] at hw
    have hlt:c.toNat < t.nodes.length:=by omega
    have e2:=aaD hlt;obtain⟨g1,g2,g3⟩:=UU hk _ c.toNat true x z _ e2 hz
    refine⟨by omega,g1,?_,_,e2,g2⟩
    rw [kH e2];exact g3
   ·cases hz
  refine⟨Jc (g:=fun x c=>if within c x ((t.nodes.length:Int) - 1)=true then walk t (c.toNat+1) c.toNat true x else none) t.items 0 _ (fun c _ x z hz=>?_) hx,?_⟩
  ·obtain⟨g0,g1,_,g2⟩:=hg c x z hz;exact⟨g0,g1,g2⟩
  ·
   have:∀ (l:List Int) (a y:Nat),l.foldl (fun (o:Option Nat) (i:Int)=>o.bind fun x=>if within i x ((t.nodes.length:Int) - 1)=true then walk t (i.toNat+1) i.toNat true x else none) (some a)=some y→∀ c ∈ l,eP (nd t c.toNat).kind=true:=by
    intro l
    induction l with
    | nil=>intro a y _ c hc;cases hc
    | cons d r ih =>
     intro a y h c hc;rw [List.foldl_cons,Option.bind_some] at h
     rcases hz:(if within d a ((t.nodes.length:Int) - 1)=true then walk t (d.toNat+1) d.toNat true a else none) with _ | z
     ·rw [hz,wR (fun x c=>if within c x ((t.nodes.length:Int) - 1)=true then walk t (c.toNat+1) c.toNat true x else none)] at h;cases h
     ·rw [hz] at h
      rcases List.mem_cons.1 hc with rfl | hc
      ·exact (hg _ _ _ hz).2.2.1
      ·exact ih _ _ h c hc
   exact this _ _ _ hx
theorem aah {n:Nd}{j k:Nat}(h:mJ n j k=true):eP k=false:=by
 have:lq k=true∨iH k=true∨k=25∨k=34∨k=1:=by
  unfold mJ at h
  split at h
  ·exact .inr (.inr (.inl (by simpa using h)))
  ·split at h
   ·exact .inr (.inr (.inr (.inl (by simpa using h))))
   ·split at h
    ·exact .inr (.inl h)
    ·split at h
     ·exact .inr (.inr (.inr (.inr (by simpa using h))))
     ·split at h
      ·split at h
       ·exact .inl h
       ·split at h
        ·exact .inr (.inl h)
        ·exact .inr (.inr (.inr (.inl (by simpa using h))))
      ·exact .inl h
 simp only [lq,iH,aaS,decide_eq_true_eq] at this
 simp [eP];omega
theorem Ce (t:Tr)(hn:∀ n ∈ t.nodes,jq≤n.n∧n.n≤gq)(hl:t.nodes.length≤801):((List.range t.nodes.length).all (formed t)=true∧ordered t=true∧signed t=true)↔kE t=true:=by
 have hnr:∀ i,i < t.nodes.length→jq≤(nd t i).n∧(nd t i).n≤gq:=fun i hi=>hn _ (aaM (Cw hi))
 have hkl:∀ i,(nd t i).kids.length=(kinds t (nd t i).kids).length:=fun i=>by simp [kinds]
 rw [rR];constructor
 ·rintro⟨h1,h2,h3⟩
  have hf:∀ i,i < t.nodes.length→formed t i=true:=fun i hi=>aaR.1 h1 i (List.mem_range.2 hi)
  have hk:∀ (i:Nat) n,t.nodes[i]? = some n→∀ c ∈ n.kids,0≤c∧c≤(i:Int) - 1:=fun i n e=>by
   have:=((nW t i).1 (hf i (aaE.1 e).1)).2.2
   rwa [kH e] at this
  have hr:=Al hk h2
  refine⟨hr,fun i hi=>?_⟩
  obtain⟨g1,g2,_⟩:=(nW t i).1 (hf i hi);refine (Eo t i).2 ⟨(Dg _ _ (hkl i) (hnr i hi)).1 g1,g2,fun c hc e1 e2=>?_⟩;have hci:=hk i _ (Cw hi) c hc;have hs:=aaR.1 h3 c.toNat (List.mem_range.2 (by omega));simp [e1,e2] at hs
  obtain⟨d,hd,g40,g5⟩:=hs;have hdl:=hr.fo.ids d hd;have hcc:((c.toNat:Nat):Int)=c:=by omega
  have g5':c ∈ (nd t d.toNat).kids:=(show max c 0=c by omega) ▸ g5
  have:=hr.fo.Ae (i:=i) (j:=d.toNat) hi (by omega) (Cw hi) (Cw (by omega)) hc g5'
  rw [this];exact g40
 ·rintro⟨hr,h1⟩
  have hR:∀ i,i < t.nodes.length→_:=fun i hi=>(Eo t i).1 (h1 i hi)
  have hk:∀ (i:Nat),i < t.nodes.length→∀ c ∈ (nd t i).kids,0≤c∧c≤(i:Int) - 1:=fun i hi c hc=>by
   obtain⟨n,m,e,_,f⟩:=hr.fo.each i (aaL _) hi;rw [kH e] at hc
   have:=f.ids c hc
   omega
  have hni:∀ (i:Nat) n,t.nodes[i]? = some n→∀ c ∈ n.kids,eP (nd t c.toNat).kind=false:=fun i n e c hc=>by
   have hi:=(aaE.1 e).1;obtain⟨j,hj,rfl⟩:=List.getElem_of_mem hc;have hb:=(hR i hi).1.2.2.2.2.2 j (by rw [← hkl i,kH e];exact hj);rw [kH e] at hb
   have e3:(kinds t n.kids).getD j 0=(nd t (n.kids[j]).toNat).kind:=by simp [kinds,aaH,aaD hj]
   rw [e3] at hb
   exact aah hb
  refine⟨?_,?_,?_⟩
  ·rw [aaR];intro i hi;have hi:=List.mem_range.1 hi;refine (nW t i).2 ⟨(Dg _ _ (hkl i) (hnr i hi)).2 ?_ (hR i hi).1,(hR i hi).2.1,hk i hi⟩;rw [← hkl i];obtain⟨n,m,e,_,f⟩:=hr.fo.each i (aaL _) hi;rw [kH e]
   have:=f.len
   omega
  ·unfold ordered;rw [RH hni hr.fo hr.item];simp
  ·unfold signed;rw [aaR];intro i hi;have hi:=List.mem_range.1 hi;by_cases hx:(nd t i).kind=1∧(nd t i).n < 0
   ·have hroot:(i:Int) ∉ t.items:=fun h=>by
     have:=hr.item _ h
     rw [aaQ] at this
     simp [eP,hx.1] at this
    rcases hr.fo.parent i (aaL _) hi with h | ⟨j,n,_,hj,e,hin⟩
    ·exact absurd h hroot
    ·have rT:=(hR j hj).2.2 (i:Int) (by rw [kH e];exact hin) (by rw [aaQ];exact hx.1) (by rw [aaQ];exact hx.2)
     have hjroot:(j:Int) ∈ t.items:=by
      rcases hr.fo.parent j (aaL _) hj with h | ⟨j2,n2,_,hj2,e2,hin2⟩
      ·exact h
      ·exfalso
       have:=hni j2 n2 e2 _ hin2
       rw [aaQ] at this
       simp [eP,rT] at this
     simp only [Bool.or_eq_true,List.any_eq_true,aaS];refine .inr ⟨(j:Int),hjroot,?_,?_⟩
     ·rw [aaQ,rT];rfl
     ·rw [aaQ,kH e];simpa using hin
   ·simp only [Bool.or_eq_true];left
    cases hy:((nd t i).kind == 1 && decide ((nd t i).n < 0))
    ·rfl
    ·exfalso;apply hx;simpa using hy
theorem I4 {t:Tr}{i:Nat}(hr:je t i=true):sized t (nd t i)=gD t (nd t i):=by
 have hm:=((Eo t i).1 hr).1.2.2.2.1;unfold sized gD;by_cases rT:(nd t i).kind=40
 ·rw [if_pos rT,if_pos rT];rw [aaI];simp [within];omega
 rw [if_neg rT,if_neg rT];by_cases h46:(nd t i).kind=46
 ·simp only [h46];simp [jC,h46] at hm
  by_cases h7:(nd t i).n=7
  ·simp [h7] at hm;simp [h7,hm]
  ·by_cases h8:(nd t i).n=8
   ·simp [h8]
   ·simp [h7,h8] at hm;simp [hm]
 ·simp [h46]
end Mist
