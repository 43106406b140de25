/-
  A part of the proof.
-/
import Derived.Test.YthepmkjggfijoaaGreatDoorSA
import Derived.ProofKit
import Derived.OpenShut
import Derived.LaidMore
import Derived.Lay
import Derived.SevenTiedAt
import Derived.Stop.Joined
import Derived.Carry
import Derived.RowKit
import Derived.Lib.LaidTab
import Derived.Deep.Slices
import Derived.SizedLaws
import Derived.ChangeOld
import Derived.Test.YthepmkjggfijoaaGreatDoorTie
import Derived.Test.YthepmkjggfijoaaGreatDoorS01
import Derived.Test.YthepmkjggfijoaaGreatDoorS04
import Derived.Test.YthepmkjggfijoaaGreatDoorS05
import Derived.Test.YthepmkjggfijoaaGreatDoorS20
import Derived.Test.YthepmkjggfijoaaGreatDoorS28
set_option linter.all false
set_option maxRecDepth 100000
namespace Go.Proofs.YthepmkjggfijoaaGreatDoor
open Go.ChangeShapes Go.WideShapes Go.ChangeAt Go.RowKit
set_option maxRecDepth 100000
theorem own_knob:ownKnob Tryz.prog.godebug=none:=by kernel_rfl
theorem BA {P:Program}{w:World}:∀ {l:List (String × DataW Unit)} {ps:List MemPlace},DataW.LaidVars P w l ps→∀ n d,(n,d) ∈ l →
  ∃ g t cs a p,P.globalNamed n=some g∧(P.globals[g]?).map (·.type)=some t∧w.var? P n=some cs∧DataW.trod (fun _=>()) P w 0 (fun _=>true) false a t cs.toList=some (d,p)
 | [],_,_,_,_,h=>by cases h
 | (n,d) :: r,ps,h,n',d',hm=>by
  obtain⟨g,t,cs,a,p,q,h1,h2,h3,h4,h5,_⟩:=h;rcases List.mem_cons.1 hm with b | c
  ·cases b;exact⟨g,t,cs,a,p,h1,h2,h3,h4⟩
  ·exact BA h5 n' d' c
theorem PO {P:Program}{W:World}{l:List (String × DataW Unit)}{a:String}{k:IntKind}{o:List Int}{g:Nat}{t e:TypeId}{n:Nat}
  (r:P.globalNamed a=some g) (j:(P.globals[g]?).map (·.type)=some t) (v:P.underlying t=some (.array n e)) (q:P.underlying e=some (.int k)) (c:P.cellsOf e=1) (d:P.cellsOf t=n)
  (h:laidMet P l W) (u:(a,Lib.tabData k o) ∈ l):Lib.TabIs P W a k o:=by
 obtain⟨ps,hv,_⟩:=h;obtain⟨g',w,cs,m,p,f,i,b,hd⟩:=BA hv _ _ u;obtain rfl:=aaP (r.symm.trans f);obtain rfl:=aaP (j.symm.trans i);unfold Lib.TabIs;rw [b,← Lib.cells_of_tab v q c d hd]
theorem zI {H:Type}{enc:TypeId × Value→H}{P:Program}(j:laidOutB P=true){W g:World}(i:Below W.heap.size W g) :
  ∀ {a:List TypeId} {f:List Value} {c:List (DataW H)} {ps:List MemPlace},(a.all fun t=>P.readableRec t && decide (t < P.types.size))=true→DataW.TrodAll enc P W 0 (fun _=>true) true a f c ps→(∀ x ∈ ps,x.block < W.heap.size) →
   DataW.TrodAll enc P g 0 (fun b=>decide (b < W.heap.size)) true a f c ps
 | [],[],[],_,_,h,_=>h
 | t :: a,v :: f,d :: c,ps,ha,h,hlt=>by
  obtain⟨p,q,h1,h2,rfl⟩:=h;simp only [List.all_cons,aaS,decide_eq_true_eq] at ha
  exact⟨p,q,Below.trod j ha.1.1 ha.1.2 h1 i (fun x e=>hlt x (List.mem_append_left _ e)),zI j i ha.2 h2 (fun x e=>hlt x (List.mem_append_right _ e)),rfl⟩
 | [],_ :: _,_,_,_,h,_=>h.elim
 | [],[],_ :: _,_,_,h,_=>h.elim
 | _ :: _,[],_,_,_,h,_=>h.elim
 | _ :: _,_ :: _,[],_,_,h,_=>h.elim
theorem post_true {H:Type}{enc:TypeId × Value→H}{P:Program}{f:Func}{s:ChangeSpec}{apart a handsOn:Bool}{W i:World}{args:Array Value}{c d:List (DataW H)}{before:List MemPlace}{t:TypeId}
  (l:laidOutB P=true) (m:(f.params.toList.all fun t=>P.readableRec t && decide (t < P.types.size))=true) (hv:s.vars=[]) (g:f.resultTypes=#[t]) (n:P.underlying t=some .bool)
  (b:s.fn H (c ++ d)={ results:=[.lit (.bool true)],args:=c })
  (e:DataW.Whole enc P f.params.toList s.vars apart W args.toList c d before) (j:Below W.heap.size W i) :
  s.post enc P f apart a handsOn false W args (.bool true) i:=by
 obtain⟨p,q,k,r,rfl,_,_⟩:=id e
 refine⟨c,d,_,[],p,[],e,?_,?_,?_,Below.frame j _,fun h=>by cases h⟩
 ·rw [b,g];exact trodAll_mk1 (shut_bool n true)
 ·rw [b];exact zI l j m k (fun x o=>e.lt x (List.mem_append_left _ o))
 ·rw [b,hv];exact rfl
theorem laid_out:laidOutB Tryz.prog=true:=by kernel_rfl
theorem bool_row:Tryz.prog.underlying 4=some .bool:=by kernel_rfl
theorem Tj:(Rows.laid_strings_asciiSpace:DataW Unit)=Lib.tabData IntKind.u8 Lib.asciiSpaceTab:=by kernel_rfl
theorem env_of_laid {l : List (String × DataW Unit)} {w : World} (h : laidMet Tryz.prog l w) (a : ("strings.asciiSpace", Rows.laid_strings_asciiSpace) ∈ l) : Env w := by
 rw [Tj] at a
 refine⟨w.heap.size,aaJ _,Lib.tabBelow_of_tabIs (PO (g:=0) (t:=179) (e:=5) (n:=256) (by kernel_rfl) (by kernel_rfl) (by kernel_rfl) (by kernel_rfl) (by kernel_rfl) (by kernel_rfl) h a)⟩
end Go.Proofs.YthepmkjggfijoaaGreatDoor
namespace Go.Proofs.YthepmkjggfijoaaGreatDoor
open Go.ChangeShapes Go.WideShapes Go.ChangeAt Go.RowKit Go.MapKept Go.ChangeMaps Mist
set_option maxRecDepth 100000
theorem yR {H:Type}{P:Program}{e:TypeId}{d:DataW H}:∀ {l:List (DataW H)},d ∈ l→∀ n ∈ d.weights P e,n ∈ DataW.weightsAll P e l
 | [],h,_,_=>by cases h
 | x :: r,h,n,hn=>by
  simp only [DataW.weightsAll,List.mem_append];rcases List.mem_cons.1 h with rfl | h
  ·exact .inl hn
  ·exact .inr (yR h n hn)
theorem Tw:Tryz.prog.underlying 5=some (.int .u8):=by kernel_rfl
theorem Ml:Tryz.prog.underlying 3=some (.int .i64):=by kernel_rfl
theorem str_row:Tryz.prog.underlying 9=some .string:=by kernel_rfl
theorem Zh:Tryz.prog.cellsOf 5=1:=by kernel_rfl
theorem J6:Tryz.prog.cellsOf 3=1:=by kernel_rfl
theorem Vj:Tryz.prog.cellsOf 9=1:=by kernel_rfl
theorem Gw:Tryz.prog.cellsOf 24=1:=by kernel_rfl
theorem NQ:Tryz.prog.cellsOf 23=1:=by kernel_rfl
theorem Gx:Tryz.prog.cellsOf 50=5:=by kernel_rfl
theorem Rp:Tryz.prog.cellsOf 26=2:=by kernel_rfl
theorem yu {n:Int}(h:(Lit.int .i64 n).wf=true):jq≤n∧n≤gq:=by
 simp [Lit.wf,IntKind.min,IntKind.max,IntKind.signed,IntKind.bits] at h
 unfold jq gq;omega
theorem cell_spot {w:World}{a:Addr}{v:Value}(h:w.cell? a=some v):a.spot=none∧a.block < w.heap.size:=by
 unfold World.cell? at h
 split at h
 ·rename_i c e f b
  refine⟨?_,(aaG.1 b).1⟩
  cases d:a.spot with
  | none=>rfl
  | some x=>rw [d] at h;simp at h
 ·cases h
theorem Gj {b o i:Nat}:Addr.add ⟨b,o,none⟩ i=⟨b,o+i,none⟩:=by
 unfold Addr.add;split
 ·rename_i h;subst h;rfl
 ·rfl
theorem byte_of_Trod {H:Type}{enc:TypeId × Value→H}{W:World}{base:Nat}{v:Value}{d:DataW H}{ps:List MemPlace}
  (a:Value.okWide Tryz.prog W .any base 5 v) (h:DataW.Trod enc Tryz.prog W 0 (fun _=>true) true 5 v d ps):∃ x:Nat,v=.int .u8 x∧x < 256:=by
 obtain⟨n,rfl⟩:=okWide_int Tw a;obtain⟨c,f⟩:=h;obtain⟨k,g,i,b⟩:=DataW.trod_int Tw f;have e:(Value.int .u8 n)=.int .u8 k:=by simpa [Value.cells] using g
 have j:0≤k∧k < 256:=by
  simp [Lit.wf,IntKind.min,IntKind.max,IntKind.signed,IntKind.bits] at b
  omega
 obtain⟨k,rfl⟩:∃ m:Nat,k=m:=⟨k.toNat,by omega⟩;exact⟨k,e,by omega⟩
theorem Ck {H:Type}{enc:TypeId × Value→H}{w:World}{q:Bool}{n:Nat}{cs:List Value}{x:DataW H × List MemPlace}
  (h:DataW.trod enc Tryz.prog w 0 (fun _=>true) q n 24 cs=some x) (L:∀ m ∈ x.1.weights Tryz.prog 24,m≤reachBytes) :
  ∃ A c ks,cs=[.slice A ks.length c]∧IntsIn w A ks∧(∀ k ∈ ks,jq≤k∧k≤gq)∧ks.length≤c∧c≤17592186044416:=by
 rcases Deep.open_slice1 Tryz.underlying24 J6 h with ⟨g,_⟩ | ⟨a,len,cap,m,R,V,D,P,g,_,y,C,I,M,l⟩
 ·exact⟨none,0,[],by simpa using g,⟨fun h0=>absurd h0 (by simp)⟩,(fun k e=>by cases e),by simp,by omega⟩
 ·have J:m=cap:=by simpa using I
  have u:∀ i,i < len→∃ k:Int,V i=.int .i64 k∧(jq≤k∧k≤gq):=by
   intro i hi;obtain⟨h1,h2⟩:=l i (by omega);obtain⟨k,e,G,v⟩:=DataW.trod_int Ml h2;exact⟨k,by simpa using e,yu v⟩
  obtain⟨f,E⟩:=Deep.choose_lt u;have d:((List.range len).map f).length=len:=by simp
  have t:cap * 8≤reachBytes:=by
   refine L (cap * 8) ?_;rw [M];simp only [DataW.weights,Tryz.underlying24,List.mem_cons];left
   have r:Tryz.prog.bytesOf 3=8:=by kernel_rfl
   rw [r];simp;omega
  have Q:reachBytes=140737488351232:=rfl
  refine⟨some a,cap,(List.range len).map f,by rw [g,d],⟨fun h0=>?_⟩,?_,by rw [d];exact y,by omega⟩
  ·rw [d] at h0
   obtain⟨K,r⟩:=cell_spot (by have:=(l 0 (by omega)).1;simpa [Addr.add] using this);obtain⟨b,o,N⟩:=a;have B:N=none:=K;subst B
   refine⟨b,o,rfl,r,fun j k e=>?_⟩
   have F:j < len:=by have:=(aaE.1 e).1;rwa [d] at this
   have h1:=(l j (by omega)).1;rw [Gj,(E j F).1] at h1
   rw [h1]
   have:f j=k:=by simpa [F] using e
   rw [this]
  ·intro k e;obtain⟨i,hi,rfl⟩:=List.mem_map.1 e;exact (E i (by simpa using hi)).2
structure Gg (w:World) (A B:Option Addr) (xs:List NV) (its:List Int):Prop where
 nodes:0 < xs.length→∃ b o,A=some ⟨b,o,none⟩∧b < w.heap.size∧∀ (i k:Nat) x u,xs[i]? = some x→(fC x)[k]? = some u→w.cell? ⟨b,o+(i * 5+k),none⟩=some u
 kids:∀ x ∈ xs,∃ K c,x.2=.slice K x.1.kids.length c∧IntsIn w K x.1.kids
 items:IntsIn w B its
theorem Gg.below {w g:World}{A B:Option Addr}{xs:List NV}{a:List Int}(h:Gg w A B xs a)(d:Below w.heap.size w g):Gg g A B xs a :=
 ⟨fun h0=>by
  obtain⟨b,o,e,f,j⟩:=h.nodes h0;exact⟨b,o,e,aaW f d.size,fun i k x u h1 h2=>(d.cell (by exact f)).trans (j i k x u h1 h2)⟩,
  fun x l=>by
  obtain⟨K,c,e,hi⟩:=h.kids x l;exact⟨K,c,e,hi.below d⟩,h.items.below d⟩
theorem Gg.UH {w:World}{A B:Option Addr}{xs:List NV}{f:List Int}(h:Gg w A B xs f)(j:∀ x ∈ xs,x.1.kids.length≤1000000):mq w A B xs f:=by
 refine⟨fun h0=>?_,h.items⟩
 obtain⟨b,o,e,k,d⟩:=h.nodes h0
 refine⟨b,o,e,⟨k,fun i x a=>d i 3 x _ a rfl,fun x a=>?_⟩,fun i x a=>d i 0 x _ a rfl,fun i x a=>d i 1 x _ a rfl,fun i x a=>d i 2 x _ a rfl,fun i x a=>d i 4 x _ a rfl⟩
 obtain⟨K,c,g,hi⟩:=h.kids x a;exact⟨K,c,g,j x a,hi.ex⟩
structure NdW (n:Nd):Prop where
 r:NdR n
 few:n.kids.length≤17592186044416
theorem MF {H:Type}{enc:TypeId × Value→H}{w:World}{f:Bool}{n:Nat}{cs:List Value}{x:DataW H × List MemPlace}
  (h:DataW.trod enc Tryz.prog w 0 (fun _=>true) f n 50 cs=some x) (hw:∀ m ∈ x.1.weights Tryz.prog 50,m≤reachBytes) :
  ∃ y:NV,cs=fC y∧(∃ K c,y.2=.slice K y.1.kids.length c∧IntsIn w K y.1.kids)∧((y.1.kind < 256∧(jq≤y.1.n∧y.1.n≤gq)∧(jq≤y.1.at_∧y.1.at_≤gq)∧(∀ c ∈ y.1.kids,jq≤c∧c≤gq))∧y.1.text.length≤reachBytes∧y.1.kids.length≤17592186044416):=by
 obtain⟨G,n,rfl,hd,i,E,g⟩:=DataW.trod_struct Tryz.underlying50 h;rw [Gx] at i
 obtain⟨l,c1,c2,c3,c4,rfl⟩:∃ a b c d e,cs=[a,b,c,d,e]:=by
  match cs,i with
  | [a,b,c,d,e],_=>exact⟨a,b,c,d,e,rfl⟩
 obtain⟨P,F,Q,R,S,rfl⟩:∃ a b c d e,G=[a,b,c,d,e]:=by
  have D:G.length=5:=E
  match G,D with
  | [a,b,c,d,e],_=>exact⟨a,b,c,d,e,rfl⟩
 have U:DataW.trod enc Tryz.prog w 0 (fun _=>true) f n 5 (([l,c1,c2,c3,c4].drop 0).take (Tryz.prog.cellsOf 5))=some P:=g 0 _ rfl;have V:DataW.trod enc Tryz.prog w 0 (fun _=>true) f n 9 (([l,c1,c2,c3,c4].drop 1).take (Tryz.prog.cellsOf 9))=some F:=g 1 _ rfl;have W:DataW.trod enc Tryz.prog w 0 (fun _=>true) f n 3 (([l,c1,c2,c3,c4].drop 2).take (Tryz.prog.cellsOf 3))=some Q:=g 2 _ rfl;have I:DataW.trod enc Tryz.prog w 0 (fun _=>true) f n 24 (([l,c1,c2,c3,c4].drop 3).take (Tryz.prog.cellsOf 24))=some R:=g 3 _ rfl;have X:DataW.trod enc Tryz.prog w 0 (fun _=>true) f n 3 (([l,c1,c2,c3,c4].drop 4).take (Tryz.prog.cellsOf 3))=some S:=g 4 _ rfl
 have o:∀ m ∈ DataW.weightsEach Tryz.prog [5,9,3,24,3] [P.1,F.1,Q.1,R.1,S.1],m≤reachBytes:=by
  intro m A;refine hw m ?_;rw [hd];simp only [DataW.weights,Tryz.underlying50];exact A
 obtain⟨k,L,hk2,r⟩:=DataW.trod_int Tw U;obtain⟨s,N,C,hs3⟩:=DataW.trod_string str_row V;obtain⟨a,J,ha2,T⟩:=DataW.trod_int Ml W;obtain⟨p,M,hp2,B⟩:=DataW.trod_int Ml X;rw [Gw] at I
 obtain⟨K,c,ks,v,q,u,hkc,hcc⟩:=Ck I (fun m A=>o m (DataW.weights_mem_each (j:=3) rfl rfl m A));rw [Zh] at L
 rw [Vj] at N
 rw [J6] at J M
 have Y:l=.int .u8 k:=by simpa using L
 have Z:c1=.string s:=by simpa using N
 have g2:c2=.int .i64 a:=by simpa using J
 have g3:c3=.slice K ks.length c:=by simpa using v
 have g4:c4=.int .i64 p:=by simpa using M
 have hk4:0≤k∧k < 256:=by
  simp [Lit.wf,IntKind.min,IntKind.max,IntKind.signed,IntKind.bits] at r
  omega
 obtain⟨k,rfl⟩:∃ m:Nat,k=m:=⟨k.toNat,by omega⟩
 refine⟨(⟨k,s.data.toList,a,ks,p⟩,.slice K ks.length c),?_,⟨K,c,rfl,q⟩,⟨by simp;omega,yu T,yu B,u⟩,?_,by show ks.length≤_;omega⟩
 ·rw [Y,Z,g2,g3,g4];simp [fC,aM]
 ·refine o s.data.toList.length (DataW.weights_mem_each (j:=1) (t:=9) (d:=F.1) rfl rfl _ ?_);rw [C];simp [DataW.weights]
theorem tree_of_trod {H:Type}{enc:TypeId × Value→H}{W:World}{base j:Nat}{v:Value}{d:DataW H}{ps:List MemPlace}{ts:List TypeId}{ds:List (DataW H)}
  (N:Value.okWide Tryz.prog W .any base 26 v) (h:DataW.Trod enc Tryz.prog W 0 (fun _=>true) true 26 v d ps)
  (hsz:(DataW.weightsEach Tryz.prog ts ds).all (·≤reachBytes)=true) (ht:ts[j]? = some 26) (hd:ds[j]? = some d) :
  ∃ A B c e xs l,v=.agg #[.slice A xs.length c,.slice B l.length e]∧Gg W A B xs l∧xs.length≤c∧l.length≤17592186044416∧c≤17592186044416∧(∀ i ∈ l,jq≤i∧i≤gq) ∧
   ∀ x ∈ xs,(x.1.kind < 256∧(jq≤x.1.n∧x.1.n≤gq)∧(jq≤x.1.at_∧x.1.at_≤gq)∧(∀ c ∈ x.1.kids,jq≤c∧c≤gq))∧x.1.text.length≤reachBytes∧x.1.kids.length≤17592186044416:=by
 obtain⟨G,rfl,Q⟩:=okWide_struct Tryz.underlying26 N;rw [Rp] at Q
 obtain⟨fuel,hf⟩:=h;have J:=aaR.1 hsz;have hwt:∀ m ∈ d.weights Tryz.prog 26,m≤reachBytes:=fun m r=>by simpa using J m (DataW.weights_mem_each (P:=Tryz.prog) ht hd m r)
 have q:(Value.agg G).cells.toList=G.toList:=rfl;rw [q] at hf
 obtain⟨ys,n,rfl,hdd,g,hxl,F⟩:=DataW.trod_struct Tryz.underlying26 hf
 obtain⟨C,c1,R⟩:∃ a b,G.toList=[a,b]:=by
  have h2:G.toList.length=2:=by simpa using Q
  match hl:G.toList,h2 with
  | [a,b],_=>exact⟨a,b,rfl⟩
 rw [R] at F
 obtain⟨X,x1,rfl⟩:∃ a b,ys=[a,b]:=by
  have hx2:ys.length=2:=hxl
  match ys,hx2 with
  | [a,b],_=>exact⟨a,b,rfl⟩
 have Y:DataW.trod enc Tryz.prog W 0 (fun _=>true) true n 23 (([C,c1].drop 0).take (Tryz.prog.cellsOf 23))=some X:=F 0 _ rfl;have Z:DataW.trod enc Tryz.prog W 0 (fun _=>true) true n 24 (([C,c1].drop 1).take (Tryz.prog.cellsOf 24))=some x1:=F 1 _ rfl
 have T:∀ m ∈ DataW.weightsEach Tryz.prog [23,24] [X.1,x1.1],m≤reachBytes:=by
  intro m r;refine hwt m ?_;have hd1:d=.agg [X.1,x1.1]:=(Prod.mk.inj hdd).1;rw [hd1];simp only [DataW.weights,Tryz.underlying26];exact r
 rw [NQ] at Y
 rw [Gw] at Z
 have f0:([C,c1].drop 0).take 1=[C]:=rfl;have f1:([C,c1].drop 1).take 1=[c1]:=rfl;rw [f0] at Y
 rw [f1] at Z
 obtain⟨B,e,l,hB,I,M,hie,hee⟩:=Ck Z (fun m r=>T m (DataW.weights_mem_each (j:=1) rfl rfl m r));have g1:c1=.slice B l.length e:=by simpa using hB
 have S:∀ m ∈ X.1.weights Tryz.prog 23,m≤reachBytes:=fun m r=>T m (DataW.weights_mem_each (j:=0) rfl rfl m r)
 have E:G=#[C,c1]:=by rw [← Array.toArray_toList (xs:=G),R]
 rcases Deep.open_slice Tryz.underlying23 Y with ⟨q,_⟩ | ⟨a,len,cap,m,n',D,Pl,q,_,hlc,hcap,r,w,L⟩
 ·have g0:C=.slice none 0 0:=by simpa using q
  refine⟨none,B,0,e,[],l,by rw [E,g0,g1];rfl,⟨fun h0=>absurd h0 (by simp),(fun x w=>by cases w),I⟩,by simp,by omega,by omega,M,fun x w=>by cases w⟩
 ·have g0:C=.slice (some a) len cap:=by simpa using q
  have hmc:m=cap:=by simpa using r
  have U:X.1=.slice ((List.range len).map D) ((List.range (m - len)).map fun j=>D (len+j)):=by rw [w]
  have hnd:∀ i,i < len→∃ y:NV,W.cells? 0 (a.add (i * 5)) 5=some (fC y)∧(∃ K c,y.2=.slice K y.1.kids.length c∧IntsIn W K y.1.kids)∧((y.1.kind < 256∧(jq≤y.1.n∧y.1.n≤gq)∧(jq≤y.1.at_∧y.1.at_≤gq)∧(∀ c ∈ y.1.kids,jq≤c∧c≤gq))∧y.1.text.length≤reachBytes∧y.1.kids.length≤17592186044416):=by
   intro i hi;obtain⟨cs',h1,h2⟩:=L i (by omega);rw [Gx] at h1
   obtain⟨y,rfl,h3,h4⟩:=MF h2 (fun m r=>S m (by
    rw [U];simp only [DataW.weights,Tryz.underlying23,List.mem_cons,List.mem_append];right;left
    exact yR (d:=D i) (List.mem_map.2 ⟨i,by simpa using hi,rfl⟩) m r))
   exact⟨y,h1,h3,h4⟩
  have:Inhabited NV:=⟨(default,.bool false)⟩
  obtain⟨f,t⟩:=Deep.choose_lt hnd;have g:((List.range len).map f).length=len:=by simp
  have hcap2:cap * 64≤reachBytes:=by
   refine S (cap * 64) ?_;rw [U];simp only [DataW.weights,Tryz.underlying23,List.mem_cons];left
   have hb:Tryz.prog.bytesOf 50=64:=by kernel_rfl
   rw [hb];simp;omega
  have hr:reachBytes=140737488351232:=rfl
  refine⟨some a,B,cap,e,(List.range len).map f,l,by rw [E,g0,g1,g],⟨fun h0=>?_,fun x w=>?_,I⟩,by rw [g];exact hlc,by omega,by omega,M,fun x w=>?_⟩
  ·rw [g] at h0
   have h1:=(World.cells?_some (t 0 h0).1).2.2 0 (by omega);obtain⟨hs,hb⟩:=cell_spot (a:=a) (v:=.int .u8 (f 0).1.kind) (by simpa [Addr.add,fC] using h1);obtain⟨b,o,sp⟩:=a;have hs':sp=none:=hs;subst hs'
   refine⟨b,o,rfl,hb,fun i k x u V hu=>?_⟩
   have hi:i < len:=by have:=(aaE.1 V).1;rwa [g] at this
   have hk5:k < 5:=by have:=(aaE.1 hu).1;simpa [fC] using this
   have hfx:f i=x:=by simpa [hi] using V
   have h2:=(World.cells?_some (t i hi).1).2.2 k hk5;rw [Gj,Gj,hfx] at h2
   rw [show o+(i * 5+k)=o+i * 5+k by omega,h2,hu]
  ·obtain⟨i,hi,rfl⟩:=List.mem_map.1 w;exact (t i (by simpa using hi)).2.1
  ·obtain⟨i,hi,rfl⟩:=List.mem_map.1 w;exact (t i (by simpa using hi)).2.2
end Go.Proofs.YthepmkjggfijoaaGreatDoor
namespace Go.Proofs.YthepmkjggfijoaaGreatDoor
open Go.RowKit Mist
def kV (T:Tr):Int :=
 if Mist.large T=true then 5
 else if kE T=false then 4
 else if 30 < om T then 5
 else if T.nodes.all (gD T)=false then 3 else 0
theorem rP (T:Tr)(a:∀ n ∈ T.nodes,jq≤n.n∧n.n≤gq):dN T=kV T:=by
 unfold dN kV;by_cases d:Mist.large T=true
 ·rw [if_pos d,if_pos d]
 rw [if_neg d,if_neg d]
 have f:T.nodes.length≤801:=by
  simp [Mist.large] at d;omega
 have b:=Ce T a f;by_cases c:kE T=true
 ·obtain⟨h1,h2,h3⟩:=b.2 c;rw [if_neg (show ¬ ((List.range T.nodes.length).all (Mist.formed T)=false) by rw [h1];simp),if_neg (show ¬ (Mist.ordered T=false∨Mist.signed T=false) by rw [h2,h3];simp),if_neg (show ¬ (kE T=false) by rw [c];simp)];by_cases j:30 < om T
  ·rw [if_pos j,if_pos j]
  rw [if_neg j,if_neg j];have o:=((rR T).1 c).2
  have e:T.nodes.all (Mist.sized T)=T.nodes.all (gD T):=by
   rw [aaI,aaR,aaR]
   have m:∀ n ∈ T.nodes,Mist.sized T n=gD T n:=fun n a=>by
    obtain⟨i,hi,rfl⟩:=List.getElem_of_mem a
    have:=I4 (o i hi)
    rwa [kH (aaD hi)] at this
   constructor
   ·intro h n a;rw [← m n a];exact h n a
   ·intro h n a;rw [m n a];exact h n a
  have g:=Io T;rw [e] at g
  cases l:T.nodes.all (gD T)
  ·rw [l] at g
   rw [if_pos (of_decide_eq_true (by simpa using g)),if_pos rfl]
  ·rw [l] at g
   rw [if_neg (of_decide_eq_false (by simpa using g)),if_neg (by simp)]
 ·have k:kE T=false:=by simpa using c
  rw [if_pos k];by_cases h1:(List.range T.nodes.length).all (Mist.formed T)=true
  ·rw [if_neg (by rw [h1];simp)];have h23:¬ (Mist.ordered T=true∧Mist.signed T=true):=fun h=>c (b.1 ⟨h1,h.1,h.2⟩)
   rw [if_pos]
   cases q:Mist.ordered T <;> cases r:Mist.signed T <;> simp_all
  ·rw [if_pos (by simpa using h1)]
def JJ (l:List Nd):Nat:=(l.map fun x=>x.kids.length).sum
def JI (l:List Nd):Nat:=(l.map fun x=>x.text.length).sum
theorem sumK_snoc (l:List Nd)(x:Nd):JJ (l ++ [x])=JJ l+x.kids.length:=by simp [JJ]
theorem sumB_snoc (l:List Nd)(x:Nd):JI (l ++ [x])=JI l+x.text.length:=by simp [JI]
theorem PN:∀ {l:List Nd} {x:Nd},x ∈ l→x.kids.length≤JJ l
 | y :: r,x,h=>by
  rcases List.mem_cons.1 h with rfl | h
  ·simp [JJ]
  ·have:=PN h;simp [JJ] at this ⊢;omega
theorem PL:∀ {l:List Nd} {x:Nd},x ∈ l→x.text.length≤JI l
 | y :: r,x,h=>by
  rcases List.mem_cons.1 h with rfl | h
  ·simp [JI]
  ·have:=PL h;simp [JI] at this ⊢;omega
theorem Tn {M:Nat}:∀ {l:List Nd},(∀ x ∈ l,x.kids.length≤M)→JJ l≤l.length * M
 | [],_=>by simp [JJ]
 | y :: r,h=>by
  have h1:=Tn (l:=r) (fun x a=>h x (List.mem_cons_of_mem _ a));have h2:=h y (List.mem_cons_self ..);simp [JJ] at h1 ⊢
  rw [Nat.add_mul];omega
theorem Tm {M:Nat}:∀ {l:List Nd},(∀ x ∈ l,x.text.length≤M)→JI l≤l.length * M
 | [],_=>by simp [JI]
 | y :: r,h=>by
  have h1:=Tm (l:=r) (fun x a=>h x (List.mem_cons_of_mem _ a));have h2:=h y (List.mem_cons_self ..);simp [JI] at h1 ⊢
  rw [Nat.add_mul];omega
def Rn (T:Tr):Bool:=decide (900 < T.nodes.length) || decide (100 < T.items.length) || decide (3000 < JJ (T.nodes.take 901)) || decide (5000 < JI (T.nodes.take 901))
theorem Zb {T:Tr}(h:Rn T=false):T.nodes.length≤900∧T.items.length≤100∧∀ x ∈ T.nodes,x.kids.length≤3000∧x.text.length≤5000:=by
 unfold Rn at h
 simp only [Bool.or_eq_false_iff,decide_eq_false_iff_not,Nat.not_lt] at h
 obtain⟨⟨⟨h1,h2⟩,h3⟩,h4⟩:=h;rw [aaN (by omega)] at h3 h4
 exact⟨h1,h2,fun x a=>⟨Nat.le_trans (PN a) h3,Nat.le_trans (PL a) h4⟩⟩
def jM (ns:List Nd)(k:Nat):Option (List Int):=(ns.take k).foldl m_ (some [])
theorem I6 {ns:List Nd}{k:Nat}{a:List Int}(b:k≤ns.length)(h:jM ns k=some a):uQ (ns.take k) a k:=by
 have:=Dh (ns:=ns.take k) (ns.take k) [] [] a (by simp) (Dj _) h
 rwa [List.length_take,Nat.min_eq_left b] at this
theorem zH {ns:List Nd}{k:Nat}{a:List Int}(c:k≤ns.length)(h:jM ns k=some a):a.length=k∧∀ i,i < k→1≤a.getD i 0∧a.getD i 0≤(i:Int)+1:=by
 obtain⟨h1,h2⟩:=I6 c h
 refine⟨h1,fun i hi=>?_⟩
 obtain⟨n,m,_,d,b,_⟩:=h2 i hi;rw [b];omega
theorem Na {ns:List Nd}{k:Nat}{n:Nd}{b:List Int}(c:ns[k]? = some n)(h:jM ns k=some b):jM ns (k+1)=(lT b n.kids ((b.length:Int) - 1)).map fun a=>b ++ [(b.length:Int) - a]:=by
 unfold jM at h ⊢
 rw [List.take_add_one,c,List.foldl_append,h];rfl
theorem qN (T:Tr):jM T.nodes T.nodes.length=oN T:=by
 unfold jM oN;rw [List.take_length]
theorem PE {T:Tr}{k:Nat}(a:k≤T.nodes.length)(h:jM T.nodes k=none):oN T=none:=by
 rw [← qN];unfold jM at h ⊢
 conv=>lhs;rw [← List.take_append_drop k T.nodes]
 rw [show (List.take k T.nodes ++ List.drop k T.nodes).length=T.nodes.length by rw [List.take_append_drop],aaN (by rw [List.take_append_drop];exact aaJ _),List.foldl_append,h,AB]
theorem Jt {out d:List Int}{b:Int}{j:Nat}{c:Int}(f:d[j]? = some c):lT out (d.drop j) b=(lT out (d.drop (j+1)) b).bind fun a=>if c ≠ a∨a < 0 then none else some (a - out.getD a.toNat 0):=by
 obtain⟨g,e⟩:=aaE.1 f;rw [aaX g,e];rfl
theorem uG {out:List Int}{b:Int}:∀ {a:List Int} {j:Nat},lT out (a.drop j) b=none→lT out a b=none
 | a,0,h=>h
 | [],j+1,h=>by simpa using h
 | c :: r,j+1,h=>by
  have h1:lT out r b=none:=uG (by simpa using h)
  show (lT out r b).bind _=none
  rw [h1];rfl
end Go.Proofs.YthepmkjggfijoaaGreatDoor
