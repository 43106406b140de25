/-
  A part of the proof.
-/
import Derived.LaidMore
import Derived.Lay
import Derived.Test.YtajfdjikimiapaaGreatDoorTie
import Derived.Test.YtajfdjikimiapaaGreatDoorS33
set_option linter.all false
set_option maxRecDepth 100000
set_option maxHeartbeats 2000000
namespace Go.Proofs.YtajfdjikimiapaaGreatDoor
section
open Go.ChangeShapes Go.WideShapes Go.ChangeAt Go.RowKit
set_option maxRecDepth 100000
theorem ae1:ownKnob Tryz.prog.godebug=none:=by kernel_rfl
theorem wM {P:Program}{w:World}:∀ {l:List (String × DataW Unit)} {ps:List MemPlace},DataW.LaidVars P w l ps→∀ n d,(n,d) ∈ l →
  ∃ g t cs a p,P.globalNamed n=some g∧(P.globals[g]?).map (·.type)=some t∧w.var? P n=some cs∧DataW.trod (fun _=>()) P w 0 (fun _=>true) false a t cs.toList=some (d,p)
 | [],_,_,_,_,h=>by cases h
 | (n,d) :: r,ps,h,n',d',hm=>by
  obtain⟨g,t,cs,a,p,q,h1,h2,h3,h4,h5,_⟩:=h;rcases List.mem_cons.1 hm with b | c
  ·cases b;exact⟨g,t,cs,a,p,h1,h2,h3,h4⟩
  ·exact wM h5 n' d' c
theorem AY {P:Program}{W:World}{l:List (String × DataW Unit)}{a:String}{k:IntKind}{o:List Int}{g:Nat}{t e:TypeId}{n:Nat}
  (r:P.globalNamed a=some g) (j:(P.globals[g]?).map (·.type)=some t) (w:P.underlying t=some (.array n e)) (q:P.underlying e=some (.int k)) (c:P.cellsOf e=1) (d:P.cellsOf t=n)
  (h:laidMet P l W) (u:(a,Lib.tabData k o) ∈ l):Lib.TabIs P W a k o:=by
 obtain⟨ps,hv,_⟩:=h;obtain⟨g',x,cs,m,p,f,i,b,hd⟩:=wM hv _ _ u;obtain rfl:=aiB (r.symm.trans f);obtain rfl:=aiB (j.symm.trans i);unfold Lib.TabIs;rw [b,← Lib.cells_of_tab w q c d hd]
theorem vo {H:Type}{enc:TypeId × Value→H}{P:Program}(g:laidOutB P=true){W e:World}(f:Below W.heap.size W e) :
  ∀ {a:List TypeId} {vs:List Value} {ds:List (DataW H)} {ps:List MemPlace},(a.all fun t=>P.readableRec t && decide (t < P.types.size))=true→DataW.TrodAll enc P W 0 (fun _=>true) true a vs ds ps→(∀ x ∈ ps,x.block < W.heap.size) →
   DataW.TrodAll enc P e 0 (fun b=>decide (b < W.heap.size)) true a vs ds ps
 | [],[],[],_,_,h,_=>h
 | t :: a,v :: vs,d :: ds,ps,ha,h,hlt=>by
  obtain⟨p,q,h1,h2,rfl⟩:=h;simp only [List.all_cons,aiE,decide_eq_true_eq] at ha
  exact⟨p,q,Below.trod g ha.1.1 ha.1.2 h1 f (fun x c=>hlt x (List.mem_append_left _ c)),vo g f ha.2 h2 (fun x c=>hlt x (List.mem_append_right _ c)),rfl⟩
 | [],_ :: _,_,_,_,h,_=>h.elim
 | [],[],_ :: _,_,_,h,_=>h.elim
 | _ :: _,[],_,_,_,h,_=>h.elim
 | _ :: _,_ :: _,[],_,_,h,_=>h.elim
theorem adz {H:Type}{enc:TypeId × Value→H}{P:Program}{f:Func}{s:ChangeSpec}{apart fresh handsOn:Bool}{W e:World}{args:Array Value}{ds b:List (DataW H)}{before:List MemPlace}{t:TypeId}
  (j:laidOutB P=true) (k:(f.params.toList.all fun t=>P.readableRec t && decide (t < P.types.size))=true) (hv:s.vars=[]) (d:f.resultTypes=#[t]) (l:P.underlying t=some .bool)
  (a:s.fn H (ds ++ b)={ results:=[.lit (.bool true)],args:=ds })
  (c:DataW.Whole enc P f.params.toList s.vars apart W args.toList ds b before) (g:Below W.heap.size W e) :
  s.post enc P f apart fresh handsOn false W args (.bool true) e:=by
 obtain⟨p,q,i,n,rfl,_,_⟩:=id c
 refine⟨ds,b,_,[],p,[],c,?_,?_,?_,Below.frame g _,fun h=>by cases h⟩
 ·rw [a,d];exact trodAll_mk1 (shut_bool l true)
 ·rw [a];exact vo j g k i (fun x m=>c.lt x (List.mem_append_left _ m))
 ·rw [a,hv];exact rfl
theorem aeQ:laidOutB Tryz.prog=true:=by kernel_rfl
theorem ad2:Tryz.prog.underlying 4=some .bool:=by kernel_rfl
theorem OZ:(Rows.laid_strings_asciiSpace:DataW Unit)=Lib.tabData IntKind.u8 Lib.asciiSpaceTab:=by kernel_rfl
theorem abG {l : List (String × DataW Unit)} {w : World} (h : laidMet Tryz.prog l w) (a : ("strings.asciiSpace", Rows.laid_strings_asciiSpace) ∈ l) : Env w := by
 rw [OZ] at a
 refine⟨w.heap.size,aiv _,Lib.tabBelow_of_tabIs (AY (g:=0) (t:=167) (e:=5) (n:=256) (by kernel_rfl) (by kernel_rfl) (by kernel_rfl) (by kernel_rfl) (by kernel_rfl) (by kernel_rfl) h a)⟩
end
section
open Go.ChangeShapes Go.WideShapes Go.ChangeAt Go.RowKit Go.MapKept Go.ChangeMaps Mist
set_option maxRecDepth 100000
theorem tX {H:Type}{P:Program}{e:TypeId}{d:DataW H}:∀ {l:List (DataW H)},d ∈ l→∀ n ∈ d.weights P e,n ∈ DataW.weightsAll P e l
 | [],h,_,_=>by cases h
 | x :: r,h,n,hn=>by
  simp only [DataW.weightsAll,List.mem_append];rcases List.mem_cons.1 h with rfl | h
  ·exact .inl hn
  ·exact .inr (tX h n hn)
theorem adw:Tryz.prog.underlying 5=some (.int .u8):=by kernel_rfl
theorem Hl:Tryz.prog.underlying 3=some (.int .i64):=by kernel_rfl
theorem abh:Tryz.prog.underlying 9=some .string:=by kernel_rfl
theorem Wt:Tryz.prog.cellsOf 5=1:=by kernel_rfl
theorem Fx:Tryz.prog.cellsOf 3=1:=by kernel_rfl
theorem Rs:Tryz.prog.cellsOf 9=1:=by kernel_rfl
theorem C9:Tryz.prog.cellsOf 23=1:=by kernel_rfl
theorem JC:Tryz.prog.cellsOf 22=1:=by kernel_rfl
theorem C_:Tryz.prog.cellsOf 39=5:=by kernel_rfl
theorem Ng:Tryz.prog.cellsOf 25=2:=by kernel_rfl
theorem tK {n:Int}(h:(Lit.int .i64 n).wf=true):j6≤n∧n≤gL:=by
 simp [Lit.wf,IntKind.min,IntKind.max,IntKind.signed,IntKind.bits] at h
 unfold j6 gL;omega
theorem cell_spot {w:World}{a:Addr}{v:Value}(h:w.cell? a=some v):a.spot=none∧a.block < w.heap.size:=by
 unfold World.cell? at h
 split at h
 ·rename_i c e f b
  refine⟨?_,(ais.1 b).1⟩
  cases d:a.spot with
  | none=>rfl
  | some x=>rw [d] at h;simp at h
 ·cases h
theorem Cx {b o i:Nat}:Addr.add ⟨b,o,none⟩ i=⟨b,o+i,none⟩:=by
 unfold Addr.add;split
 ·rename_i h;subst h;rfl
 ·rfl
theorem xg {H:Type}{enc:TypeId × Value→H}{w:World}{q:Bool}{n:Nat}{cs:List Value}{x:DataW H × List MemPlace}
  (h:DataW.trod enc Tryz.prog w 0 (fun _=>true) q n 23 cs=some x) (M:∀ m ∈ x.1.weights Tryz.prog 23,m≤reachBytes) :
  ∃ A c ks,cs=[.slice A ks.length c]∧IntsIn w A ks∧(∀ k ∈ ks,j6≤k∧k≤gL)∧ks.length≤c∧c≤17592186044416:=by
 rcases Deep.open_slice1 Tryz.underlying23 Fx h with ⟨g,_⟩ | ⟨a,len,cap,m,S,V,D,Q,g,_,B,E,J,N,l⟩
 ·exact⟨none,0,[],by simpa using g,⟨fun h0=>absurd h0 (by simp)⟩,(fun k e=>by cases e),by simp,by omega⟩
 ·have K:m=cap:=by simpa using J
  have u:∀ i,i < len→∃ k:Int,V i=.int .i64 k∧(j6≤k∧k≤gL):=by
   intro i hi;obtain⟨h1,h2⟩:=l i (by omega);obtain⟨k,e,I,y⟩:=DataW.trod_int Hl h2;exact⟨k,by simpa using e,tK y⟩
  obtain⟨f,F⟩:=Deep.choose_lt u;have d:((List.range len).map f).length=len:=by simp
  have t:cap * 8≤reachBytes:=by
   refine M (cap * 8) ?_;rw [N];simp only [DataW.weights,Tryz.underlying23,List.mem_cons];left
   have r:Tryz.prog.bytesOf 3=8:=by kernel_rfl
   rw [r];simp;omega
  have R:reachBytes=140737488351232:=rfl
  refine⟨some a,cap,(List.range len).map f,by rw [g,d],⟨fun h0=>?_⟩,?_,by rw [d];exact B,by omega⟩
  ·rw [d] at h0
   obtain⟨L,r⟩:=cell_spot (by have:=(l 0 (by omega)).1;simpa [Addr.add] using this);obtain⟨b,o,P⟩:=a;have C:P=none:=L;subst C
   refine⟨b,o,rfl,r,fun j k e=>?_⟩
   have G:j < len:=by have:=(aiq.1 e).1;rwa [d] at this
   have h1:=(l j (by omega)).1;rw [Cx,(F j G).1] at h1
   rw [h1]
   have:f j=k:=by simpa [G] using e
   rw [this]
  ·intro k e;obtain⟨i,hi,rfl⟩:=List.mem_map.1 e;exact (F i (by simpa using hi)).2
structure Ab (w:World) (A B:Option Addr) (xs:List NV) (its:List Int):Prop where
 nodes:0 < xs.length→∃ b o,A=some ⟨b,o,none⟩∧b < w.heap.size∧∀ (i k:Nat) x u,xs[i]? = some x→(gu x)[k]? = some u→w.cell? ⟨b,o+(i * 5+k),none⟩=some u
 kids:∀ x ∈ xs,∃ K c,x.2=.slice K x.1.kids.length c∧IntsIn w K x.1.kids
 items:IntsIn w B its
theorem Ab.below {w g:World}{A B:Option Addr}{xs:List NV}{a:List Int}(h:Ab w A B xs a)(d:Below w.heap.size w g):Ab g A B xs a :=
 ⟨fun h0=>by
  obtain⟨b,o,e,f,j⟩:=h.nodes h0;exact⟨b,o,e,aiI f d.size,fun i k x u h1 h2=>(d.cell (by exact f)).trans (j i k x u h1 h2)⟩,
  fun x l=>by
  obtain⟨K,c,e,hi⟩:=h.kids x l;exact⟨K,c,e,hi.below d⟩,h.items.below d⟩
theorem Ab.tAt {w:World}{A B:Option Addr}{xs:List NV}{f:List Int}(h:Ab w A B xs f)(j:∀ x ∈ xs,x.1.kids.length≤1000000):lJ w A B xs f:=by
 refine⟨fun h0=>?_,h.items⟩
 obtain⟨b,o,e,k,d⟩:=h.nodes h0
 refine⟨b,o,e,⟨k,fun i x a=>d i 3 x _ a rfl,fun x a=>?_⟩,fun i x a=>d i 0 x _ a rfl,fun i x a=>d i 1 x _ a rfl,fun i x a=>d i 2 x _ a rfl,fun i x a=>d i 4 x _ a rfl⟩
 obtain⟨K,c,g,hi⟩:=h.kids x a;exact⟨K,c,g,j x a,hi.ex⟩
theorem H_ {H:Type}{enc:TypeId × Value→H}{w:World}{f:Bool}{n:Nat}{cs:List Value}{x:DataW H × List MemPlace}
  (h:DataW.trod enc Tryz.prog w 0 (fun _=>true) f n 39 cs=some x) (hw:∀ m ∈ x.1.weights Tryz.prog 39,m≤reachBytes) :
  ∃ y:NV,cs=gu y∧(∃ K c,y.2=.slice K y.1.kids.length c∧IntsIn w K y.1.kids)∧((y.1.kind < 256∧(j6≤y.1.n∧y.1.n≤gL)∧(j6≤y.1.at_∧y.1.at_≤gL)∧(∀ c ∈ y.1.kids,j6≤c∧c≤gL))∧y.1.text.length≤reachBytes∧y.1.kids.length≤17592186044416):=by
 obtain⟨I,n,rfl,hd,i,F,g⟩:=DataW.trod_struct Tryz.underlying39 h;rw [C_] at i
 obtain⟨l,c1,c2,c3,c4,rfl⟩:∃ a b c d e,cs=[a,b,c,d,e]:=by
  match cs,i with
  | [a,b,c,d,e],_=>exact⟨a,b,c,d,e,rfl⟩
 obtain⟨Q,G,R,S,T,rfl⟩:∃ a b c d e,I=[a,b,c,d,e]:=by
  have E:I.length=5:=F
  match I,E with
  | [a,b,c,d,e],_=>exact⟨a,b,c,d,e,rfl⟩
 have V:DataW.trod enc Tryz.prog w 0 (fun _=>true) f n 5 (([l,c1,c2,c3,c4].drop 0).take (Tryz.prog.cellsOf 5))=some Q:=g 0 _ rfl;have W:DataW.trod enc Tryz.prog w 0 (fun _=>true) f n 9 (([l,c1,c2,c3,c4].drop 1).take (Tryz.prog.cellsOf 9))=some G:=g 1 _ rfl;have X:DataW.trod enc Tryz.prog w 0 (fun _=>true) f n 3 (([l,c1,c2,c3,c4].drop 2).take (Tryz.prog.cellsOf 3))=some R:=g 2 _ rfl;have J:DataW.trod enc Tryz.prog w 0 (fun _=>true) f n 23 (([l,c1,c2,c3,c4].drop 3).take (Tryz.prog.cellsOf 23))=some S:=g 3 _ rfl;have Y:DataW.trod enc Tryz.prog w 0 (fun _=>true) f n 3 (([l,c1,c2,c3,c4].drop 4).take (Tryz.prog.cellsOf 3))=some T:=g 4 _ rfl
 have o:∀ m ∈ DataW.weightsEach Tryz.prog [5,9,3,23,3] [Q.1,G.1,R.1,S.1,T.1],m≤reachBytes:=by
  intro m B;refine hw m ?_;rw [hd];simp only [DataW.weights,Tryz.underlying39];exact B
 obtain⟨k,M,hk2,r⟩:=DataW.trod_int adw V;obtain⟨s,P,D,hs3⟩:=DataW.trod_string abh W;obtain⟨a,L,ha2,U⟩:=DataW.trod_int Hl X;obtain⟨p,N,hp2,C⟩:=DataW.trod_int Hl Y;rw [C9] at J
 obtain⟨K,c,ks,A,q,u,hkc,hcc⟩:=xg J (fun m B=>o m (DataW.weights_mem_each (j:=3) rfl rfl m B));rw [Wt] at M
 rw [Rs] at P
 rw [Fx] at L N
 have Z:l=.int .u8 k:=by simpa using M
 have g1:c1=.string s:=by simpa using P
 have g2:c2=.int .i64 a:=by simpa using L
 have g3:c3=.slice K ks.length c:=by simpa using A
 have g4:c4=.int .i64 p:=by simpa using N
 have hk4:0≤k∧k < 256:=by
  simp [Lit.wf,IntKind.min,IntKind.max,IntKind.signed,IntKind.bits] at r
  omega
 obtain⟨k,rfl⟩:∃ m:Nat,k=m:=⟨k.toNat,by omega⟩
 refine⟨(⟨k,s.data.toList,a,ks,p⟩,.slice K ks.length c),?_,⟨K,c,rfl,q⟩,⟨by simp;omega,tK U,tK C,u⟩,?_,by show ks.length≤_;omega⟩
 ·rw [Z,g1,g2,g3,g4];simp [gu,aU]
 ·refine o s.data.toList.length (DataW.weights_mem_each (j:=1) (t:=9) (d:=G.1) rfl rfl _ ?_);rw [D];simp [DataW.weights]
theorem abp {H:Type}{enc:TypeId × Value→H}{W:World}{base j:Nat}{v:Value}{d:DataW H}{ps:List MemPlace}{ts:List TypeId}{ds:List (DataW H)}
  (L:Value.okWide Tryz.prog W .any base 25 v) (h:DataW.Trod enc Tryz.prog W 0 (fun _=>true) true 25 v d ps)
  (hsz:(DataW.weightsEach Tryz.prog ts ds).all (·≤reachBytes)=true) (ht:ts[j]? = some 25) (hd:ds[j]? = some d) :
  ∃ A B c e xs l,v=.agg #[.slice A xs.length c,.slice B l.length e]∧Ab W A B xs l∧xs.length≤c∧l.length≤17592186044416∧c≤17592186044416∧(∀ i ∈ l,j6≤i∧i≤gL) ∧
   ∀ x ∈ xs,(x.1.kind < 256∧(j6≤x.1.n∧x.1.n≤gL)∧(j6≤x.1.at_∧x.1.at_≤gL)∧(∀ c ∈ x.1.kids,j6≤c∧c≤gL))∧x.1.text.length≤reachBytes∧x.1.kids.length≤17592186044416:=by
 obtain⟨vs,rfl,M⟩:=okWide_struct Tryz.underlying25 L;rw [Ng] at M
 obtain⟨fuel,hf⟩:=h;have I:=aiD.1 hsz;have hwt:∀ m ∈ d.weights Tryz.prog 25,m≤reachBytes:=fun m r=>by simpa using I m (DataW.weights_mem_each (P:=Tryz.prog) ht hd m r)
 have q:(Value.agg vs).cells.toList=vs.toList:=rfl;rw [q] at hf
 obtain⟨ys,n,rfl,hdd,g,hxl,E⟩:=DataW.trod_struct Tryz.underlying25 hf
 obtain⟨C,c1,N⟩:∃ a b,vs.toList=[a,b]:=by
  have h2:vs.toList.length=2:=by simpa using M
  match hl:vs.toList,h2 with
  | [a,b],_=>exact⟨a,b,rfl⟩
 rw [N] at E
 obtain⟨U,x1,rfl⟩:∃ a b,ys=[a,b]:=by
  have hx2:ys.length=2:=hxl
  match ys,hx2 with
  | [a,b],_=>exact⟨a,b,rfl⟩
 have X:DataW.trod enc Tryz.prog W 0 (fun _=>true) true n 22 (([C,c1].drop 0).take (Tryz.prog.cellsOf 22))=some U:=E 0 _ rfl;have Y:DataW.trod enc Tryz.prog W 0 (fun _=>true) true n 23 (([C,c1].drop 1).take (Tryz.prog.cellsOf 23))=some x1:=E 1 _ rfl
 have R:∀ m ∈ DataW.weightsEach Tryz.prog [22,23] [U.1,x1.1],m≤reachBytes:=by
  intro m r;refine hwt m ?_;have hd1:d=.agg [U.1,x1.1]:=(Prod.mk.inj hdd).1;rw [hd1];simp only [DataW.weights,Tryz.underlying25];exact r
 rw [JC] at X
 rw [C9] at Y
 have f0:([C,c1].drop 0).take 1=[C]:=rfl;have f1:([C,c1].drop 1).take 1=[c1]:=rfl;rw [f0] at X
 rw [f1] at Y
 obtain⟨B,e,l,hB,G,J,hie,hee⟩:=xg Y (fun m r=>R m (DataW.weights_mem_each (j:=1) rfl rfl m r));have g1:c1=.slice B l.length e:=by simpa using hB
 have Q:∀ m ∈ U.1.weights Tryz.prog 22,m≤reachBytes:=fun m r=>R m (DataW.weights_mem_each (j:=0) rfl rfl m r)
 have F:vs=#[C,c1]:=by rw [← Array.toArray_toList (xs:=vs),N]
 rcases Deep.open_slice Tryz.underlying22 X with ⟨q,_⟩ | ⟨a,len,cap,m,n',D,Pl,q,_,hlc,hcap,r,w,V⟩
 ·have Z:C=.slice none 0 0:=by simpa using q
  refine⟨none,B,0,e,[],l,by rw [F,Z,g1];rfl,⟨fun h0=>absurd h0 (by simp),(fun x w=>by cases w),G⟩,by simp,by omega,by omega,J,fun x w=>by cases w⟩
 ·have Z:C=.slice (some a) len cap:=by simpa using q
  have hmc:m=cap:=by simpa using r
  have S:U.1=.slice ((List.range len).map D) ((List.range (m - len)).map fun j=>D (len+j)):=by rw [w]
  have hnd:∀ i,i < len→∃ y:NV,W.cells? 0 (a.add (i * 5)) 5=some (gu y)∧(∃ K c,y.2=.slice K y.1.kids.length c∧IntsIn W K y.1.kids)∧((y.1.kind < 256∧(j6≤y.1.n∧y.1.n≤gL)∧(j6≤y.1.at_∧y.1.at_≤gL)∧(∀ c ∈ y.1.kids,j6≤c∧c≤gL))∧y.1.text.length≤reachBytes∧y.1.kids.length≤17592186044416):=by
   intro i hi;obtain⟨cs',h1,h2⟩:=V i (by omega);rw [C_] at h1
   obtain⟨y,rfl,h3,h4⟩:=H_ h2 (fun m r=>Q m (by
    rw [S];simp only [DataW.weights,Tryz.underlying22,List.mem_cons,List.mem_append];right;left
    exact tX (d:=D i) (List.mem_map.2 ⟨i,by simpa using hi,rfl⟩) m r))
   exact⟨y,h1,h3,h4⟩
  have:Inhabited NV:=⟨(default,.bool false)⟩
  obtain⟨f,t⟩:=Deep.choose_lt hnd;have g:((List.range len).map f).length=len:=by simp
  have hcap2:cap * 64≤reachBytes:=by
   refine Q (cap * 64) ?_;rw [S];simp only [DataW.weights,Tryz.underlying22,List.mem_cons];left
   have hb:Tryz.prog.bytesOf 39=64:=by kernel_rfl
   rw [hb];simp;omega
  have hr:reachBytes=140737488351232:=rfl
  refine⟨some a,B,cap,e,(List.range len).map f,l,by rw [F,Z,g1,g],⟨fun h0=>?_,fun x w=>?_,G⟩,by rw [g];exact hlc,by omega,by omega,J,fun x w=>?_⟩
  ·rw [g] at h0
   have h1:=(World.cells?_some (t 0 h0).1).2.2 0 (by omega);obtain⟨hs,hb⟩:=cell_spot (a:=a) (v:=.int .u8 (f 0).1.kind) (by simpa [Addr.add,gu] using h1);obtain⟨b,o,sp⟩:=a;have hs':sp=none:=hs;subst hs'
   refine⟨b,o,rfl,hb,fun i k x u T hu=>?_⟩
   have hi:i < len:=by have:=(aiq.1 T).1;rwa [g] at this
   have hk5:k < 5:=by have:=(aiq.1 hu).1;simpa [gu] using this
   have hfx:f i=x:=by simpa [hi] using T
   have h2:=(World.cells?_some (t i hi).1).2.2 k hk5;rw [Cx,Cx,hfx] at h2
   rw [show o+(i * 5+k)=o+i * 5+k by omega,h2,hu]
  ·obtain⟨i,hi,rfl⟩:=List.mem_map.1 w;exact (t i (by simpa using hi)).2.1
  ·obtain⟨i,hi,rfl⟩:=List.mem_map.1 w;exact (t i (by simpa using hi)).2.2
end
section
open Go.RowKit Mist
attribute [local go_sem] au aN aV aM aG
theorem aad (A B:Option Addr)(c d:Nat)(xs:List NV)(h:List Int)(w:World)(hR:Ab w A B xs h)(hxs:xs.length≤17592186044416)(hi:h.length≤17592186044416)(hX:∀ x ∈ xs,x.1.text.length≤140737488351232∧x.1.kids.length≤17592186044416) :
  Calls Tryz.prog 5 #[.agg #[.slice A xs.length c,.slice B h.length d]] w fun e w'=>e=.returned (.bool (Na ⟨aj xs,h⟩))∧Below w.heap.size w w':=by
 obtain⟨n,t⟩:∃ n,n=xs.length:=⟨_,rfl⟩;obtain⟨m,D⟩:∃ m,m=h.length:=⟨_,rfl⟩;rw [← t] at hxs ⊢
 rw [← D] at hi ⊢
 have a:=O (show Na ⟨aj xs,h⟩=(decide (900 < n) || decide (100 < m) || decide (3000 < uS ((aj xs).take 901)) || decide (5000 < uR ((aj xs).take 901))) by unfold Na;rw [t,D];simp only [bW]);have pU:=O (show (aj xs).length=n by rw [bW,t]);have H:=O t;clear t;clear D;have HR:=O hR;clear hR;have HX:=O hX;clear hX
 have G:=O (show ∀ k,uS ((aj xs).take k)≤k * 17592186044416∧uR ((aj xs).take k)≤k * 140737488351232 from fun k=>by
  have q:∀ x ∈ (aj xs).take k,x.text.length≤140737488351232∧x.kids.length≤17592186044416:=fun x j=>by
   obtain⟨y,hy,rfl⟩:=List.mem_map.1 (List.mem_of_mem_take j);exact HX.o y hy
  have l:((aj xs).take k).length≤k:=List.length_take_le _ _;exact⟨Nat.le_trans (Eh fun x j=>(q x j).2) (Nat.mul_le_mul_right _ l),Nat.le_trans (Ef fun x j=>(q x j).1) (Nat.mul_le_mul_right _ l)⟩)
 go_in
 go_wp2_with fail;have T:=O (aZ.new w 25 #[.slice A n c,.slice B m d]);have gN:=O (aF (Below.refl w.heap.size w) (aiv _) (o:=.cells #[.slice A n c,.slice B m d] 25));go_loopw [3,4,5] (fun kv bv i wr=>∃ k S Z:Nat,k≤n∧k≤901∧i=.int .i64 k∧kv=.int .i64 S∧bv=.int .i64 Z∧Hid (S=uS ((aj xs).take k))∧Hid (Z=uR ((aj xs).take k))∧Hid (aZ wr w.heap.size 25 #[.slice A n c,.slice B m d])∧Hid (Below w.heap.size w wr)) (fun _ _ i _=>901 - (intOf i).toNat)
 case atStart=>exact⟨0,0,0,aix _,by omega,rfl,rfl,rfl,O (by simp [uS]),O (by simp [uR]),T,gN⟩
 case round =>
  obtain⟨k,S,Z,hk,M,rfl,rfl,rfl,P,U,R,u⟩:=hrel;have t0:=R.o.cell 0;have t1:=R.o.cell 1
  have hb1:S≤901 * 17592186044416:=by
   have h9:=(G.o k).1;rw [← P.o] at h9
   exact Nat.le_trans h9 (Nat.mul_le_mul_right _ M)
  have hb2:Z≤901 * 140737488351232:=by
   have h9:=(G.o k).2;rw [← U.o] at h9
   exact Nat.le_trans h9 (Nat.mul_le_mul_right _ M)
  by_cases hgo:k < n∧k < 901
  ·obtain⟨g,hk1⟩:=hgo;have i3:decide (k < n)=true:=aiG g;have i4:decide (k < 901)=true:=aiG hk1;have i5:decide ((k:Int) < 901)=true:=aiG (by omega);obtain⟨b,o,rfl,L,hc⟩:=HR.o.nodes (by rw [← H.o];omega);obtain⟨x,j⟩:∃ x,xs[k]? = some x:=⟨_,aip (by rw [← H.o];exact g)⟩;obtain⟨K,ck,N,_⟩:=HR.o.kids x (aiy j);have hq:=HX.o x (aiy j);have e1:=hc k 1 x _ j rfl;rw [← Nat.add_assoc] at e1
   have c1:=(u.o.cell (p:=⟨b,o+k * 5+1,none⟩) (by exact L)).trans e1;have e3:=hc k 3 x _ j rfl;rw [← Nat.add_assoc] at e3
   have c3:=(u.o.cell (p:=⟨b,o+k * 5+3,none⟩) (by exact L)).trans e3;rw [N] at c3
   clear e1 e3;have yO:=O (show (aj xs).take (k+1)=(aj xs).take k ++ [x.1] by rw [List.take_add_one,jd j];rfl);clear hc N j;obtain⟨nk,E⟩:∃ q,q=x.1.kids.length:=⟨_,rfl⟩;obtain⟨tx,F⟩:∃ q,q=x.1.text:=⟨_,rfl⟩;rw [← F] at c1 hq
   rw [← E] at c3 hq
   have gW:=O E;clear E;have Zc:=O F;clear F;have z0:(0:Int)≤(k:Int):=by omega
   have z1:(k:Int) < (n:Int):=by omega
   have w1:IntKind.i64.wrap ((S:Int)+(nk:Int))=(S:Int)+(nk:Int):=IntWalk.i64_in _ (by omega);have w2:IntKind.i64.wrap ((Z:Int)+(tx.length:Int))=(Z:Int)+(tx.length:Int):=IntWalk.i64_in _ (by omega);go_wp2_with fail;go_quiet (fail)
   go_wp2_with fail
   refine⟨⟨k+1,S+nk,Z+tx.length,by omega,by omega,by go_num,by simp,by simp,O (by rw [yO.o,UF,P.o,gW.o]),O (by rw [yO.o,UE,U.o,Zc.o]),O (R.o.drewN _),O (jJ u.o _)⟩,by simp [intOf];omega⟩
  ·have r:∀ f:List Nd→Nat,f ((aj xs).take k)=f ((aj xs).take 901):=fun f=>by
    by_cases h9:k=901
    ·rw [h9]
    ·have h8:=pU.o;rw [aiz (by omega),aiz (by omega)]
   have Q:=O (show uS ((aj xs).take 901)=S by rw [P.o];exact (r uS).symm);have V:=O (show uR ((aj xs).take 901)=Z by rw [U.o];exact (r uR).symm);rw [Q.o,V.o] at a
   clear r;have C:¬ k < n∨(k < n∧k=901):=by omega
   rcases C with g | ⟨g,rfl⟩
   ·have i3:decide (k < n)=false:=aiH g;go_upto_region 6 with (fail)
    by_cases h1:900 < n
    ·have I:decide (900 < n)=true:=aiG h1;have J:decide ((900:Int) < (n:Int))=true:=aiG (by omega);go_wp2;go_ret;exact⟨by rw [a.o];simp [I],u.o⟩
    have I:decide (900 < n)=false:=aiH h1;have J:decide ((900:Int) < (n:Int))=false:=aiH (by omega);by_cases h2:100 < m
    ·have W:decide (100 < m)=true:=aiG h2;have X:decide ((100:Int) < (m:Int))=true:=aiG (by omega);go_wp2;go_ret;exact⟨by rw [a.o];simp [W],u.o⟩
    have W:decide (100 < m)=false:=aiH h2;have X:decide ((100:Int) < (m:Int))=false:=aiH (by omega);by_cases h3:3000 < S
    ·have Y:decide (3000 < S)=true:=aiG h3;have d3':decide ((3000:Int) < (S:Int))=true:=aiG (by omega);go_wp2;go_ret;exact⟨by rw [a.o];simp [Y],u.o⟩
    have Y:decide (3000 < S)=false:=aiH h3;have d3':decide ((3000:Int) < (S:Int))=false:=aiH (by omega);by_cases h4:5000 < Z
    ·have d4:decide (5000 < Z)=true:=aiG h4;have d4':decide ((5000:Int) < (Z:Int))=true:=aiG (by omega);go_wp2;go_ret;exact⟨by rw [a.o];simp [d4],u.o⟩
    have d4:decide (5000 < Z)=false:=aiH h4;have d4':decide ((5000:Int) < (Z:Int))=false:=aiH (by omega);go_wp2;go_ret;exact⟨by rw [a.o];simp [I,W,Y,d4],u.o⟩
   ·have i3:decide (901 < n)=true:=aiG g;have i4:decide ((901:Int) < (n:Int))=true:=aiG (by omega);have I:decide (900 < n)=true:=aiG (by omega);have J:decide ((900:Int) < (n:Int))=true:=aiG (by omega);go_wp2;go_ret;exact⟨by rw [a.o];simp [I],u.o⟩
theorem RowsIn.tAt {g:Nat}{w:World}{A B:Option Addr}{c d:Nat}{xs:List NV}{a:List Int}(h:RowsIn g w (.slice A xs.length c) (.slice B a.length d) xs a)(f:∀ x ∈ xs,x.1.kids.length≤1000000):lJ w A B xs a:=by
 refine⟨fun h0=>?_,DU h.row rfl⟩
 obtain⟨b,e,i⟩:=FW h.own h0 (fun x j=>⟨_,h.kids x j⟩) f;exact⟨b,0,e,i⟩
def BH (w:World)(A B:Option Addr)(c:Nat)(xs:List NV)(its:List Int):Prop :=
 Ab w A B xs its∧xs.length≤c∧its.length≤17592186044416∧c≤17592186044416∧(∀ i ∈ its,j6≤i∧i≤gL) ∧
   ∀ x ∈ xs,(x.1.kind < 256∧(j6≤x.1.n∧x.1.n≤gL)∧(j6≤x.1.at_∧x.1.at_≤gL)∧(∀ c ∈ x.1.kids,j6≤c∧c≤gL))∧x.1.text.length≤reachBytes∧x.1.kids.length≤17592186044416
theorem BH.big {w:World}{A B:Option Addr}{c:Nat}{xs:List NV}{a:List Int}(h:BH w A B c xs a)(g:Nat)(W:World)(b:Below w.heap.size w W) :
  Calls Tryz.prog 5 #[.agg #[.slice A xs.length c,.slice B a.length g]] W fun e f=>e=.returned (.bool (Na ⟨aj xs,a⟩))∧Below W.heap.size W f:=by
 obtain⟨h1,h2,h3,h4,h5,h6⟩:=h;have i:reachBytes=140737488351232:=rfl
 exact aad A B c g xs a W (h1.below b) (by omega) h3 (fun x d=>by
  obtain⟨_,h7,h8⟩:=h6 x d;exact⟨by omega,h8⟩)
theorem BH.small {w:World}{A B:Option Addr}{c:Nat}{xs:List NV}{b:List Int}(h:BH w A B c xs b)(f:Na ⟨aj xs,b⟩=false) :
  lJ w A B xs b∧ED (aj xs)∧xs.length≤900∧b.length≤100∧(∀ x ∈ xs,x.1.text.length≤100000000)∧(∀ x ∈ xs,∀ k ∈ x.1.kids,j6≤k∧k≤gL)∧∀ x ∈ aj xs,x.kids.length≤1000000:=by
 obtain⟨h1,h2,h3,h4,h5,h6⟩:=h;obtain⟨b1,b2,e⟩:=Wm f;have d:∀ x ∈ xs,x.1.kids.length≤3000∧x.1.text.length≤5000:=fun x a=>e x.1 (List.mem_map.2 ⟨x,a,rfl⟩)
 refine⟨h1.tAt fun x a=>by have:=(d x a).1;omega,fun n g=>?_,by simpa [bW] using b1,b2,fun x a=>by have:=(d x a).2;omega,fun x a=>(h6 x a).1.2.2.2,fun x a=>by have:=(e x a).1;omega⟩
 obtain⟨x,a,rfl⟩:=List.mem_map.1 g;obtain⟨⟨h7,h8,h9,h10⟩,_,_⟩:=h6 x a;exact⟨h7,by have:=(d x a).2;omega,h8,h9,h10⟩
theorem Dt (A B:Option Addr)(c d:Nat)(ks ls:List Int)(w:World)(i:IntsIn w A ks)(k:IntsIn w B ls)(l:ks.length≤1000000)(m:ls.length≤1000000) :
  Calls Tryz.prog 106 #[.slice A ks.length c,.slice B ls.length d] w fun e b=>e=.returned (.bool (decide (ks=ls)))∧Below w.heap.size w b:=by
 by_cases h:ks.length=ls.length
 ·by_cases h0:ks.length=0
  ·have f:ks=[]:=List.length_eq_zero_iff.1 h0;have g:ls=[]:=List.length_eq_zero_iff.1 (h ▸ h0);subst f;subst g;refine (Tryz.slices_Equal_int_empty A B c 0 d w (by omega)).mono ?_;rintro e b ⟨rfl,rfl⟩;exact⟨by simp,Below.refl _ _⟩
  ·obtain⟨b1,o1,rfl,_,h1⟩:=i.ex (by omega);obtain⟨b2,o2,rfl,_,h2⟩:=k.ex (by omega);refine (Tryz.slices_Equal_int b1 o1 ks.length c b2 o2 ls.length d ks ls w (aiv _) (aiv _) (by omega) (by omega) (fun j a=>?_) (fun j a=>?_)).mono ?_
   ·rw [h1 j ks[j] (aip a)];simp [ait,a]
   ·rw [h2 j ls[j] (aip a)];simp [ait,a]
   ·rintro e b ⟨rfl,q,rfl⟩
    refine⟨?_,jJ (Below.refl _ _) _⟩
    rw [List.take_length,List.take_length]
    congr 2
    rw [aiu];simp
 ·refine (Tryz.slices_Equal_int_lens A B ks.length c ls.length d w h).mono ?_;rintro e b ⟨rfl,rfl⟩
  refine⟨?_,Below.refl _ _⟩
  rw [aiH (fun e=>h (by rw [e]))]
theorem Ob (x y:Nd)(A B:Option Addr)(c d:Nat)(w:World)(k:IntsIn w A x.kids)(l:IntsIn w B y.kids)(D:x.kids.length≤1000000)(E:y.kids.length≤1000000) :
  Calls Tryz.prog 105 #[.agg #[.int .u8 x.kind,.string (aU x.text),.int .i64 x.n,.slice A x.kids.length c,.int .i64 x.at_],.agg #[.int .u8 y.kind,.string (aU y.text),.int .i64 y.n,.slice B y.kids.length d,.int .i64 y.at_]] w fun e G=>e=.returned (.bool (decide (dV x=dV y)))∧Below w.heap.size w G:=by
 have b:=O (aF (aF (Below.refl w.heap.size w) (aiv _) (o:=.cells #[.int .u8 x.kind,.string (aU x.text),.int .i64 x.n,.slice A x.kids.length c,.int .i64 x.at_] 39)) (by simp) (o:=.cells #[.int .u8 y.kind,.string (aU y.text),.int .i64 y.n,.slice B y.kids.length d,.int .i64 y.at_] 39));have g:=O fun W (m:Below w.heap.size w W)=>Dt A B c d x.kids y.kids W (k.below m) (l.below m) D E
 have a:∀ {p:Prop},(dV x=dV y→p)→¬ p→decide (dV x=dV y)=false:=fun h F=>aiH (fun e=>F (h e))
 clear k l;by_cases h1:x.kind=y.kind
 case neg =>
  have t:((x.kind:Int) == (y.kind:Int))=false:=by rw [air];omega
  have f:=O (a (p:=x.kind=y.kind) (fun e=>by have h9:=congrArg Nd.kind e;exact h9) h1);clear h1 a;go_in
  go_wp2_with fail;go_ret;exact⟨by rw [f.o];rfl,b.o⟩
 have t:((x.kind:Int) == (y.kind:Int))=true:=by simp [h1]
 by_cases h2:x.text=y.text
 case neg =>
  have u:(x.text == y.text)=false:=by simpa using h2
  have f:=O (a (p:=x.text=y.text) (fun e=>by have h9:=congrArg Nd.text e;exact h9) h2);have j:=O h1;clear h1 a;go_in
  go_wp2_with fail;go_ret;exact⟨by rw [f.o];rfl,b.o⟩
 have u:(x.text == y.text)=true:=by simpa using h2
 by_cases h3:x.n=y.n
 case neg =>
  have C:(x.n == y.n)=false:=by simpa using h3
  have f:=O (a (p:=x.n=y.n) (fun e=>by have h9:=congrArg Nd.n e;exact h9) h3);have j:=O h1;have q:=O h2;clear h1 h2 h3 a;go_in
  go_wp2_with fail;go_ret;exact⟨by rw [f.o];rfl,b.o⟩
 have C:(x.n == y.n)=true:=by simpa using h3
 have r:=O (show decide (dV x=dV y)=decide (x.kids=y.kids) by
  congr 1
  unfold dV;rw [h1,h2,h3];simp)
 have j:=O h1;have q:=O h2;have H:=O h3;clear h1 h2 h3 a;go_in
 go_wp2_with fail;refine (g.o _ b.o).mono ?_;rintro e w1⟨rfl,i⟩;go_wp2_with fail;go_ret;exact⟨by rw [r.o];first | rfl | simp,b.o.trans (i.mono b.o.size)⟩
theorem Nl (A B A' B':Option Addr)(c c':Nat)(xs j:List NV)(Z qN:List Int)(w:World)(hT:lJ w A B xs Z)(hU:lJ w A' B' j qN)(q:xs.length≤100000)(hy:j.length≤100000) :
  Calls Tryz.prog 104 #[.slice A xs.length c,.slice A' j.length c',.func (.func 105) #[] #[]] w fun e w'=>e=.returned (.bool (decide ((aj xs).map dV=(aj j).map dV)))∧Below w.heap.size w w':=by
 obtain⟨n,D⟩:∃ n,n=xs.length:=⟨_,rfl⟩;obtain⟨n',U⟩:∃ n,n=j.length:=⟨_,rfl⟩;rw [← D] at q ⊢
 rw [← U] at hy ⊢
 have HT:=O hT;clear hT;have HU:=O hU;clear hU;have N:=O D;clear D;have P:=O U;clear U;go_in
 by_cases V:n=n'
 case neg =>
  have q1:((n:Int) != (n':Int))=true:=by simp;omega
  have Q:=O (show decide ((aj xs).map dV=(aj j).map dV)=false from aiH fun h=>V (by have:=congrArg List.length h;simp only [List.length_map,bW] at this;rw [N.o,P.o];exact this));clear V;go_wp2_with fail;go_ret;exact⟨by rw [Q.o];rfl,Below.refl _ _⟩
 subst V;have q1:((n:Int) != (n:Int))=false:=by simp
 go_wp2_with fail;go_loopw [17] (fun i wr=>∃ k:Nat,k≤n∧i=.int .i64 k∧Hid (((aj xs).take k).map dV=((aj j).take k).map dV)∧Hid (Below w.heap.size w wr)) (fun i _=>n - (intOf i).toNat)
 case atStart=>exact⟨0,aix _,rfl,O rfl,O (Below.refl _ _)⟩
 case round =>
  obtain⟨u,rfl⟩:∃ u:World,u=wr:=⟨_,rfl⟩;obtain⟨k,hk,rfl,HK,a⟩:=hrel;by_cases t:k < n
  ·have i3:decide (k < n)=true:=aiG t;obtain⟨b,o,rfl,f⟩:=HT.o.nodes (by rw [← N.o];omega);obtain⟨E,M,rfl,g⟩:=HU.o.nodes (by rw [← P.o];omega);obtain⟨x,q⟩:∃ x,xs[k]? = some x:=iG (by rw [← N.o];exact t);obtain⟨y,hy⟩:∃ y,j[k]? = some y:=iG (by rw [← P.o];exact t);have c0:=(a.o.cell (p:=⟨b,o+k * 5,none⟩) f.lt).trans (f.c0 k x q);have c1:=(a.o.cell (p:=⟨b,o+k * 5+1,none⟩) f.lt).trans (f.c1 k x q);have c2:=(a.o.cell (p:=⟨b,o+k * 5+2,none⟩) f.lt).trans (f.c2 k x q);have c3:=(a.o.cell (p:=⟨b,o+k * 5+3,none⟩) f.lt).trans (f.c3 k x q);have c4:=(a.o.cell (p:=⟨b,o+k * 5+4,none⟩) f.lt).trans (f.c4 k x q);have d0:=(a.o.cell (p:=⟨E,M+k * 5,none⟩) g.lt).trans (g.c0 k y hy);have d1:=(a.o.cell (p:=⟨E,M+k * 5+1,none⟩) g.lt).trans (g.c1 k y hy);have d2:=(a.o.cell (p:=⟨E,M+k * 5+2,none⟩) g.lt).trans (g.c2 k y hy);have d3:=(a.o.cell (p:=⟨E,M+k * 5+3,none⟩) g.lt).trans (g.c3 k y hy);have d4:=(a.o.cell (p:=⟨E,M+k * 5+4,none⟩) g.lt).trans (g.c4 k y hy);obtain⟨Ka,ca,I,X,J⟩:=f.kid q;obtain⟨Kb,cb,K,Y,L⟩:=g.kid hy;rw [I] at c3
   rw [K] at d3
   have G:=O (jd q);have H:=O (jd hy);have hb1:b < u.heap.size:=aiI f.lt a.o.size;have hb2:E < u.heap.size:=aiI g.lt a.o.size;have IJ:=O fun W (hb:Below u.heap.size u W)=>Ob x.1 y.1 Ka Kb ca cb W ((J.below a.o).below hb) ((L.below a.o).below hb) X Y
   clear f g q hy I K J L;have z0:(0:Int)≤(k:Int):=by omega
   have z1:(k:Int) < (n:Int):=by omega
   have d:=O (aF (aF (Below.refl u.heap.size u) (aiv _) (o:=.cells #[.int .u8 x.1.kind,.string (aU x.1.text),.int .i64 x.1.n,.slice Ka x.1.kids.length ca,.int .i64 x.1.at_] 39)) (by simp) (o:=.cells #[.int .u8 y.1.kind,.string (aU y.1.text),.int .i64 y.1.n,.slice Kb y.1.kids.length cb,.int .i64 y.1.at_] 39));by_cases F:dV x.1=dV y.1
   ·have T:=O (show decide (dV x.1=dV y.1)=true from aiG F)
    have R:=O (show ((aj xs).take (k+1)).map dV=((aj j).take (k+1)).map dV by
     rw [List.take_add_one,List.take_add_one,G.o,H.o,List.map_append,List.map_append,HK.o];simp [F])
    clear F;go_wp2_with fail;refine (IJ.o _ d.o).mono ?_;rintro e w2⟨rfl,m⟩;rw [T.o];have C:=O (a.o.trans ((d.o.trans (m.mono d.o.size)).mono a.o.size));clear m;go_wp2_with fail;exact⟨⟨k+1,by omega,by go_num,R,C⟩,by simp [intOf];omega⟩
   ·have T:=O (show decide (dV x.1=dV y.1)=false from aiH F)
    have Q:=O (show decide ((aj xs).map dV=(aj j).map dV)=false from aiH fun h=>by
     refine yL (l:=(aj xs).map dV) (r:=(aj j).map dV) (k:=k) ?_ ?_ F h
     ·rw [List.getElem?_map,G.o];rfl
     ·rw [List.getElem?_map,H.o];rfl)
    clear F;go_wp2_with fail;refine (IJ.o _ d.o).mono ?_;rintro e w2⟨rfl,m⟩;rw [T.o];have C:=O (a.o.trans ((d.o.trans (m.mono d.o.size)).mono a.o.size));clear m;go_wp2_with fail;go_ret;exact⟨by rw [Q.o];rfl,C.o⟩
  ·have i3:decide (k < n)=false:=aiH t
   have S:=O (show decide ((aj xs).map dV=(aj j).map dV)=true from aiG (by
    have h9:=HK.o
    rwa [aiz (by rw [bW,← N.o];omega),aiz (by rw [bW,← P.o];omega)] at h9))
   go_wp2_with fail;go_ret;exact⟨by rw [S.o];rfl,a.o⟩
def two (T U:Tr):Int:=if eP T ≠ 0 then eP T else eP U
def eqE (T U:Tr):Bool × Int:=if two T U ≠ 0 then (false,two T U) else (decide (T.nodes.map dV=U.nodes.map dV) && decide (T.items=U.items),0)
theorem Nh (A B H B':Option Addr)(c d P Q g:Nat)(xs t:List NV)(j F:List Int)(w:World)(Z:lJ w A B xs j)(hU:lJ w H B' t F)(Y:ED (aj xs))(hS:ED (aj t))(S:Env w)(hg:aZ w g 25 #[.slice A xs.length c,.slice B j.length d,.slice H t.length P,.slice B' F.length Q]) :
  Calls Tryz.prog 103 #[.slice (some ⟨g,0,none⟩) 2 2] w fun e w'=>e=.returned (.int .i64 (two ⟨aj xs,j⟩ ⟨aj t,F⟩))∧Below w.heap.size w w':=by
 have x:=O fun W (L:Below w.heap.size w W)=>qD A B c d xs j W (Z.below L) Y (S.below L)
 have y:=O fun W (L:Below w.heap.size w W)=>qD H B' P Q t F W (hU.below L) hS (S.below L)
 obtain⟨T,nU⟩:∃ T:Tr,T=⟨aj xs,j⟩:=⟨_,rfl⟩;obtain⟨U,K⟩:∃ U:Tr,U=⟨aj t,F⟩:=⟨_,rfl⟩;rw [← nU] at x ⊢
 rw [← K] at y ⊢
 clear nU K Z hU Y hS S;have X:=O hg;clear hg;obtain⟨p,l⟩:∃ p,p=eP T:=⟨_,rfl⟩;obtain⟨q,n⟩:∃ q,q=eP U:=⟨_,rfl⟩;have C:=O (show two T U=if p ≠ 0 then p else q by unfold two;rw [l,n]);rw [← l] at x
 rw [← n] at y
 clear l n;go_in
 go_wp2_with fail;go_loopw [8] (fun i wr=>∃ k:Nat,k≤2∧i=.int .i64 k∧(0 < k→p=0)∧(1 < k→q=0)∧Hid (aZ wr g 25 #[.slice A xs.length c,.slice B j.length d,.slice H t.length P,.slice B' F.length Q])∧Hid (Below w.heap.size w wr)) (fun i _=>2 - (intOf i).toNat)
 case atStart=>exact⟨0,by omega,rfl,fun h=>absurd h (by omega),fun h=>absurd h (by omega),X,O (Below.refl _ _)⟩
 case round =>
  clear X;obtain⟨G,rfl⟩:∃ G:World,G=wr:=⟨_,rfl⟩;obtain⟨k,hk,rfl,m,E,r,I⟩:=hrel;have t0:=r.o.cell 0;have t1:=r.o.cell 1;have t2:=r.o.cell 2;have t3:=r.o.cell 3;have V:k=0∨k=1∨k=2:=by omega
  rcases V with rfl | rfl | rfl
  ·have b:=O (aF (Below.refl G.heap.size G) (aiv _) (o:=.cells #[.slice A xs.length c,.slice B j.length d] 25));have a:=O (I.o.trans (b.o.mono I.o.size));go_wp2_with fail;refine (x.o _ a.o).mono ?_;rintro e w2⟨rfl,f⟩;have M:=O (a.o.trans (f.mono a.o.size));have D:=O (b.o.trans (f.mono b.o.size));clear f;by_cases l:p=0
   ·have R:(p != 0)=false:=by simp [l]
    have u:=O (r.o.below D.o r.o.lt);have N:=O l;clear l;go_wp2_with fail;exact⟨⟨1,by omega,rfl,fun _=>N.o,fun h=>absurd h (by omega),u,M⟩,by simp [intOf]⟩
   ·have R:(p != 0)=true:=by simpa using l
    have J:=O (show two T U=p by rw [C.o,if_pos l]);clear l;go_wp2_with fail;go_ret;exact⟨by rw [J.o];rfl,M.o⟩
  ·have l:=m (by omega);have N:=O l;have b:=O (aF (Below.refl G.heap.size G) (aiv _) (o:=.cells #[.slice H t.length P,.slice B' F.length Q] 25));have a:=O (I.o.trans (b.o.mono I.o.size));clear m E l;go_wp2_with fail;refine (y.o _ a.o).mono ?_;rintro e w2⟨rfl,f⟩;have M:=O (a.o.trans (f.mono a.o.size));have D:=O (b.o.trans (f.mono b.o.size));clear f;by_cases n:q=0
   ·have R:(q != 0)=false:=by simp [n]
    have u:=O (r.o.below D.o r.o.lt);have HQ:=O n;clear n;go_wp2_with fail;exact⟨⟨2,by omega,rfl,fun _=>N.o,fun _=>HQ.o,u,M⟩,by simp [intOf]⟩
   ·have R:(q != 0)=true:=by simpa using n
    have J:=O (show two T U=q by rw [C.o,if_neg (by rw [N.o];simp)]);clear n;go_wp2_with fail;go_ret;exact⟨by rw [J.o];rfl,M.o⟩
  ·have J:=O (show two T U=0 by rw [C.o,if_neg (by rw [m (by omega)];simp),E (by omega)]);clear m E;go_wp2_with fail;go_ret;exact⟨by rw [J.o];rfl,I.o⟩
theorem Nn (A B i B':Option Addr)(c d j l:Nat)(xs b:List NV)(a f:List Int)(w:World)(N:lJ w A B xs a)(P:lJ w i B' b f)(Y:ED (aj xs))(hS:ED (aj b))(X:Env w)(Z:xs.length≤100000)(hy:b.length≤100000)(hi:a.length≤100000)(hj:f.length≤100000) :
  Calls Tryz.prog 53 #[.agg #[.slice A xs.length c,.slice B a.length d],.agg #[.slice i b.length j,.slice B' f.length l]] w fun e w'=>e=.returned (.tuple #[.bool (eqE ⟨aj xs,a⟩ ⟨aj b,f⟩).1,.int .i64 (eqE ⟨aj xs,a⟩ ⟨aj b,f⟩).2])∧Below w.heap.size w w':=by
 have h:=O fun W (t:Below w.heap.size w W) g hg=>Nh A B i B' c d j l g xs b a f W (N.below t) (P.below t) Y hS (X.below t) hg
 have Q:=O fun W (t:Below w.heap.size w W)=>Nl A B i B' c j xs b a f W (N.below t) (P.below t) Z hy
 have R:=O fun W (t:Below w.heap.size w W)=>Dt B B' d l a f W (N.below t).items (P.below t).items (by omega) (by omega)
 obtain⟨T,V⟩:∃ T:Tr,T=⟨aj xs,a⟩:=⟨_,rfl⟩;obtain⟨U,D⟩:∃ U:Tr,U=⟨aj b,f⟩:=⟨_,rfl⟩;have m:=O (show eqE T U=if two T U ≠ 0 then (false,two T U) else (decide ((aj xs).map dV=(aj b).map dV) && decide (a=f),0) by rw [V,D];rfl);rw [← V,← D] at h ⊢
 clear V D N P Y hS X Z hy hi hj;have y:=O (((aZ.new w 25 #[.slice A xs.length c,.slice B a.length d]).alloc (.cells #[.slice i b.length j,.slice B' f.length l] 25)).alloc (.cells #[.slice A xs.length c,.slice B a.length d,.slice i b.length j,.slice B' f.length l] 25));have C:=O ((nI (W:=w.alloc (.cells #[.slice A xs.length c,.slice B a.length d] 25)) (T:=25) (cs:=#[.slice i b.length j,.slice B' f.length l]) (k:=w.heap.size+1) (by simp)).alloc (.cells #[.slice A xs.length c,.slice B a.length d,.slice i b.length j,.slice B' f.length l] 25));have I:=O (nI (W:=(w.alloc (.cells #[.slice A xs.length c,.slice B a.length d] 25)).alloc (.cells #[.slice i b.length j,.slice B' f.length l] 25)) (T:=25) (cs:=#[.slice A xs.length c,.slice B a.length d,.slice i b.length j,.slice B' f.length l]) (k:=w.heap.size+1+1) (by simp));have M:=O (aF (aF (aF (Below.refl w.heap.size w) (aiv _) (o:=.cells #[.slice A xs.length c,.slice B a.length d] 25)) (by simp) (o:=.cells #[.slice i b.length j,.slice B' f.length l] 25)) (by simp;omega) (o:=.cells #[.slice A xs.length c,.slice B a.length d,.slice i b.length j,.slice B' f.length l] 25));go_in
 go_wp2_with fail;refine (h.o _ M.o _ I.o).mono ?_;rintro e w1⟨rfl,u⟩;have F:=O (y.o.below u y.o.lt);have H:=O (C.o.below u C.o.lt);have J:=O (M.o.trans (u.mono M.o.size));clear u y C I M h;have t0:=F.o.cell 0;have t1:=F.o.cell 1;have u0:=H.o.cell 0;have u1:=H.o.cell 1;obtain⟨E,L⟩:∃ E,E=two T U:=⟨_,rfl⟩;rw [← L] at m ⊢
 clear L;by_cases q:E=0
 case neg =>
  have e1:(E != 0)=true:=by simpa using q
  have K:=O (show eqE T U=(false,E) by rw [m.o,if_pos q]);clear q;go_wp2_with fail;go_ret2
  exact⟨by rw [K.o];rfl,J.o⟩
 subst q;have K:=O (show eqE T U=(decide ((aj xs).map dV=(aj b).map dV) && decide (a=f),0) by rw [m.o,if_neg (by simp)]);clear m;go_wp2_with fail;refine (Q.o _ J.o).mono ?_;rintro e w2⟨rfl,x⟩;have G:=O (F.o.below x F.o.lt);have h:=O (H.o.below x H.o.lt);have n:=O (J.o.trans (x.mono J.o.size));clear x F H J t0 t1 u0 u1;have t0:=G.o.cell 0;have t1:=G.o.cell 1;have u0:=h.o.cell 0;have u1:=h.o.cell 1
 generalize decide ((aj xs).map dV=(aj b).map dV)=r at K ⊢
 cases r
 ·go_wp2_with fail;go_ret2
  exact⟨by rw [K.o];rfl,n.o⟩
 ·go_wp2_with fail;refine (R.o _ n.o).mono ?_;rintro e w3⟨rfl,S⟩;go_wp2_with fail;go_ret2
  exact⟨by rw [K.o];first | rfl | simp,n.o.trans (S.mono n.o.size)⟩
end
