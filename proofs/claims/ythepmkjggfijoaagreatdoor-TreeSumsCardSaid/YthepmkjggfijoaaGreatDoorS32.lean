/-
  A part of the proof.
-/
import Derived.Test.YthepmkjggfijoaaGreatDoorSA
import Derived.ProofKit
import Derived.OpenShut
import Derived.LaidMore
import Derived.Lay
import Derived.SevenTiedAt
import Derived.Stop.Joined
import Derived.Carry
import Derived.RowKit
import Derived.Lib.LaidTab
import Derived.Deep.Slices
import Derived.SizedLaws
import Derived.ChangeOld
import Derived.Test.YthepmkjggfijoaaGreatDoorTie
import Derived.Test.YthepmkjggfijoaaGreatDoorS01
import Derived.Test.YthepmkjggfijoaaGreatDoorS04
import Derived.Test.YthepmkjggfijoaaGreatDoorS05
import Derived.Test.YthepmkjggfijoaaGreatDoorS20
import Derived.Test.YthepmkjggfijoaaGreatDoorS28
set_option linter.all false
set_option maxRecDepth 100000
namespace Go.Proofs.YthepmkjggfijoaaGreatDoor
open Go.ChangeShapes Go.WideShapes Go.ChangeAt Go.RowKit
set_option maxRecDepth 100000
theorem own_knob:ownKnob Tryz.prog.godebug=none:=by kernel_rfl
theorem BA {P:Program}{w:World}:∀ {l:List (String × DataW Unit)} {ps:List MemPlace},DataW.LaidVars P w l ps→∀ n d,(n,d) ∈ l →
  ∃ g t cs fuel p,P.globalNamed n=some g∧(P.globals[g]?).map (·.type)=some t∧w.var? P n=some cs∧DataW.trod (fun _=>()) P w 0 (fun _=>true) false fuel t cs.toList=some (d,p)
 | [],_,_,_,_,h=>by cases h
 | (n,d) :: r,ps,h,n',d',hm=>by
  obtain⟨g,t,cs,fuel,p,q,h1,h2,h3,h4,h5,_⟩:=h;rcases List.mem_cons.1 hm with he | hr
  ·cases he;exact⟨g,t,cs,fuel,p,h1,h2,h3,h4⟩
  ·exact BA h5 n' d' hr
theorem PO {P:Program}{W:World}{l:List (String × DataW Unit)}{name:String}{k:IntKind}{zs:List Int}{g:Nat}{t e:TypeId}{n:Nat}
  (hg:P.globalNamed name=some g) (hty:(P.globals[g]?).map (·.type)=some t) (ht:P.underlying t=some (.array n e)) (he:P.underlying e=some (.int k)) (hce:P.cellsOf e=1) (hct:P.cellsOf t=n)
  (h:laidMet P l W) (hm:(name,Lib.tabData k zs) ∈ l):Lib.TabIs P W name k zs:=by
 obtain⟨ps,hv,_⟩:=h;obtain⟨g',t',cs,fuel,p,hg',ht',hvar,hd⟩:=BA hv _ _ hm;obtain rfl:=aaP (hg.symm.trans hg');obtain rfl:=aaP (hty.symm.trans ht');unfold Lib.TabIs;rw [hvar,← Lib.cells_of_tab ht he hce hct hd]
theorem zI {H:Type}{enc:TypeId × Value→H}{P:Program}(hl:laidOutB P=true){W W':World}(hb:Below W.heap.size W W') :
  ∀ {ts:List TypeId} {vs:List Value} {ds:List (DataW H)} {ps:List MemPlace},(ts.all fun t=>P.readableRec t && decide (t < P.types.size))=true→DataW.TrodAll enc P W 0 (fun _=>true) true ts vs ds ps→(∀ x ∈ ps,x.block < W.heap.size) →
   DataW.TrodAll enc P W' 0 (fun b=>decide (b < W.heap.size)) true ts vs ds ps
 | [],[],[],_,_,h,_=>h
 | t :: ts,v :: vs,d :: ds,ps,ha,h,hlt=>by
  obtain⟨p,q,h1,h2,rfl⟩:=h;simp only [List.all_cons,aaS,decide_eq_true_eq] at ha
  exact⟨p,q,Below.trod hl ha.1.1 ha.1.2 h1 hb (fun x hx=>hlt x (List.mem_append_left _ hx)),zI hl hb ha.2 h2 (fun x hx=>hlt x (List.mem_append_right _ hx)),rfl⟩
 | [],_ :: _,_,_,_,h,_=>h.elim
 | [],[],_ :: _,_,_,h,_=>h.elim
 | _ :: _,[],_,_,_,h,_=>h.elim
 | _ :: _,_ :: _,[],_,_,h,_=>h.elim
theorem post_true {H:Type}{enc:TypeId × Value→H}{P:Program}{f:Func}{s:ChangeSpec}{apart fresh handsOn:Bool}{W W':World}{args:Array Value}{ds gs:List (DataW H)}{before:List MemPlace}{t:TypeId}
  (hl:laidOutB P=true) (hp:(f.params.toList.all fun t=>P.readableRec t && decide (t < P.types.size))=true) (hv:s.vars=[]) (hrt:f.resultTypes=#[t]) (ht:P.underlying t=some .bool)
  (hfn:s.fn H (ds ++ gs)={ results:=[.lit (.bool true)],args:=ds })
  (hW:DataW.Whole enc P f.params.toList s.vars apart W args.toList ds gs before) (hb:Below W.heap.size W W') :
  s.post enc P f apart fresh handsOn false W args (.bool true) W':=by
 obtain⟨p,q,hA,hV,rfl,_,_⟩:=id hW
 refine⟨ds,gs,_,[],p,[],hW,?_,?_,?_,Below.frame hb _,fun h=>by cases h⟩
 ·rw [hfn,hrt];exact trodAll_mk1 (shut_bool ht true)
 ·rw [hfn];exact zI hl hb hp hA (fun x hx=>hW.lt x (List.mem_append_left _ hx))
 ·rw [hfn,hv];exact rfl
theorem laid_out:laidOutB Tryz.prog=true:=by kernel_rfl
theorem bool_row:Tryz.prog.underlying 4=some .bool:=by kernel_rfl
theorem Tj:(Rows.laid_strings_asciiSpace:DataW Unit)=Lib.tabData IntKind.u8 Lib.asciiSpaceTab:=by kernel_rfl
theorem env_of_laid {l : List (String × DataW Unit)} {w : World} (h : laidMet Tryz.prog l w) (hm : ("strings.asciiSpace", Rows.laid_strings_asciiSpace) ∈ l) : Env w := by
 rw [Tj] at hm
 refine⟨w.heap.size,aaJ _,Lib.tabBelow_of_tabIs (PO (g:=0) (t:=179) (e:=5) (n:=256) (by kernel_rfl) (by kernel_rfl) (by kernel_rfl) (by kernel_rfl) (by kernel_rfl) (by kernel_rfl) h hm)⟩
end Go.Proofs.YthepmkjggfijoaaGreatDoor
namespace Go.Proofs.YthepmkjggfijoaaGreatDoor
open Go.ChangeShapes Go.WideShapes Go.ChangeAt Go.RowKit Go.MapKept Go.ChangeMaps Mist
set_option maxRecDepth 100000
theorem yR {H:Type}{P:Program}{e:TypeId}{d:DataW H}:∀ {l:List (DataW H)},d ∈ l→∀ n ∈ d.weights P e,n ∈ DataW.weightsAll P e l
 | [],h,_,_=>by cases h
 | x :: r,h,n,hn=>by
  simp only [DataW.weightsAll,List.mem_append];rcases List.mem_cons.1 h with rfl | h
  ·exact .inl hn
  ·exact .inr (yR h n hn)
theorem Tw:Tryz.prog.underlying 5=some (.int .u8):=by kernel_rfl
theorem Ml:Tryz.prog.underlying 3=some (.int .i64):=by kernel_rfl
theorem str_row:Tryz.prog.underlying 9=some .string:=by kernel_rfl
theorem Zh:Tryz.prog.cellsOf 5=1:=by kernel_rfl
theorem J6:Tryz.prog.cellsOf 3=1:=by kernel_rfl
theorem Vj:Tryz.prog.cellsOf 9=1:=by kernel_rfl
theorem Gw:Tryz.prog.cellsOf 24=1:=by kernel_rfl
theorem NQ:Tryz.prog.cellsOf 23=1:=by kernel_rfl
theorem Gx:Tryz.prog.cellsOf 50=5:=by kernel_rfl
theorem Rp:Tryz.prog.cellsOf 26=2:=by kernel_rfl
theorem yu {n:Int}(h:(Lit.int .i64 n).wf=true):jq≤n∧n≤gq:=by
 simp [Lit.wf,IntKind.min,IntKind.max,IntKind.signed,IntKind.bits] at h
 unfold jq gq;omega
theorem cell_spot {w:World}{a:Addr}{v:Value}(h:w.cell? a=some v):a.spot=none∧a.block < w.heap.size:=by
 unfold World.cell? at h
 split at h
 ·rename_i c e f hb
  refine⟨?_,(aaG.1 hb).1⟩
  cases hs:a.spot with
  | none=>rfl
  | some x=>rw [hs] at h;simp at h
 ·cases h
theorem Gj {b o i:Nat}:Addr.add ⟨b,o,none⟩ i=⟨b,o+i,none⟩:=by
 unfold Addr.add;split
 ·rename_i h;subst h;rfl
 ·rfl
theorem byte_of_Trod {H:Type}{enc:TypeId × Value→H}{W:World}{base:Nat}{v:Value}{d:DataW H}{ps:List MemPlace}
  (hval:Value.okWide Tryz.prog W .any base 5 v) (h:DataW.Trod enc Tryz.prog W 0 (fun _=>true) true 5 v d ps):∃ x:Nat,v=.int .u8 x∧x < 256:=by
 obtain⟨n,rfl⟩:=okWide_int Tw hval;obtain⟨fuel,hf⟩:=h;obtain⟨k,hk,hk2,hk3⟩:=DataW.trod_int Tw hf;have g0:(Value.int .u8 n)=.int .u8 k:=by simpa [Value.cells] using hk
 have hk4:0≤k∧k < 256:=by
  simp [Lit.wf,IntKind.min,IntKind.max,IntKind.signed,IntKind.bits] at hk3
  omega
 obtain⟨k,rfl⟩:∃ m:Nat,k=m:=⟨k.toNat,by omega⟩;exact⟨k,g0,by omega⟩
theorem Ck {H:Type}{enc:TypeId × Value→H}{w:World}{held:Bool}{n:Nat}{cs:List Value}{x:DataW H × List MemPlace}
  (h:DataW.trod enc Tryz.prog w 0 (fun _=>true) held n 24 cs=some x) (hw:∀ m ∈ x.1.weights Tryz.prog 24,m≤reachBytes) :
  ∃ A c ks,cs=[.slice A ks.length c]∧IntsIn w A ks∧(∀ k ∈ ks,jq≤k∧k≤gq)∧ks.length≤c∧c≤17592186044416:=by
 rcases Deep.open_slice1 Tryz.underlying24 J6 h with ⟨hcs,_⟩ | ⟨a,len,cap,m,n',V,D,Pl,hcs,_,hlc,hcap,hm,hx,hel⟩
 ·exact⟨none,0,[],by simpa using hcs,⟨fun h0=>absurd h0 (by simp)⟩,(fun k hk=>by cases hk),by simp,by omega⟩
 ·have hmc:m=cap:=by simpa using hm
  have hin:∀ i,i < len→∃ k:Int,V i=.int .i64 k∧(jq≤k∧k≤gq):=by
   intro i hi;obtain⟨h1,h2⟩:=hel i (by omega);obtain⟨k,hk,hk2,hk3⟩:=DataW.trod_int Ml h2;exact⟨k,by simpa using hk,yu hk3⟩
  obtain⟨f,hf⟩:=Deep.choose_lt hin;have hlen:((List.range len).map f).length=len:=by simp
  have hcap2:cap * 8≤reachBytes:=by
   refine hw (cap * 8) ?_;rw [hx];simp only [DataW.weights,Tryz.underlying24,List.mem_cons];left
   have hb:Tryz.prog.bytesOf 3=8:=by kernel_rfl
   rw [hb];simp;omega
  have hr:reachBytes=140737488351232:=rfl
  refine⟨some a,cap,(List.range len).map f,by rw [hcs,hlen],⟨fun h0=>?_⟩,?_,by rw [hlen];exact hlc,by omega⟩
  ·rw [hlen] at h0
   obtain⟨hs,hb⟩:=cell_spot (by have:=(hel 0 (by omega)).1;simpa [Addr.add] using this);obtain⟨b,o,sp⟩:=a;have hs':sp=none:=hs;subst hs'
   refine⟨b,o,rfl,hb,fun j k hk=>?_⟩
   have hj:j < len:=by have:=(aaE.1 hk).1;rwa [hlen] at this
   have h1:=(hel j (by omega)).1;rw [Gj,(hf j hj).1] at h1
   rw [h1]
   have:f j=k:=by simpa [hj] using hk
   rw [this]
  ·intro k hk;obtain⟨i,hi,rfl⟩:=List.mem_map.1 hk;exact (hf i (by simpa using hi)).2
structure Gg (w:World) (A B:Option Addr) (xs:List NV) (its:List Int):Prop where
 nodes:0 < xs.length→∃ b o,A=some ⟨b,o,none⟩∧b < w.heap.size∧∀ (i k:Nat) x u,xs[i]? = some x→(fC x)[k]? = some u→w.cell? ⟨b,o+(i * 5+k),none⟩=some u
 kids:∀ x ∈ xs,∃ K c,x.2=.slice K x.1.kids.length c∧IntsIn w K x.1.kids
 items:IntsIn w B its
theorem Gg.below {w w':World}{A B:Option Addr}{xs:List NV}{its:List Int}(h:Gg w A B xs its)(hb:Below w.heap.size w w'):Gg w' A B xs its :=
 ⟨fun h0=>by
  obtain⟨b,o,e,hl,hc⟩:=h.nodes h0;exact⟨b,o,e,aaW hl hb.size,fun i k x u h1 h2=>(hb.cell (by exact hl)).trans (hc i k x u h1 h2)⟩,
  fun x hx=>by
  obtain⟨K,c,e,hi⟩:=h.kids x hx;exact⟨K,c,e,hi.below hb⟩,h.items.below hb⟩
theorem Gg.UH {w:World}{A B:Option Addr}{xs:List NV}{its:List Int}(h:Gg w A B xs its)(hk:∀ x ∈ xs,x.1.kids.length≤1000000):mq w A B xs its:=by
 refine⟨fun h0=>?_,h.items⟩
 obtain⟨b,o,e,hl,hc⟩:=h.nodes h0
 refine⟨b,o,e,⟨hl,fun i x hx=>hc i 3 x _ hx rfl,fun x hx=>?_⟩,fun i x hx=>hc i 0 x _ hx rfl,fun i x hx=>hc i 1 x _ hx rfl,fun i x hx=>hc i 2 x _ hx rfl,fun i x hx=>hc i 4 x _ hx rfl⟩
 obtain⟨K,c,e2,hi⟩:=h.kids x hx;exact⟨K,c,e2,hk x hx,hi.ex⟩
structure NdW (n:Nd):Prop where
 r:NdR n
 few:n.kids.length≤17592186044416
theorem MF {H:Type}{enc:TypeId × Value→H}{w:World}{held:Bool}{n:Nat}{cs:List Value}{x:DataW H × List MemPlace}
  (h:DataW.trod enc Tryz.prog w 0 (fun _=>true) held n 50 cs=some x) (hw:∀ m ∈ x.1.weights Tryz.prog 50,m≤reachBytes) :
  ∃ y:NV,cs=fC y∧(∃ K c,y.2=.slice K y.1.kids.length c∧IntsIn w K y.1.kids)∧((y.1.kind < 256∧(jq≤y.1.n∧y.1.n≤gq)∧(jq≤y.1.at_∧y.1.at_≤gq)∧(∀ c ∈ y.1.kids,jq≤c∧c≤gq))∧y.1.text.length≤reachBytes∧y.1.kids.length≤17592186044416):=by
 obtain⟨ys,n,rfl,hd,hlen,hxl,hel⟩:=DataW.trod_struct Tryz.underlying50 h;rw [Gx] at hlen
 obtain⟨c0,c1,c2,c3,c4,rfl⟩:∃ a b c d e,cs=[a,b,c,d,e]:=by
  match cs,hlen with
  | [a,b,c,d,e],_=>exact⟨a,b,c,d,e,rfl⟩
 obtain⟨x0,x1,x2,x3,x4,rfl⟩:∃ a b c d e,ys=[a,b,c,d,e]:=by
  have hx5:ys.length=5:=hxl
  match ys,hx5 with
  | [a,b,c,d,e],_=>exact⟨a,b,c,d,e,rfl⟩
 have e0:DataW.trod enc Tryz.prog w 0 (fun _=>true) held n 5 (([c0,c1,c2,c3,c4].drop 0).take (Tryz.prog.cellsOf 5))=some x0:=hel 0 _ rfl;have e1:DataW.trod enc Tryz.prog w 0 (fun _=>true) held n 9 (([c0,c1,c2,c3,c4].drop 1).take (Tryz.prog.cellsOf 9))=some x1:=hel 1 _ rfl;have e2:DataW.trod enc Tryz.prog w 0 (fun _=>true) held n 3 (([c0,c1,c2,c3,c4].drop 2).take (Tryz.prog.cellsOf 3))=some x2:=hel 2 _ rfl;have e3:DataW.trod enc Tryz.prog w 0 (fun _=>true) held n 24 (([c0,c1,c2,c3,c4].drop 3).take (Tryz.prog.cellsOf 24))=some x3:=hel 3 _ rfl;have e4:DataW.trod enc Tryz.prog w 0 (fun _=>true) held n 3 (([c0,c1,c2,c3,c4].drop 4).take (Tryz.prog.cellsOf 3))=some x4:=hel 4 _ rfl
 have hwe:∀ m ∈ DataW.weightsEach Tryz.prog [5,9,3,24,3] [x0.1,x1.1,x2.1,x3.1,x4.1],m≤reachBytes:=by
  intro m hm;refine hw m ?_;rw [hd];simp only [DataW.weights,Tryz.underlying50];exact hm
 obtain⟨k,hk,hk2,hk3⟩:=DataW.trod_int Tw e0;obtain⟨s,hs,hs2,hs3⟩:=DataW.trod_string str_row e1;obtain⟨a,ha,ha2,FK⟩:=DataW.trod_int Ml e2;obtain⟨p,hp,hp2,hp3⟩:=DataW.trod_int Ml e4;rw [Gw] at e3
 obtain⟨K,c,ks,hks,hin,hkr,hkc,hcc⟩:=Ck e3 (fun m hm=>hwe m (DataW.weights_mem_each (j:=3) rfl rfl m hm));rw [Zh] at hk
 rw [Vj] at hs
 rw [J6] at ha hp
 have g0:c0=.int .u8 k:=by simpa using hk
 have g1:c1=.string s:=by simpa using hs
 have g2:c2=.int .i64 a:=by simpa using ha
 have g3:c3=.slice K ks.length c:=by simpa using hks
 have g4:c4=.int .i64 p:=by simpa using hp
 have hk4:0≤k∧k < 256:=by
  simp [Lit.wf,IntKind.min,IntKind.max,IntKind.signed,IntKind.bits] at hk3
  omega
 obtain⟨k,rfl⟩:∃ m:Nat,k=m:=⟨k.toNat,by omega⟩
 refine⟨(⟨k,s.data.toList,a,ks,p⟩,.slice K ks.length c),?_,⟨K,c,rfl,hin⟩,⟨by simp;omega,yu FK,yu hp3,hkr⟩,?_,by show ks.length≤_;omega⟩
 ·rw [g0,g1,g2,g3,g4];simp [fC,aM]
 ·refine hwe s.data.toList.length (DataW.weights_mem_each (j:=1) (t:=9) (d:=x1.1) rfl rfl _ ?_);rw [hs2];simp [DataW.weights]
theorem tree_of_trod {H:Type}{enc:TypeId × Value→H}{W:World}{base j:Nat}{v:Value}{d:DataW H}{ps:List MemPlace}{ts:List TypeId}{ds:List (DataW H)}
  (hval:Value.okWide Tryz.prog W .any base 26 v) (h:DataW.Trod enc Tryz.prog W 0 (fun _=>true) true 26 v d ps)
  (hsz:(DataW.weightsEach Tryz.prog ts ds).all (·≤reachBytes)=true) (ht:ts[j]? = some 26) (hd:ds[j]? = some d) :
  ∃ A B c e xs its,v=.agg #[.slice A xs.length c,.slice B its.length e]∧Gg W A B xs its∧xs.length≤c∧its.length≤17592186044416∧c≤17592186044416∧(∀ i ∈ its,jq≤i∧i≤gq) ∧
   ∀ x ∈ xs,(x.1.kind < 256∧(jq≤x.1.n∧x.1.n≤gq)∧(jq≤x.1.at_∧x.1.at_≤gq)∧(∀ c ∈ x.1.kids,jq≤c∧c≤gq))∧x.1.text.length≤reachBytes∧x.1.kids.length≤17592186044416:=by
 obtain⟨vs,rfl,hvs⟩:=okWide_struct Tryz.underlying26 hval;rw [Rp] at hvs
 obtain⟨fuel,hf⟩:=h;have hall:=aaR.1 hsz;have hwt:∀ m ∈ d.weights Tryz.prog 26,m≤reachBytes:=fun m hm=>by simpa using hall m (DataW.weights_mem_each (P:=Tryz.prog) ht hd m hm)
 have hcs:(Value.agg vs).cells.toList=vs.toList:=rfl;rw [hcs] at hf
 obtain⟨ys,n,rfl,hdd,hlen,hxl,hel⟩:=DataW.trod_struct Tryz.underlying26 hf
 obtain⟨c0,c1,hvv⟩:∃ a b,vs.toList=[a,b]:=by
  have h2:vs.toList.length=2:=by simpa using hvs
  match hl:vs.toList,h2 with
  | [a,b],_=>exact⟨a,b,rfl⟩
 rw [hvv] at hel
 obtain⟨x0,x1,rfl⟩:∃ a b,ys=[a,b]:=by
  have hx2:ys.length=2:=hxl
  match ys,hx2 with
  | [a,b],_=>exact⟨a,b,rfl⟩
 have e0:DataW.trod enc Tryz.prog W 0 (fun _=>true) true n 23 (([c0,c1].drop 0).take (Tryz.prog.cellsOf 23))=some x0:=hel 0 _ rfl;have e1:DataW.trod enc Tryz.prog W 0 (fun _=>true) true n 24 (([c0,c1].drop 1).take (Tryz.prog.cellsOf 24))=some x1:=hel 1 _ rfl
 have hwe:∀ m ∈ DataW.weightsEach Tryz.prog [23,24] [x0.1,x1.1],m≤reachBytes:=by
  intro m hm;refine hwt m ?_;have hd1:d=.agg [x0.1,x1.1]:=(Prod.mk.inj hdd).1;rw [hd1];simp only [DataW.weights,Tryz.underlying26];exact hm
 rw [NQ] at e0
 rw [Gw] at e1
 have f0:([c0,c1].drop 0).take 1=[c0]:=rfl;have f1:([c0,c1].drop 1).take 1=[c1]:=rfl;rw [f0] at e0
 rw [f1] at e1
 obtain⟨B,e,its,hB,hIB,hir,hie,hee⟩:=Ck e1 (fun m hm=>hwe m (DataW.weights_mem_each (j:=1) rfl rfl m hm));have g1:c1=.slice B its.length e:=by simpa using hB
 have hw0:∀ m ∈ x0.1.weights Tryz.prog 23,m≤reachBytes:=fun m hm=>hwe m (DataW.weights_mem_each (j:=0) rfl rfl m hm)
 have hvs2:vs=#[c0,c1]:=by rw [← Array.toArray_toList (xs:=vs),hvv]
 rcases Deep.open_slice Tryz.underlying23 e0 with ⟨hcs,_⟩ | ⟨a,len,cap,m,n',D,Pl,hcs,_,hlc,hcap,hm,hx,hel2⟩
 ·have g0:c0=.slice none 0 0:=by simpa using hcs
  refine⟨none,B,0,e,[],its,by rw [hvs2,g0,g1];rfl,⟨fun h0=>absurd h0 (by simp),(fun x hx=>by cases hx),hIB⟩,by simp,by omega,by omega,hir,fun x hx=>by cases hx⟩
 ·have g0:c0=.slice (some a) len cap:=by simpa using hcs
  have hmc:m=cap:=by simpa using hm
  have hx1:x0.1=.slice ((List.range len).map D) ((List.range (m - len)).map fun j=>D (len+j)):=by rw [hx]
  have hnd:∀ i,i < len→∃ y:NV,W.cells? 0 (a.add (i * 5)) 5=some (fC y)∧(∃ K c,y.2=.slice K y.1.kids.length c∧IntsIn W K y.1.kids)∧((y.1.kind < 256∧(jq≤y.1.n∧y.1.n≤gq)∧(jq≤y.1.at_∧y.1.at_≤gq)∧(∀ c ∈ y.1.kids,jq≤c∧c≤gq))∧y.1.text.length≤reachBytes∧y.1.kids.length≤17592186044416):=by
   intro i hi;obtain⟨cs',h1,h2⟩:=hel2 i (by omega);rw [Gx] at h1
   obtain⟨y,rfl,h3,h4⟩:=MF h2 (fun m hm=>hw0 m (by
    rw [hx1];simp only [DataW.weights,Tryz.underlying23,List.mem_cons,List.mem_append];right;left
    exact yR (d:=D i) (List.mem_map.2 ⟨i,by simpa using hi,rfl⟩) m hm))
   exact⟨y,h1,h3,h4⟩
  have:Inhabited NV:=⟨(default,.bool false)⟩
  obtain⟨f,hfi⟩:=Deep.choose_lt hnd;have hlen:((List.range len).map f).length=len:=by simp
  have hcap2:cap * 64≤reachBytes:=by
   refine hw0 (cap * 64) ?_;rw [hx1];simp only [DataW.weights,Tryz.underlying23,List.mem_cons];left
   have hb:Tryz.prog.bytesOf 50=64:=by kernel_rfl
   rw [hb];simp;omega
  have hr:reachBytes=140737488351232:=rfl
  refine⟨some a,B,cap,e,(List.range len).map f,its,by rw [hvs2,g0,g1,hlen],⟨fun h0=>?_,fun x hx=>?_,hIB⟩,by rw [hlen];exact hlc,by omega,by omega,hir,fun x hx=>?_⟩
  ·rw [hlen] at h0
   have h1:=(World.cells?_some (hfi 0 h0).1).2.2 0 (by omega);obtain⟨hs,hb⟩:=cell_spot (a:=a) (v:=.int .u8 (f 0).1.kind) (by simpa [Addr.add,fC] using h1);obtain⟨b,o,sp⟩:=a;have hs':sp=none:=hs;subst hs'
   refine⟨b,o,rfl,hb,fun i k x u hxi hu=>?_⟩
   have hi:i < len:=by have:=(aaE.1 hxi).1;rwa [hlen] at this
   have hk5:k < 5:=by have:=(aaE.1 hu).1;simpa [fC] using this
   have hfx:f i=x:=by simpa [hi] using hxi
   have h2:=(World.cells?_some (hfi i hi).1).2.2 k hk5;rw [Gj,Gj,hfx] at h2
   rw [show o+(i * 5+k)=o+i * 5+k by omega,h2,hu]
  ·obtain⟨i,hi,rfl⟩:=List.mem_map.1 hx;exact (hfi i (by simpa using hi)).2.1
  ·obtain⟨i,hi,rfl⟩:=List.mem_map.1 hx;exact (hfi i (by simpa using hi)).2.2
end Go.Proofs.YthepmkjggfijoaaGreatDoor
namespace Go.Proofs.YthepmkjggfijoaaGreatDoor
open Go.RowKit Mist
def kV (T:Tr):Int :=
 if Mist.large T=true then 5
 else if kE T=false then 4
 else if 30 < om T then 5
 else if T.nodes.all (gD T)=false then 3 else 0
theorem rP (T:Tr)(hn:∀ n ∈ T.nodes,jq≤n.n∧n.n≤gq):dN T=kV T:=by
 unfold dN kV;by_cases hl:Mist.large T=true
 ·rw [if_pos hl,if_pos hl]
 rw [if_neg hl,if_neg hl]
 have hlen:T.nodes.length≤801:=by
  simp [Mist.large] at hl;omega
 have hiff:=Ce T hn hlen;by_cases hf:kE T=true
 ·obtain⟨h1,h2,h3⟩:=hiff.2 hf;rw [if_neg (show ¬ ((List.range T.nodes.length).all (Mist.formed T)=false) by rw [h1];simp),if_neg (show ¬ (Mist.ordered T=false∨Mist.signed T=false) by rw [h2,h3];simp),if_neg (show ¬ (kE T=false) by rw [hf];simp)];by_cases Du:30 < om T
  ·rw [if_pos Du,if_pos Du]
  rw [if_neg Du,if_neg Du];have hr:=((rR T).1 hf).2
  have e:T.nodes.all (Mist.sized T)=T.nodes.all (gD T):=by
   rw [aaI,aaR,aaR]
   have hh:∀ n ∈ T.nodes,Mist.sized T n=gD T n:=fun n hn=>by
    obtain⟨i,hi,rfl⟩:=List.getElem_of_mem hn
    have:=I4 (hr i hi)
    rwa [kH (aaD hi)] at this
   constructor
   ·intro h n hn;rw [← hh n hn];exact h n hn
   ·intro h n hn;rw [hh n hn];exact h n hn
  have ho:=Io T;rw [e] at ho
  cases ha:T.nodes.all (gD T)
  ·rw [ha] at ho
   rw [if_pos (of_decide_eq_true (by simpa using ho)),if_pos rfl]
  ·rw [ha] at ho
   rw [if_neg (of_decide_eq_false (by simpa using ho)),if_neg (by simp)]
 ·have hf':kE T=false:=by simpa using hf
  rw [if_pos hf'];by_cases h1:(List.range T.nodes.length).all (Mist.formed T)=true
  ·rw [if_neg (by rw [h1];simp)];have h23:¬ (Mist.ordered T=true∧Mist.signed T=true):=fun h=>hf (hiff.1 ⟨h1,h.1,h.2⟩)
   rw [if_pos]
   cases e1:Mist.ordered T <;> cases e2:Mist.signed T <;> simp_all
  ·rw [if_pos (by simpa using h1)]
def JJ (l:List Nd):Nat:=(l.map fun x=>x.kids.length).sum
def JI (l:List Nd):Nat:=(l.map fun x=>x.text.length).sum
theorem sumK_snoc (l:List Nd)(x:Nd):JJ (l ++ [x])=JJ l+x.kids.length:=by simp [JJ]
theorem sumB_snoc (l:List Nd)(x:Nd):JI (l ++ [x])=JI l+x.text.length:=by simp [JI]
theorem PN:∀ {l:List Nd} {x:Nd},x ∈ l→x.kids.length≤JJ l
 | y :: r,x,h=>by
  rcases List.mem_cons.1 h with rfl | h
  ·simp [JJ]
  ·have:=PN h;simp [JJ] at this ⊢;omega
theorem PL:∀ {l:List Nd} {x:Nd},x ∈ l→x.text.length≤JI l
 | y :: r,x,h=>by
  rcases List.mem_cons.1 h with rfl | h
  ·simp [JI]
  ·have:=PL h;simp [JI] at this ⊢;omega
theorem Tn {M:Nat}:∀ {l:List Nd},(∀ x ∈ l,x.kids.length≤M)→JJ l≤l.length * M
 | [],_=>by simp [JJ]
 | y :: r,h=>by
  have h1:=Tn (l:=r) (fun x hx=>h x (List.mem_cons_of_mem _ hx));have h2:=h y (List.mem_cons_self ..);simp [JJ] at h1 ⊢
  rw [Nat.add_mul];omega
theorem Tm {M:Nat}:∀ {l:List Nd},(∀ x ∈ l,x.text.length≤M)→JI l≤l.length * M
 | [],_=>by simp [JI]
 | y :: r,h=>by
  have h1:=Tm (l:=r) (fun x hx=>h x (List.mem_cons_of_mem _ hx));have h2:=h y (List.mem_cons_self ..);simp [JI] at h1 ⊢
  rw [Nat.add_mul];omega
def Rn (T:Tr):Bool:=decide (900 < T.nodes.length) || decide (100 < T.items.length) || decide (3000 < JJ (T.nodes.take 901)) || decide (5000 < JI (T.nodes.take 901))
theorem Zb {T:Tr}(h:Rn T=false):T.nodes.length≤900∧T.items.length≤100∧∀ x ∈ T.nodes,x.kids.length≤3000∧x.text.length≤5000:=by
 unfold Rn at h
 simp only [Bool.or_eq_false_iff,decide_eq_false_iff_not,Nat.not_lt] at h
 obtain⟨⟨⟨h1,h2⟩,h3⟩,h4⟩:=h;rw [aaN (by omega)] at h3 h4
 exact⟨h1,h2,fun x hx=>⟨Nat.le_trans (PN hx) h3,Nat.le_trans (PL hx) h4⟩⟩
def jM (ns:List Nd)(k:Nat):Option (List Int):=(ns.take k).foldl m_ (some [])
theorem I6 {ns:List Nd}{k:Nat}{sz:List Int}(hk:k≤ns.length)(h:jM ns k=some sz):uQ (ns.take k) sz k:=by
 have:=Dh (ns:=ns.take k) (ns.take k) [] [] sz (by simp) (Dj _) h
 rwa [List.length_take,Nat.min_eq_left hk] at this
theorem zH {ns:List Nd}{k:Nat}{sz:List Int}(hk:k≤ns.length)(h:jM ns k=some sz):sz.length=k∧∀ i,i < k→1≤sz.getD i 0∧sz.getD i 0≤(i:Int)+1:=by
 obtain⟨h1,h2⟩:=I6 hk h
 refine⟨h1,fun i hi=>?_⟩
 obtain⟨n,m,_,hm,he,_⟩:=h2 i hi;rw [he];omega
theorem Na {ns:List Nd}{k:Nat}{n:Nd}{sz:List Int}(hn:ns[k]? = some n)(h:jM ns k=some sz):jM ns (k+1)=(lT sz n.kids ((sz.length:Int) - 1)).map fun a=>sz ++ [(sz.length:Int) - a]:=by
 unfold jM at h ⊢
 rw [List.take_add_one,hn,List.foldl_append,h];rfl
theorem qN (T:Tr):jM T.nodes T.nodes.length=oN T:=by
 unfold jM oN;rw [List.take_length]
theorem PE {T:Tr}{k:Nat}(hk:k≤T.nodes.length)(h:jM T.nodes k=none):oN T=none:=by
 rw [← qN];unfold jM at h ⊢
 conv=>lhs;rw [← List.take_append_drop k T.nodes]
 rw [show (List.take k T.nodes ++ List.drop k T.nodes).length=T.nodes.length by rw [List.take_append_drop],aaN (by rw [List.take_append_drop];exact aaJ _),List.foldl_append,h,AB]
theorem Jt {out kids:List Int}{b:Int}{j:Nat}{c:Int}(hj:kids[j]? = some c):lT out (kids.drop j) b=(lT out (kids.drop (j+1)) b).bind fun a=>if c ≠ a∨a < 0 then none else some (a - out.getD a.toNat 0):=by
 obtain⟨hl,he⟩:=aaE.1 hj;rw [aaX hl,he];rfl
theorem uG {out:List Int}{b:Int}:∀ {kids:List Int} {j:Nat},lT out (kids.drop j) b=none→lT out kids b=none
 | kids,0,h=>h
 | [],j+1,h=>by simpa using h
 | c :: r,j+1,h=>by
  have h1:lT out r b=none:=uG (by simpa using h)
  show (lT out r b).bind _=none
  rw [h1];rfl
end Go.Proofs.YthepmkjggfijoaaGreatDoor
