/-
  A part of the proof.
-/
import Derived.Test.YthepmkjggfijoaaGreatDoorSA
import Derived.Deep.RegionLaw
import Derived.Carry
import Derived.Test.YthepmkjggfijoaaGreatDoorS06
import Derived.Test.YthepmkjggfijoaaGreatDoorS08
import Derived.Test.YthepmkjggfijoaaGreatDoorS28
set_option linter.all false
set_option maxRecDepth 100000
set_option maxHeartbeats 4000000
namespace Go.Proofs.YthepmkjggfijoaaGreatDoor
open Go.RowKit Mist
attribute [local go_sem] aj aH aS aB ak
theorem uF.set {g b i:Nat}{u:Value}{w:World}{v:Value}{xs:List NV}{a:List Int}(h:uF g w v xs a)(c:b < g):uF g (w.setCell ⟨b,i,none⟩ u) v xs a:=by
 obtain⟨⟨nv,iv,q,rfl,h1,rfl,h2⟩,d⟩:=h;exact⟨⟨nv,iv,_,rfl,jZ h1 c,rfl,jZ h2 (by omega)⟩,fun x e=>jZ (d x e) (by omega)⟩
theorem uF.below {g:Nat}{w c:World}{v:Value}{xs:List NV}{a:List Int}(h:uF g w v xs a)(b:Below w.heap.size w c):uF g c v xs a:=by
 obtain⟨⟨nv,iv,q,rfl,h1,rfl,h2⟩,d⟩:=h;exact⟨⟨nv,iv,_,rfl,own_below h1 b,rfl,own_below h2 b⟩,fun x e=>own_below (d x e) b⟩
structure BD (T:Tr):Prop where
 wf:Wf T.nodes
 choose:∀ x ∈ T.nodes,nJ T x
 kids:∀ x ∈ T.nodes,x.kids.length≤1000000
 len:T.nodes.length≤1000
def iy (T:Tr):Int × Int :=
 if Mist.large T=true∨30 < om T then (0,5)
 else if 0≤outT T then ((nd T (outT T).toNat).at_,3) else (0,0)
def TreeOut (T:Tr)(w:World)(e:Ending)(w':World):Prop :=
 Below w.heap.size w w'∧((iy T).2 ≠ 0∧e=.returned (.tuple #[.agg #[.slice none 0 0,.slice none 0 0],.int .i64 (iy T).1,.int .i64 (iy T).2]) ∨
  (iy T).2=0∧∃ v xs g,e=.returned (.tuple #[v,.int .i64 0,.int .i64 0])∧aA xs=T.nodes∧w.heap.size≤g∧uF g w' v xs T.items)
theorem outT_lt {T:Tr}(h:0≤outT T):outT T < (T.nodes.length:Int):=by
 unfold outT wm at h ⊢
 rcases a:T.nodes.findIdx? (fun x=>!Mist.sized T x) with _ | i
 ·rw [a] at h;exact absurd h (by decide)
 ·rw [List.findIdx?_eq_some_iff_getElem] at a
  obtain⟨b,_⟩:=a
  show (i:Int) < (T.nodes.length:Int)
  omega
theorem Iz (s:Bs)(l:List Tok)(n f k:Nat)(w:World)(q:Mist.read s=(l,0,0))(hF:PF l)(m:prog l (s.length:Int) n f 0 [] []=some (.bad k))(j:Env w)(x:s.length≤100000000) :
  Calls Tryz.prog 17 #[.string (aM s)] w fun e B=>e=.returned (.tuple #[.agg #[.slice none 0 0,.slice none 0 0],.int .i64 (pl l (s.length:Int) k),.int .i64 4])∧Below w.heap.size w B:=by
 have u:=O q;clear q;have t:=O m;clear m;have i:=O j;clear j;go_in
 go_wp2_with fail;refine (IG s _ (i.o.alloc _) x).mono ?_;rintro e C⟨v,rfl,h,c⟩;rw [u.o] at h ⊢
 have g:=O (gF c);have b:=O ((ah (Below.refl w.heap.size w) (aaJ _) (o:=.cells #[.slice none 0 0,.slice none 0 0] 26)).trans (c.mono (by simp)));have A:=O h;clear c h;simp only
 go_wp2_with fail;refine (KL hF (en:=(s.length:Int)) n f C _ A.o (i.o.below b.o) t.o).mono ?_;rintro e H⟨rfl,d⟩;have a:=O (g.o.below d g.o.lt);have y:=O (b.o.trans (d.mono b.o.size));clear d;have F:=a.o.cell 0;have G:=a.o.cell 1;have r0:=a.o.frozen 0;have r1:=a.o.frozen 1;go_wp2_with fail;have r:=(((a.o.d_ 0 (.slice none 0 0)).d_ 1 (.slice none 0 0)).d_ 0 (.slice none 0 0)).d_ 1 (.slice none 0 0);have D:=r.cell 0;have E:=r.cell 1;refine bodyPost_ret (v:=.tuple #[.agg #[.slice none 0 0,.slice none 0 0],.int .i64 (pl l (s.length:Int) k),.int .i64 4]) (by simp [results,Tryz.f17,go_sem,D,E]) rfl ⟨rfl,?_⟩
 repeat (first|(with_reducible exact y.o)|(with_reducible refine dx ?_ ?_) | omega)
theorem y9 (s:Bs)(l:List Tok)(n f k:Nat)(T:Tr)(w:World)(hr:Mist.read s=(l,0,0))(hF:PF l)(hp:prog l (s.length:Int) n f 0 [] []=some (.ok T.items k T.nodes))(hE:Env w)(hl:s.length≤100000000)(hG:BD T) :
  Calls Tryz.prog 17 #[.string (aM s)] w (TreeOut T w):=by
 have HR:=O hr;clear hr;have HP:=O hp;clear hp;have HE:=O hE;clear hE;have HG:=O hG;clear hG;go_in
 go_wp2_with fail;refine (IG s _ (HE.o.alloc _) hl).mono ?_;rintro e w2⟨v,rfl,ht,V⟩;rw [HR.o] at ht ⊢
 have G:=O (gF V);have H:=O ((ah (Below.refl w.heap.size w) (aaJ _) (o:=.cells #[.slice none 0 0,.slice none 0 0] 26)).trans (V.mono (by simp)));have uM:=O ht;clear V ht;simp only
 go_wp2_with fail;refine (KL hF (en:=(s.length:Int)) n f w2 _ uM.o (HE.o.below H.o) HP.o).mono ?_;rintro e w3⟨v,xs,rfl,hxs,htr,W⟩;have g:=O hxs;clear hxs;have U:=O htr;clear htr;have X:∀ x ∈ xs,x.1.kids.length≤1000000:=fun x hx=>HG.o.kids x.1 (by rw [← g.o];exact List.mem_map_of_mem hx)
 obtain⟨A,B,c,d,rfl,_⟩:=U.o.UH X;have TI:=O X;clear X;have r:=O (G.o.below W G.o.lt);have lS:=O (H.o.trans (W.mono H.o.size));have q:=G.o.lt;clear W;have t:=r.o.cell 0;have y:=r.o.cell 1;have r0:=r.o.frozen 0;have r1:=r.o.frozen 1;have tO:=O (show aC ((w3.setCell ⟨w.heap.size,0,none⟩ (.slice A xs.length c)).setCell ⟨w.heap.size,1,none⟩ (.slice B T.items.length d)) w.heap.size 26 #[.slice A xs.length c,.slice B T.items.length d] from by have h9:=(r.o.d_ 0 (.slice A xs.length c)).d_ 1 (.slice B T.items.length d);simpa using h9);have qx:=O (show Below w.heap.size w ((w3.setCell ⟨w.heap.size,0,none⟩ (.slice A xs.length c)).setCell ⟨w.heap.size,1,none⟩ (.slice B T.items.length d)) from dx (dx lS.o (aaJ _)) (aaJ _));have Ji:=O ((U.o.set (i:=0) (u:=.slice A xs.length c) q).set (i:=1) (u:=.slice B T.items.length d) q);clear U r lS G H uM HE HR HP;have QU:=O (show (aA xs).length=xs.length from aD xs);have hn1:xs.length≤1000:=by rw [← QU.o,g.o];exact HG.o.len
 obtain⟨n,Z⟩:∃ n,n=xs.length:=⟨_,rfl⟩;obtain⟨m,Y⟩:∃ m,m=T.items.length:=⟨_,rfl⟩;rw [← Z] at tO qx Ji hn1 ⊢
 rw [← Y] at tO qx Ji ⊢
 have N:=O Z;clear Z;have U1:=O Y;clear Y;have TL:=O (show kP n m=Mist.large T by unfold kP Mist.large;rw [N.o,U1.o,← QU.o,g.o]);have HTX:=O (show (⟨aA xs,T.items⟩:Tr)=T by rw [g.o]);go_wp2_with fail
 generalize ((w3.setCell ⟨w.heap.size,0,none⟩ (.slice A n c)).setCell ⟨w.heap.size,1,none⟩ (.slice B m d))=w4 at tO qx Ji ⊢
 refine (Eb A B n m c d _).mono ?_;rintro e w5⟨rfl,J⟩;rw [TL.o];have I:=O (tO.o.below J tO.o.lt);have jO:=O (qx.o.trans (J.mono qx.o.size));have zO:=O (Ji.o.below J);clear J t y r0 r1;have t:=I.o.cell 0;have y:=I.o.cell 1;have r0:=I.o.frozen 0;have r1:=I.o.frozen 1;have hq5:=I.o.lt
 cases K:Mist.large T
 case true =>
  have M:=O (show iy T=(0,5) by unfold iy;rw [if_pos (Or.inl K)]);clear K;go_wp2_with fail;refine bodyPost_ret (v:=.tuple #[.agg #[.slice none 0 0,.slice none 0 0],.int .i64 0,.int .i64 5]) (by simp [results,Tryz.f17,go_sem,t,y]) rfl ⟨?_,.inl ⟨by rw [M.o];decide,by rw [M.o]⟩⟩
  repeat (first|(with_reducible exact jO.o)|(with_reducible refine dx ?_ ?_) | omega)
 have Nt:=O K;clear K
 have JU:=O (by
  have h9:=BZ A B c m d xs T.items w5 (by
   obtain⟨A',B',c',d',hv,h8⟩:=zO.o.UH TI.o;injection hv with hv
   injection hv with hv
   injection hv with E a
   injection E with hA
   injection a with a _
   injection a with hB
   subst hA;subst hB;exact h8) (by rw [← N.o];omega) (by rw [g.o];exact HG.o.wf)
  rw [← N.o,show jB (aA xs)=om T by unfold om;rw [g.o]] at h9
  exact h9)
 obtain⟨D,hD⟩:∃ D,D=om T:=⟨_,rfl⟩;rw [← hD] at JU
 have HDD:=O hD;clear hD;by_cases Du:30 < D
 ·have e30:decide (30 < D)=true:=aaU Du;have M:=O (show iy T=(0,5) by unfold iy;rw [if_pos (Or.inr (by rw [← HDD.o];exact Du))]);go_wp2_with fail;refine JU.o.mono ?_;rintro e w6⟨rfl,j⟩;have C:=O (I.o.below j I.o.lt);have kT:=O (jO.o.trans (j.mono jO.o.size));clear j t y r0 r1;have t:=C.o.cell 0;have y:=C.o.cell 1;have r0:=C.o.frozen 0;have r1:=C.o.frozen 1;go_wp2_with fail;refine bodyPost_ret (v:=.tuple #[.agg #[.slice none 0 0,.slice none 0 0],.int .i64 0,.int .i64 5]) (by simp [results,Tryz.f17,go_sem,t,y]) rfl ⟨?_,.inl ⟨by rw [M.o];decide,by rw [M.o]⟩⟩
  repeat (first|(with_reducible exact kT.o)|(with_reducible refine dx ?_ ?_) | omega)
 have e30:decide (30 < D)=false:=aaV Du;have H30:=O (show om T≤30 by rw [← HDD.o];omega);clear Du;go_wp2_with fail;refine JU.o.mono ?_;rintro e w6⟨rfl,j⟩;have C:=O (I.o.below j I.o.lt);have kT:=O (jO.o.trans (j.mono jO.o.size));have R:=O (zO.o.below j);clear j t y r0 r1;have t:=C.o.cell 0;have y:=C.o.cell 1
 have Q:=O (by
  have h9:=Cy xs T.items A c B m d w6 (by
   obtain⟨A',B',c',d',hv,h8⟩:=R.o.UH TI.o;injection hv with hv
   injection hv with hv
   injection hv with E a
   injection E with hA
   injection a with a _
   injection a with hB
   subst hA;subst hB;exact h8) (by rw [← N.o];omega) (by rw [g.o];exact HG.o.choose)
  rw [← N.o,HTX.o] at h9
  exact h9)
 obtain⟨h,hO⟩:∃ h,h=outT T:=⟨_,rfl⟩;rw [← hO] at Q
 have P:=O hO;clear hO;have M:=O (show iy T=if 0≤h then ((nd T h.toNat).at_,3) else (0,0) by unfold iy;rw [if_neg (by rw [Nt.o];have h9:=H30.o;simp;omega),← P.o]);by_cases h0:0≤h
 ·have e0:decide (0≤h)=true:=aaU h0;go_wp2_with fail;refine Q.o.mono ?_;rintro e w7⟨rfl,L⟩;have F:=O (C.o.below L C.o.lt);have U0:=O (kT.o.trans (L.mono kT.o.size));have S:=O (R.o.below L);clear L t y;have t:=F.o.cell 0;have y:=F.o.cell 1;have r0:=F.o.frozen 0;have r1:=F.o.frozen 1;have hol:=outT_lt (T:=T) (by rw [← P.o];exact h0);rw [← P.o,← g.o,QU.o,← N.o] at hol
  obtain⟨On,hOn⟩:∃ On:Nat,h=(On:Int):=⟨h.toNat,by omega⟩;obtain⟨x,hx⟩:∃ x,xs[On]? = some x:=jD (by rw [← N.o];omega)
  have HXX:=O (show iy T=(x.1.at_,3) by
   rw [M.o,if_pos h0,hOn,aaQ];have h9:=l7 T.items hx;rw [g.o] at h9
   rw [← h9])
  have hT7:mq w7 A B xs T.items:=by
   obtain⟨A',B',c',d',hv,h8⟩:=S.o.UH TI.o;injection hv with hv
   injection hv with hv
   injection hv with E a
   injection E with hA
   injection a with a _
   injection a with hB
   subst hA;subst hB;exact h8
  obtain⟨b,o,rfl,hN⟩:=hT7.nodes (by rw [← N.o];omega);have c4:=hN.c4 On x hx;have hbl:=hN.lt;subst hOn;have i1:(0:Int)≤(On:Int):=by omega
  clear hN hT7 hx;go_wp2_with fail;go_region
  all_goals
   go_wp2_with fail;have hz:=(F.o.d_ 0 (.slice none 0 0)).d_ 1 (.slice none 0 0);have z0:=hz.cell 0;have z1:=hz.cell 1;refine bodyPost_ret (v:=.tuple #[.agg #[.slice none 0 0,.slice none 0 0],.int .i64 x.1.at_,.int .i64 3]) (by simp [results,Tryz.f17,go_sem,z0,z1]) rfl ⟨?_,.inl ⟨by rw [HXX.o];show (3:Int) ≠ 0;decide,by rw [HXX.o]⟩⟩
   repeat (first|(with_reducible exact U0.o)|(with_reducible refine dx ?_ ?_)|(with_reducible refine Below.drew ?_) | omega)
 ·have e0:decide (0≤h)=false:=aaV h0;have HX2:=O (show iy T=(0,0) by rw [M.o,if_neg h0]);go_wp2_with fail;refine Q.o.mono ?_;rintro e w7⟨rfl,L⟩;have F:=O (C.o.below L C.o.lt);have U0:=O (kT.o.trans (L.mono kT.o.size));have S:=O (R.o.below L);clear L t y;have t:=F.o.cell 0;have y:=F.o.cell 1;have r0:=F.o.frozen 0;have r1:=F.o.frozen 1;go_wp2_with fail;have hz:=(F.o.d_ 0 (.slice A n c)).d_ 1 (.slice B m d);have z0:=hz.cell 0;have z1:=hz.cell 1;have HTF:=O ((S.o.set (i:=0) (u:=.slice A n c) q).set (i:=1) (u:=.slice B m d) q);refine bodyPost_ret (v:=.tuple #[.agg #[.slice A n c,.slice B m d],.int .i64 0,.int .i64 0]) (by simp [results,Tryz.f17,go_sem,z0,z1]) rfl ⟨?_,.inr ⟨by rw [HX2.o],_,xs,w2.heap.size,rfl,g.o,by omega,HTF.o⟩⟩
  repeat (first|(with_reducible exact U0.o)|(with_reducible refine dx ?_ ?_) | omega)
end Go.Proofs.YthepmkjggfijoaaGreatDoor
namespace Go.Proofs.YthepmkjggfijoaaGreatDoor
open Go.RowKit Mist
def oQ:List (Nat × Value)→Nat→List MapEntry
 | [],_=>[]
 | (k,v) :: r,i=>⟨.int .u8 k,v,i⟩ :: oQ r (i+1)
def BH (x:Nat):List (Nat × Value)→Option Value
 | []=>none
 | (k,v) :: r=>if x=k then some v else BH x r
theorem DY (x:Nat):∀ (l:List (Nat × Value)) (i j:Nat),∃ n,Instr.findNow (.int .u8) (.int .u8 x) (oQ l j) i=some ((BH x l).map fun v=>(n,v))
 | [],i,j=>⟨0,rfl⟩
 | (k,v) :: r,i,j=>by
  simp only [oQ,BH,Instr.findNow,Instr.sameNow,if_true];by_cases h:x=k
  ·subst h;exact⟨i,by simp⟩
  ·obtain⟨n,a⟩:=DY x r (i+1) (j+1);have h2:((x:Int) == (k:Int))=false:=by simp;omega
   exact⟨n,by simp only [h2,if_neg h,a]⟩
theorem IW (b:Bool)(x:Int)(w:World):(Instr.checkKey b 10000 5 (.int .u8 x)).run Tryz.prog w=.ok () w :=
 MapKept.run_checkKey Tryz.underlying5 (by trivial) b 9999
theorem aao (T E:TypeId)(z:Value)(a:Tryz.prog.underlying T=some (.map 5 E))(w:World)(g:(zeroValue E).run Tryz.prog w=.ok z w)(l:List (Nat × Value))(m c:Nat)(e:w.heap[m]? = some (.map (oQ l 0).toArray c))(x:Nat) :
  (Instr.lookup T (.map (some m)) (.int .u8 x) false).run Tryz.prog w=.ok ((BH x l).getD z) w:=by
 have d:(getObj m).run Tryz.prog w=.ok (.map (oQ l 0).toArray c) w:=MapKept.run_getObj_map e;obtain⟨n,f⟩:=DY x l 0 0
 have b:(Instr.findKey 5 (.int .u8 x) (oQ l 0)).run Tryz.prog w=.ok ((BH x l).map fun v=>(n,v)) w:=by
  simp only [Instr.findKey,Sem.run_bind,run_underlying Tryz.underlying5,Result.andThen_ok,f];rfl
 unfold Instr.lookup;simp only [Sem.run_bind,run_underlying a,Result.andThen_ok,d,IW,b,Sem.run_pure]
 cases BH x l with
 | none =>
  simp only [Option.map_none,Sem.run_bind,g,Result.andThen_ok,Sem.run_pure];rfl
 | some v =>
  simp only [Option.map_some,Sem.run_pure,Result.andThen_ok];rfl
theorem NJ:∀ (l:List (Nat × Value)) (k:Nat) (v:Value) (i:Nat),oQ (l ++ [(k,v)]) i=oQ l i ++ [⟨.int .u8 k,v,i+l.length⟩]
 | [],_,_,_=>rfl
 | (a,b) :: r,k,v,i=>by
  simp only [List.cons_append,oQ,NJ r k v (i+1),List.length_cons];rw [show i+1+r.length=i+(r.length+1) by omega]
theorem jo (T E:TypeId)(c:Tryz.prog.underlying T=some (.map 5 E))(w:World)(l:List (Nat × Value))(k:Nat)(v:Value)(g:BH k l=none) :
  (Instr.mapUpdate T (.map (some w.heap.size)) (.int .u8 k) v).run Tryz.prog (w.alloc (.map (oQ l 0).toArray l.length))=.ok () (w.alloc (.map (oQ (l ++ [(k,v)]) 0).toArray (l.length+1))):=by
 have b:(w.alloc (.map (oQ l 0).toArray l.length)).heap[w.heap.size]? = some (.map (oQ l 0).toArray l.length):=heap_alloc_new w _;have f:(getObj w.heap.size).run Tryz.prog (w.alloc (.map (oQ l 0).toArray l.length))=.ok (.map (oQ l 0).toArray l.length) (w.alloc (.map (oQ l 0).toArray l.length)):=MapKept.run_getObj_map b;obtain⟨n,a⟩:=DY k l 0 0;rw [g] at a
 have d:(Instr.findKey 5 (.int .u8 k) (oQ l 0)).run Tryz.prog (w.alloc (.map (oQ l 0).toArray l.length))=.ok none (w.alloc (.map (oQ l 0).toArray l.length)):=by
  simp only [Instr.findKey,Sem.run_bind,run_underlying Tryz.underlying5,Result.andThen_ok,a];rfl
 have h:∀ o,(setObj w.heap.size o).run Tryz.prog (w.alloc (.map (oQ l 0).toArray l.length))=.ok () (w.alloc o):=by
  intro o;rw [MapKept.run_setObj_map o b,heap_put];rfl
 have e:(oQ l 0).toArray.push ⟨.int .u8 k,v,l.length⟩=(oQ (l ++ [(k,v)]) 0).toArray:=by
  rw [NJ];simp
 unfold Instr.mapUpdate;simp only [Sem.run_bind,run_underlying c,Result.andThen_ok,f,IW,d,h,e]
def KN:List (Nat × Value):=[(19,.int .i64 1),(20,.int .i64 1),(18,.int .i64 2),(17,.int .i64 3),(5,.int .i64 4),(11,.int .i64 5),(12,.int .i64 5),(13,.int .i64 5),(14,.int .i64 5),(15,.int .i64 5),(16,.int .i64 5),(6,.int .i64 6),(7,.int .i64 6),(8,.int .i64 7),(9,.int .i64 7),(10,.int .i64 7),(4,.int .i64 8)]
def xg (k:Nat):Nat:=if k=19 then 1 else if k=20 then 1 else if k=18 then 2 else if k=17 then 3 else if k=5 then 4 else if k=11 then 5 else if k=12 then 5 else if k=13 then 5 else if k=14 then 5 else if k=15 then 5 else if k=16 then 5 else if k=6 then 6 else if k=7 then 6 else if k=8 then 7 else if k=9 then 7 else if k=10 then 7 else if k=4 then 8 else 0
theorem rents_of (x:Nat):(BH x KN).getD (.int .i64 0)=.int .i64 (xg x:Nat):=by
 by_cases h19:x=19
 ·subst h19;rfl
 by_cases h20:x=20
 ·subst h20;rfl
 by_cases h18:x=18
 ·subst h18;rfl
 by_cases h17:x=17
 ·subst h17;rfl
 by_cases h5:x=5
 ·subst h5;rfl
 by_cases h11:x=11
 ·subst h11;rfl
 by_cases h12:x=12
 ·subst h12;rfl
 by_cases h13:x=13
 ·subst h13;rfl
 by_cases h14:x=14
 ·subst h14;rfl
 by_cases h15:x=15
 ·subst h15;rfl
 by_cases h16:x=16
 ·subst h16;rfl
 by_cases h6:x=6
 ·subst h6;rfl
 by_cases h7:x=7
 ·subst h7;rfl
 by_cases h8:x=8
 ·subst h8;rfl
 by_cases h9:x=9
 ·subst h9;rfl
 by_cases h10:x=10
 ·subst h10;rfl
 by_cases h4:x=4
 ·subst h4;rfl
 simp [KN,BH,xg,h19,h20,h18,h17,h5,h11,h12,h13,h14,h15,h16,h6,h7,h8,h9,h10,h4]
def nK (k:Nat):Bool:=decide (1≤k) && decide (k≤26) && decide (k ≠ 25)
def wJ (k:Nat):Nat × Nat:=if nK k then (if xg k=0 then (9,0) else (xg k,0)) else (0,2)
theorem Xk (w:World):(zeroValue 3).run Tryz.prog w=.ok (.int .i64 0) w:=by kernel_rfl
theorem aaq (w:World)(m c:Nat)(a:w.heap[m]? = some (.map (oQ KN 0).toArray c))(x:Nat):(Instr.lookup 78 (.map (some m)) (.int .u8 x) false).run Tryz.prog w=.ok (.int .i64 (xg x:Nat)) w:=by
 have h:=aao 78 3 (.int .i64 0) Tryz.underlying78 w (Xk w) KN m c a x;rw [h,rents_of]
theorem Wq (w:World):Calls Tryz.prog 70 #[] w fun e j=>e=.returned (.map (some w.heap.size))∧j=w.alloc (.map (oQ KN 0).toArray 17):=by
 have a:=@run_makeMap Tryz.prog;have k:(Instr.mapUpdate 78 (.map (some w.heap.size)) (.int .u8 19) (.int .i64 1)).run Tryz.prog (w.alloc (.map #[] 0))=.ok () (w.alloc (.map (oQ [(19,.int .i64 1)] 0).toArray 1)):=jo 78 3 Tryz.underlying78 w [] 19 (.int .i64 1) (by decide +kernel);have l:(Instr.mapUpdate 78 (.map (some w.heap.size)) (.int .u8 20) (.int .i64 1)).run Tryz.prog (w.alloc (.map (oQ [(19,.int .i64 1)] 0).toArray 1))=.ok () (w.alloc (.map (oQ [(19,.int .i64 1),(20,.int .i64 1)] 0).toArray 2)):=jo 78 3 Tryz.underlying78 w [(19,.int .i64 1)] 20 (.int .i64 1) (by decide +kernel);have m:(Instr.mapUpdate 78 (.map (some w.heap.size)) (.int .u8 18) (.int .i64 2)).run Tryz.prog (w.alloc (.map (oQ [(19,.int .i64 1),(20,.int .i64 1)] 0).toArray 2))=.ok () (w.alloc (.map (oQ [(19,.int .i64 1),(20,.int .i64 1),(18,.int .i64 2)] 0).toArray 3)):=jo 78 3 Tryz.underlying78 w [(19,.int .i64 1),(20,.int .i64 1)] 18 (.int .i64 2) (by decide +kernel);have n:(Instr.mapUpdate 78 (.map (some w.heap.size)) (.int .u8 17) (.int .i64 3)).run Tryz.prog (w.alloc (.map (oQ [(19,.int .i64 1),(20,.int .i64 1),(18,.int .i64 2)] 0).toArray 3))=.ok () (w.alloc (.map (oQ [(19,.int .i64 1),(20,.int .i64 1),(18,.int .i64 2),(17,.int .i64 3)] 0).toArray 4)):=jo 78 3 Tryz.underlying78 w [(19,.int .i64 1),(20,.int .i64 1),(18,.int .i64 2)] 17 (.int .i64 3) (by decide +kernel);have o:(Instr.mapUpdate 78 (.map (some w.heap.size)) (.int .u8 5) (.int .i64 4)).run Tryz.prog (w.alloc (.map (oQ [(19,.int .i64 1),(20,.int .i64 1),(18,.int .i64 2),(17,.int .i64 3)] 0).toArray 4))=.ok () (w.alloc (.map (oQ [(19,.int .i64 1),(20,.int .i64 1),(18,.int .i64 2),(17,.int .i64 3),(5,.int .i64 4)] 0).toArray 5)):=jo 78 3 Tryz.underlying78 w [(19,.int .i64 1),(20,.int .i64 1),(18,.int .i64 2),(17,.int .i64 3)] 5 (.int .i64 4) (by decide +kernel);have q:(Instr.mapUpdate 78 (.map (some w.heap.size)) (.int .u8 11) (.int .i64 5)).run Tryz.prog (w.alloc (.map (oQ [(19,.int .i64 1),(20,.int .i64 1),(18,.int .i64 2),(17,.int .i64 3),(5,.int .i64 4)] 0).toArray 5))=.ok () (w.alloc (.map (oQ [(19,.int .i64 1),(20,.int .i64 1),(18,.int .i64 2),(17,.int .i64 3),(5,.int .i64 4),(11,.int .i64 5)] 0).toArray 6)):=jo 78 3 Tryz.underlying78 w [(19,.int .i64 1),(20,.int .i64 1),(18,.int .i64 2),(17,.int .i64 3),(5,.int .i64 4)] 11 (.int .i64 5) (by decide +kernel);have r:(Instr.mapUpdate 78 (.map (some w.heap.size)) (.int .u8 12) (.int .i64 5)).run Tryz.prog (w.alloc (.map (oQ [(19,.int .i64 1),(20,.int .i64 1),(18,.int .i64 2),(17,.int .i64 3),(5,.int .i64 4),(11,.int .i64 5)] 0).toArray 6))=.ok () (w.alloc (.map (oQ [(19,.int .i64 1),(20,.int .i64 1),(18,.int .i64 2),(17,.int .i64 3),(5,.int .i64 4),(11,.int .i64 5),(12,.int .i64 5)] 0).toArray 7)):=jo 78 3 Tryz.underlying78 w [(19,.int .i64 1),(20,.int .i64 1),(18,.int .i64 2),(17,.int .i64 3),(5,.int .i64 4),(11,.int .i64 5)] 12 (.int .i64 5) (by decide +kernel);have t:(Instr.mapUpdate 78 (.map (some w.heap.size)) (.int .u8 13) (.int .i64 5)).run Tryz.prog (w.alloc (.map (oQ [(19,.int .i64 1),(20,.int .i64 1),(18,.int .i64 2),(17,.int .i64 3),(5,.int .i64 4),(11,.int .i64 5),(12,.int .i64 5)] 0).toArray 7))=.ok () (w.alloc (.map (oQ [(19,.int .i64 1),(20,.int .i64 1),(18,.int .i64 2),(17,.int .i64 3),(5,.int .i64 4),(11,.int .i64 5),(12,.int .i64 5),(13,.int .i64 5)] 0).toArray 8)):=jo 78 3 Tryz.underlying78 w [(19,.int .i64 1),(20,.int .i64 1),(18,.int .i64 2),(17,.int .i64 3),(5,.int .i64 4),(11,.int .i64 5),(12,.int .i64 5)] 13 (.int .i64 5) (by decide +kernel);have u:(Instr.mapUpdate 78 (.map (some w.heap.size)) (.int .u8 14) (.int .i64 5)).run Tryz.prog (w.alloc (.map (oQ [(19,.int .i64 1),(20,.int .i64 1),(18,.int .i64 2),(17,.int .i64 3),(5,.int .i64 4),(11,.int .i64 5),(12,.int .i64 5),(13,.int .i64 5)] 0).toArray 8))=.ok () (w.alloc (.map (oQ [(19,.int .i64 1),(20,.int .i64 1),(18,.int .i64 2),(17,.int .i64 3),(5,.int .i64 4),(11,.int .i64 5),(12,.int .i64 5),(13,.int .i64 5),(14,.int .i64 5)] 0).toArray 9)):=jo 78 3 Tryz.underlying78 w [(19,.int .i64 1),(20,.int .i64 1),(18,.int .i64 2),(17,.int .i64 3),(5,.int .i64 4),(11,.int .i64 5),(12,.int .i64 5),(13,.int .i64 5)] 14 (.int .i64 5) (by decide +kernel);have v:(Instr.mapUpdate 78 (.map (some w.heap.size)) (.int .u8 15) (.int .i64 5)).run Tryz.prog (w.alloc (.map (oQ [(19,.int .i64 1),(20,.int .i64 1),(18,.int .i64 2),(17,.int .i64 3),(5,.int .i64 4),(11,.int .i64 5),(12,.int .i64 5),(13,.int .i64 5),(14,.int .i64 5)] 0).toArray 9))=.ok () (w.alloc (.map (oQ [(19,.int .i64 1),(20,.int .i64 1),(18,.int .i64 2),(17,.int .i64 3),(5,.int .i64 4),(11,.int .i64 5),(12,.int .i64 5),(13,.int .i64 5),(14,.int .i64 5),(15,.int .i64 5)] 0).toArray 10)):=jo 78 3 Tryz.underlying78 w [(19,.int .i64 1),(20,.int .i64 1),(18,.int .i64 2),(17,.int .i64 3),(5,.int .i64 4),(11,.int .i64 5),(12,.int .i64 5),(13,.int .i64 5),(14,.int .i64 5)] 15 (.int .i64 5) (by decide +kernel);have b:(Instr.mapUpdate 78 (.map (some w.heap.size)) (.int .u8 16) (.int .i64 5)).run Tryz.prog (w.alloc (.map (oQ [(19,.int .i64 1),(20,.int .i64 1),(18,.int .i64 2),(17,.int .i64 3),(5,.int .i64 4),(11,.int .i64 5),(12,.int .i64 5),(13,.int .i64 5),(14,.int .i64 5),(15,.int .i64 5)] 0).toArray 10))=.ok () (w.alloc (.map (oQ [(19,.int .i64 1),(20,.int .i64 1),(18,.int .i64 2),(17,.int .i64 3),(5,.int .i64 4),(11,.int .i64 5),(12,.int .i64 5),(13,.int .i64 5),(14,.int .i64 5),(15,.int .i64 5),(16,.int .i64 5)] 0).toArray 11)):=jo 78 3 Tryz.underlying78 w [(19,.int .i64 1),(20,.int .i64 1),(18,.int .i64 2),(17,.int .i64 3),(5,.int .i64 4),(11,.int .i64 5),(12,.int .i64 5),(13,.int .i64 5),(14,.int .i64 5),(15,.int .i64 5)] 16 (.int .i64 5) (by decide +kernel);have c:(Instr.mapUpdate 78 (.map (some w.heap.size)) (.int .u8 6) (.int .i64 6)).run Tryz.prog (w.alloc (.map (oQ [(19,.int .i64 1),(20,.int .i64 1),(18,.int .i64 2),(17,.int .i64 3),(5,.int .i64 4),(11,.int .i64 5),(12,.int .i64 5),(13,.int .i64 5),(14,.int .i64 5),(15,.int .i64 5),(16,.int .i64 5)] 0).toArray 11))=.ok () (w.alloc (.map (oQ [(19,.int .i64 1),(20,.int .i64 1),(18,.int .i64 2),(17,.int .i64 3),(5,.int .i64 4),(11,.int .i64 5),(12,.int .i64 5),(13,.int .i64 5),(14,.int .i64 5),(15,.int .i64 5),(16,.int .i64 5),(6,.int .i64 6)] 0).toArray 12)):=jo 78 3 Tryz.underlying78 w [(19,.int .i64 1),(20,.int .i64 1),(18,.int .i64 2),(17,.int .i64 3),(5,.int .i64 4),(11,.int .i64 5),(12,.int .i64 5),(13,.int .i64 5),(14,.int .i64 5),(15,.int .i64 5),(16,.int .i64 5)] 6 (.int .i64 6) (by decide +kernel);have d:(Instr.mapUpdate 78 (.map (some w.heap.size)) (.int .u8 7) (.int .i64 6)).run Tryz.prog (w.alloc (.map (oQ [(19,.int .i64 1),(20,.int .i64 1),(18,.int .i64 2),(17,.int .i64 3),(5,.int .i64 4),(11,.int .i64 5),(12,.int .i64 5),(13,.int .i64 5),(14,.int .i64 5),(15,.int .i64 5),(16,.int .i64 5),(6,.int .i64 6)] 0).toArray 12))=.ok () (w.alloc (.map (oQ [(19,.int .i64 1),(20,.int .i64 1),(18,.int .i64 2),(17,.int .i64 3),(5,.int .i64 4),(11,.int .i64 5),(12,.int .i64 5),(13,.int .i64 5),(14,.int .i64 5),(15,.int .i64 5),(16,.int .i64 5),(6,.int .i64 6),(7,.int .i64 6)] 0).toArray 13)):=jo 78 3 Tryz.underlying78 w [(19,.int .i64 1),(20,.int .i64 1),(18,.int .i64 2),(17,.int .i64 3),(5,.int .i64 4),(11,.int .i64 5),(12,.int .i64 5),(13,.int .i64 5),(14,.int .i64 5),(15,.int .i64 5),(16,.int .i64 5),(6,.int .i64 6)] 7 (.int .i64 6) (by decide +kernel);have f:(Instr.mapUpdate 78 (.map (some w.heap.size)) (.int .u8 8) (.int .i64 7)).run Tryz.prog (w.alloc (.map (oQ [(19,.int .i64 1),(20,.int .i64 1),(18,.int .i64 2),(17,.int .i64 3),(5,.int .i64 4),(11,.int .i64 5),(12,.int .i64 5),(13,.int .i64 5),(14,.int .i64 5),(15,.int .i64 5),(16,.int .i64 5),(6,.int .i64 6),(7,.int .i64 6)] 0).toArray 13))=.ok () (w.alloc (.map (oQ [(19,.int .i64 1),(20,.int .i64 1),(18,.int .i64 2),(17,.int .i64 3),(5,.int .i64 4),(11,.int .i64 5),(12,.int .i64 5),(13,.int .i64 5),(14,.int .i64 5),(15,.int .i64 5),(16,.int .i64 5),(6,.int .i64 6),(7,.int .i64 6),(8,.int .i64 7)] 0).toArray 14)):=jo 78 3 Tryz.underlying78 w [(19,.int .i64 1),(20,.int .i64 1),(18,.int .i64 2),(17,.int .i64 3),(5,.int .i64 4),(11,.int .i64 5),(12,.int .i64 5),(13,.int .i64 5),(14,.int .i64 5),(15,.int .i64 5),(16,.int .i64 5),(6,.int .i64 6),(7,.int .i64 6)] 8 (.int .i64 7) (by decide +kernel);have g:(Instr.mapUpdate 78 (.map (some w.heap.size)) (.int .u8 9) (.int .i64 7)).run Tryz.prog (w.alloc (.map (oQ [(19,.int .i64 1),(20,.int .i64 1),(18,.int .i64 2),(17,.int .i64 3),(5,.int .i64 4),(11,.int .i64 5),(12,.int .i64 5),(13,.int .i64 5),(14,.int .i64 5),(15,.int .i64 5),(16,.int .i64 5),(6,.int .i64 6),(7,.int .i64 6),(8,.int .i64 7)] 0).toArray 14))=.ok () (w.alloc (.map (oQ [(19,.int .i64 1),(20,.int .i64 1),(18,.int .i64 2),(17,.int .i64 3),(5,.int .i64 4),(11,.int .i64 5),(12,.int .i64 5),(13,.int .i64 5),(14,.int .i64 5),(15,.int .i64 5),(16,.int .i64 5),(6,.int .i64 6),(7,.int .i64 6),(8,.int .i64 7),(9,.int .i64 7)] 0).toArray 15)):=jo 78 3 Tryz.underlying78 w [(19,.int .i64 1),(20,.int .i64 1),(18,.int .i64 2),(17,.int .i64 3),(5,.int .i64 4),(11,.int .i64 5),(12,.int .i64 5),(13,.int .i64 5),(14,.int .i64 5),(15,.int .i64 5),(16,.int .i64 5),(6,.int .i64 6),(7,.int .i64 6),(8,.int .i64 7)] 9 (.int .i64 7) (by decide +kernel);have h:(Instr.mapUpdate 78 (.map (some w.heap.size)) (.int .u8 10) (.int .i64 7)).run Tryz.prog (w.alloc (.map (oQ [(19,.int .i64 1),(20,.int .i64 1),(18,.int .i64 2),(17,.int .i64 3),(5,.int .i64 4),(11,.int .i64 5),(12,.int .i64 5),(13,.int .i64 5),(14,.int .i64 5),(15,.int .i64 5),(16,.int .i64 5),(6,.int .i64 6),(7,.int .i64 6),(8,.int .i64 7),(9,.int .i64 7)] 0).toArray 15))=.ok () (w.alloc (.map (oQ [(19,.int .i64 1),(20,.int .i64 1),(18,.int .i64 2),(17,.int .i64 3),(5,.int .i64 4),(11,.int .i64 5),(12,.int .i64 5),(13,.int .i64 5),(14,.int .i64 5),(15,.int .i64 5),(16,.int .i64 5),(6,.int .i64 6),(7,.int .i64 6),(8,.int .i64 7),(9,.int .i64 7),(10,.int .i64 7)] 0).toArray 16)):=jo 78 3 Tryz.underlying78 w [(19,.int .i64 1),(20,.int .i64 1),(18,.int .i64 2),(17,.int .i64 3),(5,.int .i64 4),(11,.int .i64 5),(12,.int .i64 5),(13,.int .i64 5),(14,.int .i64 5),(15,.int .i64 5),(16,.int .i64 5),(6,.int .i64 6),(7,.int .i64 6),(8,.int .i64 7),(9,.int .i64 7)] 10 (.int .i64 7) (by decide +kernel);have i:(Instr.mapUpdate 78 (.map (some w.heap.size)) (.int .u8 4) (.int .i64 8)).run Tryz.prog (w.alloc (.map (oQ [(19,.int .i64 1),(20,.int .i64 1),(18,.int .i64 2),(17,.int .i64 3),(5,.int .i64 4),(11,.int .i64 5),(12,.int .i64 5),(13,.int .i64 5),(14,.int .i64 5),(15,.int .i64 5),(16,.int .i64 5),(6,.int .i64 6),(7,.int .i64 6),(8,.int .i64 7),(9,.int .i64 7),(10,.int .i64 7)] 0).toArray 16))=.ok () (w.alloc (.map (oQ [(19,.int .i64 1),(20,.int .i64 1),(18,.int .i64 2),(17,.int .i64 3),(5,.int .i64 4),(11,.int .i64 5),(12,.int .i64 5),(13,.int .i64 5),(14,.int .i64 5),(15,.int .i64 5),(16,.int .i64 5),(6,.int .i64 6),(7,.int .i64 6),(8,.int .i64 7),(9,.int .i64 7),(10,.int .i64 7),(4,.int .i64 8)] 0).toArray 17)):=jo 78 3 Tryz.underlying78 w [(19,.int .i64 1),(20,.int .i64 1),(18,.int .i64 2),(17,.int .i64 3),(5,.int .i64 4),(11,.int .i64 5),(12,.int .i64 5),(13,.int .i64 5),(14,.int .i64 5),(15,.int .i64 5),(16,.int .i64 5),(6,.int .i64 6),(7,.int .i64 6),(8,.int .i64 7),(9,.int .i64 7),(10,.int .i64 7)] 4 (.int .i64 8) (by decide +kernel);go_in
 go_wp2_with fail;go_ret;exact⟨rfl,rfl⟩
theorem GX (k:Nat)(w:World):Calls Tryz.prog 69 #[.int .u8 k] w fun e f=>e=.returned (.bool (nK k))∧f=w:=by
 go_in
 by_cases h1:1≤k
 ·have b:decide ((1:Int)≤(k:Int))=true:=aaU (by omega);by_cases h2:k≤26
  ·have c:decide ((k:Int)≤26)=true:=aaU (by omega);by_cases h3:k=25
   ·have d:((k:Int) != 25)=false:=by rw [h3];rfl
    have a:=O (show nK k=false by subst h3;rfl);clear h3;go_wp2;go_ret;exact⟨(by rw [a.o];rfl),rfl⟩
   ·have d:((k:Int) != 25)=true:=by simp [bne];omega
    have a:=O (show nK k=true by simp [nK];omega);clear h3;go_wp2;go_ret;exact⟨(by rw [a.o];rfl),rfl⟩
  ·have c:decide ((k:Int)≤26)=false:=aaV (by omega);have a:=O (show nK k=false by simp [nK];omega);go_wp2;go_ret;exact⟨(by rw [a.o];rfl),rfl⟩
 ·have b:decide ((1:Int)≤(k:Int))=false:=aaV (by omega);have a:=O (show nK k=false by simp [nK];omega);go_wp2;go_ret;exact⟨(by rw [a.o];rfl),rfl⟩
theorem Wp {k:Nat}(h:nK k=false):wJ k=(0,2):=by unfold wJ;simp [h]
theorem Pb {k:Nat}(h:nK k=true)(h2:xg k ≠ 0):wJ k=(xg k,0):=by unfold wJ;simp [h,h2]
theorem O_ {k:Nat}(h:nK k=true)(h2:xg k=0):wJ k=(9,0):=by unfold wJ;simp [h,h2]
theorem rank_any (k:Nat)(w:World):Calls Tryz.prog 26 #[.int .u8 k] w fun e m=>e=.returned (.tuple #[.int .i64 (wJ k).1,.int .i64 (wJ k).2])∧Below w.heap.size w m:=by
 have a:xg k≤8:=by
  by_cases h:k≤26
  ·exact (by decide:∀ k≤26,xg k≤8) k h
  ·unfold xg;simp [show k ≠ 19 by omega,show k ≠ 20 by omega,show k ≠ 18 by omega,show k ≠ 17 by omega,show k ≠ 5 by omega,show k ≠ 11 by omega,show k ≠ 12 by omega,show k ≠ 13 by omega,show k ≠ 14 by omega,show k ≠ 15 by omega,show k ≠ 16 by omega,show k ≠ 6 by omega,show k ≠ 7 by omega,show k ≠ 8 by omega,show k ≠ 9 by omega,show k ≠ 10 by omega,show k ≠ 4 by omega]
 go_in
 go_wp2_with fail;refine (GX k w).mono ?_;rintro e w1⟨rfl,rfl⟩;rcases c:nK k with _ | _
 ·have d:=O (Wp c);clear c;go_wp2;go_ret2
  exact⟨by rw [d.o];rfl,Below.refl _ _⟩
 ·have g:=O (heap_alloc_new w1 (.map (oQ KN 0).toArray 17));have f:=aaq _ _ _ g.o k;obtain⟨R,b⟩:∃ R,R=xg k:=⟨_,rfl⟩;rw [← b] at f a
  go_wp2_with fail;refine (Wq w1).mono ?_;rintro e n⟨rfl,rfl⟩;by_cases h0:R=0
  ·have d:=O (O_ c (b.symm.trans h0));clear c b;have j:decide ((0:Int) < (R:Int))=false:=aaV (by omega);have l:decide (0 < R)=false:=aaV (by omega);clear h0;go_wp2_with fail;go_ret2
   exact⟨by rw [d.o];rfl,(Below.refl _ _).alloc (aaJ _) _⟩
  ·have d:=O (Pb c (fun e=>h0 (b.trans e)));have j:decide ((0:Int) < (R:Int))=true:=aaU (by omega);have l:decide (0 < R)=true:=aaU (by omega);have i:=O b;clear h0 c b;go_wp2_with fail;go_ret2
   exact⟨by rw [d.o,← i.o];rfl,(Below.refl _ _).alloc (aaJ _) _⟩
theorem XC (k:Nat)(w:World):Calls Tryz.prog 71 #[.int .u8 k] w fun e f=>e=.returned (.bool (nK k))∧f=w:=by
 go_in
 by_cases h1:1≤k
 ·have b:decide ((1:Int)≤(k:Int))=true:=aaU (by omega);by_cases h2:k≤26
  ·have c:decide ((k:Int)≤26)=true:=aaU (by omega);by_cases h3:k=25
   ·have d:((k:Int) != 25)=false:=by rw [h3];rfl
    have a:=O (show nK k=false by subst h3;rfl);clear h3;go_wp2;go_ret;exact⟨(by rw [a.o];rfl),rfl⟩
   ·have d:((k:Int) != 25)=true:=by simp [bne];omega
    have a:=O (show nK k=true by simp [nK];omega);clear h3;go_wp2;go_ret;exact⟨(by rw [a.o];rfl),rfl⟩
  ·have c:decide ((k:Int)≤26)=false:=aaV (by omega);have a:=O (show nK k=false by simp [nK];omega);go_wp2;go_ret;exact⟨(by rw [a.o];rfl),rfl⟩
 ·have b:decide ((1:Int)≤(k:Int))=false:=aaV (by omega);have a:=O (show nK k=false by simp [nK];omega);go_wp2;go_ret;exact⟨(by rw [a.o];rfl),rfl⟩
end Go.Proofs.YthepmkjggfijoaaGreatDoor
