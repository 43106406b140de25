/-
  A part of the proof.
-/
import Derived.Test.YthepmkjggfijoaaGreatDoorSA
import Derived.Deep.RegionLaw
import Derived.Carry
import Derived.Test.YthepmkjggfijoaaGreatDoorS06
import Derived.Test.YthepmkjggfijoaaGreatDoorS08
import Derived.Test.YthepmkjggfijoaaGreatDoorS28
set_option linter.all false
set_option maxRecDepth 100000
set_option maxHeartbeats 4000000
open Go.Lib (hid)
namespace Go.Proofs.YthepmkjggfijoaaGreatDoor
open Go.RowKit Mist
attribute [local go_sem] aj aH aS aB ak
theorem uF.set {g b i:Nat}{u:Value}{w:World}{v:Value}{xs:List NV}{its:List Int}(h:uF g w v xs its)(hb:b < g):uF g (w.setCell ⟨b,i,none⟩ u) v xs its:=by
 obtain⟨⟨nv,iv,q,rfl,h1,rfl,h2⟩,hk⟩:=h;exact⟨⟨nv,iv,_,rfl,jZ h1 hb,rfl,jZ h2 (by omega)⟩,fun x hx=>jZ (hk x hx) (by omega)⟩
theorem uF.below {g:Nat}{w w':World}{v:Value}{xs:List NV}{its:List Int}(h:uF g w v xs its)(hb:Below w.heap.size w w'):uF g w' v xs its:=by
 obtain⟨⟨nv,iv,q,rfl,h1,rfl,h2⟩,hk⟩:=h;exact⟨⟨nv,iv,_,rfl,own_below h1 hb,rfl,own_below h2 hb⟩,fun x hx=>own_below (hk x hx) hb⟩
structure BD (T:Tr):Prop where
 wf:Wf T.nodes
 choose:∀ x ∈ T.nodes,nJ T x
 kids:∀ x ∈ T.nodes,x.kids.length≤1000000
 len:T.nodes.length≤1000
def iy (T:Tr):Int × Int :=
 if Mist.large T=true∨30 < om T then (0,5)
 else if 0≤outT T then ((nd T (outT T).toNat).at_,3) else (0,0)
def TreeOut (T:Tr)(w:World)(e:Ending)(w':World):Prop :=
 Below w.heap.size w w'∧((iy T).2 ≠ 0∧e=.returned (.tuple #[.agg #[.slice none 0 0,.slice none 0 0],.int .i64 (iy T).1,.int .i64 (iy T).2]) ∨
  (iy T).2=0∧∃ v xs g,e=.returned (.tuple #[v,.int .i64 0,.int .i64 0])∧aA xs=T.nodes∧w.heap.size≤g∧uF g w' v xs T.items)
theorem outT_lt {T:Tr}(h:0≤outT T):outT T < (T.nodes.length:Int):=by
 unfold outT wm at h ⊢
 rcases hx:T.nodes.findIdx? (fun x=>!Mist.sized T x) with _ | i
 ·rw [hx] at h;exact absurd h (by decide)
 ·rw [List.findIdx?_eq_some_iff_getElem] at hx
  obtain⟨hl,_⟩:=hx
  show (i:Int) < (T.nodes.length:Int)
  omega
theorem Iz (s:Bs)(l:List Tok)(n f k:Nat)(w:World)(hr:Mist.read s=(l,0,0))(hF:PF l)(hp:prog l (s.length:Int) n f 0 [] []=some (.bad k))(hE:Env w)(hl:s.length≤100000000) :
  Calls Tryz.prog 17 #[.string (aM s)] w fun e w'=>e=.returned (.tuple #[.agg #[.slice none 0 0,.slice none 0 0],.int .i64 (pl l (s.length:Int) k),.int .i64 4])∧Below w.heap.size w w':=by
 have HR:=hid hr;clear hr;have HP:=hid hp;clear hp;have HE:=hid hE;clear hE;go_in
 go_wp2_with fail;refine (IG s _ (HE.out.alloc _) hl).mono ?_;rintro e w2⟨v,rfl,ht,hb2⟩;rw [HR.out] at ht ⊢
 have HB2:=hid (gF hb2);have HL2:=hid ((ah (Below.refl w.heap.size w) (aaJ _) (o:=.cells #[.slice none 0 0,.slice none 0 0] 26)).trans (hb2.mono (by simp)));have uM:=hid ht;clear hb2 ht;simp only
 go_wp2_with fail;refine (KL hF (en:=(s.length:Int)) n f w2 _ uM.out (HE.out.below HL2.out) HP.out).mono ?_;rintro e w3⟨rfl,hb3⟩;have HB3:=hid (HB2.out.below hb3 HB2.out.lt);have lS:=hid (HL2.out.trans (hb3.mono HL2.out.size));clear hb3;have q0:=HB3.out.cell 0;have q1:=HB3.out.cell 1;have r0:=HB3.out.frozen 0;have r1:=HB3.out.frozen 1;go_wp2_with fail;have hz:=(((HB3.out.d_ 0 (.slice none 0 0)).d_ 1 (.slice none 0 0)).d_ 0 (.slice none 0 0)).d_ 1 (.slice none 0 0);have z0:=hz.cell 0;have z1:=hz.cell 1;refine bodyPost_ret (v:=.tuple #[.agg #[.slice none 0 0,.slice none 0 0],.int .i64 (pl l (s.length:Int) k),.int .i64 4]) (by simp [results,Tryz.f17,go_sem,z0,z1]) rfl ⟨rfl,?_⟩
 repeat (first|(with_reducible exact lS.out)|(with_reducible refine dx ?_ ?_) | omega)
theorem y9 (s:Bs)(l:List Tok)(n f k:Nat)(T:Tr)(w:World)(hr:Mist.read s=(l,0,0))(hF:PF l)(hp:prog l (s.length:Int) n f 0 [] []=some (.ok T.items k T.nodes))(hE:Env w)(hl:s.length≤100000000)(hG:BD T) :
  Calls Tryz.prog 17 #[.string (aM s)] w (TreeOut T w):=by
 have HR:=hid hr;clear hr;have HP:=hid hp;clear hp;have HE:=hid hE;clear hE;have HG:=hid hG;clear hG;go_in
 go_wp2_with fail;refine (IG s _ (HE.out.alloc _) hl).mono ?_;rintro e w2⟨v,rfl,ht,hb2⟩;rw [HR.out] at ht ⊢
 have HB2:=hid (gF hb2);have HL2:=hid ((ah (Below.refl w.heap.size w) (aaJ _) (o:=.cells #[.slice none 0 0,.slice none 0 0] 26)).trans (hb2.mono (by simp)));have uM:=hid ht;clear hb2 ht;simp only
 go_wp2_with fail;refine (KL hF (en:=(s.length:Int)) n f w2 _ uM.out (HE.out.below HL2.out) HP.out).mono ?_;rintro e w3⟨v,xs,rfl,hxs,htr,hb3⟩;have HXS:=hid hxs;clear hxs;have HTR:=hid htr;clear htr;have hkl:∀ x ∈ xs,x.1.kids.length≤1000000:=fun x hx=>HG.out.kids x.1 (by rw [← HXS.out];exact List.mem_map_of_mem hx)
 obtain⟨A,B,c,d,rfl,_⟩:=HTR.out.UH hkl;have TI:=hid hkl;clear hkl;have HB3:=hid (HB2.out.below hb3 HB2.out.lt);have lS:=hid (HL2.out.trans (hb3.mono HL2.out.size));have hlt2:=HB2.out.lt;clear hb3;have q0:=HB3.out.cell 0;have q1:=HB3.out.cell 1;have r0:=HB3.out.frozen 0;have r1:=HB3.out.frozen 1;have tO:=hid (show aC ((w3.setCell ⟨w.heap.size,0,none⟩ (.slice A xs.length c)).setCell ⟨w.heap.size,1,none⟩ (.slice B T.items.length d)) w.heap.size 26 #[.slice A xs.length c,.slice B T.items.length d] from by have h9:=(HB3.out.d_ 0 (.slice A xs.length c)).d_ 1 (.slice B T.items.length d);simpa using h9);have qx:=hid (show Below w.heap.size w ((w3.setCell ⟨w.heap.size,0,none⟩ (.slice A xs.length c)).setCell ⟨w.heap.size,1,none⟩ (.slice B T.items.length d)) from dx (dx lS.out (aaJ _)) (aaJ _));have Ji:=hid ((HTR.out.set (i:=0) (u:=.slice A xs.length c) hlt2).set (i:=1) (u:=.slice B T.items.length d) hlt2);clear HTR HB3 lS HB2 HL2 uM HE HR HP;have QU:=hid (show (aA xs).length=xs.length from aD xs);have hn1:xs.length≤1000:=by rw [← QU.out,HXS.out];exact HG.out.len
 obtain⟨n,hnn⟩:∃ n,n=xs.length:=⟨_,rfl⟩;obtain⟨m,hmm⟩:∃ m,m=T.items.length:=⟨_,rfl⟩;rw [← hnn] at tO qx Ji hn1 ⊢
 rw [← hmm] at tO qx Ji ⊢
 have pF:=hid hnn;clear hnn;have U1:=hid hmm;clear hmm;have TL:=hid (show kP n m=Mist.large T by unfold kP Mist.large;rw [pF.out,U1.out,← QU.out,HXS.out]);have HTX:=hid (show (⟨aA xs,T.items⟩:Tr)=T by rw [HXS.out]);go_wp2_with fail
 generalize ((w3.setCell ⟨w.heap.size,0,none⟩ (.slice A n c)).setCell ⟨w.heap.size,1,none⟩ (.slice B m d))=w4 at tO qx Ji ⊢
 refine (Eb A B n m c d _).mono ?_;rintro e w5⟨rfl,hb5⟩;rw [TL.out];have cu:=hid (tO.out.below hb5 tO.out.lt);have jO:=hid (qx.out.trans (hb5.mono qx.out.size));have zO:=hid (Ji.out.below hb5);clear hb5 q0 q1 r0 r1;have q0:=cu.out.cell 0;have q1:=cu.out.cell 1;have r0:=cu.out.frozen 0;have r1:=cu.out.frozen 1;have hq5:=cu.out.lt
 cases hlg:Mist.large T
 case true =>
  have HX:=hid (show iy T=(0,5) by unfold iy;rw [if_pos (Or.inl hlg)]);clear hlg;go_wp2_with fail;refine bodyPost_ret (v:=.tuple #[.agg #[.slice none 0 0,.slice none 0 0],.int .i64 0,.int .i64 5]) (by simp [results,Tryz.f17,go_sem,q0,q1]) rfl ⟨?_,.inl ⟨by rw [HX.out];decide,by rw [HX.out]⟩⟩
  repeat (first|(with_reducible exact jO.out)|(with_reducible refine dx ?_ ?_) | omega)
 have Nt:=hid hlg;clear hlg
 have JU:=hid (by
  have h9:=BZ A B c m d xs T.items w5 (by
   obtain⟨A',B',c',d',hv,h8⟩:=zO.out.UH TI.out;injection hv with hv
   injection hv with hv
   injection hv with hv1 hv2
   injection hv1 with hA
   injection hv2 with hv2 _
   injection hv2 with hB
   subst hA;subst hB;exact h8) (by rw [← pF.out];omega) (by rw [HXS.out];exact HG.out.wf)
  rw [← pF.out,show jB (aA xs)=om T by unfold om;rw [HXS.out]] at h9
  exact h9)
 obtain⟨D,hD⟩:∃ D,D=om T:=⟨_,rfl⟩;rw [← hD] at JU
 have HDD:=hid hD;clear hD;by_cases Du:30 < D
 ·have e30:decide (30 < D)=true:=aaU Du;have HX:=hid (show iy T=(0,5) by unfold iy;rw [if_pos (Or.inr (by rw [← HDD.out];exact Du))]);go_wp2_with fail;refine JU.out.mono ?_;rintro e w6⟨rfl,hb6⟩;have dA:=hid (cu.out.below hb6 cu.out.lt);have kT:=hid (jO.out.trans (hb6.mono jO.out.size));clear hb6 q0 q1 r0 r1;have q0:=dA.out.cell 0;have q1:=dA.out.cell 1;have r0:=dA.out.frozen 0;have r1:=dA.out.frozen 1;go_wp2_with fail;refine bodyPost_ret (v:=.tuple #[.agg #[.slice none 0 0,.slice none 0 0],.int .i64 0,.int .i64 5]) (by simp [results,Tryz.f17,go_sem,q0,q1]) rfl ⟨?_,.inl ⟨by rw [HX.out];decide,by rw [HX.out]⟩⟩
  repeat (first|(with_reducible exact kT.out)|(with_reducible refine dx ?_ ?_) | omega)
 have e30:decide (30 < D)=false:=aaV Du;have H30:=hid (show om T≤30 by rw [← HDD.out];omega);clear Du;go_wp2_with fail;refine JU.out.mono ?_;rintro e w6⟨rfl,hb6⟩;have dA:=hid (cu.out.below hb6 cu.out.lt);have kT:=hid (jO.out.trans (hb6.mono jO.out.size));have HT6:=hid (zO.out.below hb6);clear hb6 q0 q1 r0 r1;have q0:=dA.out.cell 0;have q1:=dA.out.cell 1
 have HOU:=hid (by
  have h9:=Cy xs T.items A c B m d w6 (by
   obtain⟨A',B',c',d',hv,h8⟩:=HT6.out.UH TI.out;injection hv with hv
   injection hv with hv
   injection hv with hv1 hv2
   injection hv1 with hA
   injection hv2 with hv2 _
   injection hv2 with hB
   subst hA;subst hB;exact h8) (by rw [← pF.out];omega) (by rw [HXS.out];exact HG.out.choose)
  rw [← pF.out,HTX.out] at h9
  exact h9)
 obtain⟨O,hO⟩:∃ O,O=outT T:=⟨_,rfl⟩;rw [← hO] at HOU
 have HOO:=hid hO;clear hO;have HX:=hid (show iy T=if 0≤O then ((nd T O.toNat).at_,3) else (0,0) by unfold iy;rw [if_neg (by rw [Nt.out];have h9:=H30.out;simp;omega),← HOO.out]);by_cases h0:0≤O
 ·have e0:decide (0≤O)=true:=aaU h0;go_wp2_with fail;refine HOU.out.mono ?_;rintro e w7⟨rfl,nI⟩;have uN:=hid (dA.out.below nI dA.out.lt);have U0:=hid (kT.out.trans (nI.mono kT.out.size));have HT7:=hid (HT6.out.below nI);clear nI q0 q1;have q0:=uN.out.cell 0;have q1:=uN.out.cell 1;have r0:=uN.out.frozen 0;have r1:=uN.out.frozen 1;have hol:=outT_lt (T:=T) (by rw [← HOO.out];exact h0);rw [← HOO.out,← HXS.out,QU.out,← pF.out] at hol
  obtain⟨On,hOn⟩:∃ On:Nat,O=(On:Int):=⟨O.toNat,by omega⟩;obtain⟨x,hx⟩:∃ x,xs[On]? = some x:=jD (by rw [← pF.out];omega)
  have HXX:=hid (show iy T=(x.1.at_,3) by
   rw [HX.out,if_pos h0,hOn,aaQ];have h9:=l7 T.items hx;rw [HXS.out] at h9
   rw [← h9])
  have hT7:mq w7 A B xs T.items:=by
   obtain⟨A',B',c',d',hv,h8⟩:=HT7.out.UH TI.out;injection hv with hv
   injection hv with hv
   injection hv with hv1 hv2
   injection hv1 with hA
   injection hv2 with hv2 _
   injection hv2 with hB
   subst hA;subst hB;exact h8
  obtain⟨b,o,rfl,hN⟩:=hT7.nodes (by rw [← pF.out];omega);have c4:=hN.c4 On x hx;have hbl:=hN.lt;subst hOn;have i1:(0:Int)≤(On:Int):=by omega
  clear hN hT7 hx;go_wp2_with fail;go_region
  all_goals
   go_wp2_with fail;have hz:=(uN.out.d_ 0 (.slice none 0 0)).d_ 1 (.slice none 0 0);have z0:=hz.cell 0;have z1:=hz.cell 1;refine bodyPost_ret (v:=.tuple #[.agg #[.slice none 0 0,.slice none 0 0],.int .i64 x.1.at_,.int .i64 3]) (by simp [results,Tryz.f17,go_sem,z0,z1]) rfl ⟨?_,.inl ⟨by rw [HXX.out];show (3:Int) ≠ 0;decide,by rw [HXX.out]⟩⟩
   repeat (first|(with_reducible exact U0.out)|(with_reducible refine dx ?_ ?_)|(with_reducible refine Below.drew ?_) | omega)
 ·have e0:decide (0≤O)=false:=aaV h0;have HX2:=hid (show iy T=(0,0) by rw [HX.out,if_neg h0]);go_wp2_with fail;refine HOU.out.mono ?_;rintro e w7⟨rfl,nI⟩;have uN:=hid (dA.out.below nI dA.out.lt);have U0:=hid (kT.out.trans (nI.mono kT.out.size));have HT7:=hid (HT6.out.below nI);clear nI q0 q1;have q0:=uN.out.cell 0;have q1:=uN.out.cell 1;have r0:=uN.out.frozen 0;have r1:=uN.out.frozen 1;go_wp2_with fail;have hz:=(uN.out.d_ 0 (.slice A n c)).d_ 1 (.slice B m d);have z0:=hz.cell 0;have z1:=hz.cell 1;have HTF:=hid ((HT7.out.set (i:=0) (u:=.slice A n c) hlt2).set (i:=1) (u:=.slice B m d) hlt2);refine bodyPost_ret (v:=.tuple #[.agg #[.slice A n c,.slice B m d],.int .i64 0,.int .i64 0]) (by simp [results,Tryz.f17,go_sem,z0,z1]) rfl ⟨?_,.inr ⟨by rw [HX2.out],_,xs,w2.heap.size,rfl,HXS.out,by omega,HTF.out⟩⟩
  repeat (first|(with_reducible exact U0.out)|(with_reducible refine dx ?_ ?_) | omega)
end Go.Proofs.YthepmkjggfijoaaGreatDoor
namespace Go.Proofs.YthepmkjggfijoaaGreatDoor
open Go.RowKit Mist
def oQ:List (Nat × Value)→Nat→List MapEntry
 | [],_=>[]
 | (k,v) :: r,i=>⟨.int .u8 k,v,i⟩ :: oQ r (i+1)
def BH (x:Nat):List (Nat × Value)→Option Value
 | []=>none
 | (k,v) :: r=>if x=k then some v else BH x r
theorem DY (x:Nat):∀ (l:List (Nat × Value)) (i j:Nat),∃ n,Instr.findNow (.int .u8) (.int .u8 x) (oQ l j) i=some ((BH x l).map fun v=>(n,v))
 | [],i,j=>⟨0,rfl⟩
 | (k,v) :: r,i,j=>by
  simp only [oQ,BH,Instr.findNow,Instr.sameNow,if_true];by_cases h:x=k
  ·subst h;exact⟨i,by simp⟩
  ·obtain⟨n,hn⟩:=DY x r (i+1) (j+1);have h2:((x:Int) == (k:Int))=false:=by simp;omega
   exact⟨n,by simp only [h2,if_neg h,hn]⟩
theorem IW (b:Bool)(x:Int)(w:World):(Instr.checkKey b 10000 5 (.int .u8 x)).run Tryz.prog w=.ok () w :=
 MapKept.run_checkKey Tryz.underlying5 (by trivial) b 9999
theorem aao (T E:TypeId)(z:Value)(hT:Tryz.prog.underlying T=some (.map 5 E))(w:World)(hz:(zeroValue E).run Tryz.prog w=.ok z w)(l:List (Nat × Value))(m c:Nat)(hm:w.heap[m]? = some (.map (oQ l 0).toArray c))(x:Nat) :
  (Instr.lookup T (.map (some m)) (.int .u8 x) false).run Tryz.prog w=.ok ((BH x l).getD z) w:=by
 have hg:(getObj m).run Tryz.prog w=.ok (.map (oQ l 0).toArray c) w:=MapKept.run_getObj_map hm;obtain⟨n,hn⟩:=DY x l 0 0
 have hf:(Instr.findKey 5 (.int .u8 x) (oQ l 0)).run Tryz.prog w=.ok ((BH x l).map fun v=>(n,v)) w:=by
  simp only [Instr.findKey,Sem.run_bind,run_underlying Tryz.underlying5,Result.andThen_ok,hn];rfl
 unfold Instr.lookup;simp only [Sem.run_bind,run_underlying hT,Result.andThen_ok,hg,IW,hf,Sem.run_pure]
 cases BH x l with
 | none =>
  simp only [Option.map_none,Sem.run_bind,hz,Result.andThen_ok,Sem.run_pure];rfl
 | some v =>
  simp only [Option.map_some,Sem.run_pure,Result.andThen_ok];rfl
theorem NJ:∀ (l:List (Nat × Value)) (k:Nat) (v:Value) (i:Nat),oQ (l ++ [(k,v)]) i=oQ l i ++ [⟨.int .u8 k,v,i+l.length⟩]
 | [],_,_,_=>rfl
 | (a,b) :: r,k,v,i=>by
  simp only [List.cons_append,oQ,NJ r k v (i+1),List.length_cons];rw [show i+1+r.length=i+(r.length+1) by omega]
theorem jo (T E:TypeId)(hT:Tryz.prog.underlying T=some (.map 5 E))(w:World)(l:List (Nat × Value))(k:Nat)(v:Value)(hn:BH k l=none) :
  (Instr.mapUpdate T (.map (some w.heap.size)) (.int .u8 k) v).run Tryz.prog (w.alloc (.map (oQ l 0).toArray l.length))=.ok () (w.alloc (.map (oQ (l ++ [(k,v)]) 0).toArray (l.length+1))):=by
 have hm:(w.alloc (.map (oQ l 0).toArray l.length)).heap[w.heap.size]? = some (.map (oQ l 0).toArray l.length):=heap_alloc_new w _;have hg:(getObj w.heap.size).run Tryz.prog (w.alloc (.map (oQ l 0).toArray l.length))=.ok (.map (oQ l 0).toArray l.length) (w.alloc (.map (oQ l 0).toArray l.length)):=MapKept.run_getObj_map hm;obtain⟨n,hn2⟩:=DY k l 0 0;rw [hn] at hn2
 have hf:(Instr.findKey 5 (.int .u8 k) (oQ l 0)).run Tryz.prog (w.alloc (.map (oQ l 0).toArray l.length))=.ok none (w.alloc (.map (oQ l 0).toArray l.length)):=by
  simp only [Instr.findKey,Sem.run_bind,run_underlying Tryz.underlying5,Result.andThen_ok,hn2];rfl
 have hs:∀ o,(setObj w.heap.size o).run Tryz.prog (w.alloc (.map (oQ l 0).toArray l.length))=.ok () (w.alloc o):=by
  intro o;rw [MapKept.run_setObj_map o hm,heap_put];rfl
 have e:(oQ l 0).toArray.push ⟨.int .u8 k,v,l.length⟩=(oQ (l ++ [(k,v)]) 0).toArray:=by
  rw [NJ];simp
 unfold Instr.mapUpdate;simp only [Sem.run_bind,run_underlying hT,Result.andThen_ok,hg,IW,hf,hs,e]
def KN:List (Nat × Value):=[(19,.int .i64 1),(20,.int .i64 1),(18,.int .i64 2),(17,.int .i64 3),(5,.int .i64 4),(11,.int .i64 5),(12,.int .i64 5),(13,.int .i64 5),(14,.int .i64 5),(15,.int .i64 5),(16,.int .i64 5),(6,.int .i64 6),(7,.int .i64 6),(8,.int .i64 7),(9,.int .i64 7),(10,.int .i64 7),(4,.int .i64 8)]
def xg (k:Nat):Nat:=if k=19 then 1 else if k=20 then 1 else if k=18 then 2 else if k=17 then 3 else if k=5 then 4 else if k=11 then 5 else if k=12 then 5 else if k=13 then 5 else if k=14 then 5 else if k=15 then 5 else if k=16 then 5 else if k=6 then 6 else if k=7 then 6 else if k=8 then 7 else if k=9 then 7 else if k=10 then 7 else if k=4 then 8 else 0
theorem rents_of (x:Nat):(BH x KN).getD (.int .i64 0)=.int .i64 (xg x:Nat):=by
 by_cases h19:x=19
 ·subst h19;rfl
 by_cases h20:x=20
 ·subst h20;rfl
 by_cases h18:x=18
 ·subst h18;rfl
 by_cases h17:x=17
 ·subst h17;rfl
 by_cases h5:x=5
 ·subst h5;rfl
 by_cases h11:x=11
 ·subst h11;rfl
 by_cases h12:x=12
 ·subst h12;rfl
 by_cases h13:x=13
 ·subst h13;rfl
 by_cases h14:x=14
 ·subst h14;rfl
 by_cases h15:x=15
 ·subst h15;rfl
 by_cases h16:x=16
 ·subst h16;rfl
 by_cases h6:x=6
 ·subst h6;rfl
 by_cases h7:x=7
 ·subst h7;rfl
 by_cases h8:x=8
 ·subst h8;rfl
 by_cases h9:x=9
 ·subst h9;rfl
 by_cases h10:x=10
 ·subst h10;rfl
 by_cases h4:x=4
 ·subst h4;rfl
 simp [KN,BH,xg,h19,h20,h18,h17,h5,h11,h12,h13,h14,h15,h16,h6,h7,h8,h9,h10,h4]
def nK (k:Nat):Bool:=decide (1≤k) && decide (k≤26) && decide (k ≠ 25)
def wJ (k:Nat):Nat × Nat:=if nK k then (if xg k=0 then (9,0) else (xg k,0)) else (0,2)
theorem Xk (w:World):(zeroValue 3).run Tryz.prog w=.ok (.int .i64 0) w:=by kernel_rfl
theorem aaq (w:World)(m c:Nat)(hm:w.heap[m]? = some (.map (oQ KN 0).toArray c))(x:Nat):(Instr.lookup 78 (.map (some m)) (.int .u8 x) false).run Tryz.prog w=.ok (.int .i64 (xg x:Nat)) w:=by
 have h:=aao 78 3 (.int .i64 0) Tryz.underlying78 w (Xk w) KN m c hm x;rw [h,rents_of]
theorem Wq (w:World):Calls Tryz.prog 70 #[] w fun e w'=>e=.returned (.map (some w.heap.size))∧w'=w.alloc (.map (oQ KN 0).toArray 17):=by
 have hmm:=@run_makeMap Tryz.prog;have i0:(Instr.mapUpdate 78 (.map (some w.heap.size)) (.int .u8 19) (.int .i64 1)).run Tryz.prog (w.alloc (.map #[] 0))=.ok () (w.alloc (.map (oQ [(19,.int .i64 1)] 0).toArray 1)):=jo 78 3 Tryz.underlying78 w [] 19 (.int .i64 1) (by decide +kernel);have i1:(Instr.mapUpdate 78 (.map (some w.heap.size)) (.int .u8 20) (.int .i64 1)).run Tryz.prog (w.alloc (.map (oQ [(19,.int .i64 1)] 0).toArray 1))=.ok () (w.alloc (.map (oQ [(19,.int .i64 1),(20,.int .i64 1)] 0).toArray 2)):=jo 78 3 Tryz.underlying78 w [(19,.int .i64 1)] 20 (.int .i64 1) (by decide +kernel);have i2:(Instr.mapUpdate 78 (.map (some w.heap.size)) (.int .u8 18) (.int .i64 2)).run Tryz.prog (w.alloc (.map (oQ [(19,.int .i64 1),(20,.int .i64 1)] 0).toArray 2))=.ok () (w.alloc (.map (oQ [(19,.int .i64 1),(20,.int .i64 1),(18,.int .i64 2)] 0).toArray 3)):=jo 78 3 Tryz.underlying78 w [(19,.int .i64 1),(20,.int .i64 1)] 18 (.int .i64 2) (by decide +kernel);have i3:(Instr.mapUpdate 78 (.map (some w.heap.size)) (.int .u8 17) (.int .i64 3)).run Tryz.prog (w.alloc (.map (oQ [(19,.int .i64 1),(20,.int .i64 1),(18,.int .i64 2)] 0).toArray 3))=.ok () (w.alloc (.map (oQ [(19,.int .i64 1),(20,.int .i64 1),(18,.int .i64 2),(17,.int .i64 3)] 0).toArray 4)):=jo 78 3 Tryz.underlying78 w [(19,.int .i64 1),(20,.int .i64 1),(18,.int .i64 2)] 17 (.int .i64 3) (by decide +kernel);have i4:(Instr.mapUpdate 78 (.map (some w.heap.size)) (.int .u8 5) (.int .i64 4)).run Tryz.prog (w.alloc (.map (oQ [(19,.int .i64 1),(20,.int .i64 1),(18,.int .i64 2),(17,.int .i64 3)] 0).toArray 4))=.ok () (w.alloc (.map (oQ [(19,.int .i64 1),(20,.int .i64 1),(18,.int .i64 2),(17,.int .i64 3),(5,.int .i64 4)] 0).toArray 5)):=jo 78 3 Tryz.underlying78 w [(19,.int .i64 1),(20,.int .i64 1),(18,.int .i64 2),(17,.int .i64 3)] 5 (.int .i64 4) (by decide +kernel);have i5:(Instr.mapUpdate 78 (.map (some w.heap.size)) (.int .u8 11) (.int .i64 5)).run Tryz.prog (w.alloc (.map (oQ [(19,.int .i64 1),(20,.int .i64 1),(18,.int .i64 2),(17,.int .i64 3),(5,.int .i64 4)] 0).toArray 5))=.ok () (w.alloc (.map (oQ [(19,.int .i64 1),(20,.int .i64 1),(18,.int .i64 2),(17,.int .i64 3),(5,.int .i64 4),(11,.int .i64 5)] 0).toArray 6)):=jo 78 3 Tryz.underlying78 w [(19,.int .i64 1),(20,.int .i64 1),(18,.int .i64 2),(17,.int .i64 3),(5,.int .i64 4)] 11 (.int .i64 5) (by decide +kernel);have i6:(Instr.mapUpdate 78 (.map (some w.heap.size)) (.int .u8 12) (.int .i64 5)).run Tryz.prog (w.alloc (.map (oQ [(19,.int .i64 1),(20,.int .i64 1),(18,.int .i64 2),(17,.int .i64 3),(5,.int .i64 4),(11,.int .i64 5)] 0).toArray 6))=.ok () (w.alloc (.map (oQ [(19,.int .i64 1),(20,.int .i64 1),(18,.int .i64 2),(17,.int .i64 3),(5,.int .i64 4),(11,.int .i64 5),(12,.int .i64 5)] 0).toArray 7)):=jo 78 3 Tryz.underlying78 w [(19,.int .i64 1),(20,.int .i64 1),(18,.int .i64 2),(17,.int .i64 3),(5,.int .i64 4),(11,.int .i64 5)] 12 (.int .i64 5) (by decide +kernel);have i7:(Instr.mapUpdate 78 (.map (some w.heap.size)) (.int .u8 13) (.int .i64 5)).run Tryz.prog (w.alloc (.map (oQ [(19,.int .i64 1),(20,.int .i64 1),(18,.int .i64 2),(17,.int .i64 3),(5,.int .i64 4),(11,.int .i64 5),(12,.int .i64 5)] 0).toArray 7))=.ok () (w.alloc (.map (oQ [(19,.int .i64 1),(20,.int .i64 1),(18,.int .i64 2),(17,.int .i64 3),(5,.int .i64 4),(11,.int .i64 5),(12,.int .i64 5),(13,.int .i64 5)] 0).toArray 8)):=jo 78 3 Tryz.underlying78 w [(19,.int .i64 1),(20,.int .i64 1),(18,.int .i64 2),(17,.int .i64 3),(5,.int .i64 4),(11,.int .i64 5),(12,.int .i64 5)] 13 (.int .i64 5) (by decide +kernel);have i8:(Instr.mapUpdate 78 (.map (some w.heap.size)) (.int .u8 14) (.int .i64 5)).run Tryz.prog (w.alloc (.map (oQ [(19,.int .i64 1),(20,.int .i64 1),(18,.int .i64 2),(17,.int .i64 3),(5,.int .i64 4),(11,.int .i64 5),(12,.int .i64 5),(13,.int .i64 5)] 0).toArray 8))=.ok () (w.alloc (.map (oQ [(19,.int .i64 1),(20,.int .i64 1),(18,.int .i64 2),(17,.int .i64 3),(5,.int .i64 4),(11,.int .i64 5),(12,.int .i64 5),(13,.int .i64 5),(14,.int .i64 5)] 0).toArray 9)):=jo 78 3 Tryz.underlying78 w [(19,.int .i64 1),(20,.int .i64 1),(18,.int .i64 2),(17,.int .i64 3),(5,.int .i64 4),(11,.int .i64 5),(12,.int .i64 5),(13,.int .i64 5)] 14 (.int .i64 5) (by decide +kernel);have i9:(Instr.mapUpdate 78 (.map (some w.heap.size)) (.int .u8 15) (.int .i64 5)).run Tryz.prog (w.alloc (.map (oQ [(19,.int .i64 1),(20,.int .i64 1),(18,.int .i64 2),(17,.int .i64 3),(5,.int .i64 4),(11,.int .i64 5),(12,.int .i64 5),(13,.int .i64 5),(14,.int .i64 5)] 0).toArray 9))=.ok () (w.alloc (.map (oQ [(19,.int .i64 1),(20,.int .i64 1),(18,.int .i64 2),(17,.int .i64 3),(5,.int .i64 4),(11,.int .i64 5),(12,.int .i64 5),(13,.int .i64 5),(14,.int .i64 5),(15,.int .i64 5)] 0).toArray 10)):=jo 78 3 Tryz.underlying78 w [(19,.int .i64 1),(20,.int .i64 1),(18,.int .i64 2),(17,.int .i64 3),(5,.int .i64 4),(11,.int .i64 5),(12,.int .i64 5),(13,.int .i64 5),(14,.int .i64 5)] 15 (.int .i64 5) (by decide +kernel);have i10:(Instr.mapUpdate 78 (.map (some w.heap.size)) (.int .u8 16) (.int .i64 5)).run Tryz.prog (w.alloc (.map (oQ [(19,.int .i64 1),(20,.int .i64 1),(18,.int .i64 2),(17,.int .i64 3),(5,.int .i64 4),(11,.int .i64 5),(12,.int .i64 5),(13,.int .i64 5),(14,.int .i64 5),(15,.int .i64 5)] 0).toArray 10))=.ok () (w.alloc (.map (oQ [(19,.int .i64 1),(20,.int .i64 1),(18,.int .i64 2),(17,.int .i64 3),(5,.int .i64 4),(11,.int .i64 5),(12,.int .i64 5),(13,.int .i64 5),(14,.int .i64 5),(15,.int .i64 5),(16,.int .i64 5)] 0).toArray 11)):=jo 78 3 Tryz.underlying78 w [(19,.int .i64 1),(20,.int .i64 1),(18,.int .i64 2),(17,.int .i64 3),(5,.int .i64 4),(11,.int .i64 5),(12,.int .i64 5),(13,.int .i64 5),(14,.int .i64 5),(15,.int .i64 5)] 16 (.int .i64 5) (by decide +kernel);have i11:(Instr.mapUpdate 78 (.map (some w.heap.size)) (.int .u8 6) (.int .i64 6)).run Tryz.prog (w.alloc (.map (oQ [(19,.int .i64 1),(20,.int .i64 1),(18,.int .i64 2),(17,.int .i64 3),(5,.int .i64 4),(11,.int .i64 5),(12,.int .i64 5),(13,.int .i64 5),(14,.int .i64 5),(15,.int .i64 5),(16,.int .i64 5)] 0).toArray 11))=.ok () (w.alloc (.map (oQ [(19,.int .i64 1),(20,.int .i64 1),(18,.int .i64 2),(17,.int .i64 3),(5,.int .i64 4),(11,.int .i64 5),(12,.int .i64 5),(13,.int .i64 5),(14,.int .i64 5),(15,.int .i64 5),(16,.int .i64 5),(6,.int .i64 6)] 0).toArray 12)):=jo 78 3 Tryz.underlying78 w [(19,.int .i64 1),(20,.int .i64 1),(18,.int .i64 2),(17,.int .i64 3),(5,.int .i64 4),(11,.int .i64 5),(12,.int .i64 5),(13,.int .i64 5),(14,.int .i64 5),(15,.int .i64 5),(16,.int .i64 5)] 6 (.int .i64 6) (by decide +kernel);have i12:(Instr.mapUpdate 78 (.map (some w.heap.size)) (.int .u8 7) (.int .i64 6)).run Tryz.prog (w.alloc (.map (oQ [(19,.int .i64 1),(20,.int .i64 1),(18,.int .i64 2),(17,.int .i64 3),(5,.int .i64 4),(11,.int .i64 5),(12,.int .i64 5),(13,.int .i64 5),(14,.int .i64 5),(15,.int .i64 5),(16,.int .i64 5),(6,.int .i64 6)] 0).toArray 12))=.ok () (w.alloc (.map (oQ [(19,.int .i64 1),(20,.int .i64 1),(18,.int .i64 2),(17,.int .i64 3),(5,.int .i64 4),(11,.int .i64 5),(12,.int .i64 5),(13,.int .i64 5),(14,.int .i64 5),(15,.int .i64 5),(16,.int .i64 5),(6,.int .i64 6),(7,.int .i64 6)] 0).toArray 13)):=jo 78 3 Tryz.underlying78 w [(19,.int .i64 1),(20,.int .i64 1),(18,.int .i64 2),(17,.int .i64 3),(5,.int .i64 4),(11,.int .i64 5),(12,.int .i64 5),(13,.int .i64 5),(14,.int .i64 5),(15,.int .i64 5),(16,.int .i64 5),(6,.int .i64 6)] 7 (.int .i64 6) (by decide +kernel);have i13:(Instr.mapUpdate 78 (.map (some w.heap.size)) (.int .u8 8) (.int .i64 7)).run Tryz.prog (w.alloc (.map (oQ [(19,.int .i64 1),(20,.int .i64 1),(18,.int .i64 2),(17,.int .i64 3),(5,.int .i64 4),(11,.int .i64 5),(12,.int .i64 5),(13,.int .i64 5),(14,.int .i64 5),(15,.int .i64 5),(16,.int .i64 5),(6,.int .i64 6),(7,.int .i64 6)] 0).toArray 13))=.ok () (w.alloc (.map (oQ [(19,.int .i64 1),(20,.int .i64 1),(18,.int .i64 2),(17,.int .i64 3),(5,.int .i64 4),(11,.int .i64 5),(12,.int .i64 5),(13,.int .i64 5),(14,.int .i64 5),(15,.int .i64 5),(16,.int .i64 5),(6,.int .i64 6),(7,.int .i64 6),(8,.int .i64 7)] 0).toArray 14)):=jo 78 3 Tryz.underlying78 w [(19,.int .i64 1),(20,.int .i64 1),(18,.int .i64 2),(17,.int .i64 3),(5,.int .i64 4),(11,.int .i64 5),(12,.int .i64 5),(13,.int .i64 5),(14,.int .i64 5),(15,.int .i64 5),(16,.int .i64 5),(6,.int .i64 6),(7,.int .i64 6)] 8 (.int .i64 7) (by decide +kernel);have i14:(Instr.mapUpdate 78 (.map (some w.heap.size)) (.int .u8 9) (.int .i64 7)).run Tryz.prog (w.alloc (.map (oQ [(19,.int .i64 1),(20,.int .i64 1),(18,.int .i64 2),(17,.int .i64 3),(5,.int .i64 4),(11,.int .i64 5),(12,.int .i64 5),(13,.int .i64 5),(14,.int .i64 5),(15,.int .i64 5),(16,.int .i64 5),(6,.int .i64 6),(7,.int .i64 6),(8,.int .i64 7)] 0).toArray 14))=.ok () (w.alloc (.map (oQ [(19,.int .i64 1),(20,.int .i64 1),(18,.int .i64 2),(17,.int .i64 3),(5,.int .i64 4),(11,.int .i64 5),(12,.int .i64 5),(13,.int .i64 5),(14,.int .i64 5),(15,.int .i64 5),(16,.int .i64 5),(6,.int .i64 6),(7,.int .i64 6),(8,.int .i64 7),(9,.int .i64 7)] 0).toArray 15)):=jo 78 3 Tryz.underlying78 w [(19,.int .i64 1),(20,.int .i64 1),(18,.int .i64 2),(17,.int .i64 3),(5,.int .i64 4),(11,.int .i64 5),(12,.int .i64 5),(13,.int .i64 5),(14,.int .i64 5),(15,.int .i64 5),(16,.int .i64 5),(6,.int .i64 6),(7,.int .i64 6),(8,.int .i64 7)] 9 (.int .i64 7) (by decide +kernel);have i15:(Instr.mapUpdate 78 (.map (some w.heap.size)) (.int .u8 10) (.int .i64 7)).run Tryz.prog (w.alloc (.map (oQ [(19,.int .i64 1),(20,.int .i64 1),(18,.int .i64 2),(17,.int .i64 3),(5,.int .i64 4),(11,.int .i64 5),(12,.int .i64 5),(13,.int .i64 5),(14,.int .i64 5),(15,.int .i64 5),(16,.int .i64 5),(6,.int .i64 6),(7,.int .i64 6),(8,.int .i64 7),(9,.int .i64 7)] 0).toArray 15))=.ok () (w.alloc (.map (oQ [(19,.int .i64 1),(20,.int .i64 1),(18,.int .i64 2),(17,.int .i64 3),(5,.int .i64 4),(11,.int .i64 5),(12,.int .i64 5),(13,.int .i64 5),(14,.int .i64 5),(15,.int .i64 5),(16,.int .i64 5),(6,.int .i64 6),(7,.int .i64 6),(8,.int .i64 7),(9,.int .i64 7),(10,.int .i64 7)] 0).toArray 16)):=jo 78 3 Tryz.underlying78 w [(19,.int .i64 1),(20,.int .i64 1),(18,.int .i64 2),(17,.int .i64 3),(5,.int .i64 4),(11,.int .i64 5),(12,.int .i64 5),(13,.int .i64 5),(14,.int .i64 5),(15,.int .i64 5),(16,.int .i64 5),(6,.int .i64 6),(7,.int .i64 6),(8,.int .i64 7),(9,.int .i64 7)] 10 (.int .i64 7) (by decide +kernel);have i16:(Instr.mapUpdate 78 (.map (some w.heap.size)) (.int .u8 4) (.int .i64 8)).run Tryz.prog (w.alloc (.map (oQ [(19,.int .i64 1),(20,.int .i64 1),(18,.int .i64 2),(17,.int .i64 3),(5,.int .i64 4),(11,.int .i64 5),(12,.int .i64 5),(13,.int .i64 5),(14,.int .i64 5),(15,.int .i64 5),(16,.int .i64 5),(6,.int .i64 6),(7,.int .i64 6),(8,.int .i64 7),(9,.int .i64 7),(10,.int .i64 7)] 0).toArray 16))=.ok () (w.alloc (.map (oQ [(19,.int .i64 1),(20,.int .i64 1),(18,.int .i64 2),(17,.int .i64 3),(5,.int .i64 4),(11,.int .i64 5),(12,.int .i64 5),(13,.int .i64 5),(14,.int .i64 5),(15,.int .i64 5),(16,.int .i64 5),(6,.int .i64 6),(7,.int .i64 6),(8,.int .i64 7),(9,.int .i64 7),(10,.int .i64 7),(4,.int .i64 8)] 0).toArray 17)):=jo 78 3 Tryz.underlying78 w [(19,.int .i64 1),(20,.int .i64 1),(18,.int .i64 2),(17,.int .i64 3),(5,.int .i64 4),(11,.int .i64 5),(12,.int .i64 5),(13,.int .i64 5),(14,.int .i64 5),(15,.int .i64 5),(16,.int .i64 5),(6,.int .i64 6),(7,.int .i64 6),(8,.int .i64 7),(9,.int .i64 7),(10,.int .i64 7)] 4 (.int .i64 8) (by decide +kernel);go_in
 go_wp2_with fail;go_ret;exact⟨rfl,rfl⟩
theorem GX (k:Nat)(w:World):Calls Tryz.prog 69 #[.int .u8 k] w fun e w'=>e=.returned (.bool (nK k))∧w'=w:=by
 go_in
 by_cases h1:1≤k
 ·have a1:decide ((1:Int)≤(k:Int))=true:=aaU (by omega);by_cases h2:k≤26
  ·have a2:decide ((k:Int)≤26)=true:=aaU (by omega);by_cases h3:k=25
   ·have a3:((k:Int) != 25)=false:=by rw [h3];rfl
    have HX:=hid (show nK k=false by subst h3;rfl);clear h3;go_wp2;go_ret;exact⟨(by rw [HX.out];rfl),rfl⟩
   ·have a3:((k:Int) != 25)=true:=by simp [bne];omega
    have HX:=hid (show nK k=true by simp [nK];omega);clear h3;go_wp2;go_ret;exact⟨(by rw [HX.out];rfl),rfl⟩
  ·have a2:decide ((k:Int)≤26)=false:=aaV (by omega);have HX:=hid (show nK k=false by simp [nK];omega);go_wp2;go_ret;exact⟨(by rw [HX.out];rfl),rfl⟩
 ·have a1:decide ((1:Int)≤(k:Int))=false:=aaV (by omega);have HX:=hid (show nK k=false by simp [nK];omega);go_wp2;go_ret;exact⟨(by rw [HX.out];rfl),rfl⟩
theorem Wp {k:Nat}(h:nK k=false):wJ k=(0,2):=by unfold wJ;simp [h]
theorem Pb {k:Nat}(h:nK k=true)(h2:xg k ≠ 0):wJ k=(xg k,0):=by unfold wJ;simp [h,h2]
theorem O_ {k:Nat}(h:nK k=true)(h2:xg k=0):wJ k=(9,0):=by unfold wJ;simp [h,h2]
theorem rank_any (k:Nat)(w:World):Calls Tryz.prog 26 #[.int .u8 k] w fun e w'=>e=.returned (.tuple #[.int .i64 (wJ k).1,.int .i64 (wJ k).2])∧Below w.heap.size w w':=by
 have hsmall:xg k≤8:=by
  by_cases h:k≤26
  ·exact (by decide:∀ k≤26,xg k≤8) k h
  ·unfold xg;simp [show k ≠ 19 by omega,show k ≠ 20 by omega,show k ≠ 18 by omega,show k ≠ 17 by omega,show k ≠ 5 by omega,show k ≠ 11 by omega,show k ≠ 12 by omega,show k ≠ 13 by omega,show k ≠ 14 by omega,show k ≠ 15 by omega,show k ≠ 16 by omega,show k ≠ 6 by omega,show k ≠ 7 by omega,show k ≠ 8 by omega,show k ≠ 9 by omega,show k ≠ 10 by omega,show k ≠ 4 by omega]
 go_in
 go_wp2_with fail;refine (GX k w).mono ?_;rintro e w1⟨rfl,rfl⟩;rcases hx:nK k with _ | _
 ·have HX:=hid (Wp hx);clear hx;go_wp2;go_ret2
  exact⟨by rw [HX.out];rfl,Below.refl _ _⟩
 ·have HM:=hid (heap_alloc_new w1 (.map (oQ KN 0).toArray 17));have hlk:=aaq _ _ _ HM.out k;obtain⟨R,hR⟩:∃ R,R=xg k:=⟨_,rfl⟩;rw [← hR] at hlk hsmall
  go_wp2_with fail;refine (Wq w1).mono ?_;rintro e w2⟨rfl,rfl⟩;by_cases h0:R=0
  ·have HX:=hid (O_ hx (hR.symm.trans h0));clear hx hR;have d1:decide ((0:Int) < (R:Int))=false:=aaV (by omega);have d2:decide (0 < R)=false:=aaV (by omega);clear h0;go_wp2_with fail;go_ret2
   exact⟨by rw [HX.out];rfl,(Below.refl _ _).alloc (aaJ _) _⟩
  ·have HX:=hid (Pb hx (fun e=>h0 (hR.trans e)));have d1:decide ((0:Int) < (R:Int))=true:=aaU (by omega);have d2:decide (0 < R)=true:=aaU (by omega);have HR:=hid hR;clear h0 hx hR;go_wp2_with fail;go_ret2
   exact⟨by rw [HX.out,← HR.out];rfl,(Below.refl _ _).alloc (aaJ _) _⟩
theorem XC (k:Nat)(w:World):Calls Tryz.prog 71 #[.int .u8 k] w fun e w'=>e=.returned (.bool (nK k))∧w'=w:=by
 go_in
 by_cases h1:1≤k
 ·have a1:decide ((1:Int)≤(k:Int))=true:=aaU (by omega);by_cases h2:k≤26
  ·have a2:decide ((k:Int)≤26)=true:=aaU (by omega);by_cases h3:k=25
   ·have a3:((k:Int) != 25)=false:=by rw [h3];rfl
    have HX:=hid (show nK k=false by subst h3;rfl);clear h3;go_wp2;go_ret;exact⟨(by rw [HX.out];rfl),rfl⟩
   ·have a3:((k:Int) != 25)=true:=by simp [bne];omega
    have HX:=hid (show nK k=true by simp [nK];omega);clear h3;go_wp2;go_ret;exact⟨(by rw [HX.out];rfl),rfl⟩
  ·have a2:decide ((k:Int)≤26)=false:=aaV (by omega);have HX:=hid (show nK k=false by simp [nK];omega);go_wp2;go_ret;exact⟨(by rw [HX.out];rfl),rfl⟩
 ·have a1:decide ((1:Int)≤(k:Int))=false:=aaV (by omega);have HX:=hid (show nK k=false by simp [nK];omega);go_wp2;go_ret;exact⟨(by rw [HX.out];rfl),rfl⟩
end Go.Proofs.YthepmkjggfijoaaGreatDoor
