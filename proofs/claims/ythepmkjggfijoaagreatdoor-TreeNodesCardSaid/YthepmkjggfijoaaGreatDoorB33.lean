/-
  PARTS of the proof: N28, N15, TR.
-/
import Derived.Deep.RegionLaw
import Derived.Carry
import Derived.Test.YthepmkjggfijoaaGreatDoorB06
import Derived.Test.YthepmkjggfijoaaGreatDoorB08
import Derived.Test.YthepmkjggfijoaaGreatDoorB31
import Derived.Test.YthepmkjggfijoaaGreatDoorB32
set_option linter.all false
set_option maxRecDepth 100000
set_option maxHeartbeats 4000000
open Go.Lib (hid)
namespace Go.Proofs.YthepmkjggfijoaaGreatDoor
open Go.RowKit Mist
theorem ints_len (A B:Option Addr) (n m c d:Nat) (w:World) (hn:n≤1000000) (hm:m≤1000000) (h:n ≠ m) :
  Calls Tryz.prog 44 #[.slice A n c,.slice B m d] w fun e w'=>e=.returned (.bool false)∧Below w.heap.size w w':=by
 have h0:((n:Int) != (m:Int))=true:=by simp;omega
 go_enter Tryz.func44,Tryz.ntmps44
 go_wp2_with fail
 go_ret
 exact⟨rfl,Below.refl _ _⟩
theorem take_all_of {xs ys:List Int} {k:Nat} (h:xs.take k=ys.take k) (a:xs.length≤k) (b:ys.length≤k):xs=ys:=by rwa [List.take_of_length_le a,List.take_of_length_le b] at h
theorem ints_any (A B:Option Addr) (n c d:Nat) (xs ys:List Int) (w:World) (hx:xs.length=n) (hy:ys.length=n) (hn:n≤1000000) (hA:IntsIn w A xs) (hB:IntsIn w B ys) :
  Calls Tryz.prog 44 #[.slice A n c,.slice B n d] w fun e w'=>e=.returned (.bool (decide (xs=ys)))∧Below w.heap.size w w':=by
 have HA:=hid hA
 have HB:=hid hB
 have h0:((n:Int) != (n:Int))=false:=by simp
 go_enter Tryz.func44,Tryz.ntmps44
 go_wp2_with fail
 go_loopw [5] (fun i wr=>∃ k:Nat,k≤n∧i=.int .i64 k∧Hid (Below w.heap.size w wr)∧Hid (xs.take k=ys.take k)) (fun j _=>n - (intOf j).toNat)
 case atStart=>exact⟨0,Nat.zero_le _,rfl,hid (Below.refl _ _),hid rfl⟩
 case round =>
  obtain⟨k,hk,rfl,hb,ht⟩:=hrel
  by_cases hlt:k < n
  ·obtain⟨b1,o1,rfl,hl1,hc1⟩:=HA.out.ex (by omega)
   obtain⟨b2,o2,rfl,hl2,hc2⟩:=HB.out.ex (by omega)
   have HX:=hid (List.getElem?_eq_getElem (l:=xs) (i:=k) (by omega))
   have HY:=hid (List.getElem?_eq_getElem (l:=ys) (i:=k) (by omega))
   obtain⟨x,hxk⟩:∃ x,x=xs[k]'(by omega):=⟨_,rfl⟩
   obtain⟨y,hyk⟩:∃ y,y=ys[k]'(by omega):=⟨_,rfl⟩
   rw [← hxk] at HX
   rw [← hyk] at HY
   have e1:=(hb.out.cell (p:=⟨b1,o1+k,none⟩) (by exact hl1)).trans (hc1 k x HX.out)
   have e2:=(hb.out.cell (p:=⟨b2,o2+k,none⟩) (by exact hl2)).trans (hc2 k y HY.out)
   have HXK:=hid hxk
   have HYK:=hid hyk
   clear hc1 hc2 hxk hyk
   by_cases hxy:x=y
   ·have hq:(x != y)=false:=by simp [hxy]
    go_wp2_with fail
    go_quiet (fail)
    go_wp2_with fail
    exact⟨⟨k+1,by omega,by go_num,hid (bdrewN hb.out _),hid (by rw [List.take_add_one,List.take_add_one,ht.out,HX.out,HY.out,hxy])⟩,by simp [intOf];omega⟩
   ·have hq:(x != y)=true:=by simp [hxy]
    go_wp2_with fail
    go_quiet (fail)
    go_wp2_with fail
    go_ret
    have hne:xs ≠ ys:=fun e=>hxy (by have h1:=HX.out;rw [e,HY.out] at h1;exact (Option.some.inj h1).symm)
    exact⟨by rw [decide_eq_false hne];rfl,bdrewN hb.out _⟩
  ·go_wp2_with fail
   go_ret
   exact⟨by rw [decide_eq_true (take_all_of ht.out (by omega) (by omega))];rfl,hb.out⟩
end Go.Proofs.YthepmkjggfijoaaGreatDoor
namespace Go.Proofs.YthepmkjggfijoaaGreatDoor
open Go.RowKit Mist
attribute [local go_sem] ofL_extract ofL_size ofL_get ofL_bytes ofL_append
theorem TreeIn.set {g b i:Nat} {u:Value} {w:World} {v:Value} {xs:List NV} {its:List Int} (h:TreeIn g w v xs its) (hb:b < g):TreeIn g (w.setCell ⟨b,i,none⟩ u) v xs its:=by
 obtain⟨⟨nv,iv,q,rfl,h1,rfl,h2⟩,hk⟩:=h
 exact⟨⟨nv,iv,_,rfl,own_set h1 hb,rfl,own_set h2 (by omega)⟩,fun x hx=>own_set (hk x hx) (by omega)⟩
theorem TreeIn.below {g:Nat} {w w':World} {v:Value} {xs:List NV} {its:List Int} (h:TreeIn g w v xs its) (hb:Below w.heap.size w w'):TreeIn g w' v xs its:=by
 obtain⟨⟨nv,iv,q,rfl,h1,rfl,h2⟩,hk⟩:=h
 exact⟨⟨nv,iv,_,rfl,own_below h1 hb,rfl,own_below h2 hb⟩,fun x hx=>own_below (hk x hx) hb⟩
structure PGood (T:Tr):Prop where
 wf:Wf T.nodes
 choose:∀ x ∈ T.nodes,ChooseOk T x
 kids:∀ x ∈ T.nodes,x.kids.length≤1000000
 len:T.nodes.length≤1000
def parsedE (T:Tr):Int × Int :=
 if Mist.large T=true∨30 < deepT T then (0,5)
 else if 0≤outT T then ((nd T (outT T).toNat).at_,3) else (0,0)
def TreeOut (T:Tr) (w:World) (e:Ending) (w':World):Prop :=
 Below w.heap.size w w'∧((parsedE T).2 ≠ 0∧e=.returned (.tuple #[.agg #[.slice none 0 0,.slice none 0 0],.int .i64 (parsedE T).1,.int .i64 (parsedE T).2]) ∨
  (parsedE T).2=0∧∃ v xs g,e=.returned (.tuple #[v,.int .i64 0,.int .i64 0])∧nds xs=T.nodes∧w.heap.size≤g∧TreeIn g w' v xs T.items)
theorem outT_lt {T:Tr} (h:0≤outT T):outT T < (T.nodes.length:Int):=by
 unfold outT firstN at h ⊢
 rcases hx:T.nodes.findIdx? (fun x=>!Mist.sized T x) with _ | i
 ·rw [hx] at h;exact absurd h (by decide)
 ·rw [List.findIdx?_eq_some_iff_getElem] at hx
  obtain⟨hl,_⟩:=hx
  show (i:Int) < (T.nodes.length:Int)
  omega
theorem parseT_bad (s:Bs) (l:List Tok) (n f k:Nat) (w:World) (hr:Mist.read s=(l,0,0)) (hF:PF l) (hp:prog l (s.length:Int) n f 0 [] []=some (.bad k)) (hE:Env w) (hl:s.length≤100000000) :
  Calls Tryz.prog 17 #[.string (ofL s)] w fun e w'=>e=.returned (.tuple #[.agg #[.slice none 0 0,.slice none 0 0],.int .i64 (pl l (s.length:Int) k),.int .i64 4])∧Below w.heap.size w w':=by
 have HR:=hid hr;clear hr
 have HP:=hid hp;clear hp
 have HE:=hid hE;clear hE
 go_enter Tryz.func17,Tryz.ntmps17
 go_wp2_with fail
 refine (read_any s _ (HE.out.alloc _) hl).mono ?_
 rintro e w2 ⟨v,rfl,ht,hb2⟩
 rw [HR.out] at ht ⊢
 have HB2:=hid (blk_made hb2)
 have HL2:=hid ((balloc (Below.refl w.heap.size w) (Nat.le_refl _) (o:=.cells #[.slice none 0 0,.slice none 0 0] 26)).trans (hb2.mono (by simp)))
 have HTK:=hid ht
 clear hb2 ht
 simp only
 go_wp2_with fail
 refine (parse_any hF (en:=(s.length:Int)) n f w2 _ HTK.out (HE.out.below HL2.out) HP.out).mono ?_
 rintro e w3 ⟨rfl,hb3⟩
 have HB3:=hid (HB2.out.below hb3 HB2.out.lt)
 have HL3:=hid (HL2.out.trans (hb3.mono HL2.out.size))
 clear hb3
 have q0:=HB3.out.cell 0
 have q1:=HB3.out.cell 1
 have r0:=HB3.out.frozen 0
 have r1:=HB3.out.frozen 1
 go_wp2_with fail
 have hz:=(((HB3.out.set_ 0 (.slice none 0 0)).set_ 1 (.slice none 0 0)).set_ 0 (.slice none 0 0)).set_ 1 (.slice none 0 0)
 have z0:=hz.cell 0
 have z1:=hz.cell 1
 refine bodyPost_ret (v:=.tuple #[.agg #[.slice none 0 0,.slice none 0 0],.int .i64 (pl l (s.length:Int) k),.int .i64 4]) (by simp [results,Tryz.f17,go_sem,z0,z1]) rfl ⟨rfl,?_⟩
 repeat (first | (with_reducible exact HL3.out) | (with_reducible refine bset ?_ ?_) | omega)
theorem parseT_ok (s:Bs) (l:List Tok) (n f k:Nat) (T:Tr) (w:World) (hr:Mist.read s=(l,0,0)) (hF:PF l) (hp:prog l (s.length:Int) n f 0 [] []=some (.ok T.items k T.nodes)) (hE:Env w) (hl:s.length≤100000000) (hG:PGood T) :
  Calls Tryz.prog 17 #[.string (ofL s)] w (TreeOut T w):=by
 have HR:=hid hr;clear hr
 have HP:=hid hp;clear hp
 have HE:=hid hE;clear hE
 have HG:=hid hG;clear hG
 go_enter Tryz.func17,Tryz.ntmps17
 go_wp2_with fail
 refine (read_any s _ (HE.out.alloc _) hl).mono ?_
 rintro e w2 ⟨v,rfl,ht,hb2⟩
 rw [HR.out] at ht ⊢
 have HB2:=hid (blk_made hb2)
 have HL2:=hid ((balloc (Below.refl w.heap.size w) (Nat.le_refl _) (o:=.cells #[.slice none 0 0,.slice none 0 0] 26)).trans (hb2.mono (by simp)))
 have HTK:=hid ht
 clear hb2 ht
 simp only
 go_wp2_with fail
 refine (parse_any hF (en:=(s.length:Int)) n f w2 _ HTK.out (HE.out.below HL2.out) HP.out).mono ?_
 rintro e w3 ⟨v,xs,rfl,hxs,htr,hb3⟩
 have HXS:=hid hxs;clear hxs
 have HTR:=hid htr;clear htr
 have hkl:∀ x ∈ xs,x.1.kids.length≤1000000:=fun x hx=>HG.out.kids x.1 (by rw [← HXS.out];exact List.mem_map_of_mem hx)
 obtain⟨A,B,c,d,rfl,_⟩:=HTR.out.tAt hkl
 have HKL:=hid hkl;clear hkl
 have HB3:=hid (HB2.out.below hb3 HB2.out.lt)
 have HL3:=hid (HL2.out.trans (hb3.mono HL2.out.size))
 have hlt2:=HB2.out.lt
 clear hb3
 have q0:=HB3.out.cell 0
 have q1:=HB3.out.cell 1
 have r0:=HB3.out.frozen 0
 have r1:=HB3.out.frozen 1
 have HB4:=hid (show Blk ((w3.setCell ⟨w.heap.size,0,none⟩ (.slice A xs.length c)).setCell ⟨w.heap.size,1,none⟩ (.slice B T.items.length d)) w.heap.size 26 #[.slice A xs.length c,.slice B T.items.length d] from by have h9:=(HB3.out.set_ 0 (.slice A xs.length c)).set_ 1 (.slice B T.items.length d);simpa using h9)
 have HL4:=hid (show Below w.heap.size w ((w3.setCell ⟨w.heap.size,0,none⟩ (.slice A xs.length c)).setCell ⟨w.heap.size,1,none⟩ (.slice B T.items.length d)) from bset (bset HL3.out (Nat.le_refl _)) (Nat.le_refl _))
 have HT4:=hid ((HTR.out.set (i:=0) (u:=.slice A xs.length c) hlt2).set (i:=1) (u:=.slice B T.items.length d) hlt2)
 clear HTR HB3 HL3 HB2 HL2 HTK HE HR HP
 have HLN:=hid (show (nds xs).length=xs.length from nds_len xs)
 have hn1:xs.length≤1000:=by rw [← HLN.out,HXS.out];exact HG.out.len
 obtain⟨n,hnn⟩:∃ n,n=xs.length:=⟨_,rfl⟩
 obtain⟨m,hmm⟩:∃ m,m=T.items.length:=⟨_,rfl⟩
 rw [← hnn] at HB4 HL4 HT4 hn1 ⊢
 rw [← hmm] at HB4 HL4 HT4 ⊢
 have HNN:=hid hnn;clear hnn
 have HMM:=hid hmm;clear hmm
 have HLG:=hid (show largeB n m=Mist.large T by unfold largeB Mist.large;rw [HNN.out,HMM.out,← HLN.out,HXS.out])
 have HTX:=hid (show (⟨nds xs,T.items⟩:Tr)=T by rw [HXS.out])
 go_wp2_with fail
 generalize ((w3.setCell ⟨w.heap.size,0,none⟩ (.slice A n c)).setCell ⟨w.heap.size,1,none⟩ (.slice B m d))=w4 at HB4 HL4 HT4 ⊢
 refine (large_any A B n m c d _).mono ?_
 rintro e w5 ⟨rfl,hb5⟩
 rw [HLG.out]
 have HB5:=hid (HB4.out.below hb5 HB4.out.lt)
 have HL5:=hid (HL4.out.trans (hb5.mono HL4.out.size))
 have HT5:=hid (HT4.out.below hb5)
 clear hb5 q0 q1 r0 r1
 have q0:=HB5.out.cell 0
 have q1:=HB5.out.cell 1
 have r0:=HB5.out.frozen 0
 have r1:=HB5.out.frozen 1
 have hq5:=HB5.out.lt
 cases hlg:Mist.large T
 case true =>
  have HX:=hid (show parsedE T=(0,5) by unfold parsedE;rw [if_pos (Or.inl hlg)])
  clear hlg
  go_wp2_with fail
  refine bodyPost_ret (v:=.tuple #[.agg #[.slice none 0 0,.slice none 0 0],.int .i64 0,.int .i64 5]) (by simp [results,Tryz.f17,go_sem,q0,q1]) rfl ⟨?_,.inl ⟨by rw [HX.out];decide,by rw [HX.out]⟩⟩
  repeat (first | (with_reducible exact HL5.out) | (with_reducible refine bset ?_ ?_) | omega)
 have HLX:=hid hlg;clear hlg
 have HDE:=hid (by
  have h9:=deepest_full A B c m d xs T.items w5 (by
   obtain⟨A',B',c',d',hv,h8⟩:=HT5.out.tAt HKL.out
   injection hv with hv
   injection hv with hv
   injection hv with hv1 hv2
   injection hv1 with hA
   injection hv2 with hv2 _
   injection hv2 with hB
   subst hA;subst hB
   exact h8) (by rw [← HNN.out];omega) (by rw [HXS.out];exact HG.out.wf)
  rw [← HNN.out,show deepestOf (nds xs)=deepT T by unfold deepT;rw [HXS.out]] at h9
  exact h9)
 obtain⟨D,hD⟩:∃ D,D=deepT T:=⟨_,rfl⟩
 rw [← hD] at HDE
 have HDD:=hid hD;clear hD
 by_cases h30:30 < D
 ·have e30:decide (30 < D)=true:=decide_eq_true h30
  have HX:=hid (show parsedE T=(0,5) by unfold parsedE;rw [if_pos (Or.inr (by rw [← HDD.out];exact h30))])
  go_wp2_with fail
  refine HDE.out.mono ?_
  rintro e w6 ⟨rfl,hb6⟩
  have HB6:=hid (HB5.out.below hb6 HB5.out.lt)
  have HL6:=hid (HL5.out.trans (hb6.mono HL5.out.size))
  clear hb6 q0 q1 r0 r1
  have q0:=HB6.out.cell 0
  have q1:=HB6.out.cell 1
  have r0:=HB6.out.frozen 0
  have r1:=HB6.out.frozen 1
  go_wp2_with fail
  refine bodyPost_ret (v:=.tuple #[.agg #[.slice none 0 0,.slice none 0 0],.int .i64 0,.int .i64 5]) (by simp [results,Tryz.f17,go_sem,q0,q1]) rfl ⟨?_,.inl ⟨by rw [HX.out];decide,by rw [HX.out]⟩⟩
  repeat (first | (with_reducible exact HL6.out) | (with_reducible refine bset ?_ ?_) | omega)
 have e30:decide (30 < D)=false:=decide_eq_false h30
 have H30:=hid (show deepT T≤30 by rw [← HDD.out];omega)
 clear h30
 go_wp2_with fail
 refine HDE.out.mono ?_
 rintro e w6 ⟨rfl,hb6⟩
 have HB6:=hid (HB5.out.below hb6 HB5.out.lt)
 have HL6:=hid (HL5.out.trans (hb6.mono HL5.out.size))
 have HT6:=hid (HT5.out.below hb6)
 clear hb6 q0 q1 r0 r1
 have q0:=HB6.out.cell 0
 have q1:=HB6.out.cell 1
 have HOU:=hid (by
  have h9:=outsized_any xs T.items A c B m d w6 (by
   obtain⟨A',B',c',d',hv,h8⟩:=HT6.out.tAt HKL.out
   injection hv with hv
   injection hv with hv
   injection hv with hv1 hv2
   injection hv1 with hA
   injection hv2 with hv2 _
   injection hv2 with hB
   subst hA;subst hB
   exact h8) (by rw [← HNN.out];omega) (by rw [HXS.out];exact HG.out.choose)
  rw [← HNN.out,HTX.out] at h9
  exact h9)
 obtain⟨O,hO⟩:∃ O,O=outT T:=⟨_,rfl⟩
 rw [← hO] at HOU
 have HOO:=hid hO;clear hO
 have HX:=hid (show parsedE T=if 0≤O then ((nd T O.toNat).at_,3) else (0,0) by unfold parsedE;rw [if_neg (by rw [HLX.out];have h9:=H30.out;simp;omega),← HOO.out])
 by_cases h0:0≤O
 ·have e0:decide (0≤O)=true:=decide_eq_true h0
  go_wp2_with fail
  refine HOU.out.mono ?_
  rintro e w7 ⟨rfl,hb7⟩
  have HB7:=hid (HB6.out.below hb7 HB6.out.lt)
  have HL7:=hid (HL6.out.trans (hb7.mono HL6.out.size))
  have HT7:=hid (HT6.out.below hb7)
  clear hb7 q0 q1
  have q0:=HB7.out.cell 0
  have q1:=HB7.out.cell 1
  have r0:=HB7.out.frozen 0
  have r1:=HB7.out.frozen 1
  have hol:=outT_lt (T:=T) (by rw [← HOO.out];exact h0)
  rw [← HOO.out,← HXS.out,HLN.out,← HNN.out] at hol
  obtain⟨On,hOn⟩:∃ On:Nat,O=(On:Int):=⟨O.toNat,by omega⟩
  obtain⟨x,hx⟩:∃ x,xs[On]? = some x:=xs_at (by rw [← HNN.out];omega)
  have HXX:=hid (show parsedE T=(x.1.at_,3) by
   rw [HX.out,if_pos h0,hOn,Int.toNat_natCast]
   have h9:=nd_nds T.items hx
   rw [HXS.out] at h9
   rw [← h9])
  have hT7:TAt w7 A B xs T.items:=by
   obtain⟨A',B',c',d',hv,h8⟩:=HT7.out.tAt HKL.out
   injection hv with hv
   injection hv with hv
   injection hv with hv1 hv2
   injection hv1 with hA
   injection hv2 with hv2 _
   injection hv2 with hB
   subst hA;subst hB
   exact h8
  obtain⟨b,o,rfl,hN⟩:=hT7.nodes (by rw [← HNN.out];omega)
  have c4:=hN.c4 On x hx
  have hbl:=hN.lt
  subst hOn
  have i1:(0:Int)≤(On:Int):=by omega
  clear hN hT7 hx
  go_wp2_with fail
  go_region
  all_goals
   go_wp2_with fail
   have hz:=(HB7.out.set_ 0 (.slice none 0 0)).set_ 1 (.slice none 0 0)
   have z0:=hz.cell 0
   have z1:=hz.cell 1
   refine bodyPost_ret (v:=.tuple #[.agg #[.slice none 0 0,.slice none 0 0],.int .i64 x.1.at_,.int .i64 3]) (by simp [results,Tryz.f17,go_sem,z0,z1]) rfl ⟨?_,.inl ⟨by rw [HXX.out];show (3:Int) ≠ 0;decide,by rw [HXX.out]⟩⟩
   repeat (first | (with_reducible exact HL7.out) | (with_reducible refine bset ?_ ?_) | (with_reducible refine Below.drew ?_) | omega)
 ·have e0:decide (0≤O)=false:=decide_eq_false h0
  have HX2:=hid (show parsedE T=(0,0) by rw [HX.out,if_neg h0])
  go_wp2_with fail
  refine HOU.out.mono ?_
  rintro e w7 ⟨rfl,hb7⟩
  have HB7:=hid (HB6.out.below hb7 HB6.out.lt)
  have HL7:=hid (HL6.out.trans (hb7.mono HL6.out.size))
  have HT7:=hid (HT6.out.below hb7)
  clear hb7 q0 q1
  have q0:=HB7.out.cell 0
  have q1:=HB7.out.cell 1
  have r0:=HB7.out.frozen 0
  have r1:=HB7.out.frozen 1
  go_wp2_with fail
  have hz:=(HB7.out.set_ 0 (.slice A n c)).set_ 1 (.slice B m d)
  have z0:=hz.cell 0
  have z1:=hz.cell 1
  have HTF:=hid ((HT7.out.set (i:=0) (u:=.slice A n c) hlt2).set (i:=1) (u:=.slice B m d) hlt2)
  refine bodyPost_ret (v:=.tuple #[.agg #[.slice A n c,.slice B m d],.int .i64 0,.int .i64 0]) (by simp [results,Tryz.f17,go_sem,z0,z1]) rfl ⟨?_,.inr ⟨by rw [HX2.out],_,xs,w2.heap.size,rfl,HXS.out,by omega,HTF.out⟩⟩
  repeat (first | (with_reducible exact HL7.out) | (with_reducible refine bset ?_ ?_) | omega)
end Go.Proofs.YthepmkjggfijoaaGreatDoor
namespace Go.Proofs.YthepmkjggfijoaaGreatDoor
open Go.RowKit Mist
def bEs:List (Nat × Value)→Nat→List MapEntry
 | [],_=>[]
 | (k,v) :: r,i=>⟨.int .u8 k,v,i⟩ :: bEs r (i+1)
def bFind (x:Nat):List (Nat × Value)→Option Value
 | []=>none
 | (k,v) :: r=>if x=k then some v else bFind x r
theorem findNow_b (x:Nat):∀ (l:List (Nat × Value)) (i j:Nat),∃ n,Instr.findNow (.int .u8) (.int .u8 x) (bEs l j) i=some ((bFind x l).map fun v=>(n,v))
 | [],i,j=>⟨0,rfl⟩
 | (k,v) :: r,i,j=>by
  simp only [bEs,bFind,Instr.findNow,Instr.sameNow,if_true]
  by_cases h:x=k
  ·subst h;exact⟨i,by simp⟩
  ·obtain⟨n,hn⟩:=findNow_b x r (i+1) (j+1)
   have h2:((x:Int) == (k:Int))=false:=by simp;omega
   exact⟨n,by simp only [h2,if_neg h,hn]⟩
theorem run_checkB (b:Bool) (x:Int) (w:World):(Instr.checkKey b 10000 5 (.int .u8 x)).run Tryz.prog w=.ok () w :=
 MapKept.run_checkKey Tryz.underlying5 (by trivial) b 9999
theorem lookup_b (T E:TypeId) (z:Value) (hT:Tryz.prog.underlying T=some (.map 5 E)) (w:World) (hz:(zeroValue E).run Tryz.prog w=.ok z w) (l:List (Nat × Value)) (m c:Nat) (hm:w.heap[m]? = some (.map (bEs l 0).toArray c)) (x:Nat) :
  (Instr.lookup T (.map (some m)) (.int .u8 x) false).run Tryz.prog w=.ok ((bFind x l).getD z) w:=by
 have hg:(getObj m).run Tryz.prog w=.ok (.map (bEs l 0).toArray c) w:=MapKept.run_getObj_map hm
 obtain⟨n,hn⟩:=findNow_b x l 0 0
 have hf:(Instr.findKey 5 (.int .u8 x) (bEs l 0)).run Tryz.prog w=.ok ((bFind x l).map fun v=>(n,v)) w:=by
  simp only [Instr.findKey,Sem.run_bind,run_underlying Tryz.underlying5,Result.andThen_ok,hn]
  rfl
 unfold Instr.lookup
 simp only [Sem.run_bind,run_underlying hT,Result.andThen_ok,hg,run_checkB,hf,Sem.run_pure]
 cases bFind x l with
 | none =>
  simp only [Option.map_none,Sem.run_bind,hz,Result.andThen_ok,Sem.run_pure]
  rfl
 | some v =>
  simp only [Option.map_some,Sem.run_pure,Result.andThen_ok]
  rfl
theorem bEs_snoc:∀ (l:List (Nat × Value)) (k:Nat) (v:Value) (i:Nat),bEs (l ++ [(k,v)]) i=bEs l i ++ [⟨.int .u8 k,v,i+l.length⟩]
 | [],_,_,_=>rfl
 | (a,b) :: r,k,v,i=>by
  simp only [List.cons_append,bEs,bEs_snoc r k v (i+1),List.length_cons]
  rw [show i+1+r.length=i+(r.length+1) by omega]
theorem insert_b (T E:TypeId) (hT:Tryz.prog.underlying T=some (.map 5 E)) (w:World) (l:List (Nat × Value)) (k:Nat) (v:Value) (hn:bFind k l=none) :
  (Instr.mapUpdate T (.map (some w.heap.size)) (.int .u8 k) v).run Tryz.prog (w.alloc (.map (bEs l 0).toArray l.length))=.ok () (w.alloc (.map (bEs (l ++ [(k,v)]) 0).toArray (l.length+1))):=by
 have hm:(w.alloc (.map (bEs l 0).toArray l.length)).heap[w.heap.size]? = some (.map (bEs l 0).toArray l.length):=heap_alloc_new w _
 have hg:(getObj w.heap.size).run Tryz.prog (w.alloc (.map (bEs l 0).toArray l.length))=.ok (.map (bEs l 0).toArray l.length) (w.alloc (.map (bEs l 0).toArray l.length)):=MapKept.run_getObj_map hm
 obtain⟨n,hn2⟩:=findNow_b k l 0 0
 rw [hn] at hn2
 have hf:(Instr.findKey 5 (.int .u8 k) (bEs l 0)).run Tryz.prog (w.alloc (.map (bEs l 0).toArray l.length))=.ok none (w.alloc (.map (bEs l 0).toArray l.length)):=by
  simp only [Instr.findKey,Sem.run_bind,run_underlying Tryz.underlying5,Result.andThen_ok,hn2]
  rfl
 have hs:∀ o,(setObj w.heap.size o).run Tryz.prog (w.alloc (.map (bEs l 0).toArray l.length))=.ok () (w.alloc o):=by
  intro o
  rw [MapKept.run_setObj_map o hm,heap_put];rfl
 have e:(bEs l 0).toArray.push ⟨.int .u8 k,v,l.length⟩=(bEs (l ++ [(k,v)]) 0).toArray:=by
  rw [bEs_snoc];simp
 unfold Instr.mapUpdate;simp only [Sem.run_bind,run_underlying hT,Result.andThen_ok,hg,run_checkB,hf,hs,e]
def rents:List (Nat × Value):=[(19,.int .i64 1),(20,.int .i64 1),(18,.int .i64 2),(17,.int .i64 3),(5,.int .i64 4),(11,.int .i64 5),(12,.int .i64 5),(13,.int .i64 5),(14,.int .i64 5),(15,.int .i64 5),(16,.int .i64 5),(6,.int .i64 6),(7,.int .i64 6),(8,.int .i64 7),(9,.int .i64 7),(10,.int .i64 7),(4,.int .i64 8)]
def rankN (k:Nat):Nat:=if k=19 then 1 else if k=20 then 1 else if k=18 then 2 else if k=17 then 3 else if k=5 then 4 else if k=11 then 5 else if k=12 then 5 else if k=13 then 5 else if k=14 then 5 else if k=15 then 5 else if k=16 then 5 else if k=6 then 6 else if k=7 then 6 else if k=8 then 7 else if k=9 then 7 else if k=10 then 7 else if k=4 then 8 else 0
theorem rents_of (x:Nat):(bFind x rents).getD (.int .i64 0)=.int .i64 (rankN x:Nat):=by
 by_cases h19:x=19
 ·subst h19;rfl
 by_cases h20:x=20
 ·subst h20;rfl
 by_cases h18:x=18
 ·subst h18;rfl
 by_cases h17:x=17
 ·subst h17;rfl
 by_cases h5:x=5
 ·subst h5;rfl
 by_cases h11:x=11
 ·subst h11;rfl
 by_cases h12:x=12
 ·subst h12;rfl
 by_cases h13:x=13
 ·subst h13;rfl
 by_cases h14:x=14
 ·subst h14;rfl
 by_cases h15:x=15
 ·subst h15;rfl
 by_cases h16:x=16
 ·subst h16;rfl
 by_cases h6:x=6
 ·subst h6;rfl
 by_cases h7:x=7
 ·subst h7;rfl
 by_cases h8:x=8
 ·subst h8;rfl
 by_cases h9:x=9
 ·subst h9;rfl
 by_cases h10:x=10
 ·subst h10;rfl
 by_cases h4:x=4
 ·subst h4;rfl
 simp [rents,bFind,rankN,h19,h20,h18,h17,h5,h11,h12,h13,h14,h15,h16,h6,h7,h8,h9,h10,h4]
def exprB (k:Nat):Bool:=decide (1≤k) && decide (k≤26) && decide (k ≠ 25)
def rankOf (k:Nat):Nat × Nat:=if exprB k then (if rankN k=0 then (9,0) else (rankN k,0)) else (0,2)
theorem zero_intR (w:World):(zeroValue 3).run Tryz.prog w=.ok (.int .i64 0) w:=by kernel_rfl
theorem lookup_r (w:World) (m c:Nat) (hm:w.heap[m]? = some (.map (bEs rents 0).toArray c)) (x:Nat):(Instr.lookup 78 (.map (some m)) (.int .u8 x) false).run Tryz.prog w=.ok (.int .i64 (rankN x:Nat)) w:=by
 have h:=lookup_b 78 3 (.int .i64 0) Tryz.underlying78 w (zero_intR w) rents m c hm x
 rw [h,rents_of]
theorem ranks_any (w:World):Calls Tryz.prog 70 #[] w fun e w'=>e=.returned (.map (some w.heap.size))∧w'=w.alloc (.map (bEs rents 0).toArray 17):=by
 have hmm:=@run_makeMap Tryz.prog
 have i0:(Instr.mapUpdate 78 (.map (some w.heap.size)) (.int .u8 19) (.int .i64 1)).run Tryz.prog (w.alloc (.map #[] 0))=.ok () (w.alloc (.map (bEs [(19,.int .i64 1)] 0).toArray 1)):=insert_b 78 3 Tryz.underlying78 w [] 19 (.int .i64 1) (by decide +kernel)
 have i1:(Instr.mapUpdate 78 (.map (some w.heap.size)) (.int .u8 20) (.int .i64 1)).run Tryz.prog (w.alloc (.map (bEs [(19,.int .i64 1)] 0).toArray 1))=.ok () (w.alloc (.map (bEs [(19,.int .i64 1),(20,.int .i64 1)] 0).toArray 2)):=insert_b 78 3 Tryz.underlying78 w [(19,.int .i64 1)] 20 (.int .i64 1) (by decide +kernel)
 have i2:(Instr.mapUpdate 78 (.map (some w.heap.size)) (.int .u8 18) (.int .i64 2)).run Tryz.prog (w.alloc (.map (bEs [(19,.int .i64 1),(20,.int .i64 1)] 0).toArray 2))=.ok () (w.alloc (.map (bEs [(19,.int .i64 1),(20,.int .i64 1),(18,.int .i64 2)] 0).toArray 3)):=insert_b 78 3 Tryz.underlying78 w [(19,.int .i64 1),(20,.int .i64 1)] 18 (.int .i64 2) (by decide +kernel)
 have i3:(Instr.mapUpdate 78 (.map (some w.heap.size)) (.int .u8 17) (.int .i64 3)).run Tryz.prog (w.alloc (.map (bEs [(19,.int .i64 1),(20,.int .i64 1),(18,.int .i64 2)] 0).toArray 3))=.ok () (w.alloc (.map (bEs [(19,.int .i64 1),(20,.int .i64 1),(18,.int .i64 2),(17,.int .i64 3)] 0).toArray 4)):=insert_b 78 3 Tryz.underlying78 w [(19,.int .i64 1),(20,.int .i64 1),(18,.int .i64 2)] 17 (.int .i64 3) (by decide +kernel)
 have i4:(Instr.mapUpdate 78 (.map (some w.heap.size)) (.int .u8 5) (.int .i64 4)).run Tryz.prog (w.alloc (.map (bEs [(19,.int .i64 1),(20,.int .i64 1),(18,.int .i64 2),(17,.int .i64 3)] 0).toArray 4))=.ok () (w.alloc (.map (bEs [(19,.int .i64 1),(20,.int .i64 1),(18,.int .i64 2),(17,.int .i64 3),(5,.int .i64 4)] 0).toArray 5)):=insert_b 78 3 Tryz.underlying78 w [(19,.int .i64 1),(20,.int .i64 1),(18,.int .i64 2),(17,.int .i64 3)] 5 (.int .i64 4) (by decide +kernel)
 have i5:(Instr.mapUpdate 78 (.map (some w.heap.size)) (.int .u8 11) (.int .i64 5)).run Tryz.prog (w.alloc (.map (bEs [(19,.int .i64 1),(20,.int .i64 1),(18,.int .i64 2),(17,.int .i64 3),(5,.int .i64 4)] 0).toArray 5))=.ok () (w.alloc (.map (bEs [(19,.int .i64 1),(20,.int .i64 1),(18,.int .i64 2),(17,.int .i64 3),(5,.int .i64 4),(11,.int .i64 5)] 0).toArray 6)):=insert_b 78 3 Tryz.underlying78 w [(19,.int .i64 1),(20,.int .i64 1),(18,.int .i64 2),(17,.int .i64 3),(5,.int .i64 4)] 11 (.int .i64 5) (by decide +kernel)
 have i6:(Instr.mapUpdate 78 (.map (some w.heap.size)) (.int .u8 12) (.int .i64 5)).run Tryz.prog (w.alloc (.map (bEs [(19,.int .i64 1),(20,.int .i64 1),(18,.int .i64 2),(17,.int .i64 3),(5,.int .i64 4),(11,.int .i64 5)] 0).toArray 6))=.ok () (w.alloc (.map (bEs [(19,.int .i64 1),(20,.int .i64 1),(18,.int .i64 2),(17,.int .i64 3),(5,.int .i64 4),(11,.int .i64 5),(12,.int .i64 5)] 0).toArray 7)):=insert_b 78 3 Tryz.underlying78 w [(19,.int .i64 1),(20,.int .i64 1),(18,.int .i64 2),(17,.int .i64 3),(5,.int .i64 4),(11,.int .i64 5)] 12 (.int .i64 5) (by decide +kernel)
 have i7:(Instr.mapUpdate 78 (.map (some w.heap.size)) (.int .u8 13) (.int .i64 5)).run Tryz.prog (w.alloc (.map (bEs [(19,.int .i64 1),(20,.int .i64 1),(18,.int .i64 2),(17,.int .i64 3),(5,.int .i64 4),(11,.int .i64 5),(12,.int .i64 5)] 0).toArray 7))=.ok () (w.alloc (.map (bEs [(19,.int .i64 1),(20,.int .i64 1),(18,.int .i64 2),(17,.int .i64 3),(5,.int .i64 4),(11,.int .i64 5),(12,.int .i64 5),(13,.int .i64 5)] 0).toArray 8)):=insert_b 78 3 Tryz.underlying78 w [(19,.int .i64 1),(20,.int .i64 1),(18,.int .i64 2),(17,.int .i64 3),(5,.int .i64 4),(11,.int .i64 5),(12,.int .i64 5)] 13 (.int .i64 5) (by decide +kernel)
 have i8:(Instr.mapUpdate 78 (.map (some w.heap.size)) (.int .u8 14) (.int .i64 5)).run Tryz.prog (w.alloc (.map (bEs [(19,.int .i64 1),(20,.int .i64 1),(18,.int .i64 2),(17,.int .i64 3),(5,.int .i64 4),(11,.int .i64 5),(12,.int .i64 5),(13,.int .i64 5)] 0).toArray 8))=.ok () (w.alloc (.map (bEs [(19,.int .i64 1),(20,.int .i64 1),(18,.int .i64 2),(17,.int .i64 3),(5,.int .i64 4),(11,.int .i64 5),(12,.int .i64 5),(13,.int .i64 5),(14,.int .i64 5)] 0).toArray 9)):=insert_b 78 3 Tryz.underlying78 w [(19,.int .i64 1),(20,.int .i64 1),(18,.int .i64 2),(17,.int .i64 3),(5,.int .i64 4),(11,.int .i64 5),(12,.int .i64 5),(13,.int .i64 5)] 14 (.int .i64 5) (by decide +kernel)
 have i9:(Instr.mapUpdate 78 (.map (some w.heap.size)) (.int .u8 15) (.int .i64 5)).run Tryz.prog (w.alloc (.map (bEs [(19,.int .i64 1),(20,.int .i64 1),(18,.int .i64 2),(17,.int .i64 3),(5,.int .i64 4),(11,.int .i64 5),(12,.int .i64 5),(13,.int .i64 5),(14,.int .i64 5)] 0).toArray 9))=.ok () (w.alloc (.map (bEs [(19,.int .i64 1),(20,.int .i64 1),(18,.int .i64 2),(17,.int .i64 3),(5,.int .i64 4),(11,.int .i64 5),(12,.int .i64 5),(13,.int .i64 5),(14,.int .i64 5),(15,.int .i64 5)] 0).toArray 10)):=insert_b 78 3 Tryz.underlying78 w [(19,.int .i64 1),(20,.int .i64 1),(18,.int .i64 2),(17,.int .i64 3),(5,.int .i64 4),(11,.int .i64 5),(12,.int .i64 5),(13,.int .i64 5),(14,.int .i64 5)] 15 (.int .i64 5) (by decide +kernel)
 have i10:(Instr.mapUpdate 78 (.map (some w.heap.size)) (.int .u8 16) (.int .i64 5)).run Tryz.prog (w.alloc (.map (bEs [(19,.int .i64 1),(20,.int .i64 1),(18,.int .i64 2),(17,.int .i64 3),(5,.int .i64 4),(11,.int .i64 5),(12,.int .i64 5),(13,.int .i64 5),(14,.int .i64 5),(15,.int .i64 5)] 0).toArray 10))=.ok () (w.alloc (.map (bEs [(19,.int .i64 1),(20,.int .i64 1),(18,.int .i64 2),(17,.int .i64 3),(5,.int .i64 4),(11,.int .i64 5),(12,.int .i64 5),(13,.int .i64 5),(14,.int .i64 5),(15,.int .i64 5),(16,.int .i64 5)] 0).toArray 11)):=insert_b 78 3 Tryz.underlying78 w [(19,.int .i64 1),(20,.int .i64 1),(18,.int .i64 2),(17,.int .i64 3),(5,.int .i64 4),(11,.int .i64 5),(12,.int .i64 5),(13,.int .i64 5),(14,.int .i64 5),(15,.int .i64 5)] 16 (.int .i64 5) (by decide +kernel)
 have i11:(Instr.mapUpdate 78 (.map (some w.heap.size)) (.int .u8 6) (.int .i64 6)).run Tryz.prog (w.alloc (.map (bEs [(19,.int .i64 1),(20,.int .i64 1),(18,.int .i64 2),(17,.int .i64 3),(5,.int .i64 4),(11,.int .i64 5),(12,.int .i64 5),(13,.int .i64 5),(14,.int .i64 5),(15,.int .i64 5),(16,.int .i64 5)] 0).toArray 11))=.ok () (w.alloc (.map (bEs [(19,.int .i64 1),(20,.int .i64 1),(18,.int .i64 2),(17,.int .i64 3),(5,.int .i64 4),(11,.int .i64 5),(12,.int .i64 5),(13,.int .i64 5),(14,.int .i64 5),(15,.int .i64 5),(16,.int .i64 5),(6,.int .i64 6)] 0).toArray 12)):=insert_b 78 3 Tryz.underlying78 w [(19,.int .i64 1),(20,.int .i64 1),(18,.int .i64 2),(17,.int .i64 3),(5,.int .i64 4),(11,.int .i64 5),(12,.int .i64 5),(13,.int .i64 5),(14,.int .i64 5),(15,.int .i64 5),(16,.int .i64 5)] 6 (.int .i64 6) (by decide +kernel)
 have i12:(Instr.mapUpdate 78 (.map (some w.heap.size)) (.int .u8 7) (.int .i64 6)).run Tryz.prog (w.alloc (.map (bEs [(19,.int .i64 1),(20,.int .i64 1),(18,.int .i64 2),(17,.int .i64 3),(5,.int .i64 4),(11,.int .i64 5),(12,.int .i64 5),(13,.int .i64 5),(14,.int .i64 5),(15,.int .i64 5),(16,.int .i64 5),(6,.int .i64 6)] 0).toArray 12))=.ok () (w.alloc (.map (bEs [(19,.int .i64 1),(20,.int .i64 1),(18,.int .i64 2),(17,.int .i64 3),(5,.int .i64 4),(11,.int .i64 5),(12,.int .i64 5),(13,.int .i64 5),(14,.int .i64 5),(15,.int .i64 5),(16,.int .i64 5),(6,.int .i64 6),(7,.int .i64 6)] 0).toArray 13)):=insert_b 78 3 Tryz.underlying78 w [(19,.int .i64 1),(20,.int .i64 1),(18,.int .i64 2),(17,.int .i64 3),(5,.int .i64 4),(11,.int .i64 5),(12,.int .i64 5),(13,.int .i64 5),(14,.int .i64 5),(15,.int .i64 5),(16,.int .i64 5),(6,.int .i64 6)] 7 (.int .i64 6) (by decide +kernel)
 have i13:(Instr.mapUpdate 78 (.map (some w.heap.size)) (.int .u8 8) (.int .i64 7)).run Tryz.prog (w.alloc (.map (bEs [(19,.int .i64 1),(20,.int .i64 1),(18,.int .i64 2),(17,.int .i64 3),(5,.int .i64 4),(11,.int .i64 5),(12,.int .i64 5),(13,.int .i64 5),(14,.int .i64 5),(15,.int .i64 5),(16,.int .i64 5),(6,.int .i64 6),(7,.int .i64 6)] 0).toArray 13))=.ok () (w.alloc (.map (bEs [(19,.int .i64 1),(20,.int .i64 1),(18,.int .i64 2),(17,.int .i64 3),(5,.int .i64 4),(11,.int .i64 5),(12,.int .i64 5),(13,.int .i64 5),(14,.int .i64 5),(15,.int .i64 5),(16,.int .i64 5),(6,.int .i64 6),(7,.int .i64 6),(8,.int .i64 7)] 0).toArray 14)):=insert_b 78 3 Tryz.underlying78 w [(19,.int .i64 1),(20,.int .i64 1),(18,.int .i64 2),(17,.int .i64 3),(5,.int .i64 4),(11,.int .i64 5),(12,.int .i64 5),(13,.int .i64 5),(14,.int .i64 5),(15,.int .i64 5),(16,.int .i64 5),(6,.int .i64 6),(7,.int .i64 6)] 8 (.int .i64 7) (by decide +kernel)
 have i14:(Instr.mapUpdate 78 (.map (some w.heap.size)) (.int .u8 9) (.int .i64 7)).run Tryz.prog (w.alloc (.map (bEs [(19,.int .i64 1),(20,.int .i64 1),(18,.int .i64 2),(17,.int .i64 3),(5,.int .i64 4),(11,.int .i64 5),(12,.int .i64 5),(13,.int .i64 5),(14,.int .i64 5),(15,.int .i64 5),(16,.int .i64 5),(6,.int .i64 6),(7,.int .i64 6),(8,.int .i64 7)] 0).toArray 14))=.ok () (w.alloc (.map (bEs [(19,.int .i64 1),(20,.int .i64 1),(18,.int .i64 2),(17,.int .i64 3),(5,.int .i64 4),(11,.int .i64 5),(12,.int .i64 5),(13,.int .i64 5),(14,.int .i64 5),(15,.int .i64 5),(16,.int .i64 5),(6,.int .i64 6),(7,.int .i64 6),(8,.int .i64 7),(9,.int .i64 7)] 0).toArray 15)):=insert_b 78 3 Tryz.underlying78 w [(19,.int .i64 1),(20,.int .i64 1),(18,.int .i64 2),(17,.int .i64 3),(5,.int .i64 4),(11,.int .i64 5),(12,.int .i64 5),(13,.int .i64 5),(14,.int .i64 5),(15,.int .i64 5),(16,.int .i64 5),(6,.int .i64 6),(7,.int .i64 6),(8,.int .i64 7)] 9 (.int .i64 7) (by decide +kernel)
 have i15:(Instr.mapUpdate 78 (.map (some w.heap.size)) (.int .u8 10) (.int .i64 7)).run Tryz.prog (w.alloc (.map (bEs [(19,.int .i64 1),(20,.int .i64 1),(18,.int .i64 2),(17,.int .i64 3),(5,.int .i64 4),(11,.int .i64 5),(12,.int .i64 5),(13,.int .i64 5),(14,.int .i64 5),(15,.int .i64 5),(16,.int .i64 5),(6,.int .i64 6),(7,.int .i64 6),(8,.int .i64 7),(9,.int .i64 7)] 0).toArray 15))=.ok () (w.alloc (.map (bEs [(19,.int .i64 1),(20,.int .i64 1),(18,.int .i64 2),(17,.int .i64 3),(5,.int .i64 4),(11,.int .i64 5),(12,.int .i64 5),(13,.int .i64 5),(14,.int .i64 5),(15,.int .i64 5),(16,.int .i64 5),(6,.int .i64 6),(7,.int .i64 6),(8,.int .i64 7),(9,.int .i64 7),(10,.int .i64 7)] 0).toArray 16)):=insert_b 78 3 Tryz.underlying78 w [(19,.int .i64 1),(20,.int .i64 1),(18,.int .i64 2),(17,.int .i64 3),(5,.int .i64 4),(11,.int .i64 5),(12,.int .i64 5),(13,.int .i64 5),(14,.int .i64 5),(15,.int .i64 5),(16,.int .i64 5),(6,.int .i64 6),(7,.int .i64 6),(8,.int .i64 7),(9,.int .i64 7)] 10 (.int .i64 7) (by decide +kernel)
 have i16:(Instr.mapUpdate 78 (.map (some w.heap.size)) (.int .u8 4) (.int .i64 8)).run Tryz.prog (w.alloc (.map (bEs [(19,.int .i64 1),(20,.int .i64 1),(18,.int .i64 2),(17,.int .i64 3),(5,.int .i64 4),(11,.int .i64 5),(12,.int .i64 5),(13,.int .i64 5),(14,.int .i64 5),(15,.int .i64 5),(16,.int .i64 5),(6,.int .i64 6),(7,.int .i64 6),(8,.int .i64 7),(9,.int .i64 7),(10,.int .i64 7)] 0).toArray 16))=.ok () (w.alloc (.map (bEs [(19,.int .i64 1),(20,.int .i64 1),(18,.int .i64 2),(17,.int .i64 3),(5,.int .i64 4),(11,.int .i64 5),(12,.int .i64 5),(13,.int .i64 5),(14,.int .i64 5),(15,.int .i64 5),(16,.int .i64 5),(6,.int .i64 6),(7,.int .i64 6),(8,.int .i64 7),(9,.int .i64 7),(10,.int .i64 7),(4,.int .i64 8)] 0).toArray 17)):=insert_b 78 3 Tryz.underlying78 w [(19,.int .i64 1),(20,.int .i64 1),(18,.int .i64 2),(17,.int .i64 3),(5,.int .i64 4),(11,.int .i64 5),(12,.int .i64 5),(13,.int .i64 5),(14,.int .i64 5),(15,.int .i64 5),(16,.int .i64 5),(6,.int .i64 6),(7,.int .i64 6),(8,.int .i64 7),(9,.int .i64 7),(10,.int .i64 7)] 4 (.int .i64 8) (by decide +kernel)
 go_enter Tryz.func70,Tryz.ntmps70
 go_wp2_with fail
 go_ret
 exact⟨rfl,rfl⟩
theorem expression_any (k:Nat) (w:World):Calls Tryz.prog 69 #[.int .u8 k] w fun e w'=>e=.returned (.bool (exprB k))∧w'=w:=by
 go_enter Tryz.func69,Tryz.ntmps69
 by_cases h1:1≤k
 ·have a1:decide ((1:Int)≤(k:Int))=true:=decide_eq_true (by omega)
  by_cases h2:k≤26
  ·have a2:decide ((k:Int)≤26)=true:=decide_eq_true (by omega)
   by_cases h3:k=25
   ·have a3:((k:Int) != 25)=false:=by rw [h3];rfl
    have HX:=hid (show exprB k=false by subst h3;rfl)
    clear h3
    go_wp2
    go_ret
    exact⟨(by rw [HX.out];rfl),rfl⟩
   ·have a3:((k:Int) != 25)=true:=by simp [bne];omega
    have HX:=hid (show exprB k=true by simp [exprB];omega)
    clear h3
    go_wp2
    go_ret
    exact⟨(by rw [HX.out];rfl),rfl⟩
  ·have a2:decide ((k:Int)≤26)=false:=decide_eq_false (by omega)
   have HX:=hid (show exprB k=false by simp [exprB];omega)
   go_wp2
   go_ret
   exact⟨(by rw [HX.out];rfl),rfl⟩
 ·have a1:decide ((1:Int)≤(k:Int))=false:=decide_eq_false (by omega)
  have HX:=hid (show exprB k=false by simp [exprB];omega)
  go_wp2
  go_ret
  exact⟨(by rw [HX.out];rfl),rfl⟩
theorem rankOf_no {k:Nat} (h:exprB k=false):rankOf k=(0,2):=by unfold rankOf;simp [h]
theorem rankOf_some {k:Nat} (h:exprB k=true) (h2:rankN k ≠ 0):rankOf k=(rankN k,0):=by unfold rankOf;simp [h,h2]
theorem rankOf_atom {k:Nat} (h:exprB k=true) (h2:rankN k=0):rankOf k=(9,0):=by unfold rankOf;simp [h,h2]
theorem rank_any (k:Nat) (w:World):Calls Tryz.prog 26 #[.int .u8 k] w fun e w'=>e=.returned (.tuple #[.int .i64 (rankOf k).1,.int .i64 (rankOf k).2])∧Below w.heap.size w w':=by
 have hsmall:rankN k≤8:=by
  by_cases h:k≤26
  ·exact (by decide:∀ k≤26,rankN k≤8) k h
  ·unfold rankN;simp [show k ≠ 19 by omega,show k ≠ 20 by omega,show k ≠ 18 by omega,show k ≠ 17 by omega,show k ≠ 5 by omega,show k ≠ 11 by omega,show k ≠ 12 by omega,show k ≠ 13 by omega,show k ≠ 14 by omega,show k ≠ 15 by omega,show k ≠ 16 by omega,show k ≠ 6 by omega,show k ≠ 7 by omega,show k ≠ 8 by omega,show k ≠ 9 by omega,show k ≠ 10 by omega,show k ≠ 4 by omega]
 go_enter Tryz.func26,Tryz.ntmps26
 go_wp2_with fail
 refine (expression_any k w).mono ?_
 rintro e w1 ⟨rfl,rfl⟩
 rcases hx:exprB k with _ | _
 ·have HX:=hid (rankOf_no hx);clear hx
  go_wp2
  go_ret2
  exact⟨by rw [HX.out];rfl,Below.refl _ _⟩
 ·have HM:=hid (heap_alloc_new w1 (.map (bEs rents 0).toArray 17))
  have hlk:=lookup_r _ _ _ HM.out k
  obtain⟨R,hR⟩:∃ R,R=rankN k:=⟨_,rfl⟩
  rw [← hR] at hlk hsmall
  go_wp2_with fail
  refine (ranks_any w1).mono ?_
  rintro e w2 ⟨rfl,rfl⟩
  by_cases h0:R=0
  ·have HX:=hid (rankOf_atom hx (hR.symm.trans h0));clear hx hR
   have d1:decide ((0:Int) < (R:Int))=false:=decide_eq_false (by omega)
   have d2:decide (0 < R)=false:=decide_eq_false (by omega)
   clear h0
   go_wp2_with fail
   go_ret2
   exact⟨by rw [HX.out];rfl,(Below.refl _ _).alloc (Nat.le_refl _) _⟩
  ·have HX:=hid (rankOf_some hx (fun e=>h0 (hR.trans e)))
   have d1:decide ((0:Int) < (R:Int))=true:=decide_eq_true (by omega)
   have d2:decide (0 < R)=true:=decide_eq_true (by omega)
   have HR:=hid hR;clear h0 hx hR
   go_wp2_with fail
   go_ret2
   exact⟨by rw [HX.out,← HR.out];rfl,(Below.refl _ _).alloc (Nat.le_refl _) _⟩
end Go.Proofs.YthepmkjggfijoaaGreatDoor
