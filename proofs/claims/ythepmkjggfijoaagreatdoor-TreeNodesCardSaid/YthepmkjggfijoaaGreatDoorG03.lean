/-
  PARTS of the proof: RF, RD, RD2, RZ, RC, RM.
-/
import Derived.Deep.QuietTactic
import Derived.BigRegion
import Derived.Test.YthepmkjggfijoaaGreatDoorB32
import Derived.Test.YthepmkjggfijoaaGreatDoorB07
import Derived.Test.YthepmkjggfijoaaGreatDoorB21
import Derived.Test.YthepmkjggfijoaaGreatDoorB31
import Derived.Test.YthepmkjggfijoaaGreatDoorC35
import Derived.Test.YthepmkjggfijoaaGreatDoorB22
import Derived.Test.YthepmkjggfijoaaGreatDoorG01
import Derived.Test.YthepmkjggfijoaaGreatDoorG02
set_option linter.all false
set_option maxRecDepth 100000
set_option maxHeartbeats 4000000
open Go.Lib (hid)
namespace Go.Proofs.YthepmkjggfijoaaGreatDoor
open Go.RowKit Mist
attribute [local go_sem] ofL_extract ofL_size ofL_get ofL_bytes ofL_append
theorem overB_step {q:Nat→Bool}{out l:List Int}{b:Int}{j:Nat}{c:Int}(hj:l[j]? = some c):overB q out (l.drop j) b=(overB q out (l.drop (j+1)) b).bind fun a=>if a < 0∨c ≠ a∨(!q a.toNat)=true then none else some (a - out.getD a.toNat 0):=by
 obtain⟨hl,he⟩:=List.getElem?_eq_some_iff.1 hj
 rw [List.drop_eq_getElem_cons hl,he]
 rfl
theorem overB_none {q:Nat→Bool}{out:List Int}{b:Int}:∀ {l:List Int} {j:Nat},overB q out (l.drop j) b=none→overB q out l b=none
 | l,0,h=>h
 | [],j+1,h=>by simpa using h
 | c :: r,j+1,h=>by
  have h1:overB q out r b=none:=overB_none (by simpa using h)
  show (overB q out r b).bind _=none
  rw [h1];rfl
theorem formT_no {T:Tr}(h:sizesT T=none)(h0:T.nodes.length ≠ 0):formT T=false:=by
 unfold formT;rw [h];simpa using h0
theorem formT_yes {T:Tr}{sz:List Int}(h:sizesT T=some sz):formT T=((List.range T.nodes.length).all (rightK T) && (rootsBack T sz == some (-1))):=by
 unfold formT;rw [h]
theorem formT_bad {T:Tr}{sz:List Int}(h:sizesT T=some sz){i:Nat}(hi:i < T.nodes.length)(hr:rightK T i=false):formT T=false:=by
 rw [formT_yes h]
 rw [show (List.range T.nodes.length).all (rightK T)=false by rw [List.all_eq_false];exact⟨i,List.mem_range.2 hi,by simp [hr]⟩]
 rfl
theorem formT_roots {T:Tr}{sz:List Int}(h:sizesT T=some sz)(hr:∀ i,i < T.nodes.length→rightK T i=true):formT T=(rootsBack T sz == some (-1)):=by
 rw [formT_yes h,show (List.range T.nodes.length).all (rightK T)=true by rw [List.all_eq_true];exact fun i hi=>hr i (List.mem_range.1 hi)]
 rfl
theorem rform_any (A B:Option Addr)(c d:Nat)(xs:List NV)(its:List Int)(w:World)(hT:TAt w A B xs its)(hn:xs.length≤10000)(hm:its.length≤10000)(hl:∀ x ∈ xs,x.1.text.length≤100000000) :
  Calls Tryz.prog 64 #[.agg #[.slice A xs.length c,.slice B its.length d]] w fun e w'=>e=.returned (.bool (formT ⟨nds xs,its⟩))∧Below w.heap.size w w':=by
 have HSZ:=hid fun W (hb:Below w.heap.size w W)=>sizes_any A B c its.length d xs its W (hT.below hb) hn
 have HRT:=hid fun W (hb:Below w.heap.size w W) i x hx hk=>right_any A B c its.length d i xs its x W (hT.below hb) hx hn hk (hl x (List.mem_of_getElem? hx))
 obtain⟨T,hTT⟩:∃ T:Tr,T=⟨nds xs,its⟩:=⟨_,rfl⟩
 rw [← hTT] at HRT ⊢
 have HNS:=hid (show T.nodes=nds xs by rw [hTT])
 have HIS:=hid (show T.items=its by rw [hTT])
 have HTN:=hid (show T.nodes.length=xs.length by rw [hTT];exact nds_len xs)
 clear hTT hl
 obtain⟨n,hnn⟩:∃ n,n=xs.length:=⟨_,rfl⟩
 obtain⟨m,hmm⟩:∃ m,m=its.length:=⟨_,rfl⟩
 rw [← hnn,← hmm] at HSZ
 rw [← hnn] at HRT HTN hn ⊢
 rw [← hmm] at HRT hm ⊢
 have HN:=hid hnn;clear hnn
 have HM:=hid hmm;clear hmm
 have HT:=hid hT;clear hT
 have HB0:=hid (Blk.new w 26 #[.slice A n c,.slice B m d])
 have HL0:=hid (balloc (Below.refl w.heap.size w) (Nat.le_refl _) (o:=.cells #[.slice A n c,.slice B m d] 26))
 go_enter Tryz.func64,Tryz.ntmps64
 go_wp2_with fail
 refine (HSZ.out _ HL0.out).mono ?_
 rintro e w1⟨hb1,h1⟩
 have HB:=hid (HB0.out.below hb1 HB0.out.lt)
 have HL:=hid (HL0.out.trans (hb1.mono HL0.out.size))
 have hsz0:=HL0.out.size
 have t0:=HB.out.cell 0
 have t1:=HB.out.cell 1
 rcases h1 with ⟨hno,rfl⟩ | ⟨sz,v,hsz,rfl,hown⟩
 ·have hn0:¬ n=0:=fun h0=>by subst h0;exact absurd hno (by simp [sizesTo])
  have HF:=hid (show formT T=false from formT_no (by rw [← sizesTo_all,HNS.out,nds_len,← HN.out];exact hno) (by rw [HTN.out];exact hn0))
  have q0:((0:Int) != (n:Int))=true:=by simp;omega
  clear hno HB0 HL0 hb1
  go_wp2_with fail
  go_ret
  exact⟨by rw [HF.out];rfl,HL.out⟩
 have HZT:=hid (show sizesT T=some sz by rw [← sizesTo_all,HNS.out,nds_len,← HN.out];exact hsz)
 have HZB:=hid (sizesTo_bound (by rw [nds_len,← HN.out];exact Nat.le_refl _) hsz)
 have HWF:=hid (show Wf (nds xs) by
  have h9:=sizesTo_ok (by rw [nds_len,← HN.out];exact Nat.le_refl _) hsz
  rw [List.take_of_length_le (by rw [nds_len,← HN.out];exact Nat.le_refl _)] at h9
  exact szOk_wf (by rw [nds_len,← HN.out];exact h9))
 have HO:=hid (own_up hown (Nat.le_refl _))
 have hlw:=HL0.out.size
 clear hown hsz hb1 HB0 HL0
 obtain⟨Av,cv,rfl⟩:=own_form HO.out
 have q0:((n:Int) != (n:Int))=false:=by simp
 go_wp2_with fail
 go_loopw [4] (fun i wr=>∃ k:Nat,k≤n∧i=.int .i64 k∧Hid (∀ j,j < k→rightK T j=true)∧Hid (wr.ownsRow w.heap.size 3 1 (.slice Av n cv) n (intCells sz))∧Hid (Blk wr w.heap.size 26 #[.slice A n c,.slice B m d])∧Hid (Below w.heap.size w wr)) (fun i _=>n - (intOf i).toNat)
 case atStart=>exact⟨0,Nat.zero_le _,rfl,hid (fun j hj=>by omega),hid (own_up HO.out hlw),HB,HL⟩
 case round =>
  clear HO HB HL t0 t1 hlw
  obtain⟨k,hk,rfl,HK,HO,HB,HL⟩:=hrel
  have t0:=HB.out.cell 0
  have t1:=HB.out.cell 1
  by_cases hkn:k < n
  ·have i3:decide (k < n)=true:=decide_eq_true hkn
   obtain⟨x,hx⟩:∃ x,xs[k]? = some x:=xs_at (by rw [← HN.out];exact hkn)
   have HKK:=hid (show ∀ q ∈ x.1.kids,0≤q∧q < (n:Int) from fun q hq=>by
    have h9:=HWF.out k x.1 (nds_get hx) q hq
    omega)
   have HX:=hid hx;clear hx
   cases hrk:rightK T k
   ·have HF:=hid (show formT T=false from formT_bad HZT.out (by rw [HTN.out];exact hkn) hrk)
    have HRK:=hid hrk;clear hrk
    go_wp2_with fail
    refine (HRT.out _ HL.out k x HX.out HKK.out).mono ?_
    rintro e w2⟨rfl,hb2⟩
    rw [HRK.out]
    go_wp2_with fail
    go_ret
    exact⟨by rw [HF.out];rfl,HL.out.trans (hb2.mono HL.out.size)⟩
   ·have HRK:=hid hrk;clear hrk
    go_wp2_with fail
    refine (HRT.out _ HL.out k x HX.out HKK.out).mono ?_
    rintro e w2⟨rfl,hb2⟩
    rw [HRK.out]
    go_wp2_with fail
    exact⟨⟨k+1,by omega,by go_num,hid (fun j hj=>by
     by_cases hjk:j=k
     ·rw [hjk];exact HRK.out
     ·exact HK.out j (by omega)),hid (own_below HO.out hb2),hid (HB.out.below hb2 HB.out.lt),hid (HL.out.trans (hb2.mono HL.out.size))⟩,by simp [intOf];omega⟩
  ·have i3:decide (k < n)=false:=decide_eq_false hkn
   have HFR:=hid (formT_roots HZT.out (fun i hi=>HK.out i (by rw [HTN.out] at hi;omega)))
   have HRB:=hid (show rootsBack T sz=overB (fun i=>isItem (nd T i).kind) sz its ((n:Int) - 1) by rw [rootsBack_eq,HIS.out,HTN.out])
   clear HK
   go_wp2_with fail
   go_loopw [5,6] (fun a i wr=>∃ (j:Nat) (at_:Int),j≤m∧i=.int .i64 ((j:Int) - 1)∧a=.int .i64 at_∧-1≤at_∧at_≤(n:Int) - 1∧Hid (overB (fun i=>isItem (nd T i).kind) sz (its.drop j) ((n:Int) - 1)=some at_)∧Hid (wr.ownsRow w.heap.size 3 1 (.slice Av n cv) n (intCells sz))∧Hid (Blk wr w.heap.size 26 #[.slice A n c,.slice B m d])∧Hid (Below w.heap.size w wr)) (fun _ i _=>(intOf i+1).toNat)
   case atStart=>exact⟨m,(n:Int) - 1,Nat.le_refl _,rfl,rfl,by omega,by omega,hid (by rw [List.drop_of_length_le (by rw [← HM.out];exact Nat.le_refl _)];rfl),HO,HB,HL⟩
   case round =>
    clear HO HB HL t0 t1
    obtain⟨j,at_,hj,rfl,rfl,ha,han,HOV,HO,HB,HL⟩:=hrel
    have t0:=HB.out.cell 0
    have t1:=HB.out.cell 1
    by_cases hj0:0 < j
    ·obtain⟨j,rfl⟩:∃ q,j=q+1:=⟨j - 1,by omega⟩
     obtain⟨cj,hcj⟩:∃ cj,its[j]? = some cj:=⟨_,List.getElem?_eq_getElem (by rw [← HM.out];omega)⟩
     obtain⟨b2,o2,rfl,hbl,hc⟩:=HT.out.items.ex (by rw [← HM.out];omega)
     have cc:=(HL.out.cell (p:=⟨b2,o2+j,none⟩) (by exact hbl)).trans (hc j cj hcj)
     have HST:=hid (overB_step (q:=fun i=>isItem (nd T i).kind) (out:=sz) (b:=(n:Int) - 1) hcj)
     rw [HOV.out] at HST
     have HBAD:=hid (show (at_ < 0∨cj ≠ at_∨(!isItem (nd T at_.toNat).kind)=true)→formT T=false from fun h=>by
      rw [HFR.out,HRB.out,overB_none (j:=j) (by rw [HST.out];show (if _ then none else _)=none;rw [if_pos h])]
      rfl)
     clear hc hcj
     have e1:((j+1:Nat):Int) - 1=(j:Int):=by omega
     rw [e1]
     have y0:(0:Int)≤(j:Int):=by omega
     have y1:(j:Int) < (m:Int):=by omega
     by_cases h0:at_ < 0
     ·have d1:decide (at_ < 0)=true:=decide_eq_true h0
      have HF:=hid (HBAD.out (Or.inl h0))
      go_wp2_with fail
      go_ret
      exact⟨by rw [HF.out];rfl,HL.out⟩
     have d1:decide (at_ < 0)=false:=decide_eq_false h0
     obtain⟨an,rfl⟩:∃ q:Nat,at_=(q:Int):=⟨at_.toNat,by omega⟩
     by_cases hq:cj=(an:Int)
     case neg =>
      have d2:(cj != (an:Int))=true:=by simp [hq]
      have HF:=hid (HBAD.out (Or.inr (Or.inl hq)))
      clear hq
      go_wp2_with fail
      go_ret
      exact⟨by rw [HF.out];rfl,HL.out⟩
     have d2:(cj != (an:Int))=false:=by simp [hq]
     have han2:an < n:=by omega
     obtain⟨x,hx⟩:∃ x,xs[an]? = some x:=xs_at (by rw [← HN.out];exact han2)
     obtain⟨b,o,rfl,hNA⟩:=HT.out.nodes (by rw [← HN.out];omega)
     have c0:=(HL.out.cell (p:=⟨b,o+an * 5,none⟩) hNA.lt).trans (hNA.c0 an x hx)
     have HND:=hid (show nd T ((an:Int)).toNat=x.1 by rw [Int.toNat_natCast];exact nd_of (by rw [HNS.out];exact nds_get hx))
     have x0:(0:Int)≤(an:Int):=by omega
     have x1:(an:Int) < (n:Int):=by omega
     clear hNA hx
     cases hit:isItem x.1.kind
     ·have HF:=hid (HBAD.out (Or.inr (Or.inr (by rw [HND.out,hit];rfl))))
      have HIT:=hid hit;clear hit
      clear hq
      go_wp2_with fail
      refine (ritem_any x.1.kind _).mono ?_
      rintro e w2⟨rfl,rfl⟩
      rw [HIT.out]
      go_wp2_with fail
      go_ret
      exact⟨by rw [HF.out];rfl,HL.out⟩
     ·have HIT:=hid hit;clear hit
      have HST2:=hid (show overB (fun i=>isItem (nd T i).kind) sz (its.drop j) ((n:Int) - 1)=some ((an:Int) - sz.getD an 0) by
       rw [HST.out]
       show (if _ then none else some ((an:Int) - sz.getD ((an:Int)).toNat 0))=_
       rw [if_neg (by
        rintro (h | h | h)
        ·omega
        ·exact h hq
        ·rw [HND.out,HIT.out] at h;cases h),Int.toNat_natCast])
      obtain⟨g,cap,hv,_,hgl,hcg⟩:=own_cell HO.out HZB.out.1 (by omega)
      injection hv with hv1 _ hv3
      subst hv1
      subst hv3
      have cg:=hcg an han2
      have hbd:=HZB.out.2 an han2
      obtain⟨sa,hsa⟩:∃ q,q=sz.getD an 0:=⟨_,rfl⟩
      rw [← hsa] at cg hbd HST2
      clear hq hsa h0 hcg
      go_wp2_with fail
      refine (ritem_any x.1.kind _).mono ?_
      rintro e w2⟨rfl,rfl⟩
      rw [HIT.out]
      go_wp2_with fail
      exact⟨⟨j,(an:Int) - sa,by omega,by go_num,by go_num,by omega,by omega,HST2,HO,HB,HL⟩,by simp [intOf]⟩
    ·obtain rfl:j=0:=by omega
     have HFE:=hid (show formT T=(at_ == -1) by
      have h9:=HOV.out
      rw [List.drop_zero] at h9
      rw [HFR.out,HRB.out,h9]
      rfl)
     go_wp2_with fail
     go_ret
     exact⟨by rw [HFE.out];rfl,HL.out⟩
end Go.Proofs.YthepmkjggfijoaaGreatDoor
namespace Go.Proofs.YthepmkjggfijoaaGreatDoor
open Go.RowKit Mist
theorem max_dOne (i:Nat)(D:List Nat)(h:i < D.length):D.set i (max (D.getD i 0) 1)=dOne i D:=by
 unfold dOne
 split
 ·rename_i h0;rw [h0];rfl
 ·rename_i h0
  rw [show max (D.getD i 0) 1=D.getD i 0 by omega]
  rw [List.getD_eq_getElem?_getD,List.getElem?_eq_getElem h]
  simp
theorem dOne_get (i:Nat)(D:List Nat)(h:i < D.length):(dOne i D).getD i 0=max (D.getD i 0) 1:=by
 rw [← max_dOne i D h,getD_set,if_pos ⟨rfl,h⟩]
theorem foldl_max (D:List Nat):∀ (m:Nat),(D.map fun (d:Nat)=>(d:Int)).foldl max (m:Int)=((D.foldl max m:Nat):Int):=by
 induction D with
 | nil=>intro m;rfl
 | cons a r ih =>
  intro m
  simp only [List.map_cons,List.foldl_cons]
  rw [show max (m:Int) (a:Int)=((max m a:Nat):Int) by omega]
  exact ih _
theorem rdepths_any (A B:Option Addr)(c m d:Nat)(xs:List NV)(its:List Int)(w:World)(hT:TAt w A B xs its)(hW:Wf (nds xs))(hn:xs.length≤100000) :
  Calls Tryz.prog 83 #[.agg #[.slice A xs.length c,.slice B m d]] w fun e w'=>∃ g,e=.returned (.slice (some ⟨g,0,none⟩) xs.length xs.length)∧w.heap.size≤g∧Blk w' g 3 (iA (depthsOf (nds xs)))∧Below w.heap.size w w':=by
 obtain⟨n,hnn⟩:∃ n,n=xs.length:=⟨_,rfl⟩
 rw [← hnn] at hn ⊢
 have HNN:=hid hnn;clear hnn
 have HTA:=hid hT;clear hT
 have HW:=hid hW;clear hW
 have hmk:=run_make_row' (P:=Tryz.prog) 24 3 (.int .i64 0) 8 Tryz.underlying24 int_info rfl .i64 .i64 n (by omega) (by omega) (w.alloc (.cells #[.slice A n c,.slice B m d] 26))
 rw [made_zero] at hmk
 go_enter Tryz.func83,Tryz.ntmps83
 go_wp2_with fail
 have hb0:=Blk.new (w.alloc (.cells #[.slice A n c,.slice B m d] 26)) 3 (iA (List.replicate n 0))
 rw [show (w.alloc (.cells #[.slice A n c,.slice B m d] 26)).heap.size=w.heap.size+1 by simp] at hb0
 have HB0:=hid hb0;clear hb0
 have HT0:=hid ((Blk.new w 26 #[.slice A n c,.slice B m d]).alloc (.cells (iA (List.replicate n 0)) 3))
 have HL0:=hid (balloc (balloc (Below.refl w.heap.size w) (Nat.le_refl _) (o:=.cells #[.slice A n c,.slice B m d] 26)) (by simp) (o:=.cells (iA (List.replicate n 0)) 3))
 clear hmk
 go_loopw [4] (fun i wr=>∃ (k:Nat) (D:List Nat),k≤n∧i=.int .i64 ((k:Int) - 1)∧Hid (D.length=n)∧Hid (Blk wr (w.heap.size+1) 3 (iA D))∧Hid (Blk wr w.heap.size 26 #[.slice A n c,.slice B m d])∧Hid (dRun (nds xs) k D=depthsOf (nds xs))∧Hid (AllLe (n - k+1) D)∧Hid (Below w.heap.size w wr)) (fun i _=>(intOf i+1).toNat)
 case atStart=>exact⟨n,List.replicate n 0,Nat.le_refl _,rfl,hid (by simp),HB0,HT0,hid (by unfold depthsOf;rw [nds_len,← HNN.out]),hid (allLe_zero _ _),HL0⟩
 case round =>
  clear HB0 HT0 HL0
  obtain⟨k,D,hk,rfl,HDL,HB,HT,HD,HA,HL⟩:=hrel
  rcases Nat.eq_zero_or_pos k with h0 | h0
  ·subst h0
   have HD2:=hid (show D=depthsOf (nds xs) from HD.out)
   go_wp2_with fail
   go_ret
   exact⟨_,rfl,by omega,by rw [← HD2.out];exact HB.out,HL.out⟩
  ·obtain⟨k,rfl⟩:∃ k0,k=k0+1:=⟨k - 1,by omega⟩
   rw [show (((k+1:Nat):Int) - 1)=(k:Int) by omega]
   obtain⟨b,o,rfl,hNA⟩:=HTA.out.nodes (by rw [← HNN.out];omega)
   have HN:=hid hNA.kids;clear hNA
   have tc0:=HT.out.cell 0
   have tc1:=HT.out.cell 1
   have dk:wr.cell? ⟨w.heap.size+1,k,none⟩=some (.int .i64 ((D.getD k 0:Nat):Int)):=by
    rw [HB.out.cell k];exact iA_get D k (by rw [HDL.out];omega)
   have fk:=HB.out.frozen k
   have i1:(0:Int)≤(k:Int):=by omega
   have i2:(k:Int) < (n:Int):=by omega
   obtain⟨v,hv⟩:∃ v,v=D.getD k 0:=⟨_,rfl⟩
   rw [← hv] at dk
   have HV:=hid hv;clear hv
   obtain⟨x,hx⟩:∃ x,xs[k]? = some x:=⟨_,List.getElem?_eq_getElem (by rw [← HNN.out];omega)⟩
   have HX:=hid hx
   have kc:=(HN.out.below HL.out).kv k x hx
   obtain⟨Ak,ca,hxe,hxl,hxk⟩:=HN.out.kids x (List.mem_of_getElem? hx)
   rw [hxe] at kc
   have HXK:=hid hxk
   have HKV:=hid (show ∀ W,Below w.heap.size w W→W.cell? ⟨b,o+k * 5+3,none⟩=some (.slice Ak x.1.kids.length ca) from fun W hb=>by rw [← hxe];exact (HN.out.below hb).kv k x hx)
   clear hx hxe hxk
   have hbl:=HN.out.lt
   have hmx:max ((v:Nat):Int) 1=((max v 1:Nat):Int):=by omega
   obtain⟨u,hu⟩:∃ u,u=max v 1:=⟨_,rfl⟩
   rw [← hu] at hmx
   have H1:=hid (show (dOne k D).getD k 0=u by rw [dOne_get k D (by rw [HDL.out];omega),← HV.out,hu])
   have HO:=hid (show D.set k u=dOne k D by rw [← max_dOne k D (by rw [HDL.out];omega),← HV.out,hu])
   have HA1:=hid (HA.out.dOne (i:=k) (by omega))
   have hv1:u≤n - (k+1)+1:=by have:=HA1.out k;rw [H1.out] at this;exact this
   have HD1:=hid (dOne_len k D)
   clear hu
   go_wp2_with fail
   have HB1:=hid (show Blk (wr.setCell ⟨w.heap.size+1,k,none⟩ (.int .i64 u)) (w.heap.size+1) 3 (iA (dOne k D)) from (by rw [← HO.out,← iA_set];exact HB.out.set_ k _))
   have HT1:=hid (show Blk (wr.setCell ⟨w.heap.size+1,k,none⟩ (.int .i64 u)) w.heap.size 26 #[.slice (some ⟨b,o,none⟩) n c,.slice B m d] from HT.out.far (by simp) _)
   have HL1:=hid (show Below w.heap.size w (wr.setCell ⟨w.heap.size+1,k,none⟩ (.int .i64 u)) from bset HL.out (by simp))
   clear hmx dk fk
   go_loopw [5] (fun j wr_1=>∃ (jn:Nat) (D':List Nat),jn≤x.1.kids.length∧j=.int .i64 jn∧Hid (D'.length=n)∧Hid (Blk wr_1 (w.heap.size+1) 3 (iA D'))∧Hid (Blk wr_1 w.heap.size 26 #[.slice (some ⟨b,o,none⟩) n c,.slice B m d])∧Hid (dKids u (x.1.kids.drop jn) D'=dStep (nds xs) k D)∧Hid (D'.getD k 0=u)∧Hid (AllLe (n - k+1) D')∧Hid (Below w.heap.size w wr_1)) (fun j _=>x.1.kids.length - (intOf j).toNat)
   case atStart=>exact⟨0,dOne k D,Nat.zero_le _,rfl,hid (HD1.out.trans HDL.out),HB1,HT1,hid (by rw [List.drop_zero,dStep,H1.out,nds_kids HX.out]),H1,hid (HA1.out.mono (by omega)),HL1⟩
   case round =>
    obtain⟨jn,D',hj,rfl,HDLj,HBj,HTj,HDK,HVV,HAA,HLL⟩:=hrel
    have tc0:=HTj.out.cell 0
    have tc1:=HTj.out.cell 1
    have kc:=HKV.out wr HLL.out
    by_cases hjl:jn < x.1.kids.length
    case pos =>
     obtain⟨bk,ok,rfl,hbk,hck⟩:=HXK.out (by omega)
     obtain⟨kq,hkq⟩:∃ kq,x.1.kids[jn]? = some kq:=⟨_,List.getElem?_eq_getElem hjl⟩
     have hwf:=HW.out k x.1 (by unfold nds;rw [List.getElem?_map,HX.out];rfl) kq (List.mem_of_getElem? hkq)
     obtain⟨kn,rfl⟩:∃ kn:Nat,kq=(kn:Int):=⟨kq.toNat,by omega⟩
     have cj:=(HLL.out.cell (p:=⟨bk,ok+jn,none⟩) hbk).trans (hck jn kn hkq)
     have HDR:=hid (show x.1.kids.drop jn=(kn:Int) :: x.1.kids.drop (jn+1) by
      rw [List.drop_eq_getElem_cons hjl,(List.getElem?_eq_some_iff.1 hkq).2])
     have ck:wr.cell? ⟨w.heap.size+1,k,none⟩=some (.int .i64 ((u:Nat):Int)):=by
      rw [HBj.out.cell k,iA_get D' k (by rw [HDLj.out];omega),HVV.out]
     have fn:=HBj.out.frozen kn
     have cn:wr.cell? ⟨w.heap.size+1,kn,none⟩=some (.int .i64 ((D'.getD kn 0:Nat):Int)):=by
      rw [HBj.out.cell kn,iA_get D' kn (by rw [HDLj.out];omega)]
     have k1:(0:Int)≤(kn:Int):=by omega
     have k2:(kn:Int) < (n:Int):=by omega
     have hkk:kn < k:=by omega
     clear hck hkq hwf
     have j1:decide ((jn:Int) < (x.1.kids.length:Int))=true:=decide_eq_true (by omega)
     have j2:decide (jn < x.1.kids.length)=true:=decide_eq_true hjl
     have w1:IntKind.i64.wrap ((u:Int)+1)=(u:Int)+1:=IntWalk.i64_in _ (by omega)
     have j3:(0:Int)≤(jn:Int):=by omega
     have j4:(jn:Int) < (x.1.kids.length:Int):=by omega
     go_wp2_with fail
     go_region
     go_wp2_with fail
     refine⟨⟨jn+1,D'.set kn (u+1),by omega,by go_num,hid (by rw [List.length_set];exact HDLj.out),hid (Blk.drew (by rw [← iA_set];exact HBj.out.set_ kn _)),hid (Blk.drew (HTj.out.far (by simp) _)),hid (by have h9:=HDK.out;rw [HDR.out] at h9;exact h9),hid (by rw [getD_set,if_neg (by omega)];exact HVV.out),hid (HAA.out.set (by omega)),hid (Below.drew (bset HLL.out (by simp)))⟩,by simp [intOf];omega⟩
    case neg =>
     have HDE:=hid (show D'=dStep (nds xs) k D by have h9:=HDK.out;rw [List.drop_of_length_le (by omega)] at h9;exact h9)
     have j1:decide ((jn:Int) < (x.1.kids.length:Int))=false:=decide_eq_false (by omega)
     have j2:decide (jn < x.1.kids.length)=false:=decide_eq_false hjl
     go_wp2_with fail
     refine⟨⟨k,D',by omega,by go_num,HDLj,HBj,HTj,hid (by rw [HDE.out];exact HD.out),HAA,HLL⟩,by (first|(simp [intOf];done)|(simp [intOf];omega))⟩
end Go.Proofs.YthepmkjggfijoaaGreatDoor
namespace Go.Proofs.YthepmkjggfijoaaGreatDoor
open Go.RowKit Mist
theorem maxOf_fold:∀ (l:List Nat),l ≠ []→Lib.maxOf (l.map fun (d:Nat)=>(d:Int))=((l.foldl max 0:Nat):Int):=by
 intro l h
 obtain⟨a,r,rfl⟩:=List.exists_cons_of_ne_nil h
 show (((a :: r).map fun (d:Nat)=>(d:Int)).foldl max (a:Int))=_
 rw [foldl_max]
 simp
theorem foldl_take (l:List Nat)(k:Nat)(h:k < l.length):(l.take (k+1)).foldl max 0=max ((l.take k).foldl max 0) (l.getD k 0):=by
 rw [List.take_add_one,List.getElem?_eq_getElem h,List.foldl_append]
 simp [List.getD_eq_getElem?_getD,List.getElem?_eq_getElem h]
theorem deepestOf_eq (ns:List Nd):deepestOf ns=(((depthsOf ns).foldl max 0:Nat):Int):=by
 unfold deepestOf
 split
 ·rename_i h
  rw [List.length_eq_zero_iff.1 h];rfl
 ·rename_i h
  exact maxOf_fold _ (fun e=>h (by have:=congrArg List.length e;unfold depthsOf at this;rw [dRun_len,List.length_replicate] at this;exact this))
theorem rdeepest_any (A B:Option Addr)(c m d:Nat)(xs:List NV)(its:List Int)(w:World)(hT:TAt w A B xs its)(hW:Wf (nds xs))(hn:xs.length≤100000) :
  Calls Tryz.prog 57 #[.agg #[.slice A xs.length c,.slice B m d]] w fun e w'=>e=.returned (.int .i64 (deepestOf (nds xs)))∧Below w.heap.size w w':=by
 have HD:=hid fun W (hb:Below w.heap.size w W)=>rdepths_any A B c m d xs its W (hT.below hb) hW hn
 have HX:=hid (deepestOf_eq (nds xs))
 have HDL:=hid (show (depthsOf (nds xs)).length=xs.length by unfold depthsOf;rw [dRun_len,List.length_replicate,nds_len])
 clear hT hW
 obtain⟨n,hnn⟩:∃ n,n=xs.length:=⟨_,rfl⟩
 rw [← hnn] at HD HDL hn ⊢
 clear hnn
 have HL0:=hid (balloc (Below.refl w.heap.size w) (Nat.le_refl _) (o:=.cells #[.slice A n c,.slice B m d] 26))
 go_enter Tryz.func57,Tryz.ntmps57
 go_wp2_with fail
 refine (HD.out _ HL0.out).mono ?_
 rintro e w1⟨g,rfl,hg,hb,hl⟩
 have HB:=hid hb;clear hb
 have HL:=hid (HL0.out.trans (hl.mono HL0.out.size));clear hl HL0
 obtain⟨D,hD⟩:∃ D,D=depthsOf (nds xs):=⟨_,rfl⟩
 rw [← hD] at HX HDL HB
 clear hD HD
 go_wp2_with fail
 go_loopw [3,5] (fun v i wr=>∃ (k u:Nat),wr=w1∧k≤n∧i=.int .i64 k∧v=.int .i64 u∧Hid (u=(D.take k).foldl max 0)) (fun _ i _=>n - (intOf i).toNat)
 case atStart=>exact⟨0,0,rfl,Nat.zero_le _,rfl,rfl,hid rfl⟩
 case round =>
  obtain⟨k,u,rfl,hk,rfl,rfl,HU⟩:=hrel
  by_cases hkn:k < n
  ·have i3:decide (k < n)=true:=decide_eq_true hkn
   have ck:=HB.out.cell k
   rw [iA_get D k (by rw [HDL.out];exact hkn)] at ck
   have HF:=hid (foldl_take D k (by rw [HDL.out];exact hkn))
   rw [← HU.out] at HF
   obtain⟨q,hq⟩:∃ q,q=D.getD k 0:=⟨_,rfl⟩
   rw [← hq] at ck HF
   clear hq
   have z0:(0:Int)≤(k:Int):=by omega
   have z1:(k:Int) < (n:Int):=by omega
   have hmx:max (u:Int) (q:Int)=((max u q:Nat):Int):=by omega
   obtain⟨v,hv⟩:∃ v,v=max u q:=⟨_,rfl⟩
   rw [← hv] at hmx HF
   clear hv
   go_wp2_with fail
   exact⟨⟨k+1,v,by first | rfl | trivial,by omega,by go_num,rfl,hid HF.out.symm⟩,by simp [intOf];omega⟩
  ·have i3:decide (k < n)=false:=decide_eq_false hkn
   have HE:=hid (show ((u:Nat):Int)=deepestOf (nds xs) by rw [HX.out,HU.out,List.take_of_length_le (by rw [HDL.out];omega)])
   go_wp2_with fail
   go_ret
   exact⟨by rw [← HE.out];rfl,HL.out⟩
end Go.Proofs.YthepmkjggfijoaaGreatDoor
namespace Go.Proofs.YthepmkjggfijoaaGreatDoor
open Go.RowKit Mist
attribute [local go_sem] ofL_extract ofL_size ofL_get ofL_bytes ofL_append
def ChooseAt (xs:List NV)(x:Nd):Prop:=x.kind=40→∃ (p q:Nat) (y z:NV),x.kids[0]? = some (p:Int)∧x.kids[1]? = some (q:Int)∧xs[p]? = some y∧xs[q]? = some z∧(-100000≤y.1.n∧y.1.n≤100000)∧(-100000≤z.1.n∧z.1.n≤100000)
theorem rsized_any (A B:Option Addr)(c m d i:Nat)(xs:List NV)(its:List Int)(x:NV)(w:World)(hT:TAt w A B xs its)(hx:xs[i]? = some x)(hn:xs.length≤10000)(hC:ChooseAt xs x.1) :
  Calls Tryz.prog 58 #[.agg #[.slice A xs.length c,.slice B m d],.int .i64 i] w fun e w'=>e=.returned (.bool (rsized ⟨nds xs,its⟩ x.1))∧Below w.heap.size w w':=by
 have hil:i < xs.length:=(List.getElem?_eq_some_iff.1 hx).1
 obtain⟨b,o,rfl,hA⟩:=hT.nodes (by omega)
 have HA:=hid hA
 have c0:=hA.c0 i x hx
 have c1:=hA.c1 i x hx
 have c2:=hA.c2 i x hx
 have c3:=hA.c3 i x hx
 have c4:=hA.c4 i x hx
 have hbl:=hA.lt
 obtain⟨Ka,ca,hxe,hxl,hxk⟩:=hA.kid hx
 rw [hxe] at c3
 have HXK:=hid hxk
 clear hA hxe hxk hT
 obtain⟨n,hnn⟩:∃ n,n=xs.length:=⟨_,rfl⟩
 rw [← hnn] at hn hil ⊢
 have HN:=hid hnn;clear hnn
 have HC:=hid hC;clear hC
 clear hx
 obtain⟨⟨k,tx,nn,ks,at_⟩,xv⟩:=x
 obtain⟨nk,hnk⟩:∃ nk,nk=ks.length:=⟨_,rfl⟩
 simp only at c0 c1 c2 c3 c4 hxl HC HXK ⊢
 rw [← hnk] at c3 hxl
 have HNK:=hid hnk;clear hnk
 have z0:(0:Int)≤(i:Int):=by omega
 have z1:(i:Int) < (n:Int):=by omega
 have HL0:=hid (balloc (balloc (Below.refl w.heap.size w) (Nat.le_refl _) (o:=.cells #[.slice (some ⟨b,o,none⟩) n c,.slice B m d] 26)) (by simp) (o:=.cells #[.int .u8 k,.string (ofL tx),.int .i64 nn,.slice Ka nk ca,.int .i64 at_] 50))
 have HS:=hid (show rsized ⟨nds xs,its⟩ ⟨k,tx,nn,ks,at_⟩=(if k=40 then decide ((nd ⟨nds xs,its⟩ (ks.getD 0 0).toNat).n≤(nd ⟨nds xs,its⟩ (ks.getD 1 0).toNat).n) && decide ((nd ⟨nds xs,its⟩ (ks.getD 1 0).toNat).n - (nd ⟨nds xs,its⟩ (ks.getD 0 0).toNat).n+1≤12)
   else if k=41 then decide (nk≤6) else if k=42 then decide ((nk:Int) - 2≤4) && decide (nn≤8) else if k=33 then within nn 1 6 else if k=26 then decide (nk≤6) else if k=46 then decide (nk≤4) else true) by rw [HNK.out];rfl)
 go_enter Tryz.func58,Tryz.ntmps58
 by_cases h40:k=40
 ·subst h40
  obtain⟨p,q,y,z,hp,hq,hy,hz,hyb,hzb⟩:=HC.out rfl
  obtain⟨bk,ok,rfl,hbk,hck⟩:=HXK.out.ex (by show 0 < ks.length;have:=(List.getElem?_eq_some_iff.1 hp).1;omega)
  have k0:=hck 0 p hp
  rw [Nat.add_zero] at k0
  have k1:=hck 1 q hq
  have n2:1 < nk:=by rw [HNK.out];exact (List.getElem?_eq_some_iff.1 hq).1
  have py:=HA.out.c2 p y hy
  have pz:=HA.out.c2 q z hz
  have hpn:p < n:=by rw [HN.out];exact (List.getElem?_eq_some_iff.1 hy).1
  have hqn:q < n:=by rw [HN.out];exact (List.getElem?_eq_some_iff.1 hz).1
  have HSS:=hid (show rsized ⟨nds xs,its⟩ ⟨40,tx,nn,ks,at_⟩=(decide (y.1.n≤z.1.n) && decide (z.1.n - y.1.n+1≤12)) by
   rw [HS.out,if_pos rfl]
   rw [show ks.getD 0 0=(p:Int) by rw [List.getD_eq_getElem?_getD,hp];rfl,show ks.getD 1 0=(q:Int) by rw [List.getD_eq_getElem?_getD,hq];rfl,Int.toNat_natCast,Int.toNat_natCast,nd_nds its hy,nd_nds its hz])
  clear hck hp hq hy hz
  obtain⟨u,hu⟩:∃ u,u=y.1.n:=⟨_,rfl⟩
  obtain⟨v,hv⟩:∃ v,v=z.1.n:=⟨_,rfl⟩
  rw [← hu] at py hyb HSS
  rw [← hv] at pz hzb HSS
  clear hu hv
  have y0:(0:Int)≤(p:Int):=by omega
  have y1:(p:Int) < (n:Int):=by omega
  have y2:(0:Int)≤(q:Int):=by omega
  have y3:(q:Int) < (n:Int):=by omega
  have y4:(0:Int) < (nk:Int):=by omega
  have y5:(1:Int) < (nk:Int):=by omega
  go_wp2_with fail
  go_region
  by_cases h1:u≤v
  ·have d1:decide (u≤v)=true:=decide_eq_true h1
   go_wp2_with fail
   go_ret
   exact⟨by rw [HSS.out,d1];rfl,by first | exact Below.drew HL0.out | exact HL0.out⟩
  ·have d1:decide (u≤v)=false:=decide_eq_false h1
   go_wp2_with fail
   go_ret
   exact⟨by rw [HSS.out,d1];rfl,by first | exact Below.drew HL0.out | exact HL0.out⟩
 have e40:((k:Int) == 40)=false:=by rw [beq_eq_false_iff_ne];omega
 by_cases h41:k=41
 ·subst h41
  have HSS:=hid (show rsized ⟨nds xs,its⟩ ⟨41,tx,nn,ks,at_⟩=(decide (nk≤6)) by rw [HS.out];simp)
  clear HS
  by_cases h1:nk≤6
  ·have d1:decide (nk≤6)=true:=decide_eq_true h1
   have d1':decide ((nk:Int)≤6)=true:=decide_eq_true (by omega)
   clear h1
   go_wp2_with fail
   go_ret
   exact⟨by rw [HSS.out,d1];rfl,HL0.out⟩
  ·have d1:decide (nk≤6)=false:=decide_eq_false h1
   have d1':decide ((nk:Int)≤6)=false:=decide_eq_false (by omega)
   clear h1
   go_wp2_with fail
   go_ret
   exact⟨by rw [HSS.out,d1];rfl,HL0.out⟩
 have e41:((k:Int) == 41)=false:=by rw [beq_eq_false_iff_ne];omega
 by_cases h42:k=42
 ·subst h42
  have HSS:=hid (show rsized ⟨nds xs,its⟩ ⟨42,tx,nn,ks,at_⟩=(decide ((nk:Int) - 2≤4) && decide (nn≤8)) by rw [HS.out];simp)
  clear HS
  have w1:IntKind.i64.wrap ((nk:Int) - 2)=(nk:Int) - 2:=IntWalk.i64_in _ (by omega)
  by_cases h1:(nk:Int) - 2≤4
  ·have d1:decide ((nk:Int) - 2≤4)=true:=decide_eq_true h1
   by_cases h2:nn≤8
   ·have d2:decide (nn≤8)=true:=decide_eq_true h2
    go_wp2_with fail
    go_ret
    exact⟨by rw [HSS.out,d1,d2];rfl,HL0.out⟩
   ·have d2:decide (nn≤8)=false:=decide_eq_false h2
    go_wp2_with fail
    go_ret
    exact⟨by rw [HSS.out,d1,d2];rfl,HL0.out⟩
  ·have d1:decide ((nk:Int) - 2≤4)=false:=decide_eq_false h1
   go_wp2_with fail
   go_ret
   exact⟨by rw [HSS.out,d1];rfl,HL0.out⟩
 have e42:((k:Int) == 42)=false:=by rw [beq_eq_false_iff_ne];omega
 by_cases h33:k=33
 ·subst h33
  have HSS:=hid (show rsized ⟨nds xs,its⟩ ⟨33,tx,nn,ks,at_⟩=(decide (1≤nn) && decide (nn≤6)) by rw [HS.out];simp [within])
  clear HS
  by_cases h1:1≤nn
  ·have d1:decide (1≤nn)=true:=decide_eq_true h1
   by_cases h2:nn≤6
   ·have d2:decide (nn≤6)=true:=decide_eq_true h2
    go_wp2_with fail
    go_ret
    exact⟨by rw [HSS.out,d1,d2];rfl,HL0.out⟩
   ·have d2:decide (nn≤6)=false:=decide_eq_false h2
    go_wp2_with fail
    go_ret
    exact⟨by rw [HSS.out,d1,d2];rfl,HL0.out⟩
  ·have d1:decide (1≤nn)=false:=decide_eq_false h1
   go_wp2_with fail
   go_ret
   exact⟨by rw [HSS.out,d1];rfl,HL0.out⟩
 have e33:((k:Int) == 33)=false:=by rw [beq_eq_false_iff_ne];omega
 by_cases h26:k=26
 ·subst h26
  have HSS:=hid (show rsized ⟨nds xs,its⟩ ⟨26,tx,nn,ks,at_⟩=(decide (nk≤6)) by rw [HS.out];simp)
  clear HS
  by_cases h1:nk≤6
  ·have d1:decide (nk≤6)=true:=decide_eq_true h1
   have d1':decide ((nk:Int)≤6)=true:=decide_eq_true (by omega)
   clear h1
   go_wp2_with fail
   go_ret
   exact⟨by rw [HSS.out,d1];rfl,HL0.out⟩
  ·have d1:decide (nk≤6)=false:=decide_eq_false h1
   have d1':decide ((nk:Int)≤6)=false:=decide_eq_false (by omega)
   clear h1
   go_wp2_with fail
   go_ret
   exact⟨by rw [HSS.out,d1];rfl,HL0.out⟩
 have e26:((k:Int) == 26)=false:=by rw [beq_eq_false_iff_ne];omega
 by_cases h46:k=46
 ·subst h46
  have HSS:=hid (show rsized ⟨nds xs,its⟩ ⟨46,tx,nn,ks,at_⟩=(decide (nk≤4)) by rw [HS.out];simp)
  clear HS
  by_cases h1:nk≤4
  ·have d1:decide (nk≤4)=true:=decide_eq_true h1
   have d1':decide ((nk:Int)≤4)=true:=decide_eq_true (by omega)
   clear h1
   go_wp2_with fail
   go_ret
   exact⟨by rw [HSS.out,d1];rfl,HL0.out⟩
  ·have d1:decide (nk≤4)=false:=decide_eq_false h1
   have d1':decide ((nk:Int)≤4)=false:=decide_eq_false (by omega)
   clear h1
   go_wp2_with fail
   go_ret
   exact⟨by rw [HSS.out,d1];rfl,HL0.out⟩
 have e46:((k:Int) == 46)=false:=by rw [beq_eq_false_iff_ne];omega
 have HSS:=hid (show rsized ⟨nds xs,its⟩ ⟨k,tx,nn,ks,at_⟩=true by rw [HS.out];simp [*])
 clear HS
 go_wp2_with fail
 go_ret
 exact⟨by rw [HSS.out];rfl,HL0.out⟩
end Go.Proofs.YthepmkjggfijoaaGreatDoor
namespace Go.Proofs.YthepmkjggfijoaaGreatDoor
open Go.RowKit Mist
attribute [local go_sem] ofL_extract ofL_size ofL_get ofL_bytes ofL_append
theorem right_choose {T:Tr}{xs:List NV}(hT:T.nodes=nds xs)(hW:Wf T.nodes)(hr:∀ i,i < T.nodes.length→rightK T i=true){i:Nat}{x:NV}(hx:xs[i]? = some x):ChooseAt xs x.1:=by
 intro h40
 have hi:i < T.nodes.length:=by rw [hT,nds_len];exact (List.getElem?_eq_some_iff.1 hx).1
 have hnd:nd T i=x.1:=nd_of (by rw [hT];exact nds_get hx)
 have h:=hr i hi
 rw [rightK_parts,hnd] at h
 simp only [Bool.and_eq_true,List.all_eq_true,List.mem_range] at h
 obtain⟨⟨_,ho⟩,hk⟩:=h
 unfold ownR at ho
 simp only [Bool.and_eq_true] at ho
 have hm:=ho.1.1.2
 rw [manyN_eq] at hm
 have hl:x.1.kids.length=2:=by
  unfold manyN at hm
  simpa [h40] using hm
 have one:∀ j,j < 2→∃ (p:Nat) (y:NV),x.1.kids[j]? = some (p:Int)∧xs[p]? = some y∧(-100000≤y.1.n∧y.1.n≤100000):=by
  intro j hj
  obtain⟨q,hq⟩:∃ q,x.1.kids[j]? = some q:=⟨_,List.getElem?_eq_getElem (by omega)⟩
  have hw:=hW i x.1 (by rw [hT];exact nds_get hx) q (List.mem_of_getElem? hq)
  obtain⟨p,rfl⟩:∃ p:Nat,q=(p:Int):=⟨q.toNat,by omega⟩
  have hp:p < T.nodes.length:=by omega
  obtain⟨y,hy⟩:∃ y,xs[p]? = some y:=xs_at (by rw [hT,nds_len] at hp;exact hp)
  have hyd:nd T p=y.1:=nd_of (by rw [hT];exact nds_get hy)
  have hkj:=hk j (by omega)
  unfold kidR at hkj
  rw [List.getD_eq_getElem?_getD,hq] at hkj
  simp only [Option.getD_some,Int.toNat_natCast,hyd,Bool.and_eq_true] at hkj
  have h1:y.1.kind=1:=by
   have:=hkj.1
   unfold kidK at this
   simpa [h40] using this
  have hry:=hr p hp
  rw [rightK_parts,hyd] at hry
  simp only [Bool.and_eq_true] at hry
  have hn:=hry.1.2
  unfold ownR at hn
  simp only [Bool.and_eq_true] at hn
  have hnn:=hn.1.2
  unfold numberK at hnn
  simp [h1,within] at hnn
  exact⟨p,y,hq,hy,by omega⟩
 obtain⟨p,y,h1,h2,h3⟩:=one 0 (by omega)
 obtain⟨q,z,h4,h5,h6⟩:=one 1 (by omega)
 exact⟨p,q,y,z,h1,h4,h2,h5,h3,h6⟩
theorem formT_right {T:Tr}(h:formT T=true):(∀ i,i < T.nodes.length→rightK T i=true)∧Wf T.nodes:=by
 obtain⟨hr,h2⟩:=(formT_iff T).1 h
 refine⟨h2,?_⟩
 obtain⟨sz,_,h3⟩:=Rooted.sizes hr.fo
 exact szOk_wf h3
theorem checkR_any (A B:Option Addr)(c d:Nat)(xs:List NV)(its:List Int)(w:World)(hT:TAt w A B xs its)(hn:xs.length≤10000)(hm:its.length≤10000)(hl:∀ x ∈ xs,x.1.text.length≤100000000) :
  Calls Tryz.prog 23 #[.agg #[.slice A xs.length c,.slice B its.length d]] w fun e w'=>e=.returned (.int .i64 (rcheckW ⟨nds xs,its⟩))∧Below w.heap.size w w':=by
 have HFO:=hid fun W (hb:Below w.heap.size w W)=>rform_any A B c d xs its W (hT.below hb) hn hm hl
 have HDE:=hid fun W (hb:Below w.heap.size w W) hW=>rdeepest_any A B c its.length d xs its W (hT.below hb) hW (by omega)
 have HSZ:=hid fun W (hb:Below w.heap.size w W) i x hx hC=>rsized_any A B c its.length d i xs its x W (hT.below hb) hx hn hC
 obtain⟨T,hTT⟩:∃ T:Tr,T=⟨nds xs,its⟩:=⟨_,rfl⟩
 rw [← hTT] at HFO HSZ ⊢
 have HNS:=hid (show T.nodes=nds xs by rw [hTT])
 have HTN:=hid (show T.nodes.length=xs.length by rw [hTT];exact nds_len xs)
 have HLG:=hid (show Mist.large T=(decide (800 < xs.length) || decide (60 < its.length)) by rw [hTT];unfold Mist.large;simp only [nds_len])
 clear hTT hl hT
 obtain⟨n,hnn⟩:∃ n,n=xs.length:=⟨_,rfl⟩
 obtain⟨m,hmm⟩:∃ m,m=its.length:=⟨_,rfl⟩
 rw [← hnn] at HFO HDE HSZ HTN HLG hn ⊢
 rw [← hmm] at HFO HDE HSZ HLG hm ⊢
 have HN:=hid hnn;clear hnn
 clear hmm
 have HB0:=hid (Blk.new w 26 #[.slice A n c,.slice B m d])
 have HL0:=hid (balloc (Below.refl w.heap.size w) (Nat.le_refl _) (o:=.cells #[.slice A n c,.slice B m d] 26))
 go_enter Tryz.func23,Tryz.ntmps23
 by_cases h1:800 < n
 ·have d1:decide (800 < n)=true:=decide_eq_true h1
  have d1':decide ((800:Int) < (n:Int))=true:=decide_eq_true (by omega)
  have HR:=hid (show rcheckW T=5 by unfold rcheckW;rw [if_pos (by rw [HLG.out,d1];rfl)])
  go_wp2_with fail
  go_ret
  exact⟨by rw [HR.out];rfl,HL0.out⟩
 have d1:decide (800 < n)=false:=decide_eq_false h1
 have d1':decide ((800:Int) < (n:Int))=false:=decide_eq_false (by omega)
 by_cases h2:60 < m
 ·have d2:decide (60 < m)=true:=decide_eq_true h2
  have d2':decide ((60:Int) < (m:Int))=true:=decide_eq_true (by omega)
  have HR:=hid (show rcheckW T=5 by unfold rcheckW;rw [if_pos (by rw [HLG.out,d1,d2];rfl)])
  go_wp2_with fail
  go_ret
  exact⟨by rw [HR.out];rfl,HL0.out⟩
 have d2:decide (60 < m)=false:=decide_eq_false h2
 have d2':decide ((60:Int) < (m:Int))=false:=decide_eq_false (by omega)
 have HLF:=hid (show ¬ Mist.large T=true by rw [HLG.out,d1,d2];simp)
 cases hf:formT T
 ·have HR:=hid (show rcheckW T=4 by unfold rcheckW;rw [if_neg HLF.out,if_pos hf])
  have HFF:=hid hf;clear hf
  go_wp2_with fail
  refine (HFO.out _ HL0.out).mono ?_
  rintro e w1⟨rfl,hb1⟩
  rw [HFF.out]
  go_wp2_with fail
  go_ret
  exact⟨by rw [HR.out];rfl,HL0.out.trans (hb1.mono HL0.out.size)⟩
 obtain⟨hright,hwf⟩:=formT_right hf
 have HRI:=hid hright
 have HWF:=hid hwf
 have HFF:=hid hf
 have HFN:=hid (show ¬ formT T=false by rw [hf];simp)
 clear hf hright hwf
 have HDT:=hid (show deepestOf (nds xs)=deepT T by unfold deepT;rw [HNS.out])
 go_wp2_with fail
 refine (HFO.out _ HL0.out).mono ?_
 rintro e w1⟨rfl,hb1⟩
 rw [HFF.out]
 have HB1:=hid (HB0.out.below hb1 HB0.out.lt)
 have HL1:=hid (HL0.out.trans (hb1.mono HL0.out.size))
 clear hb1 HB0 HL0
 have t0:=HB1.out.cell 0
 have t1:=HB1.out.cell 1
 go_wp2_with fail
 refine (HDE.out _ HL1.out (by rw [← HNS.out];exact HWF.out)).mono ?_
 rintro e w2⟨rfl,hb2⟩
 rw [HDT.out]
 have HB2:=hid (HB1.out.below hb2 HB1.out.lt)
 have HL2:=hid (HL1.out.trans (hb2.mono HL1.out.size))
 clear hb2 HB1 HL1 t0 t1
 obtain⟨D,hD⟩:∃ D,D=deepT T:=⟨_,rfl⟩
 rw [← hD]
 by_cases h30:30 < D
 ·have d3:decide (30 < D)=true:=decide_eq_true h30
  have HR:=hid (show rcheckW T=5 by unfold rcheckW;rw [if_neg HLF.out,if_neg HFN.out,if_pos (by rw [← hD];exact h30)])
  clear hD h30
  go_wp2_with fail
  go_ret
  exact⟨by rw [HR.out];rfl,HL2.out⟩
 have d3:decide (30 < D)=false:=decide_eq_false h30
 have HRC:=hid (show rcheckW T=if T.nodes.all (rsized T)=false then 3 else 0 by unfold rcheckW;rw [if_neg HLF.out,if_neg HFN.out,if_neg (by rw [← hD];exact h30)])
 clear hD h30
 go_wp2_with fail
 go_loopw [3] (fun i wr=>∃ k:Nat,k≤n∧i=.int .i64 k∧Hid (∀ (j:Nat) y,j < k→xs[j]? = some y→rsized T y.1=true)∧Hid (Blk wr w.heap.size 26 #[.slice A n c,.slice B m d])∧Hid (Below w.heap.size w wr)) (fun i _=>n - (intOf i).toNat)
 case atStart=>exact⟨0,Nat.zero_le _,rfl,hid (fun j y hj=>by omega),HB2,HL2⟩
 case round =>
  clear HB2 HL2
  obtain⟨k,hk,rfl,HK,HB,HL⟩:=hrel
  have t0:=HB.out.cell 0
  have t1:=HB.out.cell 1
  by_cases hkn:k < n
  ·have i3:decide (k < n)=true:=decide_eq_true hkn
   obtain⟨x,hx⟩:∃ x,xs[k]? = some x:=xs_at (by rw [← HN.out];exact hkn)
   have HC:=hid (right_choose HNS.out HWF.out HRI.out hx)
   have HX:=hid hx;clear hx
   cases hrs:rsized T x.1
   ·have HR:=hid (show rcheckW T=3 by
     rw [HRC.out,if_pos]
     rw [List.all_eq_false]
     exact⟨x.1,by rw [HNS.out];exact List.mem_of_getElem? (nds_get HX.out),by rw [hrs];simp⟩)
    have HRS:=hid hrs;clear hrs
    go_wp2_with fail
    refine (HSZ.out _ HL.out k x HX.out HC.out).mono ?_
    rintro e w3⟨rfl,hb3⟩
    rw [HRS.out]
    go_wp2_with fail
    go_ret
    exact⟨by rw [HR.out];rfl,HL.out.trans (hb3.mono HL.out.size)⟩
   ·have HRS:=hid hrs;clear hrs
    go_wp2_with fail
    refine (HSZ.out _ HL.out k x HX.out HC.out).mono ?_
    rintro e w3⟨rfl,hb3⟩
    rw [HRS.out]
    go_wp2_with fail
    exact⟨⟨k+1,by omega,by go_num,hid (fun j y hj hy=>by
     by_cases hjk:j=k
     ·subst hjk
      obtain rfl:=Option.some.inj (hy.symm.trans HX.out)
      exact HRS.out
     ·exact HK.out j y (by omega) hy),hid (HB.out.below hb3 HB.out.lt),hid (HL.out.trans (hb3.mono HL.out.size))⟩,by simp [intOf];omega⟩
  ·have i3:decide (k < n)=false:=decide_eq_false hkn
   have HR:=hid (show rcheckW T=0 by
    rw [HRC.out,if_neg]
    rw [Bool.not_eq_false,List.all_eq_true]
    intro y hy
    rw [HNS.out] at hy
    obtain⟨z,hz,rfl⟩:=List.mem_map.1 hy
    obtain⟨j,hj,hjz⟩:=List.mem_iff_getElem.1 hz
    exact HK.out j z (by rw [← HN.out] at hj;omega) (by rw [← hjz];exact List.getElem?_eq_getElem hj))
   go_wp2_with fail
   go_ret
   exact⟨by rw [HR.out];rfl,HL.out⟩
end Go.Proofs.YthepmkjggfijoaaGreatDoor
namespace Go.Proofs.YthepmkjggfijoaaGreatDoor
open Go.RowKit Mist
attribute [local go_sem] ofL_extract ofL_size ofL_get ofL_bytes ofL_append
structure RowsIn (g:Nat) (w:World) (nv iv:Value) (xs:List NV) (its:List Int):Prop where
 own:w.ownsRow g 50 5 nv xs.length (ndRow xs)
 kids:∀ x ∈ xs,w.ownsRow g 3 1 x.2 x.1.kids.length (intCells x.1.kids)
 row:w.ownsRow g 3 1 iv its.length (intCells its)
 far:∀ x ∈ xs,x.2.ownBlock=none∨x.2.ownBlock ≠ iv.ownBlock
theorem RowsIn.below {g:Nat}{w w':World}{nv iv:Value}{xs:List NV}{its:List Int}(h:RowsIn g w nv iv xs its)(hb:Below w.heap.size w w'):RowsIn g w' nv iv xs its :=
 ⟨own_below h.own hb,fun x hx=>own_below (h.kids x hx) hb,own_below h.row hb,h.far⟩
theorem RowsIn.add {g:Nat}{w w1:World}{tb:Nat}{nv nv' iv:Value}{xs:List NV}{its:List Int}{x:NV}(h:RowsIn g w nv iv xs its)(hB:Blk w tb 26 #[nv,iv])(hg:w.grownBy w1 nv.ownBlock)(hown:w1.ownsRow g 50 5 nv' (xs.length+1) (ndRow xs ++ ndCells x))(hk:w.ownsRow g 3 1 x.2 x.1.kids.length (intCells x.1.kids))(hf:x.2.ownBlock=none∨x.2.ownBlock ≠ iv.ownBlock) :
  RowsIn g (w1.setCell ⟨tb,0,none⟩ nv') nv' iv (xs ++ [x]) its∧Blk (w1.setCell ⟨tb,0,none⟩ nv') tb 26 #[nv',iv]:=by
 have hb:=hB.grown hg (fun e=>own_blk_ne h.own hB (by decide) e.symm)
 have keep:∀ {v:Value} {n:Nat} {cs:List Value},w.ownsRow g 3 1 v n cs→(w1.setCell ⟨tb,0,none⟩ nv').ownsRow g 3 1 v n cs:=fun hk =>
  ownsRow_setCell_other (hk.kept hg (own_own_ne hk h.own (by decide))) (own_blk_ne (hk.kept hg (own_own_ne hk h.own (by decide))) hb (by decide)) _
 refine⟨⟨?_,fun y hy=>?_,keep h.row,fun y hy=>?_⟩,?_⟩
 ·rw [List.length_append,ndRow_append]
  have e:ndRow [x]=ndCells x:=by simp [ndRow]
  rw [e]
  exact ownsRow_setCell_other hown (own_blk_ne hown hb (by decide)) _
 ·rcases List.mem_append.1 hy with hy | hy
  ·exact keep (h.kids y hy)
  ·rw [List.mem_singleton.1 hy];exact keep hk
 ·rcases List.mem_append.1 hy with hy | hy
  ·exact h.far y hy
  ·rw [List.mem_singleton.1 hy];exact hf
 ·have:=hb.set_ 0 nv';simpa using this
theorem RowsIn.far_blk {g:Nat}{w:World}{nv iv:Value}{xs:List NV}{its:List Int}{zb i:Nat}{cs:Array Value}{u:Value}(h:RowsIn g w nv iv xs its)(hz:Blk w zb 26 cs):RowsIn g (w.setCell ⟨zb,i,none⟩ u) nv iv xs its :=
 ⟨ownsRow_setCell_other h.own (own_blk_ne h.own hz (by decide)) u,fun x hx=>ownsRow_setCell_other (h.kids x hx) (own_blk_ne (h.kids x hx) hz (by decide)) u,ownsRow_setCell_other h.row (own_blk_ne h.row hz (by decide)) u,h.far⟩
theorem far_new {w w':World}{v iv:Value}{b b' e e' s s' n n':Nat}{xs ys:List Value}(h:w'.ownsRow b e s v n xs)(hb:w.heap.size≤b)(hi:w.ownsRow b' e' s' iv n' ys):v.ownBlock=none∨v.ownBlock ≠ iv.ownBlock:=by
 rcases h9:v.ownBlock with _ | q
 ·exact .inl rfl
 ·right
  intro e2
  have h1:=(h.lt q h9).1
  have h2:=(hi.lt q e2.symm).2
  omega
theorem copy_any (A B:Option Addr)(c d:Nat)(xs:List NV)(its:List Int)(w:World)(hT:TAt w A B xs its)(hn:xs.length≤10000)(hm:its.length≤10000)(hr:∀ x ∈ xs,∀ k ∈ x.1.kids,lowN≤k∧k≤highN) :
  Calls Tryz.prog 21 #[.agg #[.slice A xs.length c,.slice B its.length d]] w fun e w'=>Below w.heap.size w w'∧∃ nv iv ext,e=.returned (.agg #[nv,iv])∧RowsIn w.heap.size w' nv iv ext its∧nds ext=nds xs:=by
 obtain⟨n,hnn⟩:∃ n,n=xs.length:=⟨_,rfl⟩
 obtain⟨m,hmm⟩:∃ m,m=its.length:=⟨_,rfl⟩
 rw [← hnn] at hn ⊢
 rw [← hmm] at hm ⊢
 have HRD:=hid (ints_reads hT.items)
 rw [← hmm] at HRD
 have HNN:=hid hnn;clear hnn
 have HMM:=hid hmm;clear hmm
 have HT:=hid hT;clear hT
 have HR:=hid hr;clear hr
 obtain⟨i0,hi0,hz0,hz1,hz2⟩:=info_parts node_info
 obtain⟨j0,hj0,hy0,hy1,hy2⟩:=info_parts int_info
 go_enter Tryz.func21,Tryz.ntmps21
 have h0:=hid (((Below.refl w.heap.size w).alloc (Nat.le_refl _) (.cells #[.slice A n c,.slice B m d] 26)).alloc (by simp) (.cells #[.slice none 0 0,.slice none 0 0] 26))
 have h1:=hid (h0.out.alloc (by simp;omega) (.cells #[] 3))
 have HO0:=hid (World.ownsRow_made (base:=w.heap.size) (e:=3) (size:=1) ((w.alloc (.cells #[.slice A n c,.slice B m d] 26)).alloc (.cells #[.slice none 0 0,.slice none 0 0] 26)) #[] 0 (by simp;omega) (by simp [maxLen]) rfl)
 have hmb:m * 8≤140737488355328:=by omega
 have HRD2:=hid (HRD.out.below h1.out)
 go_wp2_with (at_builtin;go_loud (refine wpList_append_any _ rfl (.tmp 5) (.tmp 7) 24 rfl w.heap.size 3 j0 _ 1 8 Tryz.underlying24 hj0 hy0 hy1 hy2 rfl (by decide) (.slice (some ⟨w.heap.size+1+1,0,none⟩) 0 0) 0 [] rfl (by simpa using HO0.out) w.heap.size B m d (intCells its) rfl HRD2.out (by intro u hu;obtain⟨z,_,rfl⟩:=List.mem_map.1 hu;rfl) (by simp only [maxLen];omega) (by omega) (by simp;omega) ?_);intro v2 w2 hown2 hg2 _;rw [Nat.zero_add] at hown2;obtain⟨Av,cv,rfl⟩:=own_form hown2)
 have HG2:=hid hg2
 have HOW:=hid (show w2.ownsRow w.heap.size 3 1 (.slice Av m cv) m (intCells its) from by simpa using hown2)
 have HL2:=hid (show Below w.heap.size w w2 from h1.out.grown hg2 (by simp;omega) (fun k hk=>by have:=(HO0.out.lt k (by simpa using hk)).1;omega))
 have hBt:=(Blk.new w 26 #[.slice A n c,.slice B m d]).alloc (.cells #[.slice none 0 0,.slice none 0 0] 26)
 have HB2:=hid ((hBt.alloc (.cells #[] 3)).grown hg2 (fun e=>by first|(simp [Value.ownBlock] at e;done)|(simp [Value.ownBlock] at e;omega)))
 have hBz:=blk_topW (W:=w.alloc (.cells #[.slice A n c,.slice B m d] 26)) (T:=26) (cs:=#[.slice none 0 0,.slice none 0 0]) (k:=w.heap.size+1) (by simp)
 have HZ2:=hid ((hBz.alloc (.cells #[] 3)).grown hg2 (fun e=>by first|(simp [Value.ownBlock] at e;done)|(simp [Value.ownBlock] at e;omega)))
 have hsz2:=HL2.out.size
 have htb3:w.heap.size+1 < w2.heap.size:=HZ2.out.lt
 clear hown2 hg2 HG2 hBt hBz HO0 h0 h1 HRD HRD2 hmb
 have HR0:=hid (show RowsIn w.heap.size (w2.alloc (.cells #[.slice none 0 0,.slice Av m cv] 26)) (.slice none 0 0) (.slice Av m cv) [] its from
  ⟨World.ownsRow_nil _ _ _ _,(fun x hx=>by cases hx),by rw [← HMM.out];exact HOW.out.alloc _,(fun x hx=>by cases hx)⟩)
 have HT0:=hid (Blk.new w2 26 #[.slice none 0 0,.slice Av m cv])
 have HB0:=hid (HB2.out.alloc (.cells #[.slice none 0 0,.slice Av m cv] 26))
 have HZ0:=hid (HZ2.out.alloc (.cells #[.slice none 0 0,.slice Av m cv] 26))
 have HL0:=hid (balloc HL2.out hsz2 (o:=.cells #[.slice none 0 0,.slice Av m cv] 26))
 clear HB2 HZ2 HL2 HOW
 generalize w2.alloc (.cells #[.slice none 0 0,.slice Av m cv] 26)=w4 at HR0 HT0 HB0 HZ0 HL0 ⊢
 generalize w2.heap.size=tb at HT0 hsz2 htb3 ⊢
 go_loopw [4] (fun i wr=>∃ (k:Nat) (nv:Value) (ext:List NV),k≤n∧i=.int .i64 k∧ext.length=k∧Hid (nds ext=(nds xs).take k)∧Hid (RowsIn w.heap.size wr nv (.slice Av m cv) ext its)∧Hid (Blk wr tb 26 #[nv,.slice Av m cv])∧Hid (Blk wr w.heap.size 26 #[.slice A n c,.slice B m d])∧Hid (Blk wr (w.heap.size+1) 26 #[.slice none 0 0,.slice none 0 0])∧Hid (Below w.heap.size w wr)) (fun i _=>n - (intOf i).toNat)
 case atStart=>exact⟨0,_,[],Nat.zero_le _,rfl,rfl,hid rfl,HR0,HT0,HB0,HZ0,HL0⟩
 case round =>
  clear HR0 HT0 HB0 HZ0 HL0
  obtain⟨wo,rfl⟩:∃ wo:World,wo=wr:=⟨_,rfl⟩
  obtain⟨k,nv,ext,hk,rfl,hel,HEX,HRW,HTB,HB,HZ,HL⟩:=hrel
  have t0:=HB.out.cell 0
  have t1:=HB.out.cell 1
  by_cases hkn:k < n
  ·have i3:decide (k < n)=true:=decide_eq_true hkn
   obtain⟨An,cn,rfl⟩:=own_form HRW.out.own
   rw [hel] at HTB
   have HEL:=hid hel
   have u0:=HTB.out.cell 0
   have u1:=HTB.out.cell 1
   have uf:=HTB.out.frozen 0
   obtain⟨b,o,rfl,hNA⟩:=HT.out.nodes (by rw [← HNN.out];omega)
   obtain⟨x,hx⟩:∃ x,xs[k]? = some x:=xs_at (by rw [← HNN.out];exact hkn)
   have c0:=(HL.out.cell (p:=⟨b,o+k * 5,none⟩) hNA.lt).trans (hNA.c0 k x hx)
   have c1:=(HL.out.cell (p:=⟨b,o+k * 5+1,none⟩) hNA.lt).trans (hNA.c1 k x hx)
   have c2:=(HL.out.cell (p:=⟨b,o+k * 5+2,none⟩) hNA.lt).trans (hNA.c2 k x hx)
   have c3:=(HL.out.cell (p:=⟨b,o+k * 5+3,none⟩) hNA.lt).trans (hNA.c3 k x hx)
   have c4:=(HL.out.cell (p:=⟨b,o+k * 5+4,none⟩) hNA.lt).trans (hNA.c4 k x hx)
   obtain⟨Ka,ca,hxe,hxl,hxk⟩:=hNA.kid hx
   rw [hxe] at c3
   have HXK:=hid (hxk.below HL.out)
   have HXR:=hid (HR.out x (List.mem_of_getElem? hx))
   have HXG:=hid (nds_get hx)
   clear hNA hx hxe hxk hel
   obtain⟨⟨kd,tx,nn,ks,at_⟩,xv⟩:=x
   simp only at c0 c1 c2 c3 c4 hxl HXK HXR HXG
   obtain⟨nk,hnk⟩:∃ nk,nk=ks.length:=⟨_,rfl⟩
   rw [← hnk] at c3 hxl
   have HNK:=hid hnk;clear hnk
   have z0:(0:Int)≤(k:Int):=by omega
   have z1:(k:Int) < (n:Int):=by omega
   have HXD:=hid (show IntsIn wo.drew Ka ks from HXK.out.below (Below.drew (Below.refl _ _)))
   have hlo:=HL.out.size
   have htl:=HTB.out.lt
   have htg:w.heap.size≤tb:=hsz2
   go_wp2_with fail
   go_region_law ((first
    | (guard_target =~ ((if Region.wanted _ _=true then _ else _:Prop));refine step_append_lies _ (by rfl) _ _ _ (by rfl) w.heap.size 50 i0 _ 5 64 Tryz.underlying23 hi0 hz0 hz1 hz2 rfl (by omega) _ k (ndRow ext) (by rfl) (HOWN.out.alloc _) ⟨w5.heap.size,0,none⟩ 1 1 (ndCells (⟨kd,tx,nn,ks,at_⟩,.slice Ak nk ck)) (by rfl) (by rfl) (cells_new _ _ _) (by intro u hu;simp [ndCells] at hu;rcases hu with rfl | rfl | rfl | rfl | rfl <;> rfl) (by omega) (by simp only [maxLen];omega) (by omega) (by simp;omega) (w5.heap.size+1) (by simp) ?_;intro gg cap w6 hown6 hg6 hat6 hgl6;have kk:=(HT5.out.alloc (.cells #[.int .u8 kd,.string (ofL tx),.int .i64 nn,.slice Ak nk ck,.int .i64 at_] 50)).grown hg6 (fun e=>own_blk_ne HOWN.out HT5.out (by decide) e.symm);have c3':=kk.cell 0;have f3':=kk.frozen 0;clear kk)
    | (go_simp;go_at_call 60;go_loud (refine (moved_any kd tx nn at_ 0 Ka ca nk ks _ HNK.out HXD.out hxl (fun q hq=>by have h9:=HXR.out q hq;unfold lowN highN at h9;omega)).mono ?_;rintro e w5⟨hb5,kv,rfl,hk5⟩;rw [show ks.map (·+(0:Int))=ks by simp] at hk5;obtain⟨Ak,ck,rfl⟩:=own_form hk5;have HBW:=hid ((Below.drew (Below.refl wo.heap.size wo)).trans (hb5.mono (Nat.le_refl _)));have HR5:=hid (HRW.out.below HBW.out);have HT5:=hid (HTB.out.below HBW.out HTB.out.lt);have HK5:=hid (own_up hk5 (show w.heap.size≤_ by first|(simp;done)|(simp;omega)));have HFA:=hid (far_new hk5 (show wo.heap.size≤_ by first|(simp;done)|(simp;omega)) HRW.out.row);have HOWN:=hid (show w5.ownsRow w.heap.size 50 5 (.slice An k cn) k (ndRow ext) from by have h9:=HR5.out.own;rw [HEL.out] at h9;exact h9);have u5:=HT5.out.cell 0;have tl5:=HT5.out.lt;have f5:=HT5.out.frozen 0;have hs5:=HBW.out.size;clear hb5 hk5))))
   all_goals
    have HRA:=HR5.out.below (balloc (Below.refl w5.heap.size w5) (Nat.le_refl _) (o:=.cells #[.int .u8 kd,.string (ofL tx),.int .i64 nn,.slice Ak nk ck,.int .i64 at_] 50))
    have HTA:=HT5.out.alloc (.cells #[.int .u8 kd,.string (ofL tx),.int .i64 nn,.slice Ak nk ck,.int .i64 at_] 50)
    obtain⟨HRX,HTX⟩:=RowsIn.add (x:=(⟨kd,tx,nn,ks,at_⟩,.slice Ak nk ck)) (nv':=.slice (some ⟨gg,0,none⟩) (k+1) cap) HRA (by rw [HEL.out];exact HTA) (by rw [HEL.out];exact hg6) (by rw [HEL.out];exact hown6) (by show World.ownsRow _ _ _ 1 (.slice Ak nk ck) ks.length (intCells ks);rw [← HNK.out];exact HK5.out.alloc _) HFA.out
    have HB5:=HB.out.below HBW.out HB.out.lt
    have HZ5:=HZ.out.below HBW.out HZ.out.lt
    have HBX:=hid (((HB5.alloc (.cells #[.int .u8 kd,.string (ofL tx),.int .i64 nn,.slice Ak nk ck,.int .i64 at_] 50)).grown hg6 (fun e=>own_blk_ne HOWN.out HB5 (by decide) e.symm)).far (p:=⟨tb,0,none⟩) (by show w.heap.size ≠ tb;omega) (.slice (some ⟨gg,0,none⟩) (k+1) cap))
    have HZX:=hid (((HZ5.alloc (.cells #[.int .u8 kd,.string (ofL tx),.int .i64 nn,.slice Ak nk ck,.int .i64 at_] 50)).grown hg6 (fun e=>own_blk_ne HOWN.out HZ5 (by decide) e.symm)).far (p:=⟨tb,0,none⟩) (by show w.heap.size+1 ≠ tb;omega) (.slice (some ⟨gg,0,none⟩) (k+1) cap))
    have hl5:=(HL.out.trans (HBW.out.mono hlo)).size
    have HLX:=hid (bset (b:=tb) (i:=0) (u:=.slice (some ⟨gg,0,none⟩) (k+1) cap) ((balloc (HL.out.trans (HBW.out.mono hlo)) hl5 (o:=.cells #[.int .u8 kd,.string (ofL tx),.int .i64 nn,.slice Ak nk ck,.int .i64 at_] 50)).grown hg6 (by simp;omega) (fun q hq=>by have:=(HOWN.out.lt q hq).1;omega)) htg)
    have HEXT:=hid (show nds (ext ++ [(⟨kd,tx,nn,ks,at_⟩,.slice Ak nk ck)])=(nds xs).take (k+1) by
     rw [nds_append,HEX.out,List.take_add_one,HXG.out];rfl)
    have HRX2:=hid HRX
    have HTX2:=hid HTX
    clear HRX HTX HRA HTA HB5 HZ5 hg6 hown6 hat6 c3' f3' u5 f5
    go_wp2_with fail
    exact⟨⟨k+1,_,ext ++ [(⟨kd,tx,nn,ks,at_⟩,.slice Ak nk ck)],by omega,by go_num,by rw [List.length_append,HEL.out];rfl,HEXT,HRX2,HTX2,HBX,HZX,HLX⟩,by simp [intOf];omega⟩
  ·have i3:decide (k < n)=false:=decide_eq_false hkn
   have HXE:=hid (show nds ext=nds xs by rw [HEX.out,List.take_of_length_le (by rw [nds_len,← HNN.out];omega)])
   have u0:=HTB.out.cell 0
   have u1:=HTB.out.cell 1
   obtain⟨An,cn,rfl⟩:=own_form HRW.out.own
   rw [hel] at u0 HRW
   have v0:=HZ.out.cell 0
   have v1:=HZ.out.cell 1
   have g0:=HZ.out.frozen 0
   have g1:=HZ.out.frozen 1
   have HEL:=hid hel
   clear hel
   go_wp2_with fail
   have HZ9:=(HZ.out.set_ 0 (.slice An k cn)).set_ 1 (.slice Av m cv)
   have r0:=HZ9.cell 0
   have r1:=HZ9.cell 1
   refine bodyPost_ret (v:=.agg #[.slice An k cn,.slice Av m cv]) (by simp [results,Tryz.f21,go_sem,r0,r1]) rfl ?_
   exact⟨bset (bset HL.out (by omega)) (by omega),_,_,ext,rfl,(HRW.out.far_blk HZ.out).far_blk (HZ.out.set_ 0 _),HXE.out⟩
end Go.Proofs.YthepmkjggfijoaaGreatDoor
