/-
  PARTS of the proof: N8, N9.
-/
import Derived.Test.YthepmkjggfijoaaGreatDoorB06
import Derived.Test.YthepmkjggfijoaaGreatDoorB20
import Derived.Test.YthepmkjggfijoaaGreatDoorB23
import Derived.Test.YthepmkjggfijoaaGreatDoorB28
set_option linter.all false
set_option maxRecDepth 100000
set_option maxHeartbeats 4000000
open Go.Lib (hid)
namespace Go.Proofs.YthepmkjggfijoaaGreatDoor
open Go.RowKit Mist
attribute [local go_sem] ofL_extract ofL_size ofL_get ofL_bytes ofL_append
def kindCells (ks:List Nat):List Value:=ks.map fun (k:Nat)=>Value.int .u8 (k:Int)
theorem u8_info:(Tryz.prog.info? 5).map (fun i=>(i.zero,i.size,i.bytes))=some (some (.int .u8 0),1,1):=by kernel_rfl
theorem own_kinds {w:World} {base:Nat} {A:Option Addr} {n c:Nat} {ks:List Nat} (h:w.ownsRow base 5 1 (.slice A n c) n (kindCells ks)) (hn:n=ks.length):KindsIn w A ks:=by
 subst hn
 refine⟨fun h0=>?_⟩
 obtain⟨g,cap,hv,_,hlt⟩:=h.form h0
 have hA:A=some ⟨g,0,none⟩:=by injection hv
 subst hA
 refine⟨g,0,rfl,hlt,fun j k hk=>?_⟩
 have:=h.cells (g:=g) rfl j (.int .u8 k) (by simp [kindCells,hk])
 rw [add_none] at this
 exact this
theorem own_cap {w:World} {base e sz n c:Nat} {A:Option Addr} {ys:List Value} (h:w.ownsRow base e sz (.slice A n c) n ys):n≤c:=by
 rcases h.2 with ⟨hv,h0⟩ | ⟨g,cap,cur,hv,_,_,hc,_⟩
 ·omega
 ·injection hv with _ _ h3;omega
theorem fits_any' (nm:Bool) (lo hi:Int) (ps:List Part) (A:Option Addr) (pn c:Nat) (hpn:pn=ps.length) (ks:List Nat) (m:Nat) (hm:ks.length=m) (K:Option Addr) (kc:Nat) (w:World) (hP:PartsIn w A ps) (hpc:pn≤c) (hR:PartR ps) (hK:KindsIn w K ks) (hl:m≤1000000) (hkc:m≤kc) :
  Calls Tryz.prog 105 #[.agg #[.bool nm,.int .i64 lo,.int .i64 hi,.slice A pn c],.slice K m kc] w fun e w'=>e=.returned (.bool (Mist.fits ps ks))∧Below w.heap.size w w':=by
 subst hpn;subst hm
 exact fits_any nm lo hi ps A c ks K kc w hP hpc hR hK hl hkc
def PartsR (o:Option Shape):Prop:=∀ s,o=some s→PartR s.parts
theorem PartsR.ite {c:Prop} [Decidable c] {a b:Option Shape} (ha:PartsR a) (hb:PartsR b):PartsR (if c then a else b):=by
 split
 ·exact ha
 ·exact hb
theorem PartsR.some_ {s:Shape} (h:PartR s.parts):PartsR (some s):=fun t e=>by injection e with e;subst e;exact h
theorem PartsR.none_:PartsR none:=fun t e=>nomatch e
theorem asked_parts (n:Int):PartR (Mist.asked n).parts:=by
 unfold Mist.asked
 by_cases h7:n=7
 ·rw [if_pos h7];simp [PartR]
 ·rw [if_neg h7]
  by_cases h8:n=8
  ·rw [if_pos h8];simp [PartR]
  ·rw [if_neg h8];simp [PartR]
theorem shape_parts {k:Nat} {n:Int} {s:Shape} (h:Mist.shapeOf k n=some s):PartR s.parts:=by
 have key:PartsR (Mist.shapeOf k n):=by
  unfold Mist.shapeOf
  repeat' (refine PartsR.ite ?_ ?_)
  all_goals first | exact PartsR.none_ | exact PartsR.some_ (asked_parts n) | (refine PartsR.some_ ?_;simp [PartR])
 exact key s h
theorem formed_none {T:Tr} {i:Nat} (h:Mist.shapeOf (nd T i).kind (nd T i).n=none):Mist.formed T i=false:=by
 unfold Mist.formed;rw [h]
theorem formed_some {T:Tr} {i:Nat} {s:Shape} (h:Mist.shapeOf (nd T i).kind (nd T i).n=some s):Mist.formed T i=(Mist.within (nd T i).at_ 0 2000 && (s.named == !(nd T i).text.isEmpty) && (!s.named || Mist.isName (nd T i).text) && (nd T i).kids.all (Mist.within · 0 ((i:Int) - 1)) &&
  Mist.fits s.parts (kinds T (nd T i).kids) && (Mist.within (nd T i).n s.low s.high || ((nd T i).kind == 1 && Mist.within (nd T i).n (-9999) (-1)))):=by
 unfold Mist.formed;rw [h]
theorem formed_any (A B:Option Addr) (c m d:Nat) (xs:List NV) (its:List Int) (i:Nat) (w:World) (hT:TAt w A B xs its) (hR:TrR (nds xs)) (hE:Env w) (hi:i < xs.length) (hn:xs.length≤100000) :
  Calls Tryz.prog 61 #[.agg #[.slice A xs.length c,.slice B m d],.int .i64 i] w fun e w'=>e=.returned (.bool (Mist.formed ⟨nds xs,its⟩ i))∧Below w.heap.size w w':=by
 obtain⟨n,hnn⟩:∃ n,n=xs.length:=⟨_,rfl⟩
 rw [← hnn] at hi hn ⊢
 obtain⟨b,o,rfl,hN⟩:=hT.nodes (by omega)
 obtain⟨x,hx⟩:∃ x,xs[i]? = some x:=xs_at (by omega)
 have HND:=hid (nd_nds its hx)
 have hxr:=hR x.1 (List.mem_map_of_mem (List.mem_of_getElem? hx))
 have HNN:=hid hnn;clear hnn
 have HN:=hid hN
 have HE:=hid hE;clear hE hT
 have c0:=hN.c0 i x hx
 have c1:=hN.c1 i x hx
 have c2:=hN.c2 i x hx
 have c3:=hN.c3 i x hx
 have c4:=hN.c4 i x hx
 obtain⟨Ak,ck,hxe,hxl,hxk⟩:=hN.kid hx
 rw [hxe] at c3
 have HXK:=hid hxk
 have HX:=hid hx
 have hbl:=hN.lt
 clear hxk hx hxe hN
 obtain⟨nk,hnk⟩:∃ nk,nk=x.1.kids.length:=⟨_,rfl⟩
 rw [← hnk] at c3 hxl
 have HNK:=hid hnk;clear hnk
 have i1:(0:Int)≤(i:Int):=by omega
 have i2:(i:Int) < (n:Int):=by omega
 have htx:=hxr.text
 obtain⟨T,hTT⟩:∃ T:Tr,T=⟨nds xs,its⟩:=⟨_,rfl⟩
 rw [← hTT] at HND ⊢
 have HTT:=hid hTT;clear hTT
 have HRR:=hid hR;clear hR
 go_enter Tryz.func61,Tryz.ntmps61
 go_wp2_with fail
 refine (shapeOf_any x.1.kind x.1.text x.1.n x.1.at_ Ak nk ck _).mono ?_
 rintro e w2 ⟨nm,lo,hi,As,ns,cs,is,rfl,hb2,hs⟩
 have HT2:=hid (show Blk w2 w.heap.size 26 #[.slice (some ⟨b,o,none⟩) n c,.slice B m d] from Blk.below (by repeat (first | (with_reducible exact Blk.new _ _ _) | (with_reducible refine Blk.alloc ?_ _))) hb2 (by first | omega | (simp;done) | (simp;omega)))
 have HN2:=hid (show Blk w2 (w.heap.size+1) 50 #[.int .u8 x.1.kind,.string (ofL x.1.text),.int .i64 x.1.n,.slice Ak nk ck,.int .i64 x.1.at_] from Blk.below (by repeat (first | (with_reducible exact blk_top (by simp)) | (with_reducible refine Blk.alloc ?_ _))) hb2 (by first | omega | (simp;done) | (simp;omega)))
 have HL2:=hid (show Below w.heap.size w w2 from Below.trans (by repeat (first | (with_reducible exact Below.refl _ _) | (with_reducible refine balloc ?_ ?_) | omega | (simp;done) | (simp;omega))) (hb2.mono (by first | omega | (simp;done) | (simp;omega))))
 clear hb2
 have t0:=HT2.out.cell 0
 have n0:=HN2.out.cell 0
 have n1:=HN2.out.cell 1
 have n2:=HN2.out.cell 2
 have n3:=HN2.out.cell 3
 have n4:=HN2.out.cell 4
 have hl2:=HN2.out.lt
 have hl1:w.heap.size < w2.heap.size:=by omega
 rcases hsh:Mist.shapeOf x.1.kind x.1.n with _ | s
 ·rw [hsh] at hs
  subst hs
  have HF:=hid (formed_none (T:=T) (i:=i) (by rw [HND.out];exact hsh))
  clear hsh
  go_wp2_with fail
  go_ret
  exact⟨ret_bool HF.out.symm,balloc HL2.out HL2.out.size⟩
 ·rw [hsh] at hs
  obtain⟨rfl,rfl,rfl,rfl,rfl,hcs,hps⟩:=hs
  have HF:=hid (formed_some (T:=T) (i:=i) (by rw [HND.out];exact hsh))
  have HSH:=hid hsh
  have HPS:=hid hps
  clear hsh hps
  obtain⟨named,lo,hi,ps⟩:=s
  simp only at HF HPS hcs ⊢
  cases hw:Mist.within x.1.at_ 0 2000
  ·have HW:=hid hw;clear hw
   have HFF:=hid (show Mist.formed T i=false by rw [HF.out,HND.out,HW.out];rfl)
   go_wp2_with fail
   refine (within_any _ 0 2000 false HW.out _).mono ?_
   rintro e w3 ⟨rfl,rfl⟩
   go_wp2_with fail
   go_ret
   exact⟨ret_bool HFF.out.symm,balloc HL2.out HL2.out.size⟩
  ·have HW:=hid hw;clear hw
   cases hem:x.1.text.isEmpty
   ·have HEM:=hid hem
    cases named
    ·have HFF:=hid (show Mist.formed T i=false by rw [HF.out,HND.out,HW.out,HEM.out];rfl)
     go_wp2_with fail
     refine (within_any _ 0 2000 true HW.out _).mono ?_
     rintro e w3 ⟨rfl,rfl⟩
     go_wp2_with fail
     go_ret
     exact⟨ret_bool HFF.out.symm,balloc HL2.out HL2.out.size⟩
    ·cases hnm:Mist.isName x.1.text
     ·have HNM:=hid hnm;clear hnm
      have HFF:=hid (show Mist.formed T i=false by rw [HF.out,HND.out,HW.out,HEM.out,HNM.out];rfl)
      go_wp2_with fail
      refine (within_any _ 0 2000 true HW.out _).mono ?_
      rintro e w3 ⟨rfl,rfl⟩
      go_wp2_with fail
      refine (isName_any x.1.text _ ((HE.out.below HL2.out).alloc _) htx).mono ?_
      rintro e w3 ⟨rfl,hb3⟩
      rw [HNM.out]
      go_wp2_with fail
      go_ret
      exact⟨ret_bool HFF.out.symm,(balloc HL2.out HL2.out.size).trans (hb3.mono (by simp;have:=HL2.out.size;omega))⟩
     ·have HNM:=hid hnm;clear hnm
      go_wp2_with fail
      refine (within_any _ 0 2000 true HW.out _).mono ?_
      rintro e w3 ⟨rfl,rfl⟩
      go_wp2_with fail
      refine (isName_any x.1.text _ ((HE.out.below HL2.out).alloc _) htx).mono ?_
      rintro e w3 ⟨rfl,hb3⟩
      rw [HNM.out]
      have HT3':=(HT2.out.alloc (.cells #[.bool true,.int .i64 lo,.int .i64 hi,.slice As ps.length cs] 119)).below hb3 (by simp;omega)
      have HN3':=(HN2.out.alloc (.cells #[.bool true,.int .i64 lo,.int .i64 hi,.slice As ps.length cs] 119)).below hb3 (by simp;omega)
      have HS3':=blk_made hb3
      have HL3':=(balloc HL2.out HL2.out.size).trans (hb3.mono (by simp;have:=HL2.out.size;omega))
      have HP3':=(HPS.out.below (balloc (Below.refl _ _) (Nat.le_refl _) (o:=.cells #[.bool true,.int .i64 lo,.int .i64 hi,.slice As ps.length cs] 119))).below hb3
      clear hb3
      have m3:=HN3'.cell 3
      go_wp2_with fail
      have HT3:=hid (show Blk w3 w.heap.size 26 #[.slice (some ⟨b,o,none⟩) n c,.slice B m d] from HT3')
      have HN3:=hid (show Blk w3 (w.heap.size+1) 50 #[.int .u8 x.1.kind,.string (ofL x.1.text),.int .i64 x.1.n,.slice Ak nk ck,.int .i64 x.1.at_] from HN3')
      have HS3:=hid (show Blk w3 w2.heap.size 119 #[.bool true,.int .i64 lo,.int .i64 hi,.slice As ps.length cs] from HS3')
      have HL3:=hid (show Below w.heap.size w w3 from HL3')
      have HP3:=hid (show PartsIn w3 As ps from HP3')
      clear HT3' HN3' HS3' HL3' HP3' m3 t0 n0 n1 n2 n3 n4 HT2 HN2 HL2 HPS
      have hs3:=HS3.out.lt
      obtain⟨pn,hpn⟩:∃ pn,pn=ps.length:=⟨_,rfl⟩
      rw [← hpn] at HS3 hcs ⊢
      have HPN:=hid hpn;clear hpn
      go_loopw [8,50] (fun v j wr=>∃ (jn:Nat),jn≤nk∧j=.int .i64 jn∧wr.ownsRow w3.heap.size 5 1 v jn (kindCells (kinds T (x.1.kids.take jn)))∧Hid ((x.1.kids.take jn).all (Mist.within · 0 ((i:Int) - 1))=true)∧Hid (Below w3.heap.size w3 wr)) (fun _ j _=>nk - (intOf j).toNat)
      case atStart=>exact⟨0,Nat.zero_le _,rfl,World.ownsRow_nil _ _ _ _,hid rfl,hid (Below.refl _ _)⟩
      case round =>
       obtain⟨wo,rfl⟩:∃ wo:World,wo=wr:=⟨_,rfl⟩
       obtain⟨jn,hj,rfl,hown,HAL,HLO⟩:=hrel
       obtain⟨Av,cv,rfl⟩:=own_form hown
       have HOW:=hid hown;clear hown
       have HTo:=hid (HT3.out.below HLO.out (by omega))
       have HNo:=hid (HN3.out.below HLO.out (by omega))
       have HSo:=hid (HS3.out.below HLO.out (by omega))
       have hso:=HLO.out.size
       have t0:=HTo.out.cell 0
       by_cases hjl:jn < nk
       case pos =>
        obtain⟨kq,hkq⟩:∃ kq,x.1.kids[jn]? = some kq:=⟨_,List.getElem?_eq_getElem (by rw [← HNK.out];exact hjl)⟩
        obtain⟨bk,ok,rfl,hbk,hck⟩:=HXK.out.ex (by rw [← HNK.out];omega)
        have cj:=((HL3.out.trans (HLO.out.mono HL3.out.size)).cell (p:=⟨bk,ok+jn,none⟩) hbk).trans (hck jn kq hkq)
        have HKQ:=hid hkq
        clear hck hkq
        have j0:(0:Int)≤(jn:Int):=by omega
        have j1:(jn:Int) < (nk:Int):=by omega
        have j2:decide ((jn:Int) < (nk:Int))=true:=decide_eq_true j1
        have j3:decide (jn < nk)=true:=decide_eq_true hjl
        cases hq:Mist.within kq 0 ((i:Int) - 1)
        ·have HQ:=hid hq;clear hq
         have HFF:=hid (show Mist.formed T i=false by
          have h9:x.1.kids.all (Mist.within · 0 ((i:Int) - 1))=false:=by
           rw [List.all_eq_false];exact⟨kq,List.mem_of_getElem? HKQ.out,by rw [HQ.out];simp⟩
          rw [HF.out,HND.out,h9];simp)
         go_wp2_with fail
         refine (within_any _ 0 _ false HQ.out _).mono ?_
         rintro e w4 ⟨rfl,rfl⟩
         go_wp2_with fail
         go_ret
         exact⟨ret_bool HFF.out.symm,HL3.out.trans (HLO.out.mono HL3.out.size)⟩
        ·have hq2:0≤kq∧kq≤(i:Int) - 1:=by simpa [Mist.within] using hq
         have HQ:=hid hq;clear hq
         obtain⟨kn,rfl⟩:∃ kn:Nat,kq=(kn:Int):=⟨kq.toNat,by omega⟩
         obtain⟨xk,hxk⟩:∃ xk,xs[kn]? = some xk:=xs_at (by rw [← HNN.out];omega)
         have ckn:=((HL3.out.trans (HLO.out.mono HL3.out.size)).cell (p:=⟨b,o+kn * 5,none⟩) hbl).trans (HN.out.c0 kn xk hxk)
         have HKN:=hid (show (nd T kn).kind=xk.1.kind by rw [HTT.out,nd_nds its hxk])
         clear hxk
         have k0:(0:Int)≤(kn:Int):=by omega
         have k1:(kn:Int) < (n:Int):=by omega
         obtain⟨kk,hkk⟩:∃ kk,kk=xk.1.kind:=⟨_,rfl⟩
         rw [← hkk] at ckn HKN
         clear hkk
         have HIN:=hid (show x.1.kids.take (jn+1)=x.1.kids.take jn ++ [(kn:Int)] by rw [List.take_add_one,HKQ.out];rfl)
         obtain⟨i0,hi0,hz0,hz1,hz2⟩:=info_parts u8_info
         go_wp2_with fail
         refine (within_any _ 0 _ true HQ.out _).mono ?_
         rintro e w4 ⟨rfl,rfl⟩
         go_wp2_with (at_builtin
                      refine wpList_append_lies _ rfl (.tmp 59) (.tmp 66) 41 rfl w3.heap.size 5 i0 _ 1 1 Tryz.underlying41 hi0 hz0 hz1 hz2 rfl (by decide) _ jn (kindCells (kinds T (x.1.kids.take jn))) rfl
                        (HOW.out.alloc _) ⟨wo.heap.size,0,none⟩ 1 1 [.int .u8 (kk:Int)] rfl rfl (cells_new _ _ _) (by intro u hu;simp at hu;subst hu;rfl) (by omega) (by simp only [maxLen];omega) (by omega) (by simp;omega) (wo.heap.size+1) (by simp) ?_
                      intro gg cap w5 hown2 hg5 hat5 hgl)
         refine⟨⟨jn+1,by omega,by go_num,?_,hid ?_,hid ?_⟩,by simp [intOf];omega⟩
         ·rw [HIN.out]
          have h9:kindCells (kinds T (x.1.kids.take jn ++ [(kn:Int)]))=kindCells (kinds T (x.1.kids.take jn)) ++ [.int .u8 (kk:Int)]:=by
           simp [kindCells,kinds,HKN.out]
          rw [h9];exact hown2
         ·rw [HIN.out,List.all_append,HAL.out];simp [HQ.out]
         ·exact (balloc HLO.out HLO.out.size).grown hg5 (by simp;omega) (fun b hb=>(HOW.out.lt b hb).1)
       case neg =>
        have HJN:=hid (show jn=nk by omega)
        have HALL:=hid (show x.1.kids.all (Mist.within · 0 ((i:Int) - 1))=true by have h9:=HAL.out;rwa [HJN.out,HNK.out,List.take_length] at h9)
        have HKI:=hid (show KindsIn wo Av (kinds T x.1.kids) by
         have h9:=HOW.out
         rw [HJN.out,HNK.out,List.take_length] at h9
         exact own_kinds h9 (by simp [kinds]))
        have HKC:=hid (show nk≤cv by
         have h9:=own_cap HOW.out
         omega)
        have HKL:=hid (show (kinds T x.1.kids).length=nk by simp [kinds,HNK.out])
        have hjn:jn=nk:=HJN.out
        subst hjn
        clear t0 hj hjl HOW HAL
        have n0:=HNo.out.cell 0
        have n2:=HNo.out.cell 2
        have s0:=HSo.out.cell 0
        have s1:=HSo.out.cell 1
        have s2:=HSo.out.cell 2
        have s3:=HSo.out.cell 3
        have hlo1:=HNo.out.lt
        have hlo2:=HSo.out.lt
        have hlo3:w.heap.size < wo.heap.size:=by omega
        have j2:decide ((jn:Int) < (jn:Int))=false:=decide_eq_false (by omega)
        have HFI:=hid (fits_any' true lo hi ps As pn cs HPN.out (kinds T x.1.kids) jn HKL.out Av cv wo (HP3.out.below HLO.out) hcs (shape_parts HSH.out) HKI.out hxl HKC.out)
        cases hfit:Mist.fits ps (kinds T x.1.kids)
        ·have HFT:=hid hfit;clear hfit
         have HFF:=hid (show Mist.formed T i=false by rw [HF.out,HND.out,HFT.out];simp)
         go_wp2_with fail
         refine HFI.out.mono ?_
         rintro e w6 ⟨rfl,hb6⟩
         rw [HFT.out]
         go_wp2_with fail
         go_ret
         exact⟨ret_bool HFF.out.symm,(HL3.out.trans (HLO.out.mono HL3.out.size)).trans (hb6.mono (by omega))⟩
        ·have HFT:=hid hfit;clear hfit
         cases hwi:Mist.within x.1.n lo hi
         ·have HWI:=hid hwi;clear hwi
          by_cases hk1:x.1.kind=1
          ·have e1:((x.1.kind:Int) == 1)=true:=by rw [hk1];rfl
           have HK1:=hid hk1;clear hk1
           cases hw9:Mist.within x.1.n (-9999) (-1)
           all_goals
            have HW9:=hid hw9;clear hw9
            go_wp2_with fail
            refine HFI.out.mono ?_
            rintro e w6 ⟨rfl,hb6⟩
            rw [HFT.out]
            have HB6:=hid ((HL3.out.trans (HLO.out.mono HL3.out.size)).trans (hb6.mono (by omega)))
            have HN6:=hid (HNo.out.below hb6 hlo1)
            have HS6:=hid (HSo.out.below hb6 hlo2)
            clear hb6 n0 n2 s0 s1 s2 s3
            have n0:=HN6.out.cell 0
            have n2:=HN6.out.cell 2
            have s1:=HS6.out.cell 1
            have s2:=HS6.out.cell 2
            go_wp2_with fail
            refine (within_any x.1.n lo hi false HWI.out _).mono ?_
            rintro e w7 ⟨rfl,rfl⟩
            go_wp2_with fail
            refine (within_any x.1.n (-9999) (-1) _ HW9.out _).mono ?_
            rintro e w7 ⟨rfl,rfl⟩
            go_wp2_with fail
            go_ret
            refine⟨ret_bool ?_,HB6.out⟩
            rw [HF.out,HND.out,HFT.out,HWI.out,HW9.out,HK1.out,HW.out,HALL.out,HEM.out,HNM.out]
            rfl
          ·have e1:((x.1.kind:Int) == 1)=false:=by rw [beq_eq_false_iff_ne];omega
           have HK1:=hid (show (x.1.kind == 1)=false by simpa using hk1);clear hk1
           go_wp2_with fail
           refine HFI.out.mono ?_
           rintro e w6 ⟨rfl,hb6⟩
           rw [HFT.out]
           have HB6:=hid ((HL3.out.trans (HLO.out.mono HL3.out.size)).trans (hb6.mono (by omega)))
           have HN6:=hid (HNo.out.below hb6 hlo1)
           have HS6:=hid (HSo.out.below hb6 hlo2)
           clear hb6 n0 n2 s0 s1 s2 s3
           have n0:=HN6.out.cell 0
           have n2:=HN6.out.cell 2
           have s1:=HS6.out.cell 1
           have s2:=HS6.out.cell 2
           go_wp2_with fail
           refine (within_any x.1.n lo hi false HWI.out _).mono ?_
           rintro e w7 ⟨rfl,rfl⟩
           go_wp2_with fail
           go_ret
           refine⟨ret_bool ?_,HB6.out⟩
           rw [HF.out,HND.out,HFT.out,HWI.out,HK1.out,HW.out,HALL.out,HEM.out,HNM.out]
           rfl
         ·have HWI:=hid hwi;clear hwi
          go_wp2_with fail
          refine HFI.out.mono ?_
          rintro e w6 ⟨rfl,hb6⟩
          rw [HFT.out]
          have HB6:=hid ((HL3.out.trans (HLO.out.mono HL3.out.size)).trans (hb6.mono (by omega)))
          have HN6:=hid (HNo.out.below hb6 hlo1)
          have HS6:=hid (HSo.out.below hb6 hlo2)
          clear hb6 n0 n2 s0 s1 s2 s3
          have n0:=HN6.out.cell 0
          have n2:=HN6.out.cell 2
          have s1:=HS6.out.cell 1
          have s2:=HS6.out.cell 2
          go_wp2_with fail
          refine (within_any x.1.n lo hi true HWI.out _).mono ?_
          rintro e w7 ⟨rfl,rfl⟩
          go_wp2_with fail
          go_ret
          refine⟨ret_bool ?_,HB6.out⟩
          rw [HF.out,HND.out,HFT.out,HWI.out,HW.out,HALL.out,HEM.out,HNM.out]
          rfl
   ·have HEM:=hid hem
    cases named
    ·have HT3':=HT2.out.alloc (.cells #[.bool false,.int .i64 lo,.int .i64 hi,.slice As ps.length cs] 119)
     have HN3':=HN2.out.alloc (.cells #[.bool false,.int .i64 lo,.int .i64 hi,.slice As ps.length cs] 119)
     have HS3':=Blk.new w2 119 #[.bool false,.int .i64 lo,.int .i64 hi,.slice As ps.length cs]
     have HL3':=balloc HL2.out HL2.out.size (o:=.cells #[.bool false,.int .i64 lo,.int .i64 hi,.slice As ps.length cs] 119)
     have HP3':=HPS.out.below (balloc (Below.refl _ _) (Nat.le_refl _) (o:=.cells #[.bool false,.int .i64 lo,.int .i64 hi,.slice As ps.length cs] 119))
     go_wp2_with fail
     refine (within_any _ 0 2000 true HW.out _).mono ?_
     rintro e w3 ⟨rfl,rfl⟩
     go_wp2_with fail
     generalize w2.alloc (.cells #[.bool false,.int .i64 lo,.int .i64 hi,.slice As ps.length cs] 119)=w3 at HT3' HN3' HS3' HL3' HP3' ⊢
     have HT3:=hid (show Blk w3 w.heap.size 26 #[.slice (some ⟨b,o,none⟩) n c,.slice B m d] from HT3')
     have HN3:=hid (show Blk w3 (w.heap.size+1) 50 #[.int .u8 x.1.kind,.string (ofL x.1.text),.int .i64 x.1.n,.slice Ak nk ck,.int .i64 x.1.at_] from HN3')
     have HS3:=hid (show Blk w3 w2.heap.size 119 #[.bool false,.int .i64 lo,.int .i64 hi,.slice As ps.length cs] from HS3')
     have HL3:=hid (show Below w.heap.size w w3 from HL3')
     have HP3:=hid (show PartsIn w3 As ps from HP3')
     clear HT3' HN3' HS3' HL3' HP3' t0 n0 n1 n2 n3 n4 HT2 HN2 HL2 HPS
     have hs3:=HS3.out.lt
     obtain⟨pn,hpn⟩:∃ pn,pn=ps.length:=⟨_,rfl⟩
     rw [← hpn] at HS3 hcs ⊢
     have HPN:=hid hpn;clear hpn
     go_loopw [8,50] (fun v j wr=>∃ (jn:Nat),jn≤nk∧j=.int .i64 jn∧wr.ownsRow w3.heap.size 5 1 v jn (kindCells (kinds T (x.1.kids.take jn)))∧Hid ((x.1.kids.take jn).all (Mist.within · 0 ((i:Int) - 1))=true)∧Hid (Below w3.heap.size w3 wr)) (fun _ j _=>nk - (intOf j).toNat)
     case atStart=>exact⟨0,Nat.zero_le _,rfl,World.ownsRow_nil _ _ _ _,hid rfl,hid (Below.refl _ _)⟩
     case round =>
      obtain⟨wo,rfl⟩:∃ wo:World,wo=wr:=⟨_,rfl⟩
      obtain⟨jn,hj,rfl,hown,HAL,HLO⟩:=hrel
      obtain⟨Av,cv,rfl⟩:=own_form hown
      have HOW:=hid hown;clear hown
      have HTo:=hid (HT3.out.below HLO.out (by omega))
      have HNo:=hid (HN3.out.below HLO.out (by omega))
      have HSo:=hid (HS3.out.below HLO.out (by omega))
      have hso:=HLO.out.size
      have t0:=HTo.out.cell 0
      by_cases hjl:jn < nk
      case pos =>
       obtain⟨kq,hkq⟩:∃ kq,x.1.kids[jn]? = some kq:=⟨_,List.getElem?_eq_getElem (by rw [← HNK.out];exact hjl)⟩
       obtain⟨bk,ok,rfl,hbk,hck⟩:=HXK.out.ex (by rw [← HNK.out];omega)
       have cj:=((HL3.out.trans (HLO.out.mono HL3.out.size)).cell (p:=⟨bk,ok+jn,none⟩) hbk).trans (hck jn kq hkq)
       have HKQ:=hid hkq
       clear hck hkq
       have j0:(0:Int)≤(jn:Int):=by omega
       have j1:(jn:Int) < (nk:Int):=by omega
       have j2:decide ((jn:Int) < (nk:Int))=true:=decide_eq_true j1
       have j3:decide (jn < nk)=true:=decide_eq_true hjl
       cases hq:Mist.within kq 0 ((i:Int) - 1)
       ·have HQ:=hid hq;clear hq
        have HFF:=hid (show Mist.formed T i=false by
         have h9:x.1.kids.all (Mist.within · 0 ((i:Int) - 1))=false:=by
          rw [List.all_eq_false];exact⟨kq,List.mem_of_getElem? HKQ.out,by rw [HQ.out];simp⟩
         rw [HF.out,HND.out,h9];simp)
        go_wp2_with fail
        refine (within_any _ 0 _ false HQ.out _).mono ?_
        rintro e w4 ⟨rfl,rfl⟩
        go_wp2_with fail
        go_ret
        exact⟨ret_bool HFF.out.symm,HL3.out.trans (HLO.out.mono HL3.out.size)⟩
       ·have hq2:0≤kq∧kq≤(i:Int) - 1:=by simpa [Mist.within] using hq
        have HQ:=hid hq;clear hq
        obtain⟨kn,rfl⟩:∃ kn:Nat,kq=(kn:Int):=⟨kq.toNat,by omega⟩
        obtain⟨xk,hxk⟩:∃ xk,xs[kn]? = some xk:=xs_at (by rw [← HNN.out];omega)
        have ckn:=((HL3.out.trans (HLO.out.mono HL3.out.size)).cell (p:=⟨b,o+kn * 5,none⟩) hbl).trans (HN.out.c0 kn xk hxk)
        have HKN:=hid (show (nd T kn).kind=xk.1.kind by rw [HTT.out,nd_nds its hxk])
        clear hxk
        have k0:(0:Int)≤(kn:Int):=by omega
        have k1:(kn:Int) < (n:Int):=by omega
        obtain⟨kk,hkk⟩:∃ kk,kk=xk.1.kind:=⟨_,rfl⟩
        rw [← hkk] at ckn HKN
        clear hkk
        have HIN:=hid (show x.1.kids.take (jn+1)=x.1.kids.take jn ++ [(kn:Int)] by rw [List.take_add_one,HKQ.out];rfl)
        obtain⟨i0,hi0,hz0,hz1,hz2⟩:=info_parts u8_info
        go_wp2_with fail
        refine (within_any _ 0 _ true HQ.out _).mono ?_
        rintro e w4 ⟨rfl,rfl⟩
        go_wp2_with (at_builtin
                     refine wpList_append_lies _ rfl (.tmp 59) (.tmp 66) 41 rfl w3.heap.size 5 i0 _ 1 1 Tryz.underlying41 hi0 hz0 hz1 hz2 rfl (by decide) _ jn (kindCells (kinds T (x.1.kids.take jn))) rfl
                       (HOW.out.alloc _) ⟨wo.heap.size,0,none⟩ 1 1 [.int .u8 (kk:Int)] rfl rfl (cells_new _ _ _) (by intro u hu;simp at hu;subst hu;rfl) (by omega) (by simp only [maxLen];omega) (by omega) (by simp;omega) (wo.heap.size+1) (by simp) ?_
                     intro gg cap w5 hown2 hg5 hat5 hgl)
        refine⟨⟨jn+1,by omega,by go_num,?_,hid ?_,hid ?_⟩,by simp [intOf];omega⟩
        ·rw [HIN.out]
         have h9:kindCells (kinds T (x.1.kids.take jn ++ [(kn:Int)]))=kindCells (kinds T (x.1.kids.take jn)) ++ [.int .u8 (kk:Int)]:=by
          simp [kindCells,kinds,HKN.out]
         rw [h9];exact hown2
        ·rw [HIN.out,List.all_append,HAL.out];simp [HQ.out]
        ·exact (balloc HLO.out HLO.out.size).grown hg5 (by simp;omega) (fun b hb=>(HOW.out.lt b hb).1)
      case neg =>
       have HJN:=hid (show jn=nk by omega)
       have HALL:=hid (show x.1.kids.all (Mist.within · 0 ((i:Int) - 1))=true by have h9:=HAL.out;rwa [HJN.out,HNK.out,List.take_length] at h9)
       have HKI:=hid (show KindsIn wo Av (kinds T x.1.kids) by
        have h9:=HOW.out
        rw [HJN.out,HNK.out,List.take_length] at h9
        exact own_kinds h9 (by simp [kinds]))
       have HKC:=hid (show nk≤cv by
        have h9:=own_cap HOW.out
        omega)
       have HKL:=hid (show (kinds T x.1.kids).length=nk by simp [kinds,HNK.out])
       have hjn:jn=nk:=HJN.out
       subst hjn
       clear t0 hj hjl HOW HAL
       have n0:=HNo.out.cell 0
       have n2:=HNo.out.cell 2
       have s0:=HSo.out.cell 0
       have s1:=HSo.out.cell 1
       have s2:=HSo.out.cell 2
       have s3:=HSo.out.cell 3
       have hlo1:=HNo.out.lt
       have hlo2:=HSo.out.lt
       have hlo3:w.heap.size < wo.heap.size:=by omega
       have j2:decide ((jn:Int) < (jn:Int))=false:=decide_eq_false (by omega)
       have HFI:=hid (fits_any' false lo hi ps As pn cs HPN.out (kinds T x.1.kids) jn HKL.out Av cv wo (HP3.out.below HLO.out) hcs (shape_parts HSH.out) HKI.out hxl HKC.out)
       cases hfit:Mist.fits ps (kinds T x.1.kids)
       ·have HFT:=hid hfit;clear hfit
        have HFF:=hid (show Mist.formed T i=false by rw [HF.out,HND.out,HFT.out];simp)
        go_wp2_with fail
        refine HFI.out.mono ?_
        rintro e w6 ⟨rfl,hb6⟩
        rw [HFT.out]
        go_wp2_with fail
        go_ret
        exact⟨ret_bool HFF.out.symm,(HL3.out.trans (HLO.out.mono HL3.out.size)).trans (hb6.mono (by omega))⟩
       ·have HFT:=hid hfit;clear hfit
        cases hwi:Mist.within x.1.n lo hi
        ·have HWI:=hid hwi;clear hwi
         by_cases hk1:x.1.kind=1
         ·have e1:((x.1.kind:Int) == 1)=true:=by rw [hk1];rfl
          have HK1:=hid hk1;clear hk1
          cases hw9:Mist.within x.1.n (-9999) (-1)
          all_goals
           have HW9:=hid hw9;clear hw9
           go_wp2_with fail
           refine HFI.out.mono ?_
           rintro e w6 ⟨rfl,hb6⟩
           rw [HFT.out]
           have HB6:=hid ((HL3.out.trans (HLO.out.mono HL3.out.size)).trans (hb6.mono (by omega)))
           have HN6:=hid (HNo.out.below hb6 hlo1)
           have HS6:=hid (HSo.out.below hb6 hlo2)
           clear hb6 n0 n2 s0 s1 s2 s3
           have n0:=HN6.out.cell 0
           have n2:=HN6.out.cell 2
           have s1:=HS6.out.cell 1
           have s2:=HS6.out.cell 2
           go_wp2_with fail
           refine (within_any x.1.n lo hi false HWI.out _).mono ?_
           rintro e w7 ⟨rfl,rfl⟩
           go_wp2_with fail
           refine (within_any x.1.n (-9999) (-1) _ HW9.out _).mono ?_
           rintro e w7 ⟨rfl,rfl⟩
           go_wp2_with fail
           go_ret
           refine⟨ret_bool ?_,HB6.out⟩
           rw [HF.out,HND.out,HFT.out,HWI.out,HW9.out,HK1.out,HW.out,HALL.out,HEM.out]
           rfl
         ·have e1:((x.1.kind:Int) == 1)=false:=by rw [beq_eq_false_iff_ne];omega
          have HK1:=hid (show (x.1.kind == 1)=false by simpa using hk1);clear hk1
          go_wp2_with fail
          refine HFI.out.mono ?_
          rintro e w6 ⟨rfl,hb6⟩
          rw [HFT.out]
          have HB6:=hid ((HL3.out.trans (HLO.out.mono HL3.out.size)).trans (hb6.mono (by omega)))
          have HN6:=hid (HNo.out.below hb6 hlo1)
          have HS6:=hid (HSo.out.below hb6 hlo2)
          clear hb6 n0 n2 s0 s1 s2 s3
          have n0:=HN6.out.cell 0
          have n2:=HN6.out.cell 2
          have s1:=HS6.out.cell 1
          have s2:=HS6.out.cell 2
          go_wp2_with fail
          refine (within_any x.1.n lo hi false HWI.out _).mono ?_
          rintro e w7 ⟨rfl,rfl⟩
          go_wp2_with fail
          go_ret
          refine⟨ret_bool ?_,HB6.out⟩
          rw [HF.out,HND.out,HFT.out,HWI.out,HK1.out,HW.out,HALL.out,HEM.out]
          rfl
        ·have HWI:=hid hwi;clear hwi
         go_wp2_with fail
         refine HFI.out.mono ?_
         rintro e w6 ⟨rfl,hb6⟩
         rw [HFT.out]
         have HB6:=hid ((HL3.out.trans (HLO.out.mono HL3.out.size)).trans (hb6.mono (by omega)))
         have HN6:=hid (HNo.out.below hb6 hlo1)
         have HS6:=hid (HSo.out.below hb6 hlo2)
         clear hb6 n0 n2 s0 s1 s2 s3
         have n0:=HN6.out.cell 0
         have n2:=HN6.out.cell 2
         have s1:=HS6.out.cell 1
         have s2:=HS6.out.cell 2
         go_wp2_with fail
         refine (within_any x.1.n lo hi true HWI.out _).mono ?_
         rintro e w7 ⟨rfl,rfl⟩
         go_wp2_with fail
         go_ret
         refine⟨ret_bool ?_,HB6.out⟩
         rw [HF.out,HND.out,HFT.out,HWI.out,HW.out,HALL.out,HEM.out]
         rfl
    ·have HFF:=hid (show Mist.formed T i=false by rw [HF.out,HND.out,HW.out,HEM.out];rfl)
     go_wp2_with fail
     refine (within_any _ 0 2000 true HW.out _).mono ?_
     rintro e w3 ⟨rfl,rfl⟩
     go_wp2_with fail
     go_ret
     exact⟨ret_bool HFF.out.symm,balloc HL2.out HL2.out.size⟩
end Go.Proofs.YthepmkjggfijoaaGreatDoor
namespace Go.Proofs.YthepmkjggfijoaaGreatDoor
open Go.RowKit Mist
theorem walk_val {T:Tr} {f i:Nat} {root:Bool} {next x:Nat} (h:Mist.walk T f i root next=some x):x=i+1:=by
 cases f with
 | zero=>cases h
 | succ f =>
  unfold Mist.walk at h
  split at h
  ·cases h
  ·split at h
   ·split at h
    ·have:=Option.some.inj h;omega
    ·cases h
   ·cases h
theorem walk_stop {T:Tr} {f i:Nat} {root:Bool} {next:Nat} (h:(nd T i).kids.foldl (fun (o:Option Nat) c=>o.bind fun x=>Mist.walk T f c.toNat false x) (some next)=none):Mist.walk T (f+1) i root next=none:=by
 unfold Mist.walk;rw [h]
theorem walk_at {T:Tr} {f i:Nat} {root:Bool} {next y:Nat} (h:(nd T i).kids.foldl (fun (o:Option Nat) c=>o.bind fun x=>Mist.walk T f c.toNat false x) (some next)=some y):Mist.walk T (f+1) i root next=if i=y then (if isItem (nd T i).kind=root then some (y+1) else none) else none:=by
 rw [Mist.walk];rw [h]
structure WalkMem (w0:World) (w:World) (tb nb wb:Nat) (tv iv:Value) (next:Int):Prop where
 tree:Blk w tb 26 #[tv,iv]
 self:Blk w wb 123 #[.func (.func 106) #[] #[.pointer (some ⟨tb,0,none⟩),.pointer (some ⟨wb,0,none⟩),.pointer (some ⟨nb,0,none⟩)]]
 next:Blk w nb 3 #[.int .i64 next]
 low:Below w0.heap.size w0 w
 nb:w0.heap.size≤nb
theorem WalkMem.mv {w0 w w':World} {tb nb wb:Nat} {tv iv:Value} {next next':Int} (h:WalkMem w0 w tb nb wb tv iv next) (m:Mv nb none w none w') (hn:Blk w' nb 3 #[.int .i64 next']):WalkMem w0 w' tb nb wb tv iv next' :=
 ⟨m.blk h.tree (h.tree.ne_ h.next (by decide)) (by simp),m.blk h.self (h.self.ne_ h.next (by decide)) (by simp),hn,h.low.trans (m.below h.next.lt h.nb (fun b e=>nomatch e)),h.nb⟩
def WalkPost (r:Option Nat) (nb:Nat) (w:World) (e:Ending) (w':World):Prop :=
 Mv nb none w none w'∧match r with
  | some x=>e=.returned (.bool true)∧Blk w' nb 3 #[.int .i64 (x:Int)]
  | none=>e=.returned (.bool false)∧∃ y,Blk w' nb 3 #[.int .i64 y]
theorem walk_any (xs:List NV) (its:List Int) (b o c m d n:Nat) (B:Option Addr) (w0:World) (hN:NdsAt w0 b o xs) (hnn:n=xs.length) (hn:n≤100000) (hK:∀ (i:Nat) x,xs[i]? = some x→∀ k ∈ x.1.kids,0≤k∧k≤(i:Int) - 1) (hR:TrR (nds xs)) (tb nb wb:Nat) :
  ∀ (f i:Nat) (dp:Int) (root:Bool) (next:Nat) (w:World),i < n→i < f→1≤dp→dp+i≤200000→(dp == 1)=root→next≤1000000→WalkMem w0 w tb nb wb (.slice (some ⟨b,o,none⟩) n c) (.slice B m d) (next:Int) →
  Calls Tryz.prog 106 #[.int .i64 (i:Int),.int .i64 dp,.pointer (some ⟨tb,0,none⟩),.pointer (some ⟨wb,0,none⟩),.pointer (some ⟨nb,0,none⟩)] w (WalkPost (Mist.walk ⟨nds xs,its⟩ f i root next) nb w):=by
 obtain⟨T,hT⟩:∃ T:Tr,T=⟨nds xs,its⟩:=⟨_,rfl⟩
 rw [← hT]
 have HNN:=hid hnn;clear hnn
 have HN:=hid hN;clear hN
 have HKK:=hid hK;clear hK
 have HTT:=hid hT;clear hT
 have HRR:=hid hR;clear hR
 intro f
 induction f with
 | zero=>intro i _ _ _ _ _ h;omega
 | succ f ih =>
  have IH:=hid ih;clear ih
  intro i dp root next w hi hif hd1 hd2 hroot hnx hm
  have HRT:=hid hroot;clear hroot
  have HM:=hid hm
  have t0:=hm.tree.cell 0
  clear hm
  obtain⟨x,hx⟩:∃ x,xs[i]? = some x:=xs_at (by rw [← HNN.out];exact hi)
  have HND:=hid (show nd T i=x.1 by rw [HTT.out];exact nd_nds its hx)
  obtain⟨Ak,ck,hxe,hxl,hxk⟩:=HN.out.kid hx
  have c3:=(HM.out.low.cell (p:=⟨b,o+i * 5+3,none⟩) HN.out.lt).trans (HN.out.c3 i x hx)
  rw [hxe] at c3
  have HXK:=hid hxk
  have HX:=hid hx
  clear hxk hx hxe
  obtain⟨nk,hnk⟩:∃ nk,nk=x.1.kids.length:=⟨_,rfl⟩
  rw [← hnk] at c3 hxl
  have HNK:=hid hnk;clear hnk
  have i1:(0:Int)≤(i:Int):=by omega
  have i2:(i:Int) < (n:Int):=by omega
  go_enter Tryz.func106,Tryz.ntmps106
  go_wp2_with fail
  go_loopw [17] (fun j wr=>∃ (jn y:Nat),jn≤nk∧j=.int .i64 jn∧y≤1000000∧Hid (WalkMem w0 wr tb nb wb (.slice (some ⟨b,o,none⟩) n c) (.slice B m d) (y:Int))∧Hid (Mv nb none w none wr)∧Hid ((x.1.kids.drop jn).foldl (fun (o:Option Nat) c=>o.bind fun x=>Mist.walk T f c.toNat false x) (some y)=x.1.kids.foldl (fun (o:Option Nat) c=>o.bind fun x=>Mist.walk T f c.toNat false x) (some next))) (fun j _=>nk - (intOf j).toNat)
  case atStart=>exact⟨0,next,Nat.zero_le _,rfl,hnx,HM,hid Mv.refl,hid rfl⟩
  case round =>
   obtain⟨wo,rfl⟩:∃ wo:World,wo=wr:=⟨_,rfl⟩
   obtain⟨jn,y,hj,rfl,hy,HMo,HMV,HFO⟩:=hrel
   have s0:=HMo.out.self.cell 0
   by_cases hjl:jn < nk
   ·obtain⟨kq,hkq⟩:∃ kq,x.1.kids[jn]? = some kq:=⟨_,List.getElem?_eq_getElem (by rw [← HNK.out];exact hjl)⟩
    have hkb:=HKK.out i x HX.out kq (List.mem_of_getElem? hkq)
    obtain⟨kn,rfl⟩:∃ kn:Nat,kq=(kn:Int):=⟨kq.toNat,by omega⟩
    obtain⟨bk,ok,rfl,hbk,hck⟩:=HXK.out.ex (by rw [← HNK.out];omega)
    have cj:=(HMo.out.low.cell (p:=⟨bk,ok+jn,none⟩) hbk).trans (hck jn kn hkq)
    have HDR:=hid (show x.1.kids.drop jn=(kn:Int) :: x.1.kids.drop (jn+1) by
     rw [List.drop_eq_getElem_cons (by rw [← HNK.out];exact hjl),(List.getElem?_eq_some_iff.1 hkq).2])
    clear hck hkq
    have j0:(0:Int)≤(jn:Int):=by omega
    have j1:(jn:Int) < (nk:Int):=by omega
    have j2:decide (jn < nk)=true:=decide_eq_true hjl
    have HC:=hid (IH.out kn (dp+1) false y wo (by omega) (by omega) (by omega) (by omega) (by rw [beq_eq_false_iff_ne];omega) hy HMo.out)
    have HF2:=hid (show (x.1.kids.drop (jn+1)).foldl (fun (o:Option Nat) c=>o.bind fun x=>Mist.walk T f c.toNat false x) (Mist.walk T f kn false y)=x.1.kids.foldl (fun (o:Option Nat) c=>o.bind fun x=>Mist.walk T f c.toNat false x) (some next) by
     have h9:=HFO.out
     rw [HDR.out,List.foldl_cons,Option.bind_some,Int.toNat_natCast] at h9
     exact h9)
    clear HFO HDR
    go_wp2_with fail
    refine HC.out.mono ?_
    rintro e w2 ⟨hmv,hpost⟩
    cases hwk:Mist.walk T f kn false y with
    | none =>
     rw [hwk] at hpost
     obtain⟨rfl,z,hz⟩:=hpost
     have HST:=hid (show Mist.walk T (f+1) i root next=none from walk_stop (by
      rw [HND.out,← HF2.out,hwk]
      exact walks_none (fun x c=>Mist.walk T f c.toNat false x) _))
     have HZ:=hid hz
     have HMV2:=hid (HMV.out.trans hmv)
     clear hwk hz hmv
     go_wp2_with fail
     go_ret
     refine⟨HMV2.out,?_⟩
     rw [HST.out]
     exact⟨rfl,z,HZ.out⟩
    | some z =>
     rw [hwk] at hpost
     obtain⟨rfl,hz⟩:=hpost
     have hzv:=walk_val hwk
     have HZ:=hid hz
     have HMV2:=hid (HMV.out.trans hmv)
     have HM2:=hid (HMo.out.mv hmv hz)
     have HF3:=hid (by have h9:=HF2.out;rw [hwk] at h9;exact h9)
     have hz6:z≤1000000:=by omega
     clear hwk hz hmv hzv
     go_wp2_with fail
     exact⟨⟨jn+1,z,by omega,by go_num,hz6,HM2,HMV2,HF3⟩,by simp [intOf];omega⟩
   ·have HFE:=hid (show x.1.kids.foldl (fun (o:Option Nat) c=>o.bind fun x=>Mist.walk T f c.toNat false x) (some next)=some y by
     rw [← HFO.out,List.drop_of_length_le (by rw [← HNK.out];omega)];rfl)
    have j2:decide (jn < nk)=false:=decide_eq_false hjl
    have y0:=HMo.out.next.cell 0
    have yf:=HMo.out.next.frozen 0
    have hyl:=HMo.out.next.lt
    have t0':=HMo.out.tree.cell 0
    have c0:=(HMo.out.low.cell (p:=⟨b,o+i * 5,none⟩) HN.out.lt).trans (HN.out.c0 i x HX.out)
    have HW:=hid (walk_at (root:=root) (by rw [HND.out];exact HFE.out))
    by_cases hiy:i=y
    ·subst hiy
     have e1:((i:Int) != (i:Int))=false:=by simp
     have HW2:=hid (show Mist.walk T (f+1) i root next=if isItem x.1.kind=root then some (i+1) else none by rw [HW.out,if_pos rfl,HND.out])
     have HMV3:=hid (HMV.out.gset (i:=0) (u:=.int .i64 ((i:Int)+1)))
     have HY3:=hid (HMo.out.next.set_ 0 (.int .i64 ((i:Int)+1)))
     have hb1:=HN.out.lt
     have hlow:=HMo.out.low.size
     have hnb:=HMo.out.nb
     have hne:b ≠ nb:=by omega
     have hne2:tb ≠ nb:=HMo.out.tree.ne_ HMo.out.next (by decide)
     have htl:=HMo.out.tree.lt
     clear HW
     cases hr:isItem x.1.kind
     all_goals
      have HIT:=hid hr;clear hr
      cases root
      all_goals
       have d1:=HRT.out
       go_wp2_with fail
       refine (item_of x.1.kind _ HIT.out _).mono ?_
       rintro e w2 ⟨rfl,rfl⟩
       go_wp2_with fail
       go_ret
       refine⟨HMV3.out,?_⟩
       rw [HW2.out,HIT.out]
       first
       | exact⟨rfl,by have h9:=HY3.out;simpa using h9⟩
       | exact⟨rfl,_,HY3.out⟩
    ·have e1:((i:Int) != (y:Int))=true:=by rw [bne_iff_ne];omega
     go_wp2_with fail
     go_ret
     refine⟨HMV.out,?_⟩
     rw [HW.out,if_neg hiy]
     exact⟨rfl,_,HMo.out.next⟩
end Go.Proofs.YthepmkjggfijoaaGreatDoor
