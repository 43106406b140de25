/-
  A part of the proof.
-/
import Derived.Test.YthepmkjggfijoaaGreatDoorSA
import Derived.Deep.QuietTactic
import Derived.BigQuiet
import Derived.Deep.RegionLaw
import Derived.Deep.AppendLies
import Derived.Test.YthepmkjggfijoaaGreatDoorS08
import Derived.Test.YthepmkjggfijoaaGreatDoorS07
import Derived.Test.YthepmkjggfijoaaGreatDoorJ02
set_option linter.all false
set_option maxRecDepth 100000
set_option maxHeartbeats 2000000
open Go.Lib (hid)
namespace Go.Proofs.YthepmkjggfijoaaGreatDoor
open Go.RowKit Mist
attribute [local go_sem] aj aH aS aB ak
def SeedIn (w:World)(g:Nat)(lv:Value)(l:Bs):Prop :=
 ∃ A c,lv=.slice A l.length c∧l.length≤c∧c < 4611686018427387904∧(l ≠ []→∃ b o,A=some ⟨b,o,none⟩∧b < g∧b < w.heap.size∧∀ k,k < l.length→w.cell? ⟨b,o+k,none⟩=some (.int .u8 (gt l k).toNat))
theorem SeedIn.below {w w':World}{g:Nat}{lv:Value}{l:Bs}(h:SeedIn w g lv l)(hb:Below g w w')(hg:g≤w.heap.size):SeedIn w' g lv l:=by
 obtain⟨A,c,rfl,hc,hc2,hr⟩:=h
 refine⟨A,c,rfl,hc,hc2,fun h0=>?_⟩
 obtain⟨b,o,rfl,hlt,Xz,hk⟩:=hr h0;exact⟨b,o,rfl,hlt,aaW Xz hb.size,fun k hkl=>(hb.cell (p:=⟨b,o+k,none⟩) hlt).trans (hk k hkl)⟩
structure abH (g:Nat) (wild:Bool) (iv:Value) (w:World) (s:abd) (xs:List NV) (nv lv:Value):Prop where
 blk:aC w g 81 #[lv,nv,iv,.bool wild]
 seed:SeedIn w g lv s.left
 own:w.ownsRow g 50 5 nv xs.length (iO xs)
 kids:∀ x ∈ xs,cB w x.2 x.1.kids
 ns:aA xs=s.ns
 pow : Lib.TabBelow Tryz.prog g w "internal/strconv.uint64pow10" .u64 Lib.pow10Tab
section
variable {g:Nat} {wild:Bool} {iv:Value} {w w':World} {s:abd} {xs:List NV} {nv lv:Value}
theorem abH.lt (h:abH g wild iv w s xs nv lv):g < w.heap.size:=h.blk.lt
theorem abH.len (h:abH g wild iv w s xs nv lv):xs.length=s.ns.length:=by rw [← h.ns,aD]
theorem abH.IL (h:abH g wild iv w s xs nv lv):∀ b,nv.ownBlock=some b→g≤b:=fun b hb=>(h.own.lt b hb).1
theorem abH.low (h:abH g wild iv w s xs nv lv){row:Option Nat}(m:Mv g nv.ownBlock w row w'):Below g w w':=m.below h.lt (aaJ _) h.IL
theorem abH.l6 (h:abH g wild iv w s xs nv lv){row:Option Nat}(m:Mv g nv.ownBlock w row w'){v:Value}{ks:List Int}(hk:cB w v ks):cB w' v ks :=
 m.row hk (aT hk h.blk (by decide)) (iE hk h.own (by decide))
theorem abH.below (h:abH g wild iv w s xs nv lv)(hb:Below w.heap.size w w'):abH g wild iv w' s xs nv lv :=
 ⟨h.blk.below hb h.lt,h.seed.below (hb.mono (aaK h.lt)) (aaK h.lt),own_below h.own hb,fun x hx=>own_below (h.kids x hx) hb,h.ns,h.pow.on (hb.mono (aaK h.lt))⟩
theorem abH.alloc (h:abH g wild iv w s xs nv lv)(o:Obj):abH g wild iv (w.alloc o) s xs nv lv:=h.below ((Below.refl _ _).alloc (aaJ _) o)
theorem abH.drew (h:abH g wild iv w s xs nv lv):abH g wild iv w.drew s xs nv lv:=h.below (Below.drew (Below.refl _ _))
theorem abH.next (h:abH g wild iv w s xs nv lv){b:UInt8}{r:Bs}(hl:s.left=b :: r){lv':Value}(hs:SeedIn w g lv' r):abH g wild iv (w.setCell ⟨g,0,none⟩ lv') s.tl xs nv lv' :=
 have m:Mv g nv.ownBlock w nv.ownBlock _:=Mv.d_ h.blk 0 lv'
 ⟨(by have:=h.blk.d_ 0 lv';simpa using this),(by show SeedIn _ g lv' s.left.tail;rw [hl];exact hs.below (h.low m) (aaK h.lt)),ownsRow_setCell_other h.own (aT h.own h.blk (by decide)) _,fun x hx=>h.l6 m (h.kids x hx),h.ns,h.pow.on (h.low m)⟩
theorem abH.nextMv (h:abH g wild iv w s xs nv lv)(v:Value):Mv g nv.ownBlock w nv.ownBlock (w.setCell ⟨g,0,none⟩ v):=Mv.d_ h.blk 0 v
theorem abH.add (h:abH g wild iv w s xs nv lv){w1:World}{eO:Value}{x:NV}(hg:w.grownBy w1 nv.ownBlock)(hown:w1.ownsRow g 50 5 eO (xs.length+1) (iO xs ++ fC x))(hk:cB w x.2 x.1.kids):abH g wild iv (w1.setCell ⟨g,1,none⟩ eO) (s.put x.1) (xs ++ [x]) eO lv:=by
 have hb:=h.blk.grown hg (fun e=>aT h.own h.blk (by decide) e.symm)
 have keep:∀ {v:Value} {cs:List Int},cB w v cs→cB (w1.setCell ⟨g,1,none⟩ eO) v cs:=fun hk =>
  ownsRow_setCell_other (hk.kept hg (iE hk h.own (by decide))) (aT (hk.kept hg (iE hk h.own (by decide))) hb (by decide)) _
 have hl:Below g w (w1.setCell ⟨g,1,none⟩ eO):=dx ((Below.refl _ _).grown hg (aaK h.lt) h.IL) (aaJ _)
 refine⟨?_,h.seed.below hl (aaK h.lt),?_,fun y hy=>?_,?_,h.pow.on hl⟩
 ·have:=hb.d_ 1 eO;simpa using this
 ·rw [aaO,rJ];have e:iO [x]=fC x:=by simp [iO]
  rw [e];exact ownsRow_setCell_other hown (aT hown hb (by decide)) _
 ·rcases List.mem_append.1 hy with hy | hy
  ·exact keep (h.kids y hy)
  ·rw [List.mem_singleton.1 hy];exact keep hk
 ·rw [nY,h.ns];rfl
end
theorem acU (g:Nat)(wild:Bool)(iv:Value)(w:World)(s:abd)(xs:List NV)(nv lv:Value)(h:abH g wild iv w s xs nv lv) :
  Calls Tryz.prog 110 #[.pointer (some ⟨g,0,none⟩)] w fun e w'=>e=.returned (.int .i64 s.nx)∧∃ lv',abH g wild iv w' s.tl xs nv lv'∧Mv g nv.ownBlock w nv.ownBlock w':=by
 have H:=hid h;obtain⟨A,c,rfl,hc,hc2,hr⟩:=h.seed;have c0:=h.blk.cell 0;have f0:=h.blk.frozen 0;have hlt:=h.lt;clear h;rcases hl:s.left with _ | ⟨b,r⟩
 ·have HS:=hid (show s.tl=s by unfold abd.tl;rw [hl];cases s;simp at hl;rw [hl];rfl);have HN:=hid (show s.nx=0 by unfold abd.nx;rw [hl];rfl);rw [hl] at c0
  clear hl hr;go_in
  go_wp2_with fail;go_ret;exact⟨by rw [HN.out];rfl,_,by rw [HS.out];exact H.out,Mv.refl⟩
 ·obtain⟨ab,ao,rfl,hag,haw,hk⟩:=hr (by rw [hl];simp);have k0:=hk 0 (by rw [hl];simp);rw [hl] at c0 k0 hc
  have HN:=hid (show s.nx=b.toNat by unfold abd.nx;rw [hl];rfl);have HL:=hid hl;have k1:w.cell? ⟨ab,ao,none⟩=some (.int .u8 b.toNat):=k0;have hn1:(b :: r).length=r.length+1:=rfl;rw [hn1] at c0 hc
  have tZ:b.toNat < 256:=b.toNat_lt;have z0:((r.length:Int)+1 == 0)=false:=by simp;omega
  by_cases hc1:c=1
  ·subst hc1;have hr0:r.length=0:=by omega
   have HSI:=hid (show SeedIn w g (.slice (some ⟨ab,ao,none⟩) 0 0) r from ⟨_,0,by rw [hr0],by omega,by omega,fun h0=>absurd (List.eq_nil_of_length_eq_zero hr0) h0⟩);rw [hr0] at c0
   clear hl hr hk k0 hn1 hc hr0 z0
   generalize b.toNat=abI at *
   go_in
   go_wp2_with fail;go_ret;exact⟨by rw [HN.out];rfl,_,H.out.next HL.out HSI.out,H.out.nextMv _⟩
  ·have hcc:¬ (c:Int)=1:=by omega
   have HSI:=hid (show SeedIn w g (.slice (some ⟨ab,ao+1,none⟩) r.length (c - 1)) r from ⟨_,_,rfl,by omega,by omega,fun _=>⟨ab,ao+1,rfl,hag,haw,fun k hk2=>by
   have:=hk (k+1) (by rw [hl];simp;omega)
   rw [hl] at this
   rw [show ao+1+k=ao+(k+1) by omega,this];rfl⟩⟩)
   clear hl hr hk k0 hn1
   generalize b.toNat=abI at *
   go_in
   go_wp2_with fail;go_ret;exact⟨by rw [HN.out];rfl,_,H.out.next HL.out HSI.out,H.out.nextMv _⟩
theorem run_words (r:Nat)(h:r < 8)(w:World):Sem.run Tryz.prog (Instr.index 160 (.agg #[.string ⟨#[97]⟩,.string ⟨#[98]⟩,.string ⟨#[99,50]⟩,.string ⟨#[115,111]⟩,.string ⟨#[105,102,102]⟩,.string ⟨#[116,114,101,101]⟩,.string ⟨#[120]⟩,.string ⟨#[108,101,116,115]⟩]) (.int .i64 r)) w=.ok (.string (aM (sg wordsG r))) w:=by
 obtain rfl | rfl | rfl | rfl | rfl | rfl | rfl | rfl:r=0∨r=1∨r=2∨r=3∨r=4∨r=5∨r=6∨r=7:=by omega
 all_goals kernel_rfl
theorem run_gaps (r:Nat)(h:r < 6)(w:World):Sem.run Tryz.prog (Instr.index 161 (.agg #[.string ⟨#[32]⟩,.string ⟨#[32,32]⟩,.string ⟨#[10]⟩,.string ⟨#[32,35,32,97,59,32,40,10]⟩,.string ⟨#[32]⟩,.string ⟨#[32,10,32]⟩]) (.int .i64 r)) w=.ok (.string (aM (sg gapsG r))) w:=by
 obtain rfl | rfl | rfl | rfl | rfl | rfl:r=0∨r=1∨r=2∨r=3∨r=4∨r=5:=by omega
 all_goals kernel_rfl
theorem plWord_any (b:Nat)(w:World):Calls Tryz.prog 111 #[.int .i64 (b:Int)] w fun e w'=>e=.returned (.string (aM (acH b)))∧w'=w:=by
 obtain⟨r,hr⟩:∃ r,r=b % 8:=⟨_,rfl⟩;have HG:=hid (show acH b=sg wordsG r by rw [hr];rfl);have hm:Int.tmod (b:Int) 8=(r:Int):=by rw [Int.tmod_eq_emod_of_nonneg (by omega),hr];omega
 have hm2:(b:Int) % 8=(r:Int):=by rw [hr];omega
 have hrun:=run_words r (by omega) w;clear hr;go_in
 go_wp2_with fail;go_ret;exact⟨by rw [HG.out];rfl,rfl⟩
theorem plGap_any (g:Nat)(wild:Bool)(iv:Value)(w:World)(s:abd)(xs:List NV)(nv lv:Value)(h:abH g wild iv w s xs nv lv) :
  Calls Tryz.prog 113 #[.pointer (some ⟨g,0,none⟩)] w fun e w'=>e=.returned (.string (aM (acM wild s)))∧∃ lv',abH g wild iv w' (acC wild s) xs nv lv'∧Mv g nv.ownBlock w nv.ownBlock w':=by
 have H:=hid h;have c3:=h.blk.cell 3;have hlt:=h.lt;clear h;cases wild
 ·go_in
  go_wp2_with fail;go_ret;exact⟨rfl,_,H.out,Mv.refl⟩
 obtain⟨r,hr⟩:∃ r,r=s.nx % 6:=⟨_,rfl⟩;have HG:=hid (show acM true s=sg gapsG r by rw [hr];rfl);obtain⟨b,hb⟩:∃ b,b=s.nx:=⟨_,rfl⟩;have hm:Int.tmod (b:Int) 6=(r:Int):=by rw [Int.tmod_eq_emod_of_nonneg (by omega),hr,hb];omega
 have hm2:(b:Int) % 6=(r:Int):=by rw [hr,hb];omega
 have hrun:=run_gaps r (by omega);have HB:=hid hb;clear hr hb;go_in
 go_wp2_with fail;refine (acU g true iv _ s xs nv _ H.out).mono ?_;rintro e w1⟨rfl,lv',h1,m1⟩;have H1:=hid h1;have M1:=hid m1;clear h1 m1;rw [← HB.out]
 replace hrun:=hrun w1
 go_wp2_with fail;go_ret;exact⟨by rw [HG.out];rfl,_,H1.out,M1.out⟩
end Go.Proofs.YthepmkjggfijoaaGreatDoor
namespace Mist
theorem word_stopG (t r:Bs)(hr:r=[]∨∃ c r',r=c :: r'∧dI c=false)(h0:0 < t.length)(hs:dP (gt t 0)=true)(ha:t.all dI=true)(hk:first t ≠ (0,[])):first (t ++ r)=first t:=by
 have hw:=lQ dI t r ha hr;have hw2:=lQ dI t [] ha (.inl rfl);rw [List.append_nil] at hw2
 have hg:gt (t ++ r) 0=gt t 0:=by cases t <;> simp_all [gt]
 have htk:(t ++ r).take (aV dI (t ++ r))=t:=by rw [hw];simp
 have yj:t.take (aV dI t)=t:=by rw [hw2];simp
 have hl:¬ (t ++ r).length=0:=by rw [aaO];omega
 have hl2:¬ t.length=0:=by omega
 by_cases ZF:hasB keywords t=true
 ·rw [jI _ hl (by rw [hg];exact hs) (by rw [htk];exact ZF),jI _ hl2 hs (by rw [yj];exact ZF),htk,yj]
 ·by_cases hn:t.length≤12
  ·rw [iD _ hl (by rw [hg];exact hs) (by rw [htk];exact ZF) (by rw [hw];exact hn),iD _ hl2 hs (by rw [yj];exact ZF) (by rw [hw2];exact hn),htk,yj]
  ·exact absurd (jE _ hl2 hs (by rw [yj];exact ZF) (by rw [hw2];exact hn)) hk
theorem num_stopG (t r:Bs)(hr:r=[]∨∃ c r',r=c :: r'∧aQ c=false)(h0:0 < t.length)(hs:dP (gt t 0)=false)(hd:aQ (gt t 0)=true)(ha:t.all aQ=true)(hk:g_ t=true):first (t ++ r)=first t:=by
 have hw:=lQ aQ t r ha hr;have hw2:=lQ aQ t [] ha (.inl rfl);rw [List.append_nil] at hw2
 have hg:gt (t ++ r) 0=gt t 0:=by cases t <;> simp_all [gt]
 have htk:(t ++ r).take (aV aQ (t ++ r))=t:=by rw [hw];simp
 have yj:t.take (aV aQ t)=t:=by rw [hw2];simp
 have hl:¬ (t ++ r).length=0:=by rw [aaO];omega
 have hl2:¬ t.length=0:=by omega
 rw [iJ _ hl (by rw [hg];simp [hs]) (by rw [hg];exact hd) (by rw [htk];exact hk),iJ _ hl2 (by simp [hs]) hd (by rw [yj];exact hk),htk,yj]
def abg (r:Bs):Prop:=r=[]∨∃ c r',r=c :: r'∧dI c=false
def abf (r:Bs):Prop:=∃ c r',r=c :: r'∧(c=32∨c=10)
theorem abf.np {r:Bs}(h:abf r):abg r:=by
 obtain⟨c,r',rfl,rfl | rfl⟩:=h <;> exact .inr ⟨_,_,rfl,by decide⟩
def GapB (g:Bs):Prop:=(∀ r,skip (g ++ r)=g.length+skip r)∧g.all gV=true
theorem acE:GapB []:=⟨fun r=>by simp,rfl⟩
theorem GapB.append {g h:Bs}(a:GapB g)(b:GapB h):GapB (g ++ h) :=
 ⟨fun r=>by rw [List.append_assoc,a.1,b.1,aaO];omega,by rw [List.all_append,a.2,b.2];rfl⟩
theorem gapB_32:GapB [32]:=⟨fun r=>by show gK false (32 :: r)=_;rw [gK,if_pos (by decide)];rfl,by decide⟩
theorem gapB_10:GapB [10]:=⟨fun r=>by show gK false (10 :: r)=_;rw [gK,if_pos (by decide)];rfl,by decide⟩
theorem gapsG_ok:∀ g ∈ gapsG,GapB g∧∃ c r',g=c :: r'∧(c=32∨c=10):=by
 intro g hg
 have h6:GapB [32,35,32,97,59,32,40,10]:=⟨fun r=>by
  show gK false (32 :: 35 :: 32 :: 97 :: 59 :: 32 :: 40 :: 10 :: r)=_
  rw [gK,if_pos (by decide),gK,if_neg (by decide),if_pos (by decide),gK,if_neg (by decide),gK,if_neg (by decide),gK,if_neg (by decide),gK,if_neg (by decide),gK,if_neg (by decide),gK,if_pos (by decide)]
  show _=8+gK false r
  omega,by decide⟩
 unfold gapsG at hg
 simp only [List.mem_cons,List.not_mem_nil,or_false] at hg
 rcases hg with rfl | rfl | rfl | rfl | rfl | rfl
 ·exact⟨gapB_32,_,_,rfl,.inl rfl⟩
 ·exact⟨gapB_32.append gapB_32,_,_,rfl,.inl rfl⟩
 ·exact⟨gapB_10,_,_,rfl,.inr rfl⟩
 ·exact⟨h6,_,_,rfl,.inl rfl⟩
 ·exact⟨gapB_32,_,_,rfl,.inl rfl⟩
 ·exact⟨(gapB_32.append gapB_10).append gapB_32,_,_,rfl,.inl rfl⟩
theorem sg_mem (l:List Bs)(i:Nat)(h:i < l.length):sg l i ∈ l:=by rw [IY l i h];exact List.getElem_mem h
theorem acO (wild:Bool)(s:abd):GapB (acM wild s)∧∃ c r',acM wild s=c :: r'∧(c=32∨c=10):=by
 unfold acM;split
 ·exact gapsG_ok _ (sg_mem gapsG _ (by show s.nx % 6 < 6;omega))
 ·exact⟨gapB_32,_,_,rfl,.inl rfl⟩
theorem gapG_gh (wild:Bool)(s:abd)(r:Bs):abf (acM wild s ++ r):=by
 obtain⟨_,c,r',h,hc⟩:=acO wild s;exact⟨c,r' ++ r,by rw [h];rfl,hc⟩
structure TkOk (k:Nat) (t r:Bs):Prop where
 first:Mist.first (t ++ r)=(k,t)
 kind:k ≠ 0
 pos:0 < t.length
 skip:Mist.skip (t ++ r)=0
 valid:t.all gV=true
theorem skip_c (b:UInt8)(r:Bs)(h1:pR b=false)(h2:(b == 35)=false):skip (b :: r)=0:=by
 unfold skip;rw [gK,if_neg (by simp [h1]),if_neg (by simp [h2])]
def headOk (t:Bs):Bool:=match t with
 | []=>false
 | b :: _=>!pR b && !(b == 35)
theorem skip_head {t r:Bs}(h:headOk t=true):skip (t ++ r)=0:=by
 cases t with
 | nil=>cases h
 | cons b t =>
  unfold headOk at h
  rw [aaS] at h
  exact skip_c b _ (by simpa using h.1) (by simpa using h.2)
def wordB (k:Nat)(t:Bs):Bool:=decide (0 < t.length) && dP (gt t 0) && t.all dI && (first t == (k,t)) && (k != 0) && t.all gV && headOk t
theorem acN {k:Nat}{t r:Bs}(h:wordB k t=true)(hr:abg r):TkOk k t r:=by
 unfold wordB at h
 simp only [aaS,decide_eq_true_eq,bne_iff_ne,beq_iff_eq] at h
 obtain⟨⟨⟨⟨⟨⟨h0,h1⟩,h2⟩,h3⟩,h4⟩,h5⟩,h6⟩:=h;exact⟨by rw [word_stopG t r hr h0 h1 h2 (by rw [h3];intro e;injection e with e;exact h4 e),h3],h4,h0,skip_head h6,h5⟩
def numB (t:Bs):Bool:=decide (0 < t.length) && !dP (gt t 0) && aQ (gt t 0) && t.all aQ && g_ t && (first t == (2,t)) && t.all gV && headOk t
theorem part_digit {c:UInt8}(h:dI c=false):aQ c=false:=by
 unfold dI at h
 cases hd:aQ c
 ·rfl
 ·rw [hd] at h;simp at h
theorem abg.digit {r:Bs}(h:abg r):r=[]∨∃ c r',r=c :: r'∧aQ c=false:=by
 rcases h with h | ⟨c,r',h,hc⟩
 ·exact .inl h
 ·exact .inr ⟨c,r',h,part_digit hc⟩
theorem num_ok {t r:Bs}(h:numB t=true)(hr:abg r):TkOk 2 t r:=by
 unfold numB at h
 simp only [aaS,decide_eq_true_eq,beq_iff_eq] at h
 obtain⟨⟨⟨⟨⟨⟨⟨h0,h1⟩,h2⟩,h3⟩,h4⟩,h5⟩,h6⟩,h7⟩:=h;exact⟨by rw [num_stopG t r hr.digit h0 (by simpa using h1) h2 h3 h4,h5],by decide,h0,skip_head h7,h6⟩
theorem one_ok (x:UInt8)(h:x ∈ [40,41,91,93,123,125,44,59,58,43,45,42,47,37])(r:Bs):TkOk 4 [x] r:=by
 have h1:∀ x ∈ ([40,41,91,93,123,125,44,59,58,43,45,42,47,37]:List UInt8),dP x=false∧aQ x=false∧headOk [x]=true∧[x].all gV=true∧first [x]=(4,[x])∧∀ n:Fin 256,first [x,UInt8.ofNat n.val]=(4,[x]):=by decide +kernel
 obtain⟨a,b,c,d,e,f⟩:=h1 x h
 refine⟨?_,by decide,by simp,skip_head c,d⟩
 cases r with
 | nil=>exact e
 | cons y r =>
  show first (x :: y :: r)=_
  rw [oo _ _ _ a b]
  have:=f ⟨y.toNat,y.toNat_lt⟩
  rwa [show UInt8.ofNat y.toNat=y by simp] at this
theorem two_ok (x y:UInt8)(h:(x,y) ∈ ([(61,61),(33,61),(60,61),(62,61),(46,46)]:List (UInt8 × UInt8)))(r:Bs):TkOk 4 [x,y] r:=by
 have h1:∀ p ∈ ([(61,61),(33,61),(60,61),(62,61),(46,46)]:List (UInt8 × UInt8)),dP p.1=false∧aQ p.1=false∧headOk [p.1,p.2]=true∧[p.1,p.2].all gV=true∧first [p.1,p.2]=(4,[p.1,p.2]):=by decide +kernel
 obtain⟨a,b,c,d,e⟩:=h1 _ h
 refine⟨?_,by decide,by simp,skip_head c,d⟩
 show first (x :: y :: r)=_
 rw [oo _ _ _ a b];exact e
theorem eq_ok (x z:UInt8)(h:(x,z) ∈ ([(61,61),(60,61),(62,61),(46,46)]:List (UInt8 × UInt8)))(y:UInt8)(r:Bs)(hy:y ≠ z):TkOk 4 [x] (y :: r):=by
 have h1:∀ p ∈ ([(61,61),(60,61),(62,61),(46,46)]:List (UInt8 × UInt8)),dP p.1=false∧aQ p.1=false∧headOk [p.1]=true∧[p.1].all gV=true∧∀ n:Fin 256,UInt8.ofNat n.val ≠ p.2→first [p.1,UInt8.ofNat n.val]=(4,[p.1]):=by decide +kernel
 obtain⟨a,b,c,d,f⟩:=h1 _ h
 refine⟨?_,by decide,by simp,skip_head c,d⟩
 show first (x :: y :: r)=_
 rw [oo _ _ _ a b]
 have:=f ⟨y.toNat,y.toNat_lt⟩
 rw [show UInt8.ofNat y.toNat=y by simp] at this
 exact this hy
def GoodR:Pcs→Bs→Prop
 | [],_=>True
 | (g,k,t) :: I,r=>GapB g∧TkOk k t (aN I ++ r)∧GoodR I r
theorem acJ:∀ (I J:Pcs) (r:Bs),GoodR I (aN J ++ r)→GoodR J r→GoodR (I ++ J) r
 | [],_,_,_,h=>h
 | (g,k,t) :: I,J,r,⟨h1,h2,h3⟩,h=>⟨h1,by
  show TkOk k t (aN (I ++ J) ++ r)
  rw [qZ,List.append_assoc];exact h2,acJ I J r h3 h⟩
def abh (I:Pcs):Prop:=∀ r,abg r→GoodR I r
def abj (I:Pcs):Prop:=∃ k t R,I=([],k,t) :: R∧∃ c t',t=c :: t'∧c ≠ 61∧c ≠ 46
structure abe (I:Pcs):Prop where
 good:abh I
 start:abj I
theorem acF {g:Bs}{k:Nat}{t:Bs}{I:Pcs}{r:Bs}(hg:GapB g)(ht:TkOk k t (aN I ++ r))(h:GoodR I r):GoodR ((g,k,t) :: I) r:=⟨hg,ht,h⟩
theorem np_c {c:UInt8}{r:Bs}(h:dI c=false):abg (c :: r):=.inr ⟨c,r,rfl,h⟩
theorem abj.text {I:Pcs}(h:abj I)(g:Bs):aN (Pcs.on g I)=g ++ aN I:=by
 obtain⟨k,t,R,rfl,_⟩:=h
 show (g ++ []) ++ (t ++ aN R)=g ++ ([] ++ (t ++ aN R))
 simp
theorem abe.on {I:Pcs}(h:abe I){g:Bs}(hg:GapB g):abh (Pcs.on g I):=by
 intro r hr;have h1:=h.good r hr;obtain⟨k,t,R,rfl,_⟩:=h.start;obtain⟨_,h2,h3⟩:=h1;exact⟨by show GapB (g ++ []);rw [List.append_nil];exact hg,h2,h3⟩
theorem abj.ne {I:Pcs}(h:abj I)(g:Bs)(r:Bs):∃ c r',aN I ++ r=c :: r'∧c ≠ 61∧c ≠ 46:=by
 obtain⟨k,t,R,rfl,c,t',rfl,h1,h2⟩:=h;exact⟨c,_,rfl,h1,h2⟩
theorem acK {x:UInt8}(h:x ∈ [40,41,91,93,123,125,44,59,58,43,45,42,47,37]){g:Bs}(hg:GapB g){I:Pcs}{r:Bs}(hI:GoodR I r):GoodR ((g,4,[x]) :: I) r:=acF hg (one_ok x h _) hI
theorem some_good (wild:Bool){I:Pcs}(s:abd)(h:abh I):abe (someP wild I s):=by
 unfold someP;split
 ·refine⟨fun r _=>?_,_,_,_,rfl,_,_,rfl,by decide,by decide⟩
  refine acK (by decide) acE (acK (by decide) acE (acJ I _ r (h _ ?_) (acK (by decide) (acO wild _).1 (acK (by decide) acE trivial))))
  show abg ((acM wild s.tl ++ ([41] ++ _)) ++ r)
  rw [List.append_assoc];exact (gapG_gh wild _ _).np
 ·refine⟨fun r _=>?_,_,_,_,rfl,_,_,rfl,by decide,by decide⟩
  exact acK (by decide) acE (acJ I _ r (h _ (np_c (by decide))) (acK (by decide) acE trivial))
theorem words_ok:∀ x ∈ wordsG,wordB 1 x=true:=by decide +kernel
theorem wordG_ok (b:Nat):wordB 1 (acH b)=true:=words_ok _ (sg_mem wordsG _ (by show b % 8 < 8;omega))
theorem words_start:∀ x ∈ wordsG,∃ c t',x=c :: t'∧c ≠ 61∧c ≠ 46:=by
 intro x hx;unfold wordsG at hx
 simp only [List.mem_cons,List.not_mem_nil,or_false] at hx
 rcases hx with rfl | rfl | rfl | rfl | rfl | rfl | rfl | rfl <;> exact⟨_,_,rfl,by decide,by decide⟩
theorem wordG_start (b:Nat):∃ c t',acH b=c :: t'∧c ≠ 61∧c ≠ 46:=words_start _ (sg_mem wordsG _ (by show b % 8 < 8;omega))
theorem nums_ok:∀ n:Fin 140,numB (Go.Lib.itoa ((n.val:Nat):Int))=true∧((Go.Lib.itoa ((n.val:Nat):Int)).headD 0 != 61 && (Go.Lib.itoa ((n.val:Nat):Int)).headD 0 != 46)=true:=by decide +kernel
theorem num_good (n:Nat)(h:n < 140):numB (Go.Lib.itoa (n:Int))=true:=(nums_ok ⟨n,h⟩).1
theorem num_start (n:Nat)(h:n < 140):∃ c t',Go.Lib.itoa (n:Int)=c :: t'∧c ≠ 61∧c ≠ 46:=by
 have h1:=num_good n h;have h2:=(nums_ok ⟨n,h⟩).2
 cases hx:Go.Lib.itoa (n:Int) with
 | nil=>rw [hx] at h1;exact absurd h1 (by decide)
 | cons c t =>
  have h2:((Go.Lib.itoa (n:Int)).headD 0 != 61 && (Go.Lib.itoa (n:Int)).headD 0 != 46)=true:=h2;rw [hx] at h2
  simp only [List.headD_cons,aaS,bne_iff_ne] at h2
  exact⟨c,t,rfl,h2.1,h2.2⟩
theorem numPc_good (n:Int)(h1:-140 < n)(h2:n < 140):abh (numPc n)∧abj (numPc n):=by
 unfold numPc;split
 ·obtain⟨m,hm⟩:∃ m:Nat,-n=(m:Int):=⟨(-n).toNat,by omega⟩;rw [hm];exact⟨fun r hr=>acK (by decide) acE (acF acE (num_ok (num_good m (by omega)) (by simpa [aN] using hr)) trivial),_,_,_,rfl,_,_,rfl,by decide,by decide⟩
 ·obtain⟨m,hm⟩:∃ m:Nat,n=(m:Int):=⟨n.toNat,by omega⟩;rw [hm];obtain⟨c,t',h3,h4⟩:=num_start m (by omega);exact⟨fun r hr=>acF acE (num_ok (num_good m (by omega)) (by simpa [aN] using hr)) trivial,_,_,_,rfl,c,t',h3,h4⟩
theorem leaf_good (b:Nat)(hb:b < 60)(s:abd):abe (leafG b s).pc:=by
 unfold leafG;split
 ·obtain⟨h1,h2⟩:=numPc_good ((b * 7:Nat):Int) (by omega) (by omega);exact⟨h1,h2⟩
 ·split
  ·refine⟨fun r hr=>acF acE (acN ?_ (by simpa [aN] using hr)) trivial,?_⟩
   ·split <;> decide
   ·split <;> exact⟨_,_,_,rfl,_,_,rfl,by decide,by decide⟩
  ·refine⟨fun r hr=>acF acE (acN (wordG_ok b) (by simpa [aN] using hr)) trivial,?_⟩
   obtain⟨c,t',h3,h4⟩:=wordG_start b;exact⟨_,_,_,rfl,c,t',h3,h4⟩
theorem op_ok (k:Nat)(hk:k < 13){r:Bs}(hr:abf r):TkOk (opK k) (sg opsG k) r:=by
 obtain⟨c,r',rfl,hc⟩:=hr;have h61:c ≠ 61:=by rcases hc with rfl | rfl <;> decide
 have hn:abg (c :: r'):=np_c (by rcases hc with rfl | rfl <;> decide)
 match k,hk with
 | 0,_=>exact one_ok 43 (by decide) _
 | 1,_=>exact one_ok 45 (by decide) _
 | 2,_=>exact one_ok 42 (by decide) _
 | 3,_=>exact one_ok 47 (by decide) _
 | 4,_=>exact one_ok 37 (by decide) _
 | 5,_=>exact two_ok 61 61 (by decide) _
 | 6,_=>exact two_ok 33 61 (by decide) _
 | 7,_=>exact eq_ok 60 61 (by decide) _ _ h61
 | 8,_=>exact two_ok 60 61 (by decide) _
 | 9,_=>exact eq_ok 62 61 (by decide) _ _ h61
 | 10,_=>exact two_ok 62 61 (by decide) _
 | 11,_=>exact acN (by decide) hn
 | 12,_=>exact acN (by decide) hn
end Mist
namespace Go.Proofs.YthepmkjggfijoaaGreatDoor
open Go.RowKit Mist
attribute [local go_sem] aj aH aS aB ak
theorem plPut_any (g:Nat)(wild:Bool)(iv:Value)(w:World)(s:abd)(xs:List NV)(nv lv:Value)(h:abH g wild iv w s xs nv lv)(K:Nat)(x:Bs)(N:Int)(kv:Value)(kids:List Int)(Mi:cB w kv kids)(hn:s.ns.length≤1000000) :
  Calls Tryz.prog 114 #[.pointer (some ⟨g,0,none⟩),.agg #[.int .u8 K,.string (aM x),.int .i64 N,kv,.int .i64 0]] w fun e w'=>e=.returned (.int .i64 s.id)∧∃ eO,abH g wild iv w' (s.put ⟨K,x,N,kids,0⟩) (xs ++ [(⟨K,x,N,kids,0⟩,kv)]) eO lv∧Mv g nv.ownBlock w eO.ownBlock w':=by
 obtain⟨A,c,rfl⟩:=dh Mi;obtain⟨i0,hi0,hz0,hz1,hz2⟩:=info_parts rW;have hx:s.id=(xs.length:Int):=by unfold abd.id;rw [h.len]
 rw [hx];rw [← h.len] at hn
 clear hx;have H:=hid h;clear h;have HK:=hid Mi;clear Mi;have hlt:=H.out.lt;have c3:=H.out.blk.cell 1;have f3:=H.out.blk.frozen 1;obtain⟨kn,hkn⟩:∃ kn,kn=kids.length:=⟨_,rfl⟩;rw [← hkn];have HKN:=hid hkn;clear hkn;have hne:¬ w.heap.size=g:=by omega
 go_in
 go_wp2_with fail
 go_region_law ((refine step_append_lies _ (by rfl) _ _ _ (by rfl) g 50 i0 _ 5 64 Tryz.underlying23 hi0 hz0 hz1 hz2 rfl (by omega) _ xs.length (iO xs) (by rfl) (((H.out.own.alloc _).alloc _).drew)
                  ⟨w.heap.size+1,0,none⟩ 1 1 (fC (⟨K,x,N,kids,0⟩,.slice A kn c)) (by rfl) (by rfl) (World.news_of_block (cs:=#[.int .u8 K,.string (aM x),.int .i64 N,.slice A kn c,.int .i64 0]) (t:=50) (fr:=(0,0)) (yZ w _ _)) (by intro u hu;simp [fC] at hu;rcases hu with rfl | rfl | rfl | rfl | rfl <;> rfl)
                  (by omega) (by simp only [maxLen];omega) (by omega) (by simp;omega) (w.heap.size+2) (by simp) ?_;intro gg cap w1 hown1 hgrow hat hlt';have kk:=((H.out.alloc (.cells #[.int .u8 K,.string (aM x),.int .i64 N,.slice A kn c,.int .i64 0] 50)).alloc (.cells #[.int .u8 K,.string (aM x),.int .i64 N,.slice A kn c,.int .i64 0] 50)).drew.blk.grown hgrow (fun e=>aT H.out.own H.out.blk (by decide) e.symm);have c3':=kk.cell 1;have f3':=kk.frozen 1;clear kk))
 all_goals
  have HGR:=hid hgrow;clear hgrow;have HOW:=hid hown1;clear hown1;have HAT:=hid hat;clear hat;go_wp2;go_ret
  refine⟨by (first | rfl|(congr 2;omega)),_,abH.add ((H.out.alloc (.cells #[.int .u8 K,.string (aM x),.int .i64 N,.slice A kn c,.int .i64 0] 50)).alloc (.cells #[.int .u8 K,.string (aM x),.int .i64 N,.slice A kn c,.int .i64 0] 50)).drew HGR.out HOW.out (HKN.out ▸ own_below HK.out (Below.drew (ah (ah (Below.refl _ _) (aaJ _)) (by simp)))),?_⟩
  refine Mv.gset ?_;refine Mv.trans (r1:=nv.ownBlock) (Mv.dD (Mv.dD Mv.refl)).Zp (Mv.grown HGR.out ?_);rcases HAT.out with e | e
  ·left;rw [e];rfl
  ·right;rw [e];simp [Value.ownBlock]
def someT (wild:Bool)(t:Bs)(s:abd):Bs:=if wild=true∧s.nx % 4=0 then [40,40] ++ t ++ acM wild s.tl ++ [41,41] else [40] ++ t ++ [41]
theorem someT_text (wild:Bool)(I:Pcs)(s:abd):aN (someP wild I s)=someT wild (aN I) s:=by
 unfold someP someT;split
 ·rw [List.cons_append,List.cons_append]
  show [] ++ ([40] ++ ([] ++ ([40] ++ aN (I ++ _))))=_
  rw [qZ]
  show _=[40,40] ++ aN I ++ acM wild s.tl ++ [41,41]
  simp [aN,sgn]
 ·show [] ++ ([40] ++ aN (I ++ _))=_
  rw [qZ];simp [aN,sgn]
theorem gapG_len (wild:Bool)(s:abd):(acM wild s).length≤8:=by
 unfold acM;split
 ·have:∀ g ∈ gapsG,g.length≤8:=by decide
  exact this _ (sg_mem gapsG _ (by show s.nx % 6 < 6;omega))
 ·decide
theorem plSome_any (g:Nat)(wild:Bool)(iv:Value)(w:World)(s:abd)(xs:List NV)(nv lv:Value)(h:abH g wild iv w s xs nv lv)(t:Bs)(ht:t.length≤1000000000) :
  Calls Tryz.prog 195 #[.pointer (some ⟨g,0,none⟩),.string (aM t)] w fun e w'=>e=.returned (.string (aM (someT wild t s)))∧∃ lv',abH g wild iv w' (someS wild s) xs nv lv'∧Mv g nv.ownBlock w nv.ownBlock w':=by
 have H:=hid h;have c3:=h.blk.cell 3;have hlt:=h.lt;clear h;cases wild
 ·have l1:¬ 9223372036854775807 < 1+t.length:=by omega
  have l2:¬ 9223372036854775807 < 1+t.length+1:=by omega
  go_in
  go_wp2_with fail;go_ret;exact⟨congrArg (fun x=>Ending.returned (.string x)) (show _=aM ([40] ++ t ++ [41]) from (by rw [← ak,← ak];rfl)),_,H.out,Mv.refl⟩
 have l1:¬ 9223372036854775807 < 1+t.length:=by omega
 have l2:¬ 9223372036854775807 < 1+t.length+1:=by omega
 have l3:¬ 9223372036854775807 < 2+t.length:=by omega
 obtain⟨r,hr⟩:∃ r,r=s.nx % 4:=⟨_,rfl⟩;have HR:=hid hr;obtain⟨b,hb⟩:∃ b,b=s.nx:=⟨_,rfl⟩;have hm:Int.tmod (b:Int) 4=(r:Int):=by rw [Int.tmod_eq_emod_of_nonneg (by omega),hr,hb];omega
 have hm2:(b:Int) % 4=(r:Int):=by rw [hr,hb];omega
 have HB:=hid hb;clear hr hb;by_cases h0:r=0
 ·subst h0;have HT:=hid (show someT true t s=[40,40] ++ t ++ acM true s.tl ++ [41,41] by unfold someT;rw [if_pos ⟨rfl,HR.out.symm⟩]);have HS:=hid (show someS true s=acC true s.tl by unfold someS;rw [if_pos rfl,if_pos HR.out.symm]);have hr0:((((0:Nat):Int)) == 0)=true:=rfl;go_in
  go_wp2_with fail;refine (acU g true iv _ s xs nv _ H.out).mono ?_;rintro e w1⟨rfl,lv',h1,m1⟩;have H1:=hid h1;have M1:=hid m1;clear h1 m1;rw [← HB.out];go_wp2_with fail;refine (plGap_any g true iv _ s.tl xs nv _ H1.out).mono ?_;rintro e w2⟨rfl,lv2,h2,m2⟩;have H2:=hid h2;have M2:=hid (M1.out.trans m2);clear h2 m2;have hgl:=gapG_len true s.tl
  generalize hG:acM true s.tl=G at hgl HT ⊢
  have l4:¬ 9223372036854775807 < 2+t.length+G.length:=by omega
  have abB:¬ 9223372036854775807 < 2+t.length+G.length+2:=by omega
  clear hG;go_wp2_with fail;go_ret;exact⟨congrArg (fun x=>Ending.returned (.string x)) (show _=aM (someT true t s) from (by rw [HT.out,← ak,← ak,← ak];rfl)),_,by rw [HS.out];exact H2.out,M2.out⟩
 ·have HT:=hid (show someT true t s=[40] ++ t ++ [41] by unfold someT;rw [if_neg (fun h=>h0 (by rw [HR.out];exact h.2))]);have HS:=hid (show someS true s=s.tl by unfold someS;rw [if_pos rfl,if_neg (fun h=>h0 (by rw [HR.out];exact h))]);have hr0:((r:Int) == 0)=false:=by simp;omega
  go_in
  go_wp2_with fail;refine (acU g true iv _ s xs nv _ H.out).mono ?_;rintro e w1⟨rfl,lv',h1,m1⟩;have H1:=hid h1;have M1:=hid m1;clear h1 m1;rw [← HB.out];go_wp2_with fail;go_ret;exact⟨congrArg (fun x=>Ending.returned (.string x)) (show _=aM (someT true t s) from (by rw [HT.out,← ak,← ak];rfl)),_,by rw [HS.out];exact H1.out,M1.out⟩
theorem Mx (w:World)(ks:List Int)(h:ks.length≤1000:=by first|(simp;done)|(simp;omega)):cB (w.alloc (.cells (intCells ks).toArray 3)) (.slice (some ⟨w.heap.size,0,none⟩) ks.length ks.length) ks:=by
 have:=World.ownsRow_lit (base:=0) (e:=3) (size:=1) w (intCells ks).toArray ks.length (aaL _) (by simp only [maxLen];omega) (by simp [intCells])
 unfold cB
 simpa using this
theorem cB.below {w w':World}{v:Value}{ks:List Int}(h:cB w v ks)(hb:Below w.heap.size w w'):cB w' v ks:=own_below h hb
theorem cB.alloc {w:World}{v:Value}{ks:List Int}(h:cB w v ks)(o:Obj):cB (w.alloc o) v ks:=World.ownsRow.alloc h o
structure abJ (g:Nat) (w:World) (xs:List NV) (nv:Value) (w':World) (xs':List NV) (eO:Value):Prop where
 mv:Mv g nv.ownBlock w eO.ownBlock w'
 new:∃ ys,xs'=xs ++ ys∧∀ y ∈ ys,∀ b,y.2.ownBlock=some b→w.heap.size≤b
section
variable {g:Nat} {w w1 w2:World} {xs xs1 xs2:List NV} {nv gW Qu:Value}
theorem abJ.refl:abJ g w xs nv w xs nv:=⟨Mv.refl,[],by simp,fun y hy=>by cases hy⟩
theorem abJ.size (h:abJ g w xs nv w1 xs1 gW):w.heap.size≤w1.heap.size:=h.mv.size
theorem abJ.trans (h:abJ g w xs nv w1 xs1 gW)(k:abJ g w1 xs1 gW w2 xs2 Qu):abJ g w xs nv w2 xs2 Qu:=by
 obtain⟨ys,e,hy⟩:=h.new;obtain⟨zs,e2,hz⟩:=k.new
 refine⟨h.mv.trans k.mv,ys ++ zs,by rw [e2,e,List.append_assoc],fun y hm b hb=>?_⟩
 rcases List.mem_append.1 hm with hm | hm
 ·exact hy y hm b hb
 ·exact Nat.le_trans h.size (hz y hm b hb)
theorem abJ.aL (h:abJ g w xs nv w1 xs1 gW)(hb:Below w1.heap.size w1 w2):abJ g w xs nv w2 xs1 gW:=⟨h.mv.aL hb,h.new⟩
theorem abJ.dD {o:Obj}(h:abJ g w xs nv w1 xs1 gW):abJ g w xs nv (w1.alloc o) xs1 gW:=⟨h.mv.dD,h.new⟩
theorem abJ.ne (h:abJ g w xs nv w1 xs1 gW){b:Nat}(hb:b < w.heap.size)(hr:some b ≠ nv.ownBlock):some b ≠ gW.ownBlock:=h.mv.ne hb hr
theorem abJ.blk {b:Nat}{T:TypeId}{cs:Array Value}(h:abJ g w xs nv w1 xs1 gW)(hb:aC w b T cs)(hg:b ≠ g)(hr:some b ≠ nv.ownBlock):aC w1 b T cs:=h.mv.blk hb hg hr
theorem gw_at {k n c:Nat}(h:w.heap.size≤k):∀ b,(Value.slice (some ⟨k,0,none⟩) n c).ownBlock=some b→w.heap.size≤b:=fun b hb=>by
 simp [Value.ownBlock] at hb;omega
theorem gw_none:∀ b,(Value.slice none 0 0).ownBlock=some b→w.heap.size≤b:=fun b hb=>by simp [Value.ownBlock] at hb
end
structure abK (w0 w:World) (xs:List NV) (v:Value) (ks:List Int):Prop where
 row:cB w v ks
 lo:∀ b,v.ownBlock=some b→w0.heap.size≤b
 far:∀ x ∈ xs,x.2.ownBlock=none∨x.2.ownBlock ≠ v.ownBlock
section
variable {g:Nat} {wild:Bool} {iv lv:Value} {w0 w w1:World} {s:abd} {xs xs1:List NV} {nv gW:Value} {v:Value} {ks:List Int}
theorem cB.lt (h:cB w v ks):∀ b,v.ownBlock=some b→b < w.heap.size:=fun b hb=>(World.ownsRow.lt h b hb).2
theorem abK.below (h:abK w0 w xs v ks)(hb:Below w.heap.size w w1):abK w0 w1 xs v ks:=⟨cB.below h.row hb,h.lo,h.far⟩
theorem abK.alloc (h:abK w0 w xs v ks)(o:Obj):abK w0 (w.alloc o) xs v ks:=⟨cB.alloc h.row o,h.lo,h.far⟩
theorem abK.mv (h:abK w0 w xs v ks)(q:abH g wild iv w s xs nv lv)(m:Mv g nv.ownBlock w gW.ownBlock w1):abK w0 w1 xs v ks:=⟨q.l6 m h.row,h.lo,h.far⟩
theorem abK.mw (h:abK w0 w xs v ks)(q:abH g wild iv w s xs nv lv)(m:abJ g w xs nv w1 xs1 gW):abK w0 w1 xs1 v ks:=by
 refine⟨q.l6 m.mv h.row,h.lo,fun x hx=>?_⟩
 obtain⟨ys,rfl,hy⟩:=m.new;rcases List.mem_append.1 hx with hx | hx
 ·exact h.far x hx
 ·rcases h9:x.2.ownBlock with _ | b
  ·exact .inl rfl
  ·right
   intro e;have h1:=hy x hx b h9;have h2:=cB.lt h.row b e.symm;omega
theorem abK.put (h:abK w0 w xs v ks)(q:abH g wild iv w s xs nv lv){x:NV}{s2:abd}(_q2:abH g wild iv w1 s2 (xs ++ [x]) gW lv)(m:Mv g nv.ownBlock w gW.ownBlock w1)(hx:x.2.ownBlock=none∨x.2.ownBlock ≠ v.ownBlock):abK w0 w1 (xs ++ [x]) v ks:=by
 refine⟨q.l6 m h.row,h.lo,fun y hy=>?_⟩
 rcases List.mem_append.1 hy with hy | hy
 ·exact h.far y hy
 ·rw [List.mem_singleton.1 hy];exact hx
theorem abK.nil (w0 w:World)(xs:List NV):abK w0 w xs (.slice none 0 0) []:=⟨cB.none_ _,fun b hb=>by simp [Value.ownBlock] at hb,fun x hx=>by
 rcases h9:x.2.ownBlock with _ | b
 ·exact .inl rfl
 ·right;simp [Value.ownBlock]⟩
theorem abK.made (q:abH g wild iv w s xs nv lv){k n c:Nat}(hk:w.heap.size=k)(h0:w0.heap.size≤k)(h:cB (w.alloc (.cells (intCells ks).toArray 3)) (.slice (some ⟨k,0,none⟩) n c) ks):abK w0 (w.alloc (.cells (intCells ks).toArray 3)) xs (.slice (some ⟨k,0,none⟩) n c) ks:=by
 refine⟨h,fun b hb=>by simp [Value.ownBlock] at hb;omega,fun x hx=>?_⟩
 rcases h9:x.2.ownBlock with _ | b
 ·exact .inl rfl
 ·right
  intro e;have h1:=cB.lt (q.kids x hx) b h9;simp [Value.ownBlock] at e
  omega
theorem abK.empty (q:abH g wild iv w s xs nv lv){k:Nat}(hk:w.heap.size=k)(h0:w0.heap.size≤k):abK w0 (w.alloc (.cells #[] 3)) xs (.slice (some ⟨k,0,none⟩) 0 0) []:=by
 subst hk;exact abK.made (ks:=[]) (n:=0) (c:=0) q rfl h0 (World.ownsRow_lit (base:=0) (e:=3) (size:=1) w #[] 0 (aaL _) (by simp [maxLen]) rfl)
theorem abK.apart (h:abK w0 w xs v ks){k n c:Nat}(hk:w.heap.size≤k):(Value.slice (some ⟨k,0,none⟩) n c).ownBlock=none∨(Value.slice (some ⟨k,0,none⟩) n c).ownBlock ≠ v.ownBlock:=by
 right
 intro e
 have:=cB.lt h.row k (by rw [← e];rfl)
 omega
theorem abK.grow (h:abK w0 w xs v ks){gg cap:Nat}{k:Int}(q:abH g wild iv w s xs nv lv)(hown:w1.ownsRow 0 3 1 (.slice (some ⟨gg,0,none⟩) (ks.length+1) cap) (ks.length+1) (intCells ks ++ [.int .i64 k]))(hat:v.ownBlock=some gg∨gg=w.heap.size)(h0:w0.heap.size≤w.heap.size):abK w0 w1 xs (.slice (some ⟨gg,0,none⟩) (ks.length+1) cap) (ks ++ [k]):=by
 refine⟨?_,fun b hb=>?_,fun x hx=>?_⟩
 ·unfold cB;rw [aaO,eT];exact hown
 ·have hb:gg=b:=by simpa [Value.ownBlock] using hb
  subst hb;rcases hat with e | e
  ·exact h.lo _ e
  ·omega
 ·rcases hat with e | e
  ·have:=h.far x hx
   rw [e] at this
   simpa [Value.ownBlock] using this
  ·rcases h9:x.2.ownBlock with _ | b
   ·exact .inl rfl
   ·right
    intro e2;have h1:=cB.lt (q.kids x hx) b h9;simp [Value.ownBlock] at e2
    omega
theorem abH.grow (q:abH g wild iv w s xs nv lv)(h:abK w0 w xs v ks)(hg:w.grownBy w1 v.ownBlock)(h0:∀ b,v.ownBlock=some b→g≤b):abH g wild iv w1 s xs nv lv :=
 ⟨q.blk.grown hg (fun e=>aT h.row q.blk (by decide) e.symm),q.seed.below ((Below.refl _ _).grown hg (aaK q.lt) h0) (aaK q.lt),q.own.kept hg (iE q.own h.row (by decide)),fun x hx=>World.ownsRow.kept (q.kids x hx) hg (h.far x hx),q.ns,q.pow.on ((Below.refl _ _).grown hg (aaK q.lt) h0)⟩
theorem abJ.grow (m:abJ g w0 xs nv w xs1 gW)(h:abK w0 w xs1 v ks)(hg:w.grownBy w1 v.ownBlock):abJ g w0 xs nv w1 xs1 gW :=
 ⟨⟨hg.os.trans m.mv.os,hg.tape.trans m.mv.tape,hg.output.trans m.mv.output,Nat.le_trans m.size hg.size,fun b hb hg2 hr=>(hg.block b (aaW hb m.size) (fun e=>by have:=h.lo b e.symm;omega)).trans (m.mv.block b hb hg2 hr),m.mv.tgt⟩,m.new⟩
theorem abK.blk (h:abK w0 w xs v ks){b:Nat}{cs:Array Value}(hB:aC w b 50 cs)(hg:w.grownBy w1 v.ownBlock):aC w1 b 50 cs:=hB.grown hg (fun e=>aT h.row hB (by decide) e.symm)
end
end Go.Proofs.YthepmkjggfijoaaGreatDoor
