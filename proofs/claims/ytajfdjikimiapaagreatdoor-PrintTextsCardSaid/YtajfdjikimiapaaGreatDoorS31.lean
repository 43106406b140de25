/-
  A part of the proof.
-/
import Derived.Test.YtajfdjikimiapaaGreatDoorS22
import Derived.Test.YtajfdjikimiapaaGreatDoorS30
set_option linter.all false
set_option maxRecDepth 100000
set_option maxHeartbeats 16000000
namespace Go.Proofs.YtajfdjikimiapaaGreatDoor
section
open Go.RowKit Mist
attribute [local go_sem] au aN aV aM aG
def Cz (k:Nat):Bool:=eZ k || k == 25 || gF k || k == 34 || dB k
def Bw (x:Nd):Bool:=(jN x.kind == isName x.text) && (jN x.kind || x.text.isEmpty) && lD x && kG x && within x.at_ 0 2000
def Dw (T:Tr)(x:Nd)(j:Nat):Bool:=jL x j (nd T (x.kids.getD j 0).toNat).kind && !((nd T (x.kids.getD j 0).toNat).kind == 1 && decide ((nd T (x.kids.getD j 0).toNat).n < 0) && !(x.kind == 40))
theorem rP (T:Tr)(i:Nat):gV T i=(Cz (nd T i).kind && Bw (nd T i) && (List.range (nd T i).kids.length).all (Dw T (nd T i))):=by
 unfold gV Cz Bw Dw;simp only [Bool.and_assoc]
section
variable {P:Program} {md:Region.Mode} {l:List Oper} {Q:Exit→Act→World→Prop} {S:World→Prop} {oi:Oper} {fuel:Nat} {listed:Array Bool} {a:Act} {w:World}
theorem ahk (i:Nat)(hi:l[i]? = some oi){v:Value}(hy:Region.wanted oi (yielded l.toArray a.tmps)=true∧∀ w,S w→(execOp a.eval oi).run P w=.ok (.value v) w)(hS:S w)
  (h:wpAnyH P md l.toArray Q S fuel (listed.setIfInBounds i true) (a.put oi.dst v) w) (e:Region.noSelect l.toArray=true:=by kernel_rfl) (b:Region.free md l.toArray listed i=true:=by kernel_rfl) (d:(Region.ready md l.toArray listed).contains i=true:=by kernel_rfl)
  (hQ:∀ c a w,Q (.panic c) (a.put oi.dst v) w→Q (.panic c) a w:=by exact fun _ _ _ h=>h):wpAnyH P md l.toArray Q S (fuel+1) listed a w :=
 wpAnyH_take (by simpa using hi) e b d hQ (Or.inl hy) hS h
theorem takeN (i:Nat)(hi:l[i]? = some oi)(hy:Region.wanted oi (yielded l.toArray a.tmps)=false)(hS:S w)
  (h:wpAnyH P md l.toArray Q S fuel (listed.setIfInBounds i true) (a.put oi.dst undef) w) (e:Region.noSelect l.toArray=true:=by kernel_rfl) (b:Region.free md l.toArray listed i=true:=by kernel_rfl) (d:(Region.ready md l.toArray listed).contains i=true:=by kernel_rfl)
  (hQ:∀ c a w,Q (.panic c) (a.put oi.dst undef) w→Q (.panic c) a w:=by exact fun _ _ _ h=>h):wpAnyH P md l.toArray Q S (fuel+1) listed a w :=
 wpAnyH_take (by simpa using hi) e b d hQ (Or.inr ⟨hy,rfl⟩) hS h
theorem zO (i:Nat)(hi:l[i]? = some oi)
  (h:∀ b:Act→World→Prop,Shut (∀ a w,S w→(S w→wpAnyH P md l.toArray Q S fuel (listed.setIfInBounds i true) a w)→b a w)→if Region.wanted oi (yielded l.toArray a.tmps)=true then Oper.wp P oi a w b Q else b (a.put oi.dst undef) w) :
  AllReadyH P md l.toArray Q S fuel listed a w [i]:=AllReadyH.cons (by simpa using hi) h AllReadyH.nil
end
theorem T_ (A B:Option Addr)(c m d i:Nat)(xs:List NV)(u:List Int)(x:NV)(w:World)(hT:lJ w A B xs u)(hx:xs[i]? = some x)(hn:xs.length≤10000)(hk:∀ k ∈ x.1.kids,0≤k∧k < xs.length)(hl:x.1.text.length≤100000000) :
  Calls Tryz.prog 155 #[.agg #[.slice A xs.length c,.slice B m d],.int .i64 i] w fun e N=>e=.returned (.bool (gV ⟨aj xs,u⟩ i))∧Below w.heap.size w N:=by
 have ZF:=O (rP ⟨aj xs,u⟩ i);rw [aY u hx] at ZF
 have hil:i < xs.length:=(aiq.1 hx).1;obtain⟨n,hnn⟩:∃ n,n=xs.length:=⟨_,rfl⟩;rw [← hnn] at hn hk hil ⊢
 have HN:=O hnn;clear hnn;have HK:=O hk;clear hk;have HT:=O hT;clear hT;have HX:=O hx;obtain⟨b,o,rfl,hA⟩:=HT.o.nodes (by rw [← HN.o];omega);have c0:=hA.c0 i x hx;have c1:=hA.c1 i x hx;have c2:=hA.c2 i x hx;have c3:=hA.c3 i x hx;have c4:=hA.c4 i x hx;have hbl:=hA.lt;obtain⟨Ka,Y,hxe,V,hxk⟩:=hA.kid hx;rw [hxe] at c3
 have BG:=O hxk;have G:=O hA;clear hA hx hxe hxk;obtain⟨⟨k,tx,t,ks,at_⟩,xv⟩:=x;have HKS:=O (show ∃ D,D=ks.length from ⟨_,rfl⟩);obtain⟨D,hnk⟩:=HKS.o;clear HKS;simp only at c0 c1 c2 c3 c4 V hl HK BG
 rw [← hnk] at c3 V
 have gW:=O hnk;clear hnk;have z0:(0:Int)≤(i:Int):=by omega
 have z1:(i:Int) < (n:Int):=by omega
 go_in
 go_upto_region 2 with (fail)
 have HB0:=O ((aZ.new w 25 #[.slice (some ⟨b,o,none⟩) n c,.slice B m d]).alloc (.cells #[.int .u8 k,.string (aU tx),.int .i64 t,.slice Ka D Y,.int .i64 at_] 39));have Zy:=O (nI (W:=w.alloc (.cells #[.slice (some ⟨b,o,none⟩) n c,.slice B m d] 25)) (T:=39) (cs:=#[.int .u8 k,.string (aU tx),.int .i64 t,.slice Ka D Y,.int .i64 at_]) (k:=w.heap.size+1) (by simp));have gN:=O (aF (aF (Below.refl w.heap.size w) (aiv _) (o:=.cells #[.slice (some ⟨b,o,none⟩) n c,.slice B m d] 25)) (by simp) (o:=.cells #[.int .u8 k,.string (aU tx),.int .i64 t,.slice Ka D Y,.int .i64 at_] 39));go_cut [38] (fun v wx=>v=.bool (!Cz k)∧Hid (aZ wx w.heap.size 25 #[.slice (some ⟨b,o,none⟩) n c,.slice B m d])∧Hid (aZ wx (w.heap.size+1) 39 #[.int .u8 k,.string (aU tx),.int .i64 t,.slice Ka D Y,.int .i64 at_])∧Hid (Below w.heap.size w wx))
 case first =>
  have fin:∀ b:Bool,Cz k=b→Value.bool (!b)=Value.bool (!Cz k):=fun b h=>by rw [h]
  have U:=O (zQ k);have vC:=O (uF k);have HRI:=O (zS k);have R:=O (show Cz k=(eZ k || k == 25 || gF k || k == 34 || dB k) from rfl)
  cases e1:eZ k
  case true =>
   rw [e1] at U R
   go_wp2_with (go_at_call 40;refine (U.o _).mono ?_;rintro e N ⟨rfl,rfl⟩)
   go_meet
   exact⟨fin true R.o,HB0,Zy,gN⟩
  rw [e1] at U R
  by_cases WR:k=25
  ·have e2:((k:Int) != 25)=false:=by simp [WR]
   have G:=O (show Cz k=true by rw [R.o];simp [WR]);clear WR;go_wp2_with (go_at_call 40;refine (U.o _).mono ?_;rintro e N ⟨rfl,rfl⟩)
   go_meet
   exact⟨fin true G.o,HB0,Zy,gN⟩
  have e2:((k:Int) != 25)=true:=by simp;omega
  cases e3:gF k
  case true =>
   rw [e3] at vC
   have G:=O (show Cz k=true by rw [R.o,e3];simp);go_wp2_with (first|(go_at_call 40;refine (U.o _).mono ?_;rintro e N ⟨rfl,rfl⟩)|(go_at_call 43;refine (vC.o _).mono ?_;rintro e N ⟨rfl,rfl⟩))
   go_meet
   exact⟨fin true G.o,HB0,Zy,gN⟩
  rw [e3] at vC
  by_cases Nz:k=34
  ·have e4:((k:Int) != 34)=false:=by simp [Nz]
   have G:=O (show Cz k=true by rw [R.o];simp [Nz]);clear Nz;go_wp2_with (first|(go_at_call 40;refine (U.o _).mono ?_;rintro e N ⟨rfl,rfl⟩)|(go_at_call 43;refine (vC.o _).mono ?_;rintro e N ⟨rfl,rfl⟩))
   go_meet
   exact⟨fin true G.o,HB0,Zy,gN⟩
  have e4:((k:Int) != 34)=true:=by simp;omega
  cases e5:dB k
  all_goals
   rw [e5] at HRI
   have G:=O (show Cz k=_ by rw [R.o,e3,e5,show (k == 25)=false by simp [WR],show (k == 34)=false by simp [Nz]]);go_wp2_with (first|(go_at_call 40;refine (U.o _).mono ?_;rintro e N ⟨rfl,rfl⟩)|(go_at_call 43;refine (vC.o _).mono ?_;rintro e N ⟨rfl,rfl⟩)|(go_at_call 156;refine (HRI.o _).mono ?_;rintro e N ⟨rfl,rfl⟩))
   go_meet
   exact⟨fin _ G.o,HB0,Zy,gN⟩
 case rest =>
  obtain⟨rfl,HB,J,I⟩:=hcut;clear HB0 Zy gN c0 c1 c2 c3 c4
  cases hany:Cz k
  ·have HF:=O (show gV ⟨aj xs,u⟩ i=false by rw [ZF.o,hany];rfl);go_wp2_with fail;go_ret;exact⟨by rw [HF.o];rfl,I.o⟩
  have HAN:=O hany;clear hany;go_upto_region 4 with (fail)
  have q0:=J.o.cell 0;have q1:=J.o.cell 1;have q2:=J.o.cell 2;have q3:=J.o.cell 3;have q4:=J.o.cell 4;go_cut [76] (fun v wx=>v=.bool (!Bw ⟨k,tx,t,ks,at_⟩)∧Hid (aZ wx w.heap.size 25 #[.slice (some ⟨b,o,none⟩) n c,.slice B m d])∧Hid (aZ wx (w.heap.size+1) 39 #[.int .u8 k,.string (aU tx),.int .i64 t,.slice Ka D Y,.int .i64 at_])∧Hid (Below w.heap.size w wx))
  case first =>
   have GU:∀ b:Bool,Bw ⟨k,tx,t,ks,at_⟩=b→Value.bool (!b)=Value.bool (!Bw ⟨k,tx,t,ks,at_⟩):=fun b h=>by rw [h]
   have HOW:=O (show Bw ⟨k,tx,t,ks,at_⟩=((jN k == isName tx) && (jN k || tx.isEmpty) && manyN k t D && iM k t && within at_ 0 2000) by unfold Bw;rw [Ku,Oq,gW.o]);refine wp_region_noPanic ?_;refine wp_region_held_drew (S:=fun N=>N.cell? ⟨w.heap.size+1,0,none⟩=some (.int .u8 k)∧N.cell? ⟨w.heap.size+1,1,none⟩=some (.string (aU tx))∧N.cell? ⟨w.heap.size+1,2,none⟩=some (.int .i64 t)∧N.cell? ⟨w.heap.size+1,3,none⟩=some (.slice Ka D Y)∧N.cell? ⟨w.heap.size+1,4,none⟩=some (.int .i64 at_)) (by kernel_rfl) ⟨q0,q1,q2,q3,q4⟩ (fun hH0=>?_);refine aO 0 rfl hH0 ?_;simp only [Act.put,ail,ain,aio];refine aO 1 rfl hH0 ?_;simp only [Act.put,ail,ain,aio];refine aO 3 rfl hH0 ?_;simp only [Act.put,ail,ain,aio];refine aO 4 rfl hH0 ?_;simp only [Act.put,ail,ain,aio];refine wpAnyH_ready (rs:=[2]) (by kernel_rfl) (by simp) ?_;refine zO 2 rfl (fun K hK=>?_);go_simp;refine (vQ k _).mono ?_;rintro e w3⟨rfl,rfl⟩;refine hK.out _ _ ⟨q0,q1,q2,q3,q4⟩ (fun hH1=>?_)
   (try simp only [Act.put,ail,ain,aio])
   refine wpAnyH_ready (rs:=[5]) (by kernel_rfl) (by simp) ?_;refine zO 5 rfl (fun K hK=>?_);go_simp;refine (K4 tx _ hl).mono ?_;rintro e w6⟨rfl,hb6⟩;have cZ:=O (HB.o.drew.below hb6 HB.o.lt);have E:=O (J.o.drew.below hb6 J.o.lt);have jS:=O (I.o.drew.trans (hb6.mono I.o.size));clear hb6 q0 q1 q2 q3 q4;have r0:=E.o.cell 0;have r1:=E.o.cell 1;have r2:=E.o.cell 2;have r3:=E.o.cell 3;have r4:=E.o.cell 4;refine hK.out _ _ ⟨r0,r1,r2,r3,r4⟩ (fun g=>?_)
   (try simp only [Act.put,ail,ain,aio])
   clear hH0 hH1
   cases hnm:jN k <;> cases hin:isName tx
   case false.true | true.false =>
    refine aO 6 rfl g ?_;simp only [Act.put,ail,ain,aio];refine aO 7 rfl g ?_;simp only [Act.put,ail,ain,aio];refine takeN 8 rfl (by rfl) g ?_;simp only [Act.put,ail,ain,aio];refine takeN 9 rfl (by rfl) g ?_;simp only [Act.put,ail,ain,aio];refine takeN 10 rfl (by rfl) g ?_;simp only [Act.put,ail,ain,aio];refine takeN 11 rfl (by rfl) g ?_;simp only [Act.put,ail,ain,aio];refine takeN 12 rfl (by rfl) g ?_;simp only [Act.put,ail,ain,aio];refine takeN 13 rfl (by rfl) g ?_;simp only [Act.put,ail,ain,aio];refine takeN 14 rfl (by rfl) g ?_;simp only [Act.put,ail,ain,aio];refine takeN 15 rfl (by rfl) g ?_;simp only [Act.put,ail,ain,aio];refine takeN 16 rfl (by rfl) g ?_;simp only [Act.put,ail,ain,aio];refine aO 17 rfl g ?_;simp only [Act.put,ail,ain,aio];refine aO 18 rfl g ?_;simp only [Act.put,ail,ain,aio];refine takeN 19 rfl (by rfl) g ?_;simp only [Act.put,ail,ain,aio];refine takeN 20 rfl (by rfl) g ?_;simp only [Act.put,ail,ain,aio];refine takeN 21 rfl (by rfl) g ?_;simp only [Act.put,ail,ain,aio];refine aO 22 rfl g ?_;simp only [Act.put,ail,ain,aio];refine aO 23 rfl g ?_;simp only [Act.put,ail,ain,aio];refine takeN 24 rfl (by rfl) g ?_;simp only [Act.put,ail,ain,aio];refine takeN 25 rfl (by rfl) g ?_;simp only [Act.put,ail,ain,aio];refine takeN 26 rfl (by rfl) g ?_;simp only [Act.put,ail,ain,aio];refine aO 27 rfl g ?_;simp only [Act.put,ail,ain,aio];refine aO 28 rfl g ?_;simp only [Act.put,ail,ain,aio];refine takeN 29 rfl (by rfl) g ?_;simp only [Act.put,ail,ain,aio];refine takeN 30 rfl (by rfl) g ?_;simp only [Act.put,ail,ain,aio];refine takeN 31 rfl (by rfl) g ?_;simp only [Act.put,ail,ain,aio];refine aO 32 rfl g ?_;simp only [Act.put,ail,ain,aio];refine aO 33 rfl g ?_;simp only [Act.put,ail,ain,aio];refine takeN 34 rfl (by rfl) g ?_;simp only [Act.put,ail,ain,aio];refine takeN 35 rfl (by rfl) g ?_;simp only [Act.put,ail,ain,aio];refine takeN 36 rfl (by rfl) g ?_;simp only [Act.put,ail,ain,aio];refine aO 37 rfl g ?_;simp only [Act.put,ail,ain,aio];refine wpAnyH_done (by kernel_rfl) (NoPanic.normal ?_) _;go_wp2_with fail;go_meet
    exact⟨GU false (by rw [HOW.o,hnm,hin];rfl),cZ,E,jS⟩
   case' true.true =>
    refine aO 6 rfl g ?_;simp only [Act.put,ail,ain,aio];refine aO 7 rfl g ?_;simp only [Act.put,ail,ain,aio];refine aO 8 rfl g ?_;simp only [Act.put,ail,ain,aio];refine aO 9 rfl g ?_;simp only [Act.put,ail,ain,aio];refine wpAnyH_ready (rs:=[10]) (by kernel_rfl) (by simp) ?_;refine zO 10 rfl (fun K hK=>?_);go_simp;refine (vQ k _).mono ?_;rintro e w3⟨rfl,rfl⟩;refine hK.out _ _ ⟨r0,r1,r2,r3,r4⟩ (fun f=>?_)
    (try simp only [Act.put,ail,ain,aio])
    simp only [hnm];clear g;refine aO 11 rfl f ?_;simp only [Act.put,ail,ain,aio];refine aO 12 rfl f ?_;simp only [Act.put,ail,ain,aio];refine takeN 13 rfl (by rfl) f ?_;simp only [Act.put,ail,ain,aio];refine takeN 14 rfl (by rfl) f ?_;simp only [Act.put,ail,ain,aio];refine takeN 15 rfl (by rfl) f ?_;simp only [Act.put,ail,ain,aio];refine aO 16 rfl f ?_;simp only [Act.put,ail,ain,aio];refine aO 17 rfl f ?_;simp only [Act.put,ail,ain,aio];refine aO 18 rfl f ?_;simp only [Act.put,ail,ain,aio];have Pw:=O (show Bw ⟨k,tx,t,ks,at_⟩=(manyN k t D && iM k t && within at_ 0 2000) by rw [HOW.o,hnm,hin];rfl)
   case' false.false =>
    refine aO 6 rfl g ?_;simp only [Act.put,ail,ain,aio];refine aO 7 rfl g ?_;simp only [Act.put,ail,ain,aio];refine aO 8 rfl g ?_;simp only [Act.put,ail,ain,aio];refine aO 9 rfl g ?_;simp only [Act.put,ail,ain,aio];refine wpAnyH_ready (rs:=[10]) (by kernel_rfl) (by simp) ?_;refine zO 10 rfl (fun K hK=>?_);go_simp;refine (vQ k _).mono ?_;rintro e w3⟨rfl,rfl⟩;refine hK.out _ _ ⟨r0,r1,r2,r3,r4⟩ (fun f=>?_)
    (try simp only [Act.put,ail,ain,aio])
    simp only [hnm];clear g;refine aO 11 rfl f ?_;simp only [Act.put,ail,ain,aio];refine aO 12 rfl f ?_;simp only [Act.put,ail,ain,aio];by_cases htx:tx=[]
    case' neg =>
     have Xk:(tx != [])=true:=by simpa using htx
     have hte:(tx == [])=false:=by simpa using htx
     refine aO 13 rfl f ?_;simp only [Act.put,ail,ain,aio];refine aO 14 rfl f ?_;simp only [Act.put,ail,ain,aio];refine aO 15 rfl f ?_;simp only [Act.put,ail,ain,aio];refine aO 16 rfl f ?_;simp only [Act.put,ail,ain,aio];refine aO 17 rfl f ?_;simp only [Act.put,ail,ain,aio];refine aO 18 rfl f ?_;simp only [Act.put,ail,ain,aio];refine takeN 19 rfl (by rfl) f ?_;simp only [Act.put,ail,ain,aio];refine takeN 20 rfl (by rfl) f ?_;simp only [Act.put,ail,ain,aio];refine takeN 21 rfl (by rfl) f ?_;simp only [Act.put,ail,ain,aio];refine aO 22 rfl f ?_;simp only [Act.put,ail,ain,aio];refine aO 23 rfl f ?_;simp only [Act.put,ail,ain,aio];refine takeN 24 rfl (by rfl) f ?_;simp only [Act.put,ail,ain,aio];refine takeN 25 rfl (by rfl) f ?_;simp only [Act.put,ail,ain,aio];refine takeN 26 rfl (by rfl) f ?_;simp only [Act.put,ail,ain,aio];refine aO 27 rfl f ?_;simp only [Act.put,ail,ain,aio];refine aO 28 rfl f ?_;simp only [Act.put,ail,ain,aio];refine takeN 29 rfl (by rfl) f ?_;simp only [Act.put,ail,ain,aio];refine takeN 30 rfl (by rfl) f ?_;simp only [Act.put,ail,ain,aio];refine takeN 31 rfl (by rfl) f ?_;simp only [Act.put,ail,ain,aio];refine aO 32 rfl f ?_;simp only [Act.put,ail,ain,aio];refine aO 33 rfl f ?_;simp only [Act.put,ail,ain,aio];refine takeN 34 rfl (by rfl) f ?_;simp only [Act.put,ail,ain,aio];refine takeN 35 rfl (by rfl) f ?_;simp only [Act.put,ail,ain,aio];refine takeN 36 rfl (by rfl) f ?_;simp only [Act.put,ail,ain,aio];refine aO 37 rfl f ?_;simp only [Act.put,ail,ain,aio];refine wpAnyH_done (by kernel_rfl) (NoPanic.normal ?_) _;go_wp2_with fail;go_meet
     exact⟨GU false (by rw [HOW.o,hnm,hin];simp [htx]),cZ,E,jS⟩
    refine aO 13 rfl f ?_;simp only [Act.put,ail,ain,aio];refine aO 14 rfl f ?_;simp only [Act.put,ail,ain,aio];refine aO 15 rfl f ?_;simp only [Act.put,ail,ain,aio];refine aO 16 rfl f ?_;simp only [Act.put,ail,ain,aio];refine aO 17 rfl f ?_;simp only [Act.put,ail,ain,aio];refine aO 18 rfl f ?_;simp only [Act.put,ail,ain,aio];have Pw:=O (show Bw ⟨k,tx,t,ks,at_⟩=(manyN k t D && iM k t && within at_ 0 2000) by rw [HOW.o,hnm,hin,htx];rfl);clear htx
   all_goals
    refine aO 19 rfl f ?_;simp only [Act.put,ail,ain,aio];refine wpAnyH_ready (rs:=[20]) (by kernel_rfl) (by simp) ?_;refine zO 20 rfl (fun K hK=>?_);go_simp;refine (Ub k tx t at_ Ka D Y _).mono ?_;rintro e w7⟨rfl,om⟩
    replace cZ:=O (cZ.o.below om cZ.o.lt)
    replace E:=O (E.o.below om E.o.lt)
    replace jS:=O (jS.o.trans (om.mono jS.o.size))
    clear om r0 r1 r2 r3 r4;have r0:=E.o.cell 0;have r1:=E.o.cell 1;have r2:=E.o.cell 2;have r3:=E.o.cell 3;have r4:=E.o.cell 4;refine hK.out _ _ ⟨r0,r1,r2,r3,r4⟩ (fun F=>?_)
    (try simp only [Act.put,ail,ain,aio])
    clear f
    cases hmk:manyN k t D
    case false =>
     refine aO 21 rfl F ?_;simp only [Act.put,ail,ain,aio];refine aO 22 rfl F ?_;simp only [Act.put,ail,ain,aio];refine aO 23 rfl F ?_;simp only [Act.put,ail,ain,aio];refine takeN 24 rfl (by rfl) F ?_;simp only [Act.put,ail,ain,aio];refine takeN 25 rfl (by rfl) F ?_;simp only [Act.put,ail,ain,aio];refine takeN 26 rfl (by rfl) F ?_;simp only [Act.put,ail,ain,aio];refine aO 27 rfl F ?_;simp only [Act.put,ail,ain,aio];refine aO 28 rfl F ?_;simp only [Act.put,ail,ain,aio];refine takeN 29 rfl (by rfl) F ?_;simp only [Act.put,ail,ain,aio];refine takeN 30 rfl (by rfl) F ?_;simp only [Act.put,ail,ain,aio];refine takeN 31 rfl (by rfl) F ?_;simp only [Act.put,ail,ain,aio];refine aO 32 rfl F ?_;simp only [Act.put,ail,ain,aio];refine aO 33 rfl F ?_;simp only [Act.put,ail,ain,aio];refine takeN 34 rfl (by rfl) F ?_;simp only [Act.put,ail,ain,aio];refine takeN 35 rfl (by rfl) F ?_;simp only [Act.put,ail,ain,aio];refine takeN 36 rfl (by rfl) F ?_;simp only [Act.put,ail,ain,aio];refine aO 37 rfl F ?_;simp only [Act.put,ail,ain,aio];refine wpAnyH_done (by kernel_rfl) (NoPanic.normal ?_) _;go_wp2_with fail;go_meet
     exact⟨GU false (by rw [Pw.o,hmk];rfl),cZ,E,jS⟩
    refine aO 21 rfl F ?_;simp only [Act.put,ail,ain,aio];refine aO 22 rfl F ?_;simp only [Act.put,ail,ain,aio];refine aO 23 rfl F ?_;simp only [Act.put,ail,ain,aio];refine aO 24 rfl F ?_;simp only [Act.put,ail,ain,aio];refine wpAnyH_ready (rs:=[25]) (by kernel_rfl) (by simp) ?_;refine zO 25 rfl (fun K hK=>?_);go_simp;refine (Im k tx t at_ Ka D Y _).mono ?_;rintro e w7⟨rfl,om⟩
    replace cZ:=O (cZ.o.below om cZ.o.lt)
    replace E:=O (E.o.below om E.o.lt)
    replace jS:=O (jS.o.trans (om.mono jS.o.size))
    clear om r0 r1 r2 r3 r4;have r0:=E.o.cell 0;have r1:=E.o.cell 1;have r2:=E.o.cell 2;have r3:=E.o.cell 3;have r4:=E.o.cell 4;refine hK.out _ _ ⟨r0,r1,r2,r3,r4⟩ (fun r=>?_)
    (try simp only [Act.put,ail,ain,aio])
    clear F
    cases hnu:iM k t
    case false =>
     refine aO 26 rfl r ?_;simp only [Act.put,ail,ain,aio];refine aO 27 rfl r ?_;simp only [Act.put,ail,ain,aio];refine aO 28 rfl r ?_;simp only [Act.put,ail,ain,aio];refine takeN 29 rfl (by rfl) r ?_;simp only [Act.put,ail,ain,aio];refine takeN 30 rfl (by rfl) r ?_;simp only [Act.put,ail,ain,aio];refine takeN 31 rfl (by rfl) r ?_;simp only [Act.put,ail,ain,aio];refine aO 32 rfl r ?_;simp only [Act.put,ail,ain,aio];refine aO 33 rfl r ?_;simp only [Act.put,ail,ain,aio];refine takeN 34 rfl (by rfl) r ?_;simp only [Act.put,ail,ain,aio];refine takeN 35 rfl (by rfl) r ?_;simp only [Act.put,ail,ain,aio];refine takeN 36 rfl (by rfl) r ?_;simp only [Act.put,ail,ain,aio];refine aO 37 rfl r ?_;simp only [Act.put,ail,ain,aio];refine wpAnyH_done (by kernel_rfl) (NoPanic.normal ?_) _;go_wp2_with fail;go_meet
     exact⟨GU false (by rw [Pw.o,hmk,hnu];rfl),cZ,E,jS⟩
    refine aO 26 rfl r ?_;simp only [Act.put,ail,ain,aio];refine aO 27 rfl r ?_;simp only [Act.put,ail,ain,aio];refine aO 28 rfl r ?_;simp only [Act.put,ail,ain,aio];refine aO 29 rfl r ?_;simp only [Act.put,ail,ain,aio];refine aO 30 rfl r ?_;simp only [Act.put,ail,ain,aio];by_cases ha0:at_ < 0
    case pos =>
     have da:decide (at_ < 0)=true:=aiG ha0;refine aO 31 rfl r ?_;simp only [Act.put,ail,ain,aio];refine aO 32 rfl r ?_;simp only [Act.put,ail,ain,aio];refine aO 33 rfl r ?_;simp only [Act.put,ail,ain,aio];refine takeN 34 rfl (by rfl) r ?_;simp only [Act.put,ail,ain,aio];refine takeN 35 rfl (by rfl) r ?_;simp only [Act.put,ail,ain,aio];refine takeN 36 rfl (by rfl) r ?_;simp only [Act.put,ail,ain,aio];refine aO 37 rfl r ?_;simp only [Act.put,ail,ain,aio];refine wpAnyH_done (by kernel_rfl) (NoPanic.normal ?_) _;go_wp2_with fail;go_meet
     exact⟨GU false (by rw [Pw.o,hmk,hnu];simp [within];omega),cZ,E,jS⟩
    have da:decide (at_ < 0)=false:=aiH ha0;refine aO 31 rfl r ?_;simp only [Act.put,ail,ain,aio];refine aO 32 rfl r ?_;simp only [Act.put,ail,ain,aio];refine aO 33 rfl r ?_;simp only [Act.put,ail,ain,aio];refine aO 34 rfl r ?_;simp only [Act.put,ail,ain,aio];refine aO 35 rfl r ?_;simp only [Act.put,ail,ain,aio];by_cases ha1:2000 < at_
    case pos =>
     have db:decide (2000 < at_)=true:=aiG ha1;refine aO 36 rfl r ?_;simp only [Act.put,ail,ain,aio];refine aO 37 rfl r ?_;simp only [Act.put,ail,ain,aio];refine wpAnyH_done (by kernel_rfl) (NoPanic.normal ?_) _;go_wp2_with fail;go_meet
     exact⟨GU false (by rw [Pw.o,hmk,hnu];simp [within];omega),cZ,E,jS⟩
    have db:decide (2000 < at_)=false:=aiH ha1;refine aO 36 rfl r ?_;simp only [Act.put,ail,ain,aio];refine aO 37 rfl r ?_;simp only [Act.put,ail,ain,aio];refine wpAnyH_done (by kernel_rfl) (NoPanic.normal ?_) _;go_wp2_with fail;go_meet
    exact⟨GU true (by rw [Pw.o,hmk,hnu];simp [within];omega),cZ,E,jS⟩
  case rest =>
   obtain⟨rfl,HB2,HP2,HL2⟩:=hcut;clear HB J I
   cases how:Bw ⟨k,tx,t,ks,at_⟩
   ·have HF:=O (show gV ⟨aj xs,u⟩ i=false by rw [ZF.o,HAN.o,how];rfl);clear q0 q1 q2 q3 q4;go_wp2_with fail;go_ret;exact⟨by rw [HF.o];rfl,HL2.o⟩
   have HRR:=O (show gV ⟨aj xs,u⟩ i=(List.range ks.length).all (Dw ⟨aj xs,u⟩ ⟨k,tx,t,ks,at_⟩) by rw [ZF.o,HAN.o,how];rfl);clear how q0 q1 q2 q3 q4;go_wp2_with fail;go_loopw [6] (fun i wr=>∃ j:Nat,j≤D∧i=.int .i64 j∧Hid (∀ q,q < j→Dw ⟨aj xs,u⟩ ⟨k,tx,t,ks,at_⟩ q=true)∧Hid (aZ wr w.heap.size 25 #[.slice (some ⟨b,o,none⟩) n c,.slice B m d])∧Hid (aZ wr (w.heap.size+1) 39 #[.int .u8 k,.string (aU tx),.int .i64 t,.slice Ka D Y,.int .i64 at_])∧Hid (Below w.heap.size w wr)) (fun i _=>D - (intOf i).toNat)
   case atStart=>exact⟨0,aix _,rfl,O (fun q hq=>by omega),HB2,HP2,HL2⟩
   case round =>
    clear HB2 HP2 HL2;obtain⟨wo,rfl⟩:∃ wo:World,wo=wr:=⟨_,rfl⟩;obtain⟨j,hj,rfl,HJ,HB,J,I⟩:=hrel;have t0:=HB.o.cell 0;have t1:=HB.o.cell 1;have q0:=J.o.cell 0;have q1:=J.o.cell 1;have q2:=J.o.cell 2;have q3:=J.o.cell 3;have q4:=J.o.cell 4;by_cases H:j < D
    ·have i3:decide (j < D)=true:=aiG H;obtain⟨bk,ok,rfl,hbk,hck⟩:=BG.o.ex (by rw [← gW.o];omega);obtain⟨kq,hkq⟩:∃ kq,ks[j]? = some kq:=⟨_,aip (by rw [← gW.o];exact H)⟩;have hkb:=HK.o kq (aiy hkq);obtain⟨M,rfl⟩:∃ M:Nat,kq=(M:Int):=⟨kq.toNat,by omega⟩;obtain⟨y,hy⟩:∃ y,xs[M]? = some y:=iG (by rw [← HN.o];omega);have cj:=(I.o.cell (p:=⟨bk,ok+j,none⟩) (by exact hbk)).trans (hck j M hkq);have d0:=(I.o.cell (p:=⟨b,o+M * 5,none⟩) G.o.lt).trans (G.o.c0 M y hy);have d1:=(I.o.cell (p:=⟨b,o+M * 5+1,none⟩) G.o.lt).trans (G.o.c1 M y hy);have d2:=(I.o.cell (p:=⟨b,o+M * 5+2,none⟩) G.o.lt).trans (G.o.c2 M y hy);have d3:=(I.o.cell (p:=⟨b,o+M * 5+3,none⟩) G.o.lt).trans (G.o.c3 M y hy);have d4:=(I.o.cell (p:=⟨b,o+M * 5+4,none⟩) G.o.lt).trans (G.o.c4 M y hy);obtain⟨Ky,cy,hye,hyl,_⟩:=G.o.kid hy;rw [hye] at d3
     have HKR:=O (show Dw ⟨aj xs,u⟩ ⟨k,tx,t,ks,at_⟩ j=(su k D j y.1.kind && !(y.1.kind == 1 && decide (y.1.n < 0) && !(k == 40))) by
      unfold Dw;rw [ait,hkq,aaI];simp only [Option.getD_some,aiC,aY u hy,← gW.o])
     obtain⟨⟨Z,ty,ny,sy,ay⟩,yv⟩:=y;simp only at d0 d1 d2 d3 d4 HKR hyl
     obtain⟨ly,hly⟩:∃ ly,ly=sy.length:=⟨_,rfl⟩;rw [← hly] at d3
     have hb1:b < wo.heap.size:=aiI G.o.lt I.o.size;have hb2:bk < wo.heap.size:=aiI hbk I.o.size;have hl1:=HB.o.lt;have hl2:=J.o.lt;clear hck hkq hy hye hly;have z2:(0:Int)≤(j:Int):=by omega
     have z3:(j:Int) < (D:Int):=by omega
     have z4:(0:Int)≤(M:Int):=by omega
     have z5:(M:Int) < (n:Int):=by omega
     have HBAD:=O (show Dw ⟨aj xs,u⟩ ⟨k,tx,t,ks,at_⟩ j=false→gV ⟨aj xs,u⟩ i=false from fun h=>by
      rw [HRR.o,List.all_eq_false];exact⟨j,List.mem_range.2 (by rw [← gW.o];exact H),by rw [h];simp⟩)
     go_wp2_with fail;go_region
     have Vy:=O (aZ.drew (HB.o.alloc (.cells #[.int .u8 Z,.string (aU ty),.int .i64 ny,.slice Ky ly cy,.int .i64 ay] 39)));have L:=O (aZ.drew (J.o.alloc (.cells #[.int .u8 Z,.string (aU ty),.int .i64 ny,.slice Ky ly cy,.int .i64 ay] 39)));have VA:=O (Below.drew (aF I.o I.o.size (o:=.cells #[.int .u8 Z,.string (aU ty),.int .i64 ny,.slice Ky ly cy,.int .i64 ay] 39)));have Rh:=O (aZ.drew (aZ.new wo 39 #[.int .u8 Z,.string (aU ty),.int .i64 ny,.slice Ky ly cy,.int .i64 ay]));go_upto_region 10 with (fail)
     generalize (wo.alloc (.cells #[.int .u8 Z,.string (aU ty),.int .i64 ny,.slice Ky ly cy,.int .i64 ay] 39)).drew=w5 at Vy L VA Rh ⊢
     clear t0 t1 q0 q1 q2 q3 q4 cj d0 d1 d2 d3 d4;have p0:=L.o.cell 0;have p1:=L.o.cell 1;have p2:=L.o.cell 2;have p3:=L.o.cell 3;have p4:=L.o.cell 4;have y0:=Rh.o.cell 0;have y2:=Rh.o.cell 2
     cases hkd:su k D j Z
     case false =>
      have HF:=O (HBAD.o (by rw [HKR.o,hkd];rfl));have nP:=O hkd;clear hkd;go_wp2_with fail;refine (tV k tx t at_ (some ⟨bk,ok,none⟩) D Y j Z _ H V).mono ?_;rintro e w8⟨rfl,C⟩;rw [nP.o];have BD:=O (Vy.o.below C Vy.o.lt);have UW:=O (L.o.below C L.o.lt);have Zr:=O (VA.o.trans (C.mono VA.o.size));have X:=O (Rh.o.below C Rh.o.lt);clear C p0 p1 p2 p3 p4 y0 y2;have p0:=UW.o.cell 0;have y0:=X.o.cell 0;have y2:=X.o.cell 2;go_wp2_with fail;go_ret;exact⟨by rw [HF.o];rfl,Zr.o⟩
     have nP:=O hkd;clear hkd;by_cases h1:Z=1
     case neg =>
      have HG:=O (show Dw ⟨aj xs,u⟩ ⟨k,tx,t,ks,at_⟩ j=true by rw [HKR.o,nP.o];simp [h1]);have e1:((Z:Int) == 1)=false:=by rw [air];omega
      clear h1;go_wp2_with fail;refine (tV k tx t at_ (some ⟨bk,ok,none⟩) D Y j Z _ H V).mono ?_;rintro e w8⟨rfl,C⟩;rw [nP.o];have BD:=O (Vy.o.below C Vy.o.lt);have UW:=O (L.o.below C L.o.lt);have Zr:=O (VA.o.trans (C.mono VA.o.size));have X:=O (Rh.o.below C Rh.o.lt);clear C p0 p1 p2 p3 p4 y0 y2;have p0:=UW.o.cell 0;have y0:=X.o.cell 0;have y2:=X.o.cell 2;go_wp2_with fail
      exact⟨⟨j+1,by omega,by go_num,O (fun q hq=>by
       by_cases hqj:q=j
       ·rw [hqj];exact HG.o
       ·exact HJ.o q (by omega)),BD,UW,Zr⟩,by simp [intOf];omega⟩
     have e1:((Z:Int) == 1)=true:=by simp [h1]
     by_cases h2:ny < 0
     case neg =>
      have HG:=O (show Dw ⟨aj xs,u⟩ ⟨k,tx,t,ks,at_⟩ j=true by rw [HKR.o,nP.o];simp [h2]);have e2:decide (ny < 0)=false:=aiH h2;clear h1 h2;go_wp2_with fail;refine (tV k tx t at_ (some ⟨bk,ok,none⟩) D Y j Z _ H V).mono ?_;rintro e w8⟨rfl,C⟩;rw [nP.o];have BD:=O (Vy.o.below C Vy.o.lt);have UW:=O (L.o.below C L.o.lt);have Zr:=O (VA.o.trans (C.mono VA.o.size));have X:=O (Rh.o.below C Rh.o.lt);clear C p0 p1 p2 p3 p4 y0 y2;have p0:=UW.o.cell 0;have y0:=X.o.cell 0;have y2:=X.o.cell 2;go_wp2_with fail
      exact⟨⟨j+1,by omega,by go_num,O (fun q hq=>by
       by_cases hqj:q=j
       ·rw [hqj];exact HG.o
       ·exact HJ.o q (by omega)),BD,UW,Zr⟩,by simp [intOf];omega⟩
     have e2:decide (ny < 0)=true:=aiG h2;by_cases h3:k=40
     case pos =>
      have HG:=O (show Dw ⟨aj xs,u⟩ ⟨k,tx,t,ks,at_⟩ j=true by rw [HKR.o,nP.o];simp [h3]);have e3:((k:Int) != 40)=false:=by simp [h3]
      clear h1 h2 h3;go_wp2_with fail;refine (tV k tx t at_ (some ⟨bk,ok,none⟩) D Y j Z _ H V).mono ?_;rintro e w8⟨rfl,C⟩;rw [nP.o];have BD:=O (Vy.o.below C Vy.o.lt);have UW:=O (L.o.below C L.o.lt);have Zr:=O (VA.o.trans (C.mono VA.o.size));have X:=O (Rh.o.below C Rh.o.lt);clear C p0 p1 p2 p3 p4 y0 y2;have p0:=UW.o.cell 0;have y0:=X.o.cell 0;have y2:=X.o.cell 2;go_wp2_with fail
      exact⟨⟨j+1,by omega,by go_num,O (fun q hq=>by
       by_cases hqj:q=j
       ·rw [hqj];exact HG.o
       ·exact HJ.o q (by omega)),BD,UW,Zr⟩,by simp [intOf];omega⟩
     have e3:((k:Int) != 40)=true:=by simp;omega
     have HF:=O (HBAD.o (by rw [HKR.o,nP.o];simp [h1,h2,h3]));clear h1 h2 h3;go_wp2_with fail;refine (tV k tx t at_ (some ⟨bk,ok,none⟩) D Y j Z _ H V).mono ?_;rintro e w8⟨rfl,C⟩;rw [nP.o];have BD:=O (Vy.o.below C Vy.o.lt);have UW:=O (L.o.below C L.o.lt);have Zr:=O (VA.o.trans (C.mono VA.o.size));have X:=O (Rh.o.below C Rh.o.lt);clear C p0 p1 p2 p3 p4 y0 y2;have p0:=UW.o.cell 0;have y0:=X.o.cell 0;have y2:=X.o.cell 2;go_wp2_with fail;go_ret;exact⟨by rw [HF.o];rfl,Zr.o⟩
    ·have i3:decide (j < D)=false:=aiH H
     have HR:=O (show gV ⟨aj xs,u⟩ i=true by
      rw [HRR.o,aiD];exact fun q hq=>HJ.o q (by have:=List.mem_range.1 hq;rw [← gW.o] at this;omega))
     go_wp2_with fail;go_ret;exact⟨by rw [HR.o];rfl,I.o⟩
end
section
open Mist
theorem QH {ns:List Nd}{out:List Int}(h:Bh ns out ns.length):Wf ns:=by
 intro i nd hi c b;obtain⟨n,m,e,f,_,d⟩:=h.2 i (aiq.1 hi).1;rw [hi] at e;cases e
 have:=d.ids c b
 omega
end
