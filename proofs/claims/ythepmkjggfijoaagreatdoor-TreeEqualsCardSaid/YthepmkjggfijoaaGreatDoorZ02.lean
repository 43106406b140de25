/-
  A part of the proof.
-/
import Derived.Test.YthepmkjggfijoaaGreatDoorSA
import Derived.Deep.QuietTactic
import Derived.BigRegion
import Derived.Deep.CutRange
import Derived.Deep.RegionHeld3
import Derived.Test.YthepmkjggfijoaaGreatDoorS21
import Derived.Test.YthepmkjggfijoaaGreatDoorS08
import Derived.Test.YthepmkjggfijoaaGreatDoorS25
import Derived.Test.YthepmkjggfijoaaGreatDoorZ01
set_option linter.all false
set_option maxRecDepth 100000
set_option maxHeartbeats 16000000
namespace Go.Proofs.YthepmkjggfijoaaGreatDoor
open Go.RowKit Mist
attribute [local go_sem] aj aH aS aB ak
def Gq (k:Nat):Bool:=lq k || k == 25 || iH k || k == 34 || eP k
def Fv (x:Nd):Bool:=(ig x.kind == isName x.text) && (ig x.kind || x.text.isEmpty) && jC x && gu x && within x.at_ 0 2000
def Hw (T:Tr)(x:Nd)(j:Nat):Bool:=mJ x j (nd T (x.kids.getD j 0).toNat).kind && !((nd T (x.kids.getD j 0).toNat).kind == 1 && decide ((nd T (x.kids.getD j 0).toNat).n < 0) && !(x.kind == 40))
theorem wL (T:Tr)(i:Nat):je T i=(Gq (nd T i).kind && Fv (nd T i) && (List.range (nd T i).kids.length).all (Hw T (nd T i))):=by
 unfold je Gq Fv Hw;simp only [Bool.and_assoc]
section
variable {P:Program} {md:Region.Mode} {l:List Oper} {Q:Exit→Act→World→Prop} {S:World→Prop} {oi:Oper} {fuel:Nat} {listed:Array Bool} {a:Act} {w:World}
theorem dH (i:Nat)(hi:l[i]? = some oi){v:Value}(hy:Region.wanted oi (yielded l.toArray a.tmps)=true∧∀ w,S w→(execOp a.eval oi).run P w=.ok (.value v) w)(hS:S w)
  (h:wpAnyH P md l.toArray Q S fuel (listed.setIfInBounds i true) (a.put oi.dst v) w) (e:Region.noSelect l.toArray=true:=by kernel_rfl) (b:Region.free md l.toArray listed i=true:=by kernel_rfl) (d:(Region.ready md l.toArray listed).contains i=true:=by kernel_rfl)
  (hQ:∀ c a w,Q (.panic c) (a.put oi.dst v) w→Q (.panic c) a w:=by exact fun _ _ _ h=>h):wpAnyH P md l.toArray Q S (fuel+1) listed a w :=
 wpAnyH_take (by simpa using hi) e b d hQ (Or.inl hy) hS h
theorem takeN (i:Nat)(hi:l[i]? = some oi)(hy:Region.wanted oi (yielded l.toArray a.tmps)=false)(hS:S w)
  (h:wpAnyH P md l.toArray Q S fuel (listed.setIfInBounds i true) (a.put oi.dst undef) w) (e:Region.noSelect l.toArray=true:=by kernel_rfl) (b:Region.free md l.toArray listed i=true:=by kernel_rfl) (d:(Region.ready md l.toArray listed).contains i=true:=by kernel_rfl)
  (hQ:∀ c a w,Q (.panic c) (a.put oi.dst undef) w→Q (.panic c) a w:=by exact fun _ _ _ h=>h):wpAnyH P md l.toArray Q S (fuel+1) listed a w :=
 wpAnyH_take (by simpa using hi) e b d hQ (Or.inr ⟨hy,rfl⟩) hS h
theorem Em (i:Nat)(hi:l[i]? = some oi)
  (h:∀ b:Act→World→Prop,Shut (∀ a w,S w→(S w→wpAnyH P md l.toArray Q S fuel (listed.setIfInBounds i true) a w)→b a w)→if Region.wanted oi (yielded l.toArray a.tmps)=true then Oper.wp P oi a w b Q else b (a.put oi.dst undef) w) :
  AllReadyH P md l.toArray Q S fuel listed a w [i]:=AllReadyH.cons (by simpa using hi) h AllReadyH.nil
end
theorem Wx (A B:Option Addr)(c m d i:Nat)(xs:List NV)(its:List Int)(x:NV)(w:World)(hT:mq w A B xs its)(hx:xs[i]? = some x)(hn:xs.length≤10000)(hk:∀ k ∈ x.1.kids,0≤k∧k < xs.length)(hl:x.1.text.length≤100000000) :
  Calls Tryz.prog 108 #[.agg #[.slice A xs.length c,.slice B m d],.int .i64 i] w fun e U=>e=.returned (.bool (je ⟨aA xs,its⟩ i))∧Below w.heap.size w U:=by
 have dF:=O (wL ⟨aA xs,its⟩ i);rw [l7 its hx] at dF
 have e9:i < xs.length:=(aaE.1 hx).1;obtain⟨n,b8⟩:∃ n,n=xs.length:=⟨_,rfl⟩;rw [← b8] at hn hk e9 ⊢
 have HN:=O b8;clear b8;have HK:=O hk;clear hk;have HT:=O hT;clear hT;have HX:=O hx;obtain⟨b,o,rfl,hA⟩:=HT.o.nodes (by rw [← HN.o];omega);have c0:=hA.c0 i x hx;have c1:=hA.c1 i x hx;have c2:=hA.c2 i x hx;have c3:=hA.c3 i x hx;have c4:=hA.c4 i x hx;have f3:=hA.lt;obtain⟨Ka,Z,e0,X,e6⟩:=hA.kid hx;rw [e0] at c3
 have tK:=O e6;have H:=O hA;clear hA hx e0 e6;obtain⟨⟨k,tx,C,J,at_⟩,xv⟩:=x;have c7:=O (show ∃ E,E=J.length from ⟨_,rfl⟩);obtain⟨E,b7⟩:=c7.o;clear c7;simp only at c0 c1 c2 c3 c4 X hl HK tK
 rw [← b7] at c3 X
 have nu:=O b7;clear b7;have z0:(0:Int)≤(i:Int):=by omega
 have z1:(i:Int) < (n:Int):=by omega
 go_in
 go_upto_region 2 with (fail)
 have a0:=O ((aC.new w 26 #[.slice (some ⟨b,o,none⟩) n c,.slice B m d]).alloc (.cells #[.int .u8 k,.string (aM tx),.int .i64 C,.slice Ka E Z,.int .i64 at_] 50));have a2:=O (dL (W:=w.alloc (.cells #[.slice (some ⟨b,o,none⟩) n c,.slice B m d] 26)) (T:=50) (cs:=#[.int .u8 k,.string (aM tx),.int .i64 C,.slice Ka E Z,.int .i64 at_]) (k:=w.heap.size+1) (by simp));have eH:=O (ah (ah (Below.refl w.heap.size w) (aaJ _) (o:=.cells #[.slice (some ⟨b,o,none⟩) n c,.slice B m d] 26)) (by simp) (o:=.cells #[.int .u8 k,.string (aM tx),.int .i64 C,.slice Ka E Z,.int .i64 at_] 50));go_cut [38] (fun v wx=>v=.bool (!Gq k)∧Hid (aC wx w.heap.size 26 #[.slice (some ⟨b,o,none⟩) n c,.slice B m d])∧Hid (aC wx (w.heap.size+1) 50 #[.int .u8 k,.string (aM tx),.int .i64 C,.slice Ka E Z,.int .i64 at_])∧Hid (Below w.heap.size w wx))
 case first =>
  have fin:∀ b:Bool,Gq k=b→Value.bool (!b)=Value.bool (!Gq k):=fun b h=>by rw [h]
  have fI:=O (aO k);have nH:=O (aN k);have mV:=O (KO k);have eF:=O (show Gq k=(lq k || k == 25 || iH k || k == 34 || eP k) from rfl)
  cases e1:lq k
  case true =>
   rw [e1] at fI eF
   go_wp2_with (go_at_call 71;refine (fI.o _).mono ?_;rintro e U ⟨rfl,rfl⟩)
   go_meet
   exact⟨fin true eF.o,a0,a2,eH⟩
  rw [e1] at fI eF
  by_cases bT:k=25
  ·have e2:((k:Int) != 25)=false:=by simp [bT]
   have H:=O (show Gq k=true by rw [eF.o];simp [bT]);clear bT;go_wp2_with (go_at_call 71;refine (fI.o _).mono ?_;rintro e U ⟨rfl,rfl⟩)
   go_meet
   exact⟨fin true H.o,a0,a2,eH⟩
  have e2:((k:Int) != 25)=true:=by simp;omega
  cases e3:iH k
  case true =>
   rw [e3] at nH
   have H:=O (show Gq k=true by rw [eF.o,e3];simp);go_wp2_with (first|(go_at_call 71;refine (fI.o _).mono ?_;rintro e U ⟨rfl,rfl⟩)|(go_at_call 168;refine (nH.o _).mono ?_;rintro e U ⟨rfl,rfl⟩))
   go_meet
   exact⟨fin true H.o,a0,a2,eH⟩
  rw [e3] at nH
  by_cases bG:k=34
  ·have e4:((k:Int) != 34)=false:=by simp [bG]
   have H:=O (show Gq k=true by rw [eF.o];simp [bG]);clear bG;go_wp2_with (first|(go_at_call 71;refine (fI.o _).mono ?_;rintro e U ⟨rfl,rfl⟩)|(go_at_call 168;refine (nH.o _).mono ?_;rintro e U ⟨rfl,rfl⟩))
   go_meet
   exact⟨fin true H.o,a0,a2,eH⟩
  have e4:((k:Int) != 34)=true:=by simp;omega
  cases e5:eP k
  all_goals
   rw [e5] at mV
   have H:=O (show Gq k=_ by rw [eF.o,e3,e5,show (k == 25)=false by simp [bT],show (k == 34)=false by simp [bG]]);go_wp2_with (first|(go_at_call 71;refine (fI.o _).mono ?_;rintro e U ⟨rfl,rfl⟩)|(go_at_call 168;refine (nH.o _).mono ?_;rintro e U ⟨rfl,rfl⟩)|(go_at_call 109;refine (mV.o _).mono ?_;rintro e U ⟨rfl,rfl⟩))
   go_meet
   exact⟨fin _ H.o,a0,a2,eH⟩
 case rest =>
  obtain⟨rfl,HB,M,L⟩:=hcut;clear a0 a2 eH c0 c1 c2 c3 c4
  cases a5:Gq k
  ·have HF:=O (show je ⟨aA xs,its⟩ i=false by rw [dF.o,a5];rfl);go_wp2_with fail;go_ret;exact⟨by rw [HF.o];rfl,L.o⟩
  have c5:=O a5;clear a5;go_upto_region 4 with (fail)
  have q0:=M.o.cell 0;have q1:=M.o.cell 1;have q2:=M.o.cell 2;have q3:=M.o.cell 3;have q4:=M.o.cell 4;go_cut [76] (fun v wx=>v=.bool (!Fv ⟨k,tx,C,J,at_⟩)∧Hid (aC wx w.heap.size 26 #[.slice (some ⟨b,o,none⟩) n c,.slice B m d])∧Hid (aC wx (w.heap.size+1) 50 #[.int .u8 k,.string (aM tx),.int .i64 C,.slice Ka E Z,.int .i64 at_])∧Hid (Below w.heap.size w wx))
  case first =>
   have Ry:∀ b:Bool,Fv ⟨k,tx,C,J,at_⟩=b→Value.bool (!b)=Value.bool (!Fv ⟨k,tx,C,J,at_⟩):=fun b h=>by rw [h]
   have b0:=O (show Fv ⟨k,tx,C,J,at_⟩=((ig k == isName tx) && (ig k || tx.isEmpty) && manyN k C E && MH k C && within at_ 0 2000) by unfold Fv;rw [vB,bH,nu.o]);refine wp_region_noPanic ?_;refine wp_region_held_drew (S:=fun U=>U.cell? ⟨w.heap.size+1,0,none⟩=some (.int .u8 k)∧U.cell? ⟨w.heap.size+1,1,none⟩=some (.string (aM tx))∧U.cell? ⟨w.heap.size+1,2,none⟩=some (.int .i64 C)∧U.cell? ⟨w.heap.size+1,3,none⟩=some (.slice Ka E Z)∧U.cell? ⟨w.heap.size+1,4,none⟩=some (.int .i64 at_)) (by kernel_rfl) ⟨q0,q1,q2,q3,q4⟩ (fun a4=>?_);refine dH 0 rfl (v:=?_) ⟨by rfl,?_⟩ a4 ?_;rotate_left
   ·(intro t f;(try dsimp only at f);go_split_ands;go_simp;try with_reducible rfl)
   simp only [Act.put,aaA,aaB,aaC];refine dH 1 rfl (v:=?_) ⟨by rfl,?_⟩ a4 ?_;rotate_left
   ·(intro t f;(try dsimp only at f);go_split_ands;go_simp;try with_reducible rfl)
   simp only [Act.put,aaA,aaB,aaC];refine dH 3 rfl (v:=?_) ⟨by rfl,?_⟩ a4 ?_;rotate_left
   ·(intro t f;(try dsimp only at f);go_split_ands;go_simp;try with_reducible rfl)
   simp only [Act.put,aaA,aaB,aaC];refine dH 4 rfl (v:=?_) ⟨by rfl,?_⟩ a4 ?_;rotate_left
   ·(intro t f;(try dsimp only at f);go_split_ands;go_simp;try with_reducible rfl)
   simp only [Act.put,aaA,aaB,aaC];refine wpAnyH_ready (rs:=[2]) (by kernel_rfl) (by simp) ?_;refine Em 2 rfl (fun K hK=>?_);go_simp;refine (IK k _).mono ?_;rintro e w3⟨rfl,rfl⟩;refine hK.out _ _ ⟨q0,q1,q2,q3,q4⟩ (fun e8=>?_)
   (try simp only [Act.put,aaA,aaB,aaC])
   refine wpAnyH_ready (rs:=[5]) (by kernel_rfl) (by simp) ?_;refine Em 5 rfl (fun K hK=>?_);go_simp;refine (Pp tx _ hl).mono ?_;rintro e w6⟨rfl,b1⟩;have dA:=O (HB.o.drew.below b1 HB.o.lt);have F:=O (M.o.drew.below b1 M.o.lt);have kT:=O (L.o.drew.trans (b1.mono L.o.size));clear b1 q0 q1 q2 q3 q4;have r0:=F.o.cell 0;have r1:=F.o.cell 1;have r2:=F.o.cell 2;have r3:=F.o.cell 3;have r4:=F.o.cell 4;refine hK.out _ _ ⟨r0,r1,r2,r3,r4⟩ (fun r=>?_)
   (try simp only [Act.put,aaA,aaB,aaC])
   clear a4 e8
   cases a3:ig k <;> cases b2:isName tx
   case false.true | true.false =>
    refine dH 6 rfl (v:=?_) ⟨by rfl,?_⟩ r ?_;rotate_left
    ·(intro t f;(try dsimp only at f);go_split_ands;go_simp;try with_reducible rfl)
    simp only [Act.put,aaA,aaB,aaC];refine dH 7 rfl (v:=?_) ⟨by rfl,?_⟩ r ?_;rotate_left
    ·(intro t f;(try dsimp only at f);go_split_ands;go_simp;try with_reducible rfl)
    simp only [Act.put,aaA,aaB,aaC];refine takeN 8 rfl (by rfl) r ?_;simp only [Act.put,aaA,aaB,aaC];refine takeN 9 rfl (by rfl) r ?_;simp only [Act.put,aaA,aaB,aaC];refine takeN 10 rfl (by rfl) r ?_;simp only [Act.put,aaA,aaB,aaC];refine takeN 11 rfl (by rfl) r ?_;simp only [Act.put,aaA,aaB,aaC];refine takeN 12 rfl (by rfl) r ?_;simp only [Act.put,aaA,aaB,aaC];refine takeN 13 rfl (by rfl) r ?_;simp only [Act.put,aaA,aaB,aaC];refine takeN 14 rfl (by rfl) r ?_;simp only [Act.put,aaA,aaB,aaC];refine takeN 15 rfl (by rfl) r ?_;simp only [Act.put,aaA,aaB,aaC];refine takeN 16 rfl (by rfl) r ?_;simp only [Act.put,aaA,aaB,aaC];refine dH 17 rfl (v:=?_) ⟨by rfl,?_⟩ r ?_;rotate_left
    ·(intro t f;(try dsimp only at f);go_split_ands;go_simp;try with_reducible rfl)
    simp only [Act.put,aaA,aaB,aaC];refine dH 18 rfl (v:=?_) ⟨by rfl,?_⟩ r ?_;rotate_left
    ·(intro t f;(try dsimp only at f);go_split_ands;go_simp;try with_reducible rfl)
    simp only [Act.put,aaA,aaB,aaC];refine takeN 19 rfl (by rfl) r ?_;simp only [Act.put,aaA,aaB,aaC];refine takeN 20 rfl (by rfl) r ?_;simp only [Act.put,aaA,aaB,aaC];refine takeN 21 rfl (by rfl) r ?_;simp only [Act.put,aaA,aaB,aaC];refine dH 22 rfl (v:=?_) ⟨by rfl,?_⟩ r ?_;rotate_left
    ·(intro t f;(try dsimp only at f);go_split_ands;go_simp;try with_reducible rfl)
    simp only [Act.put,aaA,aaB,aaC];refine dH 23 rfl (v:=?_) ⟨by rfl,?_⟩ r ?_;rotate_left
    ·(intro t f;(try dsimp only at f);go_split_ands;go_simp;try with_reducible rfl)
    simp only [Act.put,aaA,aaB,aaC];refine takeN 24 rfl (by rfl) r ?_;simp only [Act.put,aaA,aaB,aaC];refine takeN 25 rfl (by rfl) r ?_;simp only [Act.put,aaA,aaB,aaC];refine takeN 26 rfl (by rfl) r ?_;simp only [Act.put,aaA,aaB,aaC];refine dH 27 rfl (v:=?_) ⟨by rfl,?_⟩ r ?_;rotate_left
    ·(intro t f;(try dsimp only at f);go_split_ands;go_simp;try with_reducible rfl)
    simp only [Act.put,aaA,aaB,aaC];refine dH 28 rfl (v:=?_) ⟨by rfl,?_⟩ r ?_;rotate_left
    ·(intro t f;(try dsimp only at f);go_split_ands;go_simp;try with_reducible rfl)
    simp only [Act.put,aaA,aaB,aaC];refine takeN 29 rfl (by rfl) r ?_;simp only [Act.put,aaA,aaB,aaC];refine takeN 30 rfl (by rfl) r ?_;simp only [Act.put,aaA,aaB,aaC];refine takeN 31 rfl (by rfl) r ?_;simp only [Act.put,aaA,aaB,aaC];refine dH 32 rfl (v:=?_) ⟨by rfl,?_⟩ r ?_;rotate_left
    ·(intro t f;(try dsimp only at f);go_split_ands;go_simp;try with_reducible rfl)
    simp only [Act.put,aaA,aaB,aaC];refine dH 33 rfl (v:=?_) ⟨by rfl,?_⟩ r ?_;rotate_left
    ·(intro t f;(try dsimp only at f);go_split_ands;go_simp;try with_reducible rfl)
    simp only [Act.put,aaA,aaB,aaC];refine takeN 34 rfl (by rfl) r ?_;simp only [Act.put,aaA,aaB,aaC];refine takeN 35 rfl (by rfl) r ?_;simp only [Act.put,aaA,aaB,aaC];refine takeN 36 rfl (by rfl) r ?_;simp only [Act.put,aaA,aaB,aaC];refine dH 37 rfl (v:=?_) ⟨by rfl,?_⟩ r ?_;rotate_left
    ·(intro t f;(try dsimp only at f);go_split_ands;go_simp;try with_reducible rfl)
    simp only [Act.put,aaA,aaB,aaC];refine wpAnyH_done (by kernel_rfl) (NoPanic.normal ?_) _;go_wp2_with fail;go_meet
    exact⟨Ry false (by rw [b0.o,a3,b2];rfl),dA,F,kT⟩
   case' true.true =>
    refine dH 6 rfl (v:=?_) ⟨by rfl,?_⟩ r ?_;rotate_left
    ·(intro t f;(try dsimp only at f);go_split_ands;go_simp;try with_reducible rfl)
    simp only [Act.put,aaA,aaB,aaC];refine dH 7 rfl (v:=?_) ⟨by rfl,?_⟩ r ?_;rotate_left
    ·(intro t f;(try dsimp only at f);go_split_ands;go_simp;try with_reducible rfl)
    simp only [Act.put,aaA,aaB,aaC];refine dH 8 rfl (v:=?_) ⟨by rfl,?_⟩ r ?_;rotate_left
    ·(intro t f;(try dsimp only at f);go_split_ands;go_simp;try with_reducible rfl)
    simp only [Act.put,aaA,aaB,aaC];refine dH 9 rfl (v:=?_) ⟨by rfl,?_⟩ r ?_;rotate_left
    ·(intro t f;(try dsimp only at f);go_split_ands;go_simp;try with_reducible rfl)
    simp only [Act.put,aaA,aaB,aaC];refine wpAnyH_ready (rs:=[10]) (by kernel_rfl) (by simp) ?_;refine Em 10 rfl (fun K hK=>?_);go_simp;refine (IK k _).mono ?_;rintro e w3⟨rfl,rfl⟩;refine hK.out _ _ ⟨r0,r1,r2,r3,r4⟩ (fun g=>?_)
    (try simp only [Act.put,aaA,aaB,aaC])
    simp only [a3];clear r;refine dH 11 rfl (v:=?_) ⟨by rfl,?_⟩ g ?_;rotate_left
    ·(intro t f;(try dsimp only at f);go_split_ands;go_simp;try with_reducible rfl)
    simp only [Act.put,aaA,aaB,aaC];refine dH 12 rfl (v:=?_) ⟨by rfl,?_⟩ g ?_;rotate_left
    ·(intro t f;(try dsimp only at f);go_split_ands;go_simp;try with_reducible rfl)
    simp only [Act.put,aaA,aaB,aaC];refine takeN 13 rfl (by rfl) g ?_;simp only [Act.put,aaA,aaB,aaC];refine takeN 14 rfl (by rfl) g ?_;simp only [Act.put,aaA,aaB,aaC];refine takeN 15 rfl (by rfl) g ?_;simp only [Act.put,aaA,aaB,aaC];refine dH 16 rfl (v:=?_) ⟨by rfl,?_⟩ g ?_;rotate_left
    ·(intro t f;(try dsimp only at f);go_split_ands;go_simp;try with_reducible rfl)
    simp only [Act.put,aaA,aaB,aaC];refine dH 17 rfl (v:=?_) ⟨by rfl,?_⟩ g ?_;rotate_left
    ·(intro t f;(try dsimp only at f);go_split_ands;go_simp;try with_reducible rfl)
    simp only [Act.put,aaA,aaB,aaC];refine dH 18 rfl (v:=?_) ⟨by rfl,?_⟩ g ?_;rotate_left
    ·(intro t f;(try dsimp only at f);go_split_ands;go_simp;try with_reducible rfl)
    simp only [Act.put,aaA,aaB,aaC];have TQ:=O (show Fv ⟨k,tx,C,J,at_⟩=(manyN k C E && MH k C && within at_ 0 2000) by rw [b0.o,a3,b2];rfl)
   case' false.false =>
    refine dH 6 rfl (v:=?_) ⟨by rfl,?_⟩ r ?_;rotate_left
    ·(intro t f;(try dsimp only at f);go_split_ands;go_simp;try with_reducible rfl)
    simp only [Act.put,aaA,aaB,aaC];refine dH 7 rfl (v:=?_) ⟨by rfl,?_⟩ r ?_;rotate_left
    ·(intro t f;(try dsimp only at f);go_split_ands;go_simp;try with_reducible rfl)
    simp only [Act.put,aaA,aaB,aaC];refine dH 8 rfl (v:=?_) ⟨by rfl,?_⟩ r ?_;rotate_left
    ·(intro t f;(try dsimp only at f);go_split_ands;go_simp;try with_reducible rfl)
    simp only [Act.put,aaA,aaB,aaC];refine dH 9 rfl (v:=?_) ⟨by rfl,?_⟩ r ?_;rotate_left
    ·(intro t f;(try dsimp only at f);go_split_ands;go_simp;try with_reducible rfl)
    simp only [Act.put,aaA,aaB,aaC];refine wpAnyH_ready (rs:=[10]) (by kernel_rfl) (by simp) ?_;refine Em 10 rfl (fun K hK=>?_);go_simp;refine (IK k _).mono ?_;rintro e w3⟨rfl,rfl⟩;refine hK.out _ _ ⟨r0,r1,r2,r3,r4⟩ (fun g=>?_)
    (try simp only [Act.put,aaA,aaB,aaC])
    simp only [a3];clear r;refine dH 11 rfl (v:=?_) ⟨by rfl,?_⟩ g ?_;rotate_left
    ·(intro t f;(try dsimp only at f);go_split_ands;go_simp;try with_reducible rfl)
    simp only [Act.put,aaA,aaB,aaC];refine dH 12 rfl (v:=?_) ⟨by rfl,?_⟩ g ?_;rotate_left
    ·(intro t f;(try dsimp only at f);go_split_ands;go_simp;try with_reducible rfl)
    simp only [Act.put,aaA,aaB,aaC];by_cases a9:tx=[]
    case' neg =>
     have Qt:(tx != [])=true:=by simpa using a9
     have f7:(tx == [])=false:=by simpa using a9
     refine dH 13 rfl (v:=?_) ⟨by rfl,?_⟩ g ?_;rotate_left
     ·(intro t f;(try dsimp only at f);go_split_ands;go_simp;try with_reducible rfl)
     simp only [Act.put,aaA,aaB,aaC];refine dH 14 rfl (v:=?_) ⟨by rfl,?_⟩ g ?_;rotate_left
     ·(intro t f;(try dsimp only at f);go_split_ands;go_simp;try with_reducible rfl)
     simp only [Act.put,aaA,aaB,aaC];refine dH 15 rfl (v:=?_) ⟨by rfl,?_⟩ g ?_;rotate_left
     ·(intro t f;(try dsimp only at f);go_split_ands;go_simp;try with_reducible rfl)
     simp only [Act.put,aaA,aaB,aaC];refine dH 16 rfl (v:=?_) ⟨by rfl,?_⟩ g ?_;rotate_left
     ·(intro t f;(try dsimp only at f);go_split_ands;go_simp;try with_reducible rfl)
     simp only [Act.put,aaA,aaB,aaC];refine dH 17 rfl (v:=?_) ⟨by rfl,?_⟩ g ?_;rotate_left
     ·(intro t f;(try dsimp only at f);go_split_ands;go_simp;try with_reducible rfl)
     simp only [Act.put,aaA,aaB,aaC];refine dH 18 rfl (v:=?_) ⟨by rfl,?_⟩ g ?_;rotate_left
     ·(intro t f;(try dsimp only at f);go_split_ands;go_simp;try with_reducible rfl)
     simp only [Act.put,aaA,aaB,aaC];refine takeN 19 rfl (by rfl) g ?_;simp only [Act.put,aaA,aaB,aaC];refine takeN 20 rfl (by rfl) g ?_;simp only [Act.put,aaA,aaB,aaC];refine takeN 21 rfl (by rfl) g ?_;simp only [Act.put,aaA,aaB,aaC];refine dH 22 rfl (v:=?_) ⟨by rfl,?_⟩ g ?_;rotate_left
     ·(intro t f;(try dsimp only at f);go_split_ands;go_simp;try with_reducible rfl)
     simp only [Act.put,aaA,aaB,aaC];refine dH 23 rfl (v:=?_) ⟨by rfl,?_⟩ g ?_;rotate_left
     ·(intro t f;(try dsimp only at f);go_split_ands;go_simp;try with_reducible rfl)
     simp only [Act.put,aaA,aaB,aaC];refine takeN 24 rfl (by rfl) g ?_;simp only [Act.put,aaA,aaB,aaC];refine takeN 25 rfl (by rfl) g ?_;simp only [Act.put,aaA,aaB,aaC];refine takeN 26 rfl (by rfl) g ?_;simp only [Act.put,aaA,aaB,aaC];refine dH 27 rfl (v:=?_) ⟨by rfl,?_⟩ g ?_;rotate_left
     ·(intro t f;(try dsimp only at f);go_split_ands;go_simp;try with_reducible rfl)
     simp only [Act.put,aaA,aaB,aaC];refine dH 28 rfl (v:=?_) ⟨by rfl,?_⟩ g ?_;rotate_left
     ·(intro t f;(try dsimp only at f);go_split_ands;go_simp;try with_reducible rfl)
     simp only [Act.put,aaA,aaB,aaC];refine takeN 29 rfl (by rfl) g ?_;simp only [Act.put,aaA,aaB,aaC];refine takeN 30 rfl (by rfl) g ?_;simp only [Act.put,aaA,aaB,aaC];refine takeN 31 rfl (by rfl) g ?_;simp only [Act.put,aaA,aaB,aaC];refine dH 32 rfl (v:=?_) ⟨by rfl,?_⟩ g ?_;rotate_left
     ·(intro t f;(try dsimp only at f);go_split_ands;go_simp;try with_reducible rfl)
     simp only [Act.put,aaA,aaB,aaC];refine dH 33 rfl (v:=?_) ⟨by rfl,?_⟩ g ?_;rotate_left
     ·(intro t f;(try dsimp only at f);go_split_ands;go_simp;try with_reducible rfl)
     simp only [Act.put,aaA,aaB,aaC];refine takeN 34 rfl (by rfl) g ?_;simp only [Act.put,aaA,aaB,aaC];refine takeN 35 rfl (by rfl) g ?_;simp only [Act.put,aaA,aaB,aaC];refine takeN 36 rfl (by rfl) g ?_;simp only [Act.put,aaA,aaB,aaC];refine dH 37 rfl (v:=?_) ⟨by rfl,?_⟩ g ?_;rotate_left
     ·(intro t f;(try dsimp only at f);go_split_ands;go_simp;try with_reducible rfl)
     simp only [Act.put,aaA,aaB,aaC];refine wpAnyH_done (by kernel_rfl) (NoPanic.normal ?_) _;go_wp2_with fail;go_meet
     exact⟨Ry false (by rw [b0.o,a3,b2];simp [a9]),dA,F,kT⟩
    refine dH 13 rfl (v:=?_) ⟨by rfl,?_⟩ g ?_;rotate_left
    ·(intro t f;(try dsimp only at f);go_split_ands;go_simp;try with_reducible rfl)
    simp only [Act.put,aaA,aaB,aaC];refine dH 14 rfl (v:=?_) ⟨by rfl,?_⟩ g ?_;rotate_left
    ·(intro t f;(try dsimp only at f);go_split_ands;go_simp;try with_reducible rfl)
    simp only [Act.put,aaA,aaB,aaC];refine dH 15 rfl (v:=?_) ⟨by rfl,?_⟩ g ?_;rotate_left
    ·(intro t f;(try dsimp only at f);go_split_ands;go_simp;try with_reducible rfl)
    simp only [Act.put,aaA,aaB,aaC];refine dH 16 rfl (v:=?_) ⟨by rfl,?_⟩ g ?_;rotate_left
    ·(intro t f;(try dsimp only at f);go_split_ands;go_simp;try with_reducible rfl)
    simp only [Act.put,aaA,aaB,aaC];refine dH 17 rfl (v:=?_) ⟨by rfl,?_⟩ g ?_;rotate_left
    ·(intro t f;(try dsimp only at f);go_split_ands;go_simp;try with_reducible rfl)
    simp only [Act.put,aaA,aaB,aaC];refine dH 18 rfl (v:=?_) ⟨by rfl,?_⟩ g ?_;rotate_left
    ·(intro t f;(try dsimp only at f);go_split_ands;go_simp;try with_reducible rfl)
    simp only [Act.put,aaA,aaB,aaC];have TQ:=O (show Fv ⟨k,tx,C,J,at_⟩=(manyN k C E && MH k C && within at_ 0 2000) by rw [b0.o,a3,b2,a9];rfl);clear a9
   all_goals
    refine dH 19 rfl (v:=?_) ⟨by rfl,?_⟩ g ?_;rotate_left
    ·(intro t f;(try dsimp only at f);go_split_ands;go_simp;try with_reducible rfl)
    simp only [Act.put,aaA,aaB,aaC];refine wpAnyH_ready (rs:=[20]) (by kernel_rfl) (by simp) ?_;refine Em 20 rfl (fun K hK=>?_);go_simp;refine (bK k tx C at_ Ka E Z _).mono ?_;rintro e w7⟨rfl,nI⟩
    replace dA:=O (dA.o.below nI dA.o.lt)
    replace F:=O (F.o.below nI F.o.lt)
    replace kT:=O (kT.o.trans (nI.mono kT.o.size))
    clear nI r0 r1 r2 r3 r4;have r0:=F.o.cell 0;have r1:=F.o.cell 1;have r2:=F.o.cell 2;have r3:=F.o.cell 3;have r4:=F.o.cell 4;refine hK.out _ _ ⟨r0,r1,r2,r3,r4⟩ (fun G=>?_)
    (try simp only [Act.put,aaA,aaB,aaC])
    clear g
    cases a7:manyN k C E
    case false =>
     refine dH 21 rfl (v:=?_) ⟨by rfl,?_⟩ G ?_;rotate_left
     ·(intro t f;(try dsimp only at f);go_split_ands;go_simp;try with_reducible rfl)
     simp only [Act.put,aaA,aaB,aaC];refine dH 22 rfl (v:=?_) ⟨by rfl,?_⟩ G ?_;rotate_left
     ·(intro t f;(try dsimp only at f);go_split_ands;go_simp;try with_reducible rfl)
     simp only [Act.put,aaA,aaB,aaC];refine dH 23 rfl (v:=?_) ⟨by rfl,?_⟩ G ?_;rotate_left
     ·(intro t f;(try dsimp only at f);go_split_ands;go_simp;try with_reducible rfl)
     simp only [Act.put,aaA,aaB,aaC];refine takeN 24 rfl (by rfl) G ?_;simp only [Act.put,aaA,aaB,aaC];refine takeN 25 rfl (by rfl) G ?_;simp only [Act.put,aaA,aaB,aaC];refine takeN 26 rfl (by rfl) G ?_;simp only [Act.put,aaA,aaB,aaC];refine dH 27 rfl (v:=?_) ⟨by rfl,?_⟩ G ?_;rotate_left
     ·(intro t f;(try dsimp only at f);go_split_ands;go_simp;try with_reducible rfl)
     simp only [Act.put,aaA,aaB,aaC];refine dH 28 rfl (v:=?_) ⟨by rfl,?_⟩ G ?_;rotate_left
     ·(intro t f;(try dsimp only at f);go_split_ands;go_simp;try with_reducible rfl)
     simp only [Act.put,aaA,aaB,aaC];refine takeN 29 rfl (by rfl) G ?_;simp only [Act.put,aaA,aaB,aaC];refine takeN 30 rfl (by rfl) G ?_;simp only [Act.put,aaA,aaB,aaC];refine takeN 31 rfl (by rfl) G ?_;simp only [Act.put,aaA,aaB,aaC];refine dH 32 rfl (v:=?_) ⟨by rfl,?_⟩ G ?_;rotate_left
     ·(intro t f;(try dsimp only at f);go_split_ands;go_simp;try with_reducible rfl)
     simp only [Act.put,aaA,aaB,aaC];refine dH 33 rfl (v:=?_) ⟨by rfl,?_⟩ G ?_;rotate_left
     ·(intro t f;(try dsimp only at f);go_split_ands;go_simp;try with_reducible rfl)
     simp only [Act.put,aaA,aaB,aaC];refine takeN 34 rfl (by rfl) G ?_;simp only [Act.put,aaA,aaB,aaC];refine takeN 35 rfl (by rfl) G ?_;simp only [Act.put,aaA,aaB,aaC];refine takeN 36 rfl (by rfl) G ?_;simp only [Act.put,aaA,aaB,aaC];refine dH 37 rfl (v:=?_) ⟨by rfl,?_⟩ G ?_;rotate_left
     ·(intro t f;(try dsimp only at f);go_split_ands;go_simp;try with_reducible rfl)
     simp only [Act.put,aaA,aaB,aaC];refine wpAnyH_done (by kernel_rfl) (NoPanic.normal ?_) _;go_wp2_with fail;go_meet
     exact⟨Ry false (by rw [TQ.o,a7];rfl),dA,F,kT⟩
    refine dH 21 rfl (v:=?_) ⟨by rfl,?_⟩ G ?_;rotate_left
    ·(intro t f;(try dsimp only at f);go_split_ands;go_simp;try with_reducible rfl)
    simp only [Act.put,aaA,aaB,aaC];refine dH 22 rfl (v:=?_) ⟨by rfl,?_⟩ G ?_;rotate_left
    ·(intro t f;(try dsimp only at f);go_split_ands;go_simp;try with_reducible rfl)
    simp only [Act.put,aaA,aaB,aaC];refine dH 23 rfl (v:=?_) ⟨by rfl,?_⟩ G ?_;rotate_left
    ·(intro t f;(try dsimp only at f);go_split_ands;go_simp;try with_reducible rfl)
    simp only [Act.put,aaA,aaB,aaC];refine dH 24 rfl (v:=?_) ⟨by rfl,?_⟩ G ?_;rotate_left
    ·(intro t f;(try dsimp only at f);go_split_ands;go_simp;try with_reducible rfl)
    simp only [Act.put,aaA,aaB,aaC];refine wpAnyH_ready (rs:=[25]) (by kernel_rfl) (by simp) ?_;refine Em 25 rfl (fun K hK=>?_);go_simp;refine (bA k tx C at_ Ka E Z _).mono ?_;rintro e w7⟨rfl,nI⟩
    replace dA:=O (dA.o.below nI dA.o.lt)
    replace F:=O (F.o.below nI F.o.lt)
    replace kT:=O (kT.o.trans (nI.mono kT.o.size))
    clear nI r0 r1 r2 r3 r4;have r0:=F.o.cell 0;have r1:=F.o.cell 1;have r2:=F.o.cell 2;have r3:=F.o.cell 3;have r4:=F.o.cell 4;refine hK.out _ _ ⟨r0,r1,r2,r3,r4⟩ (fun u=>?_)
    (try simp only [Act.put,aaA,aaB,aaC])
    clear G
    cases b4:MH k C
    case false =>
     refine dH 26 rfl (v:=?_) ⟨by rfl,?_⟩ u ?_;rotate_left
     ·(intro t f;(try dsimp only at f);go_split_ands;go_simp;try with_reducible rfl)
     simp only [Act.put,aaA,aaB,aaC];refine dH 27 rfl (v:=?_) ⟨by rfl,?_⟩ u ?_;rotate_left
     ·(intro t f;(try dsimp only at f);go_split_ands;go_simp;try with_reducible rfl)
     simp only [Act.put,aaA,aaB,aaC];refine dH 28 rfl (v:=?_) ⟨by rfl,?_⟩ u ?_;rotate_left
     ·(intro t f;(try dsimp only at f);go_split_ands;go_simp;try with_reducible rfl)
     simp only [Act.put,aaA,aaB,aaC];refine takeN 29 rfl (by rfl) u ?_;simp only [Act.put,aaA,aaB,aaC];refine takeN 30 rfl (by rfl) u ?_;simp only [Act.put,aaA,aaB,aaC];refine takeN 31 rfl (by rfl) u ?_;simp only [Act.put,aaA,aaB,aaC];refine dH 32 rfl (v:=?_) ⟨by rfl,?_⟩ u ?_;rotate_left
     ·(intro t f;(try dsimp only at f);go_split_ands;go_simp;try with_reducible rfl)
     simp only [Act.put,aaA,aaB,aaC];refine dH 33 rfl (v:=?_) ⟨by rfl,?_⟩ u ?_;rotate_left
     ·(intro t f;(try dsimp only at f);go_split_ands;go_simp;try with_reducible rfl)
     simp only [Act.put,aaA,aaB,aaC];refine takeN 34 rfl (by rfl) u ?_;simp only [Act.put,aaA,aaB,aaC];refine takeN 35 rfl (by rfl) u ?_;simp only [Act.put,aaA,aaB,aaC];refine takeN 36 rfl (by rfl) u ?_;simp only [Act.put,aaA,aaB,aaC];refine dH 37 rfl (v:=?_) ⟨by rfl,?_⟩ u ?_;rotate_left
     ·(intro t f;(try dsimp only at f);go_split_ands;go_simp;try with_reducible rfl)
     simp only [Act.put,aaA,aaB,aaC];refine wpAnyH_done (by kernel_rfl) (NoPanic.normal ?_) _;go_wp2_with fail;go_meet
     exact⟨Ry false (by rw [TQ.o,a7,b4];rfl),dA,F,kT⟩
    refine dH 26 rfl (v:=?_) ⟨by rfl,?_⟩ u ?_;rotate_left
    ·(intro t f;(try dsimp only at f);go_split_ands;go_simp;try with_reducible rfl)
    simp only [Act.put,aaA,aaB,aaC];refine dH 27 rfl (v:=?_) ⟨by rfl,?_⟩ u ?_;rotate_left
    ·(intro t f;(try dsimp only at f);go_split_ands;go_simp;try with_reducible rfl)
    simp only [Act.put,aaA,aaB,aaC];refine dH 28 rfl (v:=?_) ⟨by rfl,?_⟩ u ?_;rotate_left
    ·(intro t f;(try dsimp only at f);go_split_ands;go_simp;try with_reducible rfl)
    simp only [Act.put,aaA,aaB,aaC];refine dH 29 rfl (v:=?_) ⟨by rfl,?_⟩ u ?_;rotate_left
    ·(intro t f;(try dsimp only at f);go_split_ands;go_simp;try with_reducible rfl)
    simp only [Act.put,aaA,aaB,aaC];refine dH 30 rfl (v:=?_) ⟨by rfl,?_⟩ u ?_;rotate_left
    ·(intro t f;(try dsimp only at f);go_split_ands;go_simp;try with_reducible rfl)
    simp only [Act.put,aaA,aaB,aaC];by_cases d5:at_ < 0
    case pos =>
     have da:decide (at_ < 0)=true:=aaU d5;refine dH 31 rfl (v:=?_) ⟨by rfl,?_⟩ u ?_;rotate_left
     ·(intro t f;(try dsimp only at f);go_split_ands;go_simp;try with_reducible rfl)
     simp only [Act.put,aaA,aaB,aaC];refine dH 32 rfl (v:=?_) ⟨by rfl,?_⟩ u ?_;rotate_left
     ·(intro t f;(try dsimp only at f);go_split_ands;go_simp;try with_reducible rfl)
     simp only [Act.put,aaA,aaB,aaC];refine dH 33 rfl (v:=?_) ⟨by rfl,?_⟩ u ?_;rotate_left
     ·(intro t f;(try dsimp only at f);go_split_ands;go_simp;try with_reducible rfl)
     simp only [Act.put,aaA,aaB,aaC];refine takeN 34 rfl (by rfl) u ?_;simp only [Act.put,aaA,aaB,aaC];refine takeN 35 rfl (by rfl) u ?_;simp only [Act.put,aaA,aaB,aaC];refine takeN 36 rfl (by rfl) u ?_;simp only [Act.put,aaA,aaB,aaC];refine dH 37 rfl (v:=?_) ⟨by rfl,?_⟩ u ?_;rotate_left
     ·(intro t f;(try dsimp only at f);go_split_ands;go_simp;try with_reducible rfl)
     simp only [Act.put,aaA,aaB,aaC];refine wpAnyH_done (by kernel_rfl) (NoPanic.normal ?_) _;go_wp2_with fail;go_meet
     exact⟨Ry false (by rw [TQ.o,a7,b4];simp [within];omega),dA,F,kT⟩
    have da:decide (at_ < 0)=false:=aaV d5;refine dH 31 rfl (v:=?_) ⟨by rfl,?_⟩ u ?_;rotate_left
    ·(intro t f;(try dsimp only at f);go_split_ands;go_simp;try with_reducible rfl)
    simp only [Act.put,aaA,aaB,aaC];refine dH 32 rfl (v:=?_) ⟨by rfl,?_⟩ u ?_;rotate_left
    ·(intro t f;(try dsimp only at f);go_split_ands;go_simp;try with_reducible rfl)
    simp only [Act.put,aaA,aaB,aaC];refine dH 33 rfl (v:=?_) ⟨by rfl,?_⟩ u ?_;rotate_left
    ·(intro t f;(try dsimp only at f);go_split_ands;go_simp;try with_reducible rfl)
    simp only [Act.put,aaA,aaB,aaC];refine dH 34 rfl (v:=?_) ⟨by rfl,?_⟩ u ?_;rotate_left
    ·(intro t f;(try dsimp only at f);go_split_ands;go_simp;try with_reducible rfl)
    simp only [Act.put,aaA,aaB,aaC];refine dH 35 rfl (v:=?_) ⟨by rfl,?_⟩ u ?_;rotate_left
    ·(intro t f;(try dsimp only at f);go_split_ands;go_simp;try with_reducible rfl)
    simp only [Act.put,aaA,aaB,aaC];by_cases d6:2000 < at_
    case pos =>
     have db:decide (2000 < at_)=true:=aaU d6;refine dH 36 rfl (v:=?_) ⟨by rfl,?_⟩ u ?_;rotate_left
     ·(intro t f;(try dsimp only at f);go_split_ands;go_simp;try with_reducible rfl)
     simp only [Act.put,aaA,aaB,aaC];refine dH 37 rfl (v:=?_) ⟨by rfl,?_⟩ u ?_;rotate_left
     ·(intro t f;(try dsimp only at f);go_split_ands;go_simp;try with_reducible rfl)
     simp only [Act.put,aaA,aaB,aaC];refine wpAnyH_done (by kernel_rfl) (NoPanic.normal ?_) _;go_wp2_with fail;go_meet
     exact⟨Ry false (by rw [TQ.o,a7,b4];simp [within];omega),dA,F,kT⟩
    have db:decide (2000 < at_)=false:=aaV d6;refine dH 36 rfl (v:=?_) ⟨by rfl,?_⟩ u ?_;rotate_left
    ·(intro t f;(try dsimp only at f);go_split_ands;go_simp;try with_reducible rfl)
    simp only [Act.put,aaA,aaB,aaC];refine dH 37 rfl (v:=?_) ⟨by rfl,?_⟩ u ?_;rotate_left
    ·(intro t f;(try dsimp only at f);go_split_ands;go_simp;try with_reducible rfl)
    simp only [Act.put,aaA,aaB,aaC];refine wpAnyH_done (by kernel_rfl) (NoPanic.normal ?_) _;go_wp2_with fail;go_meet
    exact⟨Ry true (by rw [TQ.o,a7,b4];simp [within];omega),dA,F,kT⟩
  case rest =>
   obtain⟨rfl,c6,c8,b6⟩:=hcut;clear HB M L
   cases b9:Fv ⟨k,tx,C,J,at_⟩
   ·have HF:=O (show je ⟨aA xs,its⟩ i=false by rw [dF.o,c5.o,b9];rfl);clear q0 q1 q2 q3 q4;go_wp2_with fail;go_ret;exact⟨by rw [HF.o];rfl,b6.o⟩
   have c9:=O (show je ⟨aA xs,its⟩ i=(List.range J.length).all (Hw ⟨aA xs,its⟩ ⟨k,tx,C,J,at_⟩) by rw [dF.o,c5.o,b9];rfl);clear b9 q0 q1 q2 q3 q4;go_wp2_with fail;go_loopw [6] (fun i wr=>∃ j:Nat,j≤E∧i=.int .i64 j∧Hid (∀ q,q < j→Hw ⟨aA xs,its⟩ ⟨k,tx,C,J,at_⟩ q=true)∧Hid (aC wr w.heap.size 26 #[.slice (some ⟨b,o,none⟩) n c,.slice B m d])∧Hid (aC wr (w.heap.size+1) 50 #[.int .u8 k,.string (aM tx),.int .i64 C,.slice Ka E Z,.int .i64 at_])∧Hid (Below w.heap.size w wr)) (fun i _=>E - (intOf i).toNat)
   case atStart=>exact⟨0,aaL _,rfl,O (fun q hq=>by omega),c6,c8,b6⟩
   case round =>
    clear c6 c8 b6;obtain⟨wo,rfl⟩:∃ wo:World,wo=wr:=⟨_,rfl⟩;obtain⟨j,hj,rfl,HJ,HB,M,L⟩:=hrel;have t0:=HB.o.cell 0;have t1:=HB.o.cell 1;have q0:=M.o.cell 0;have q1:=M.o.cell 1;have q2:=M.o.cell 2;have q3:=M.o.cell 3;have q4:=M.o.cell 4;by_cases I:j < E
    ·have i3:decide (j < E)=true:=aaU I;obtain⟨bk,ok,rfl,d7,d8⟩:=tK.o.ex (by rw [← nu.o];omega);obtain⟨kq,b3⟩:∃ kq,J[j]? = some kq:=⟨_,aaD (by rw [← nu.o];exact I)⟩;have f4:=HK.o kq (aaM b3);obtain⟨R,rfl⟩:∃ R:Nat,kq=(R:Int):=⟨kq.toNat,by omega⟩;obtain⟨y,hy⟩:∃ y,xs[R]? = some y:=jD (by rw [← HN.o];omega);have cj:=(L.o.cell (p:=⟨bk,ok+j,none⟩) (by exact d7)).trans (d8 j R b3);have d0:=(L.o.cell (p:=⟨b,o+R * 5,none⟩) H.o.lt).trans (H.o.c0 R y hy);have d1:=(L.o.cell (p:=⟨b,o+R * 5+1,none⟩) H.o.lt).trans (H.o.c1 R y hy);have d2:=(L.o.cell (p:=⟨b,o+R * 5+2,none⟩) H.o.lt).trans (H.o.c2 R y hy);have d3:=(L.o.cell (p:=⟨b,o+R * 5+3,none⟩) H.o.lt).trans (H.o.c3 R y hy);have d4:=(L.o.cell (p:=⟨b,o+R * 5+4,none⟩) H.o.lt).trans (H.o.c4 R y hy);obtain⟨Ky,cy,e7,f0,_⟩:=H.o.kid hy;rw [e7] at d3
     have a1:=O (show Hw ⟨aA xs,its⟩ ⟨k,tx,C,J,at_⟩ j=(aF k E j y.1.kind && !(y.1.kind == 1 && decide (y.1.n < 0) && !(k == 40))) by
      unfold Hw;rw [aaH,b3,dM];simp only [Option.getD_some,aaQ,l7 its hy,← nu.o])
     obtain⟨⟨ky,ty,ny,sy,ay⟩,yv⟩:=y;simp only at d0 d1 d2 d3 d4 a1 f0
     obtain⟨ly,vV⟩:∃ ly,ly=sy.length:=⟨_,rfl⟩;rw [← vV] at d3
     have f1:b < wo.heap.size:=aaW H.o.lt L.o.size;have f2:bk < wo.heap.size:=aaW d7 L.o.size;have f5:=HB.o.lt;have f6:=M.o.lt;clear d8 b3 hy e7 vV;have z2:(0:Int)≤(j:Int):=by omega
     have z3:(j:Int) < (E:Int):=by omega
     have z4:(0:Int)≤(R:Int):=by omega
     have z5:(R:Int) < (n:Int):=by omega
     have b5:=O (show Hw ⟨aA xs,its⟩ ⟨k,tx,C,J,at_⟩ j=false→je ⟨aA xs,its⟩ i=false from fun h=>by
      rw [c9.o,List.all_eq_false];exact⟨j,List.mem_range.2 (by rw [← nu.o];exact I),by rw [h];simp⟩)
     go_wp2_with fail;go_region
     have Yr:=O (aC.drew (HB.o.alloc (.cells #[.int .u8 ky,.string (aM ty),.int .i64 ny,.slice Ky ly cy,.int .i64 ay] 50)));have N:=O (aC.drew (M.o.alloc (.cells #[.int .u8 ky,.string (aM ty),.int .i64 ny,.slice Ky ly cy,.int .i64 ay] 50)));have Yw:=O (Below.drew (ah L.o L.o.size (o:=.cells #[.int .u8 ky,.string (aM ty),.int .i64 ny,.slice Ky ly cy,.int .i64 ay] 50)));have Vb:=O (aC.drew (aC.new wo 50 #[.int .u8 ky,.string (aM ty),.int .i64 ny,.slice Ky ly cy,.int .i64 ay]));go_upto_region 10 with (fail)
     generalize (wo.alloc (.cells #[.int .u8 ky,.string (aM ty),.int .i64 ny,.slice Ky ly cy,.int .i64 ay] 50)).drew=w5 at Yr N Yw Vb ⊢
     clear t0 t1 q0 q1 q2 q3 q4 cj d0 d1 d2 d3 d4;have p0:=N.o.cell 0;have p1:=N.o.cell 1;have p2:=N.o.cell 2;have p3:=N.o.cell 3;have p4:=N.o.cell 4;have y0:=Vb.o.cell 0;have y2:=Vb.o.cell 2
     cases a6:aF k E j ky
     case false =>
      have HF:=O (b5.o (by rw [a1.o,a6];rfl));have AQ:=O a6;clear a6;go_wp2_with fail;refine (C_ k tx C at_ (some ⟨bk,ok,none⟩) E Z j ky _ I X).mono ?_;rintro e w8⟨rfl,D⟩;rw [AQ.o];have V:=O (Yr.o.below D Yr.o.lt);have Xr:=O (N.o.below D N.o.lt);have Yv:=O (Yw.o.trans (D.mono Yw.o.size));have Y:=O (Vb.o.below D Vb.o.lt);clear D p0 p1 p2 p3 p4 y0 y2;have p0:=Xr.o.cell 0;have y0:=Y.o.cell 0;have y2:=Y.o.cell 2;go_wp2_with fail;go_ret;exact⟨by rw [HF.o];rfl,Yv.o⟩
     have AQ:=O a6;clear a6;by_cases h1:ky=1
     case neg =>
      have HG:=O (show Hw ⟨aA xs,its⟩ ⟨k,tx,C,J,at_⟩ j=true by rw [a1.o,AQ.o];simp [h1]);have e1:((ky:Int) == 1)=false:=by rw [aaF];omega
      clear h1;go_wp2_with fail;refine (C_ k tx C at_ (some ⟨bk,ok,none⟩) E Z j ky _ I X).mono ?_;rintro e w8⟨rfl,D⟩;rw [AQ.o];have V:=O (Yr.o.below D Yr.o.lt);have Xr:=O (N.o.below D N.o.lt);have Yv:=O (Yw.o.trans (D.mono Yw.o.size));have Y:=O (Vb.o.below D Vb.o.lt);clear D p0 p1 p2 p3 p4 y0 y2;have p0:=Xr.o.cell 0;have y0:=Y.o.cell 0;have y2:=Y.o.cell 2;go_wp2_with fail
      exact⟨⟨j+1,by omega,by go_num,O (fun q hq=>by
       by_cases a8:q=j
       ·rw [a8];exact HG.o
       ·exact HJ.o q (by omega)),V,Xr,Yv⟩,by simp [intOf];omega⟩
     have e1:((ky:Int) == 1)=true:=by simp [h1]
     by_cases h2:ny < 0
     case neg =>
      have HG:=O (show Hw ⟨aA xs,its⟩ ⟨k,tx,C,J,at_⟩ j=true by rw [a1.o,AQ.o];simp [h2]);have e2:decide (ny < 0)=false:=aaV h2;clear h1 h2;go_wp2_with fail;refine (C_ k tx C at_ (some ⟨bk,ok,none⟩) E Z j ky _ I X).mono ?_;rintro e w8⟨rfl,D⟩;rw [AQ.o];have V:=O (Yr.o.below D Yr.o.lt);have Xr:=O (N.o.below D N.o.lt);have Yv:=O (Yw.o.trans (D.mono Yw.o.size));have Y:=O (Vb.o.below D Vb.o.lt);clear D p0 p1 p2 p3 p4 y0 y2;have p0:=Xr.o.cell 0;have y0:=Y.o.cell 0;have y2:=Y.o.cell 2;go_wp2_with fail
      exact⟨⟨j+1,by omega,by go_num,O (fun q hq=>by
       by_cases a8:q=j
       ·rw [a8];exact HG.o
       ·exact HJ.o q (by omega)),V,Xr,Yv⟩,by simp [intOf];omega⟩
     have e2:decide (ny < 0)=true:=aaU h2;by_cases h3:k=40
     case pos =>
      have HG:=O (show Hw ⟨aA xs,its⟩ ⟨k,tx,C,J,at_⟩ j=true by rw [a1.o,AQ.o];simp [h3]);have e3:((k:Int) != 40)=false:=by simp [h3]
      clear h1 h2 h3;go_wp2_with fail;refine (C_ k tx C at_ (some ⟨bk,ok,none⟩) E Z j ky _ I X).mono ?_;rintro e w8⟨rfl,D⟩;rw [AQ.o];have V:=O (Yr.o.below D Yr.o.lt);have Xr:=O (N.o.below D N.o.lt);have Yv:=O (Yw.o.trans (D.mono Yw.o.size));have Y:=O (Vb.o.below D Vb.o.lt);clear D p0 p1 p2 p3 p4 y0 y2;have p0:=Xr.o.cell 0;have y0:=Y.o.cell 0;have y2:=Y.o.cell 2;go_wp2_with fail
      exact⟨⟨j+1,by omega,by go_num,O (fun q hq=>by
       by_cases a8:q=j
       ·rw [a8];exact HG.o
       ·exact HJ.o q (by omega)),V,Xr,Yv⟩,by simp [intOf];omega⟩
     have e3:((k:Int) != 40)=true:=by simp;omega
     have HF:=O (b5.o (by rw [a1.o,AQ.o];simp [h1,h2,h3]));clear h1 h2 h3;go_wp2_with fail;refine (C_ k tx C at_ (some ⟨bk,ok,none⟩) E Z j ky _ I X).mono ?_;rintro e w8⟨rfl,D⟩;rw [AQ.o];have V:=O (Yr.o.below D Yr.o.lt);have Xr:=O (N.o.below D N.o.lt);have Yv:=O (Yw.o.trans (D.mono Yw.o.size));have Y:=O (Vb.o.below D Vb.o.lt);clear D p0 p1 p2 p3 p4 y0 y2;have p0:=Xr.o.cell 0;have y0:=Y.o.cell 0;have y2:=Y.o.cell 2;go_wp2_with fail;go_ret;exact⟨by rw [HF.o];rfl,Yv.o⟩
    ·have i3:decide (j < E)=false:=aaV I
     have HR:=O (show je ⟨aA xs,its⟩ i=true by
      rw [c9.o,aaR];exact fun q hq=>HJ.o q (by have:=List.mem_range.1 hq;rw [← nu.o] at this;omega))
     go_wp2_with fail;go_ret;exact⟨by rw [HR.o];rfl,L.o⟩
end Go.Proofs.YthepmkjggfijoaaGreatDoor
