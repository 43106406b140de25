/-
  A part of the proof.
-/
import Derived.Test.YthepmkjggfijoaaGreatDoorSA
import Derived.BigQuiet
import Derived.Deep.CutBlock
import Derived.Deep.DeepCutAuto
import Derived.Test.YthepmkjggfijoaaGreatDoorW10
import Derived.Test.YthepmkjggfijoaaGreatDoorW14
import Derived.Test.YthepmkjggfijoaaGreatDoorW15
set_option linter.all false
set_option maxRecDepth 100000
set_option maxHeartbeats 4000000
namespace Go.Proofs.YthepmkjggfijoaaGreatDoor
open Go.RowKit Mist
attribute [local go_sem] aj aH aS aB ak
theorem KR {T:Tr}(C:Wf T.nodes)(t:∀ x ∈ T.nodes,x.kids.length≤1000000)(G:T.nodes.length≤1000)(F:T.items.length≤1000){W:World}{A B:Option Addr}(c d n m:Nat){xs:List NV}(y:mq W A B xs T.items)(h2:aA xs=T.nodes)(w:xs.length=n)(hi:T.items.length=m) :
  Calls Tryz.prog 29 #[.agg #[.slice A n c,.slice B m d]] W fun e v=>Below W.heap.size W v∧∃ g j q r ys,e=.returned (.agg #[.slice g n q,.slice j m r])∧mq v g j ys T.items∧aA ys=T.nodes∧ys.length=n:=by
 have E:xs.length=T.nodes.length:=by rw [← aD,h2]
 have h:=Xr A B c d xs T.items W y (by omega) (by omega) (fun x u k t=>by
  obtain⟨i,hi,rfl⟩:=List.getElem_of_mem u
  have:=C i xs[i].1 (by rw [← h2];exact gP (aaD hi)) k t
  unfold jq gq;omega)
 rw [w,hi] at h
 refine h.mono ?_;rintro e v ⟨D,I,H,b,rfl,l,a⟩;have f:b.length=n:=by rw [← aD,a,aD,w]
 obtain⟨g,q,rfl⟩:=dh l.own;obtain⟨j,r,rfl⟩:=dh l.row;rw [f,hi]
 refine⟨D,g,j,q,r,b,rfl,Pq l ?_,by rw [a,h2],f⟩
 intro x u;refine t x.1 ?_;rw [← h2,← a];exact List.mem_map.2 ⟨x,u,rfl⟩
theorem aC.on {w a:World}{b:Nat}{T:TypeId}{cs:Array Value}(h:aC w b T cs)(c:Below w.heap.size w a):aC a b T cs:=h.below c h.lt
theorem Zo {b:UInt8}(h:¬ b=32):((b.toNat:Int) != 32)=true:=by
 rw [bne_iff_ne];intro e
 exact h (UInt8.toNat_inj.1 (by have h2 : b.toNat = 32 := by omega
                                rw [h2];rfl))
theorem nq_32 {b:UInt8}(h:¬ b=32):((b.toNat:Int) == 32)=false:=by
 rw [aaF];intro e
 exact h (UInt8.toNat_inj.1 (by have h2 : b.toNat = 32 := by omega
                                rw [h2];rfl))
theorem Zk {b:UInt8}(h:¬ b=10):((b.toNat:Int) != 10)=true:=by
 rw [bne_iff_ne];intro e
 exact h (UInt8.toNat_inj.1 (by have h2 : b.toNat = 10 := by omega
                                rw [h2];rfl))
theorem nq_10 {b:UInt8}(h:¬ b=10):((b.toNat:Int) == 10)=false:=by
 rw [aaF];intro e
 exact h (UInt8.toNat_inj.1 (by have h2 : b.toNat = 10 := by omega
                                rw [h2];rfl))
theorem Kj (D:Bs)(lv:Value)(v:Nat)(w:World)(hE:Env w)(hP:Pow w)(hS:mD w w.heap.size lv D)(hv:v < 65536) :
  Calls Tryz.prog 7 #[lv,.int .u16 v] w fun e w'=>e=.returned (.bool true)∧Below w.heap.size w w':=by
 have I:=O hE;clear hE;have a4:=O (RN false D lv w hP hS);obtain⟨A0,c0,rfl,_⟩:=id hS;clear hS hP;go_in
 go_wp2_with fail;refine a4.o.mono ?_;rintro e w1⟨C,A,B,c,d,xs,rfl,d5,hT⟩;have Q:=O C;clear C hT d5 a4;have t:=O (ah Q.o Q.o.size (o:=.cells #[.slice A xs.length c,.slice B (grown false D).ix.length d] 26));clear Q
 cases a2:uJ (bY false D)
 case false =>
  clear a2;go_wp2_with fail;refine (rV _ (I.o.below t.o)).mono ?_;rintro e w2⟨rfl,f⟩;have V:=O (t.o.trans (f.mono t.o.size));clear f;go_wp2_with fail;go_ret;exact⟨by first | rfl | simp,V.o⟩
 obtain⟨T,G0⟩:=R5 false D a2;obtain⟨n0,b6⟩:=G0.prog;have hr:=G0.read;have c9:=G0.len;have hc:=V9 D;have h8:(fO 0 (grown false D).pc).length≤800:=by have:=Pg (bY false D);rw [hr] at this;exact this
 have Ey:=O (fun k (hk:k < (bY false D).length)=>Gy hr h8 hc b6 hk (by omega));clear a2 G0 b6 hr hc h8;obtain⟨X,hX⟩:∃ X,X=bY false D:=⟨_,rfl⟩;rw [← hX] at Ey c9 ⊢
 clear hX;by_cases h0:X.length=0
 ·have z0:((X.length:Int) == 0)=true:=by simp [h0]
  clear h0;go_wp2_with fail;refine (rV _ (I.o.below t.o)).mono ?_;rintro e w2⟨rfl,f⟩;have V:=O (t.o.trans (f.mono t.o.size));clear f;go_wp2_with fail;go_ret;exact⟨by first | rfl | simp,V.o⟩
 have z0:((X.length:Int) == 0)=false:=by simpa using h0
 obtain⟨k,hk⟩:∃ k,k=v % X.length:=⟨_,rfl⟩;have d4:k < X.length:=by rw [hk];exact Nat.mod_lt _ (by omega)
 have e5:Int.tmod (v:Int) (X.length:Int)=(k:Int):=by rw [Int.tmod_eq_emod_of_nonneg (by omega),hk,Int.natCast_emod]
 clear hk;obtain⟨J,P,E,a7,a9⟩:=Ey.o k d4;have U:=O a9;have S:=O a7;clear a9 a7 Ey;obtain⟨L,a1⟩:∃ L,L=k+1:=⟨_,rfl⟩;rw [← a1] at U
 have e6:IntKind.i64.wrap ((k:Int)+1)=(L:Int):=by rw [IntWalk.i64_in _ (by omega)];omega
 have Xo:=O a1;have d7:(0:Int)≤(k:Int):=by omega
 have C:(k:Int)≤(X.length:Int):=by omega
 have f:(0:Int)≤(L:Int):=by omega
 have j:(L:Int)≤(X.length:Int):=by omega
 have d8:k≤X.length:=by omega
 have d0:¬ 9223372036854775807 < (List.take k X).length+(List.drop L X).length:=by rw [List.length_take,List.length_drop];omega
 have d1:¬ 9223372036854775807 < min k X.length+(X.length - L):=by omega
 have d3:¬ 9223372036854775807 < k+(X.length - L):=by omega
 clear a1;have G:=t.o.size;go_upto_region 5 with (fail)
 generalize w1.alloc (.cells #[.slice A xs.length c,.slice B (grown false D).ix.length d] 26)=w2 at t G ⊢
 go_cut [9,10,11] from 32 to 44 (fun u x y H=>∃ (tb Y Z:Nat) (M N:Option Addr) (F:List NV),u=.pointer (some ⟨tb,0,none⟩)∧x=.int .i64 P∧y=.int .i64 E∧Hid (aC H tb 26 #[.slice M F.length Y,.slice N J.items.length Z])∧Hid (mq H M N F J.items)∧Hid (aA F=J.nodes)∧Hid (Below w.heap.size w H))
 case first =>
  go_region_held3 (fun _=>True) (first | go_keep | trivial)
   ((first
     | (go_at_call 17
        refine (U.o _ (I.o.below (by (repeat (first|(with_reducible exact t.o)|(with_reducible refine Below.drew ?_)|(with_reducible refine ah ?_ (by first | omega|(simp;done)|(simp;omega)))));done))).mono ?_;rintro e w3⟨j,M,N,Y,Z,F,rfl,c5,IQ⟩;have R:=O (show Below w.heap.size w w3 from Below.trans (by (repeat (first|(with_reducible exact t.o)|(with_reducible refine Below.drew ?_)|(with_reducible refine ah ?_ (by first | omega|(simp;done)|(simp;omega)))));done) (j.mono (by first | omega|(simp;done)|(simp;omega))));have d6:=R.o.size;have r:=O c5;have a6:=O IQ
        (try (have W:=O (show aC w3 w2.heap.size 26 #[.slice none 0 0,.slice none 0 0] from aC.on (by (repeat (with_reducible refine aC.drew ?_));(with_reducible refine dL ?_);(first | rfl|(simp;done))) j)))
        (try (have e7:=W.o.cell 0;have e8:=W.o.cell 1;have e9:=W.o.frozen 0;have f0:=W.o.frozen 1;have f3:=W.o.lt))
        clear j c5 IQ)))
  all_goals
   go_wp2_with fail;go_meet
  ·exact⟨_,Y,Z,M,N,F,rfl,rfl,rfl,O (aC.new w3 _ _),O (a6.o.below (ah (Below.refl _ _) (aaJ _))),r,O (ah R.o d6)⟩
  ·exact⟨_,Y,Z,M,N,F,rfl,rfl,rfl,O (by have h:=(W.o.d_ 0 (.slice M F.length Y)).d_ 1 (.slice N J.items.length Z);simpa using h),O (Ud a6.o W.o),r,O (dx (dx R.o G) G)⟩
 case rest =>
  obtain⟨tb,Y,Z,M,N,F,rfl,rfl,rfl,rE,HU,r,l⟩:=hcut;clear U t d0 d1 d3 G;rcases S.o.err with ⟨rfl,rfl,a8,c1,hW,b5⟩ | ⟨c8,a0⟩
  ·have b7:=S.o.nl;have b4:=S.o.il;obtain⟨n,hn⟩:∃ n,n=F.length:=⟨_,rfl⟩;obtain⟨m,hm⟩:∃ m,m=J.items.length:=⟨_,rfl⟩;have a5:=O (KR hW b5 b7 b4 Y Z n m HU.o r.o hn.symm hm.symm);rw [← hn,← hm] at rE
   have t0:=rE.o.cell 0;have t1:=rE.o.cell 1;have c7:=O a8;have JW:=O c1;have HM:=O hm;clear hn hm a8 c1 hW b5 b7 b4;go_wp2_with fail;refine a5.o.mono ?_;rintro e w6⟨h,An,Bn,cn,dn,zs,rfl,hz,a3,c6⟩;have dA:=O (l.o.trans (h.mono l.o.size));have hc:=jk An Bn cn dn zs J.items w6 hz (by rw [a3];exact JW.o) (I.o.below dA.o);rw [c6,← HM.o,show (⟨aA zs,J.items⟩:Tr)=J by rw [a3],c7.o] at hc
   have HC:=O hc;clear h hz a3 c6 hc a5 t0 t1;go_wp2_with fail;refine HC.o.mono ?_;rintro e w7⟨rfl,h⟩;have uN:=O (dA.o.trans (h.mono dA.o.size));clear h HC dA;go_wp2_with fail;refine (rV _ (I.o.below uN.o)).mono ?_;rintro e wk⟨rfl,a⟩;have g:=O (uN.o.trans (a.mono uN.o.size));clear a;go_wp2_with fail;go_ret;exact⟨by first | rfl | simp,g.o⟩
  ·subst c8;have c4:F.length=0:=by have:=r.o;rw [← aD,this];rfl
   rw [c4] at rE
   have e0:(E == 0)=false:=by
    rcases a0 with h | h | h
    ·rw [h];rfl
    ·rw [h];rfl
    ·rw [h.1];rfl
   have Qj:=O a0;clear a0 c4;go_upto_block 0 with fail
   go_cut [12] from 59 to 76 (fun s H=>∃ b:Nat,b≤k∧s=.int .i64 b∧H=wc)
   case first =>
    go_wp2_with fail;go_loopw [12] (fun iv wr=>∃ b:Nat,b≤k∧iv=.int .i64 b∧wr=wc) (fun i _=>(intOf i).toNat)
    case atStart=>exact⟨k,aaJ _,rfl,rfl⟩
    case round =>
     obtain⟨b,K,rfl,rfl⟩:=hrel;rcases b with _ | q
     ·go_wp2_with fail;go_meet
      exact⟨0,by omega,rfl,rfl⟩
     have b8:(q:Int) < (X.length:Int):=by omega
     have b9:q < X.length:=by omega
     by_cases h32:gt X q=32
     ·have e1:(((gt X q).toNat:Int) != 32)=false:=by rw [h32];rfl
      go_wp2_with fail;go_meet
      exact⟨q+1,K,rfl,rfl⟩
     have e1:(((gt X q).toNat:Int) != 32)=true:=Zo h32;by_cases h10:gt X q=10
     ·have e2:(((gt X q).toNat:Int) != 10)=false:=by rw [h10];rfl
      go_wp2_with fail;go_meet
      exact⟨q+1,K,rfl,rfl⟩
     have e2:(((gt X q).toNat:Int) != 10)=true:=Zk h10;go_wp2_with fail;exact⟨⟨q,by omega,by go_num,trivial⟩,by first|(simp [intOf];done)|(simp [intOf];omega)⟩
   case rest =>
    obtain⟨b1,C,rfl,rfl⟩:=hcut;go_upto_block 2 with fail
    go_cut [12] from 77 to 94 (fun s H=>∃ b:Nat,b≤k∧s=.int .i64 b∧H=wc)
    case first =>
     go_wp2_with fail;go_loopw [12] (fun iv wr=>∃ b:Nat,b≤k∧iv=.int .i64 b∧wr=wc) (fun i _=>(intOf i).toNat)
     case atStart=>exact⟨b1,C,rfl,rfl⟩
     case round =>
      obtain⟨b,K,rfl,rfl⟩:=hrel;by_cases e3:b≤1
      ·have f1:¬ (1:Int) < (b:Int):=by omega
       go_wp2_with fail;go_meet
       exact⟨b,K,rfl,rfl⟩
      obtain⟨q,rfl⟩:∃ q,b=q+1:=⟨b - 1,by omega⟩;have f1:(1:Int) < ((q+1:Nat):Int):=by omega
      have f2:(0:Int) < (q:Int):=by omega
      have b8:(q:Int) < (X.length:Int):=by omega
      have b9:q < X.length:=by omega
      by_cases h32:gt X q=32
      ·have e1:(((gt X q).toNat:Int) == 32)=true:=by rw [h32];rfl
       go_wp2_with fail;exact⟨⟨q,by omega,by go_num,trivial⟩,by first|(simp [intOf];done)|(simp [intOf];omega)⟩
      have e1:(((gt X q).toNat:Int) == 32)=false:=nq_32 h32;by_cases h10:gt X q=10
      ·have e2:(((gt X q).toNat:Int) == 10)=true:=by rw [h10];rfl
       go_wp2_with fail;exact⟨⟨q,by omega,by go_num,trivial⟩,by first|(simp [intOf];done)|(simp [intOf];omega)⟩
      have e2:(((gt X q).toNat:Int) == 10)=false:=nq_10 h10;go_wp2_with fail;go_meet
      exact⟨q+1,K,rfl,rfl⟩
    case rest =>
     obtain⟨b2,f,rfl,rfl⟩:=hcut;go_upto_block 4 with fail
     go_cut [12] from 95 to 112 (fun s H=>∃ b:Nat,b≤k∧s=.int .i64 b∧H=wc∧(b=0∨pR (gt X (b - 1))=true))
     case first =>
      go_wp2_with fail;go_loopw [12] (fun iv wr=>∃ b:Nat,b≤k∧iv=.int .i64 b∧wr=wc) (fun i _=>(intOf i).toNat)
      case atStart=>exact⟨b2,f,rfl,rfl⟩
      case round =>
       obtain⟨b,K,rfl,rfl⟩:=hrel;rcases b with _ | q
       ·go_wp2_with fail;go_meet
        exact⟨0,by omega,rfl,rfl,.inl rfl⟩
       have b8:(q:Int) < (X.length:Int):=by omega
       have b9:q < X.length:=by omega
       by_cases h32:gt X q=32
       ·have e1:(((gt X q).toNat:Int) != 32)=false:=by rw [h32];rfl
        go_wp2_with fail;go_meet
        exact⟨q+1,K,rfl,rfl,.inr (by show pR (gt X q)=true;rw [h32];rfl)⟩
       have e1:(((gt X q).toNat:Int) != 32)=true:=Zo h32;by_cases h10:gt X q=10
       ·have e2:(((gt X q).toNat:Int) != 10)=false:=by rw [h10];rfl
        go_wp2_with fail;go_meet
        exact⟨q+1,K,rfl,rfl,.inr (by show pR (gt X q)=true;rw [h10];rfl)⟩
       have e2:(((gt X q).toNat:Int) != 10)=true:=Zk h10;go_wp2_with fail;exact⟨⟨q,by omega,by go_num,trivial⟩,by first|(simp [intOf];done)|(simp [intOf];omega)⟩
     case rest =>
      obtain⟨b3,j,rfl,rfl,b0⟩:=hcut;have t0:=rE.o.cell 0;have t1:=rE.o.cell 1;rcases Qj.o with rfl | rfl | ⟨rfl,hx,hp⟩
      ·go_wp2_with fail;refine (rV _ (I.o.below l.o)).mono ?_;rintro e wk⟨rfl,a⟩;have g:=O (l.o.trans (a.mono l.o.size));clear a;go_wp2_with fail;go_ret;exact⟨by first | rfl | simp,g.o⟩
      ·go_wp2_with fail;refine (rV _ (I.o.below l.o)).mono ?_;rintro e wk⟨rfl,a⟩;have g:=O (l.o.trans (a.mono l.o.size));clear a;go_wp2_with fail;go_ret;exact⟨by first | rfl | simp,g.o⟩
      ·have e4:=hp b3 j b0;clear hp b0;go_wp2_with fail;refine (rV _ (I.o.below l.o)).mono ?_;rintro e wk⟨rfl,a⟩;have g:=O (l.o.trans (a.mono l.o.size));clear a;go_wp2_with fail;go_ret;exact⟨by first | rfl | simp,g.o⟩
end Go.Proofs.YthepmkjggfijoaaGreatDoor
