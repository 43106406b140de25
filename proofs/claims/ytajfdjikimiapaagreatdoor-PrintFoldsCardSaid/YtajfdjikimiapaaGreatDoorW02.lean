/-
  A part of the proof.
-/
import Derived.Test.YtajfdjikimiapaaGreatDoorS35
import Derived.Test.YtajfdjikimiapaaGreatDoorW01
set_option linter.all false
set_option maxRecDepth 100000
set_option maxHeartbeats 4000000
set_option linter.all false
namespace Go.Proofs.YtajfdjikimiapaaGreatDoor
open Go.RowKit Mist
attribute [local go_sem] au aN aV aM aG
theorem aT (A B:Option Addr)(c g:Nat)(xs:List NV)(its:List Int)(item wide:Int)(w:World)(hE:Env w)(hp:Pow w)(hw:BH w A B c xs its)(hi:Ar item)(R:Ar wide) :
  Calls Tryz.prog 3 #[.agg #[.slice A xs.length c,.slice B its.length g],.int .i64 item,.int .i64 wide] w fun e w'=>e=.returned (.bool true)∧Below w.heap.size w w':=by
 have Y:=O hE;clear hE;have HP:=O hp;clear hp;have HI:=O hi;clear hi;have HW:=O R;clear R;have lY:=O (hw.big g);have iZ:=O hw.small;clear hw;have gN:=O (aF (Below.refl w.heap.size w) (aiv _) (o:=.cells #[.slice A xs.length c,.slice B its.length g] 25));have u:=O (aZ.new w 25 #[.slice A xs.length c,.slice B its.length g]);go_in
 go_wp2_with fail;refine (lY.o _ gN.o).mono ?_;rintro e w1⟨rfl,D⟩;have t:=O (gN.o.trans (D.mono gN.o.size));have i:=O (u.o.below D u.o.lt);clear D gN u lY
 cases l:Na ⟨aj xs,its⟩
 case true =>
  clear l;go_wp2_with fail;refine (afg (Y.o.below t.o) (HP.o.on t.o)).mono ?_;rintro e w2⟨rfl,h⟩;have a:=O (t.o.trans (h.mono t.o.size));clear h;go_wp2_with fail;go_ret;exact⟨by first | rfl | simp,a.o⟩
 obtain⟨hT,C,hn,hm,a2,Q,P⟩:=iZ.o l;clear l iZ;have HT:=O hT;have pJ:=O C;have J:=O fun W (N:Below w.heap.size w W)=>ad7 A B c g xs its W (hT.below N) (by omega) (by omega) Q
 have y:=O fun W (N:Below w.heap.size w W)=>dn (c:=c) (d:=g) ⟨hT.below N,C,Y.o.below N,HP.o.on N⟩ (by omega) (by omega) HI.o HW.o
 have IL:=O P;have a1:=O hn;have a0:=O hm;clear hT C a2 Q P hn hm;have F:=i.o.cell 0;have G:=i.o.cell 1;go_wp2_with fail;refine (J.o _ t.o).mono ?_;rintro e w2⟨h,nv,iv,f,rfl,r,E⟩;obtain⟨H,L,rfl⟩:=dh r.own;obtain⟨I,M,rfl⟩:=dh r.row;have HX:=O (r.tAt fun x hx=>IL.o x.1 (by rw [← E];exact List.mem_map.2 ⟨x,hx,rfl⟩));have a:=O (t.o.trans (h.mono t.o.size));have j:=O ((i.o.below h i.o.lt).alloc (.cells #[.slice H f.length L,.slice I its.length M] 25));have S:=O (aZ.new w2 25 #[.slice H f.length L,.slice I its.length M]);have b:=O (aF (Below.refl w2.heap.size w2) (aiv _) (o:=.cells #[.slice H f.length L,.slice I its.length M] 25));have X:=O E;clear r E h J i t F G;have pK:=O (show f.length≤900 by have:=X.o;rw [← bW,this,bW];exact a1.o);have HF:=O (ab0 (c:=L) (d:=M) (show MX _ H I f its from ⟨HX.o.below b.o,by rw [X.o];exact pJ.o,Y.o.below (a.o.trans (b.o.mono a.o.size)),HP.o.on (a.o.trans (b.o.mono a.o.size))⟩) item wide HI.o HW.o);rw [X.o] at HF
 obtain⟨Z,hZ⟩:∃ Z,Z=wY ⟨aj xs,its⟩ item wide:=⟨_,rfl⟩;rw [← hZ] at HF y
 obtain⟨z1,z2⟩:=Z;clear hZ;have F:=j.o.cell 0;have G:=j.o.cell 1;have U:=S.o.cell 0;have V:=S.o.cell 1;go_wp2_with fail;refine HF.o.mono ?_;rintro e w3⟨rfl,n⟩;have m:=O (b.o.trans (n.mono b.o.size));have k:=O (j.o.below n j.o.lt);have T:=O (S.o.below n S.o.lt);have kE:=O (a.o.trans (m.o.mono a.o.size));clear n b j S HF F G U V;have F:=k.o.cell 0;have G:=k.o.cell 1;have U:=T.o.cell 0;have V:=T.o.cell 1;go_wp2_with fail;refine (y.o _ kE.o).mono ?_;rintro e w4⟨rfl,q⟩;have K:=O (m.o.trans (q.mono m.o.size));have mh:=O (k.o.below q k.o.lt);have kC:=O (T.o.below q T.o.lt);have BF:=O (a.o.trans (K.o.mono a.o.size));clear q k T y m F G U V;have F:=mh.o.cell 0;have G:=mh.o.cell 1;have U:=kC.o.cell 0;have V:=kC.o.cell 1;have e1:(z2 == z2)=true:=by simp
 go_wp2_with fail;refine (ae7 H I A B L M c g f xs its _ (HX.o.below K.o) (HT.o.below BF.o) X.o (by have:=pK.o;omega) (by have:=a0.o;omega)).mono ?_;rintro e w7⟨om,rfl⟩;have kr:=O (BF.o.trans (om.mono BF.o.size));clear om mh kC F G U V;go_wp2_with fail;refine (afg (Y.o.below kr.o) (HP.o.on kr.o)).mono ?_;rintro e w9⟨rfl,Qd⟩;have og:=O (kr.o.trans (Qd.mono kr.o.size));clear Qd;go_wp2_with fail;go_ret;exact⟨by first | rfl | simp,og.o⟩
