/-
  A part of the proof.
-/
import Derived.Test.YtajfdjikimiapaaGreatDoorS35
import Derived.Test.YtajfdjikimiapaaGreatDoorV02
set_option linter.all false
set_option maxRecDepth 100000
set_option maxHeartbeats 4000000
set_option linter.all false
namespace Go.Proofs.YtajfdjikimiapaaGreatDoor
open Go.RowKit Mist
attribute [local go_sem] au aN aV aM aG
theorem bV (A B:Option Addr)(c g:Nat)(xs:List NV)(its:List Int)(node:Int)(w:World)(hE:Env w)(hp:Pow w)(hw:BH w A B c xs its)(hi:Ar node) :
  Calls Tryz.prog 4 #[.agg #[.slice A xs.length c,.slice B its.length g],.int .i64 node] w fun e w'=>e=.returned (.bool true)∧Below w.heap.size w w':=by
 have HE:=O hE;clear hE;have HP:=O hp;clear hp;have HI:=O hi;clear hi;have zw:=O (hw.big g);have Aa:=O hw.small;clear hw;have gN:=O (aF (Below.refl w.heap.size w) (aiv _) (o:=.cells #[.slice A xs.length c,.slice B its.length g] 25));have Q:=O (aZ.new w 25 #[.slice A xs.length c,.slice B its.length g]);go_in
 go_wp2_with fail;refine (zw.o _ gN.o).mono ?_;rintro e w1⟨rfl,a0⟩;have P:=O (gN.o.trans (a0.mono gN.o.size));have r:=O (Q.o.below a0 Q.o.lt);clear a0 gN Q zw
 cases y:Na ⟨aj xs,its⟩
 case true =>
  clear y;go_wp2_with fail;refine (afg (HE.o.below P.o) (HP.o.on P.o)).mono ?_;rintro e q⟨rfl,l⟩;have a:=O (P.o.trans (l.mono P.o.size));clear l;go_wp2_with fail;go_ret;exact⟨by first | rfl | simp,a.o⟩
 obtain⟨hT,G,hn,hm,b4,a8,a7⟩:=Aa.o y;clear y Aa;have HT:=O hT;have Am:=O G;have a2:=O fun W (f:Below w.heap.size w W)=>ad7 A B c g xs its W (hT.below f) (by omega) (by omega) a8
 have a9:(aj xs).length=xs.length:=bW xs;obtain⟨Z,hZ⟩:∃ Z,Z=aA ⟨aj xs,its⟩ (aB ⟨aj xs,its⟩ xs.length node) node.toNat (eZ (nd (⟨aj xs,its⟩:Tr) node.toNat).kind):=⟨_,rfl⟩;obtain⟨Y,hY⟩:∃ Y,Y=aA ⟨aj xs,its⟩ (aB ⟨aj xs,its⟩ xs.length node) node.toNat (gF (nd (⟨aj xs,its⟩:Tr) node.toNat).kind):=⟨_,rfl⟩;obtain⟨z1,z2⟩:=Z;obtain⟨y1,y2⟩:=Y;obtain⟨f,Ac,a5⟩:=bE (k:=node) a9 (by omega) (by omega) G hZ.symm;have zD:=O fun (W:World) (M N:Option Addr) (E F:Nat) (b:List NV)=>Ac (W:=W) (A:=M) (Bi:=N) E F (xs:=b)
 have wS:∀ W,Below w.heap.size w W→MX W A B xs its:=fun W f=>⟨hT.below f,G,HE.o.below f,HP.o.on f⟩
 have a3:=O fun W (f:Below w.heap.size w W)=>aS (c:=c) (d:=g) (wS W f) (by omega) (by omega) node
 have a4:=O fun W (f:Below w.heap.size w W)=>bX (c:=c) (d:=g) (wS W f) (by omega) (by omega) node
 have b3:=O fun W (h:Below w.heap.size w W)=>a5 c g rfl (wS W h)
 rw [← hZ] at a3
 rw [← hY] at a4
 have HZ:=O hZ;have HY:=O hY;have IL:=O a7;have b1:=O hn;have b0:=O hm;clear hT G b4 a8 a7 hn hm hZ hY Ac a5 wS a9;have i:=r.o.cell 0;have j:=r.o.cell 1;go_wp2_with fail;refine (a2.o _ P.o).mono ?_;rintro e q⟨l,nv,iv,b,rfl,L,a1⟩;obtain⟨M,E,rfl⟩:=dh L.own;obtain⟨N,F,rfl⟩:=dh L.row;have HX:=O (L.tAt fun x hx=>IL.o x.1 (by rw [← a1];exact List.mem_map.2 ⟨x,hx,rfl⟩));have a:=O (P.o.trans (l.mono P.o.size));have t:=O ((r.o.below l r.o.lt).alloc (.cells #[.slice M b.length E,.slice N its.length F] 25));have wD:=O (aZ.new q 25 #[.slice M b.length E,.slice N its.length F]);have R:=O (aF (Below.refl q.heap.size q) (aiv _) (o:=.cells #[.slice M b.length E,.slice N its.length F] 25));have Fe:=O a1;clear L a1 l a2 r P i j;have Ao:=O (show b.length≤900 by have:=Fe.o;rw [← bW,this,bW];exact b1.o);have a6:b.length=xs.length:=by rw [← bW,Fe.o,bW]
 have Ad:=O a6;have za:=O fun W (f:Below q.heap.size q W)=>(show MX W M N b its from ⟨HX.o.below f,by rw [Fe.o];exact Am.o,HE.o.below (a.o.trans (f.mono a.o.size)),HP.o.on (a.o.trans (f.mono a.o.size))⟩)
 have zl:=O fun W (f:Below q.heap.size q W)=>o8 (c:=E) (d:=F) (za.o W f) node
 have V:=O fun W (f:Below q.heap.size q W)=>sH (c:=E) (d:=F) (za.o W f) node
 have b2:=O fun W (h:Below q.heap.size q W)=>zD.o W M N E F b Fe.o (za.o W h)
 rw [Fe.o] at zl V
 have X:=HZ.o;have zn:=HY.o;rw [← Ad.o] at X zn
 rw [← X] at zl
 rw [← zn] at V
 clear X zn;clear HZ HY a6 zD;have i:=t.o.cell 0;have j:=t.o.cell 1;have m:=wD.o.cell 0;have n:=wD.o.cell 1;go_wp2_with fail;refine (zl.o _ R.o).mono ?_;rintro e w3⟨rfl,H⟩;have C:=O (R.o.trans (H.mono R.o.size));have u:=O (t.o.below H t.o.lt);have wF:=O (wD.o.below H wD.o.lt);have kE:=O (a.o.trans (C.o.mono a.o.size));clear H t wD i j m n;have i:=u.o.cell 0;have j:=u.o.cell 1;have m:=wF.o.cell 0;have n:=wF.o.cell 1;go_wp2_with fail;refine (V.o _ C.o).mono ?_;rintro e w4⟨rfl,I⟩;have D:=O (C.o.trans (I.mono C.o.size));have mh:=O (u.o.below I u.o.lt);have wG:=O (wF.o.below I wF.o.lt);have BF:=O (a.o.trans (D.o.mono a.o.size));clear I u wF i j m n;have i:=mh.o.cell 0;have j:=mh.o.cell 1;have m:=wG.o.cell 0;have n:=wG.o.cell 1;go_wp2_with fail;refine (b2.o _ D.o).mono ?_;rintro e w5⟨rfl,J⟩;have S:=O (D.o.trans (J.mono D.o.size));have b_:=O (mh.o.below J mh.o.lt);have wH:=O (wG.o.below J wG.o.lt);have kI:=O (a.o.trans (S.o.mono a.o.size));clear J mh wG i j m n;have i:=b_.o.cell 0;have j:=b_.o.cell 1;have m:=wH.o.cell 0;have n:=wH.o.cell 1;go_wp2_with fail;refine (a3.o _ kI.o).mono ?_;rintro e w6⟨rfl,K⟩;have T:=O (S.o.trans (K.mono S.o.size));have cZ:=O (b_.o.below K b_.o.lt);have wI:=O (wH.o.below K wH.o.lt);have jS:=O (a.o.trans (T.o.mono a.o.size));clear K b_ wH i j m n;have i:=cZ.o.cell 0;have j:=cZ.o.cell 1;have m:=wI.o.cell 0;have n:=wI.o.cell 1;go_wp2_with fail;refine (a4.o _ jS.o).mono ?_;rintro e w7⟨rfl,om⟩;have U:=O (T.o.trans (om.mono T.o.size));have mH:=O (cZ.o.below om cZ.o.lt);have wJ:=O (wI.o.below om wI.o.lt);have Ag:=O (a.o.trans (U.o.mono a.o.size));clear om cZ wI i j m n;have i:=mH.o.cell 0;have j:=mH.o.cell 1;have m:=wJ.o.cell 0;have n:=wJ.o.cell 1;go_wp2_with fail;refine (b3.o _ Ag.o).mono ?_;rintro e w8⟨rfl,nC⟩;have zZ:=O (U.o.trans (nC.mono U.o.size));have BD:=O (mH.o.below nC mH.o.lt);have yt:=O (wJ.o.below nC wJ.o.lt);have Zr:=O (a.o.trans (zZ.o.mono a.o.size));clear nC mH wJ i j m n;have i:=BD.o.cell 0;have j:=BD.o.cell 1;have m:=yt.o.cell 0;have n:=yt.o.cell 1;have e1:(z2 == z2)=true:=by simp
 have e2:(y2 == y2)=true:=by simp
 go_wp2_with fail;refine (ae7 M N A B E F c g b xs its _ (HX.o.below zZ.o) (HT.o.below Zr.o) Fe.o (by have:=Ao.o;omega) (by have:=b0.o;omega)).mono ?_;rintro e w9⟨Qd,rfl⟩;have wP:=O (Zr.o.trans (Qd.mono Zr.o.size));clear Qd BD yt i j m n;go_wp2_with fail;refine (afg (HE.o.below wP.o) (HP.o.on wP.o)).mono ?_;rintro e b5⟨rfl,WT⟩;have zk:=O (wP.o.trans (WT.mono wP.o.size));clear WT;go_wp2_with fail;go_ret;exact⟨by first | rfl | simp,zk.o⟩
