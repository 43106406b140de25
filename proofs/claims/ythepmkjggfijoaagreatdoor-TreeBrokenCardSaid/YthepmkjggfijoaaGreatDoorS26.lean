/-
  A part of the proof.
-/
import Derived.Test.YthepmkjggfijoaaGreatDoorSA
import Derived.Test.YthepmkjggfijoaaGreatDoorS06
import Derived.Test.YthepmkjggfijoaaGreatDoorS20
import Derived.Test.YthepmkjggfijoaaGreatDoorS23
import Derived.Test.YthepmkjggfijoaaGreatDoorS25
set_option linter.all false
set_option maxRecDepth 100000
set_option maxHeartbeats 4000000
namespace Go.Proofs.YthepmkjggfijoaaGreatDoor
open Go.RowKit Mist
attribute [local go_sem] aj aH aS aB ak
def ku (ks:List Nat):List Value:=ks.map fun (k:Nat)=>Value.int .u8 (k:Int)
theorem UM:(Tryz.prog.info? 5).map (fun i=>(i.zero,i.size,i.bytes))=some (some (.int .u8 0),1,1):=by kernel_rfl
theorem KG {w:World}{base:Nat}{A:Option Addr}{n c:Nat}{ks:List Nat}(h:w.ownsRow base 5 1 (.slice A n c) n (ku ks))(e:n=ks.length):jY w A ks:=by
 subst e
 refine⟨fun h0=>?_⟩
 obtain⟨g,cap,hv,_,a⟩:=h.form h0;have b:A=some ⟨g,0,none⟩:=by injection hv
 subst b
 refine⟨g,0,rfl,a,fun j k d=>?_⟩
 have:=h.cells (g:=g) rfl j (.int .u8 k) (by simp [ku,d])
 rw [sj] at this
 exact this
theorem Uv {w:World}{base e b n c:Nat}{A:Option Addr}{d:List Value}(h:w.ownsRow base e b (.slice A n c) n d):n≤c:=by
 rcases h.2 with ⟨hv,h0⟩ | ⟨g,cap,a,hv,_,_,f,_⟩
 ·omega
 ·injection hv with _ _ h3;omega
theorem Km (nm:Bool)(lo hi:Int)(ps:List Part)(A:Option Addr)(f c:Nat)(d:f=ps.length)(ks:List Nat)(m:Nat)(k:ks.length=m)(K:Option Addr)(kc:Nat)(w:World)(h:dS w A ps)(b:f≤c)(i:zy ps)(g:jY w K ks)(j:m≤1000000)(a:m≤kc) :
  Calls Tryz.prog 105 #[.agg #[.bool nm,.int .i64 lo,.int .i64 hi,.slice A f c],.slice K m kc] w fun e l=>e=.returned (.bool (Mist.fits ps ks))∧Below w.heap.size w l:=by
 subst d;subst k;exact Zr nm lo hi ps A c ks K kc w h b i g j a
def pG (o:Option Shape):Prop:=∀ s,o=some s→zy s.parts
theorem pG.ite {c:Prop}[Decidable c]{a b:Option Shape}(d:pG a)(e:pG b):pG (if c then a else b):=by
 split
 ·exact d
 ·exact e
theorem pG.some_ {s:Shape}(h:zy s.parts):pG (some s):=fun t e=>by injection e with e;subst e;exact h
theorem pG.none_:pG none:=fun t e=>nomatch e
theorem NH (n:Int):zy (Mist.asked n).parts:=by
 unfold Mist.asked;by_cases h7:n=7
 ·rw [if_pos h7];simp [zy]
 ·rw [if_neg h7];by_cases h8:n=8
  ·rw [if_pos h8];simp [zy]
  ·rw [if_neg h8];simp [zy]
theorem ER {k:Nat}{n:Int}{s:Shape}(h:Mist.shapeOf k n=some s):zy s.parts:=by
 have a:pG (Mist.shapeOf k n):=by
  unfold Mist.shapeOf
  repeat' (refine pG.ite ?_ ?_)
  all_goals first | exact pG.none_ | exact pG.some_ (NH n)|(refine pG.some_ ?_;simp [zy])
 exact a s h
theorem Od {T:Tr}{i:Nat}(h:Mist.shapeOf (nd T i).kind (nd T i).n=none):Mist.formed T i=false:=by
 unfold Mist.formed;rw [h]
theorem Oe {T:Tr}{i:Nat}{s:Shape}(h:Mist.shapeOf (nd T i).kind (nd T i).n=some s):Mist.formed T i=(Mist.within (nd T i).at_ 0 2000 && (s.named == !(nd T i).text.isEmpty) && (!s.named || Mist.isName (nd T i).text) && (nd T i).kids.all (Mist.within · 0 ((i:Int) - 1)) &&
  Mist.fits s.parts (kinds T (nd T i).kids) && (Mist.within (nd T i).n s.low s.high || ((nd T i).kind == 1 && Mist.within (nd T i).n (-9999) (-1)))):=by
 unfold Mist.formed;rw [h]
theorem RJ (A B:Option Addr)(c m d:Nat)(xs:List NV)(its:List Int)(i:Nat)(w:World)(hT:mq w A B xs its)(hR:xO (aA xs))(hE:Env w)(hi:i < xs.length)(hn:xs.length≤100000) :
  Calls Tryz.prog 61 #[.agg #[.slice A xs.length c,.slice B m d],.int .i64 i] w fun e w'=>e=.returned (.bool (Mist.formed ⟨aA xs,its⟩ i))∧Below w.heap.size w w':=by
 obtain⟨n,hnn⟩:∃ n,n=xs.length:=⟨_,rfl⟩;rw [← hnn] at hi hn ⊢
 obtain⟨b,o,rfl,hN⟩:=hT.nodes (by omega);obtain⟨x,hx⟩:∃ x,xs[i]? = some x:=jD (by omega);have U:=O (l7 its hx);have hxr:=hR x.1 (List.mem_map_of_mem (aaM hx));have pF:=O hnn;clear hnn;have HN:=O hN;have HE:=O hE;clear hE hT;have c0:=hN.c0 i x hx;have c1:=hN.c1 i x hx;have c2:=hN.c2 i x hx;have c3:=hN.c3 i x hx;have c4:=hN.c4 i x hx;obtain⟨Ak,ck,hxe,hxl,G⟩:=hN.kid hx;rw [hxe] at c3
 have tK:=O G;have HX:=O hx;have hbl:=hN.lt;clear G hx hxe hN;obtain⟨q,hnk⟩:∃ q,q=x.1.kids.length:=⟨_,rfl⟩;rw [← hnk] at c3 hxl
 have nu:=O hnk;clear hnk;have i1:(0:Int)≤(i:Int):=by omega
 have i2:(i:Int) < (n:Int):=by omega
 have htx:=hxr.text;obtain⟨T,ni⟩:∃ T:Tr,T=⟨aA xs,its⟩:=⟨_,rfl⟩;rw [← ni] at U ⊢
 have F9:=O ni;clear ni;have HRR:=O hR;clear hR;go_in
 go_wp2_with fail;refine (Pz x.1.kind x.1.text x.1.n x.1.at_ Ak q ck _).mono ?_;rintro e w2⟨nm,lo,hi,X,ns,cs,is,rfl,hb2,hs⟩;have HT2:=O (show aC w2 w.heap.size 26 #[.slice (some ⟨b,o,none⟩) n c,.slice B m d] from aC.below (by repeat (first|(with_reducible exact aC.new _ _ _)|(with_reducible refine aC.alloc ?_ _))) hb2 (by first | omega|(simp;done)|(simp;omega)));have Dw:=O (show aC w2 (w.heap.size+1) 50 #[.int .u8 x.1.kind,.string (aM x.1.text),.int .i64 x.1.n,.slice Ak q ck,.int .i64 x.1.at_] from aC.below (by repeat (first|(with_reducible exact yU (by simp))|(with_reducible refine aC.alloc ?_ _))) hb2 (by first | omega|(simp;done)|(simp;omega)));have g:=O (show Below w.heap.size w w2 from Below.trans (by repeat (first|(with_reducible exact Below.refl _ _)|(with_reducible refine ah ?_ ?_) | omega|(simp;done)|(simp;omega))) (hb2.mono (by first | omega|(simp;done)|(simp;omega))));clear hb2;have t0:=HT2.o.cell 0;have V:=Dw.o.cell 0;have n1:=Dw.o.cell 1;have W:=Dw.o.cell 2;have n3:=Dw.o.cell 3;have n4:=Dw.o.cell 4;have hl2:=Dw.o.lt;have hl1:w.heap.size < w2.heap.size:=by omega
 rcases hsh:Mist.shapeOf x.1.kind x.1.n with _ | s
 ·rw [hsh] at hs
  subst hs;have N:=O (Od (T:=T) (i:=i) (by rw [U.o];exact hsh));clear hsh;go_wp2_with fail;go_ret;exact⟨bD N.o.symm,ah g.o g.o.size⟩
 ·rw [hsh] at hs
  obtain⟨rfl,rfl,rfl,rfl,rfl,hcs,hps⟩:=hs;have N:=O (Oe (T:=T) (i:=i) (by rw [U.o];exact hsh));have HSH:=O hsh;have HPS:=O hps;clear hsh hps;obtain⟨named,lo,hi,ps⟩:=s;simp only at N HPS hcs ⊢
  cases hw:Mist.within x.1.at_ 0 2000
  ·have P:=O hw;clear hw;have Ll:=O (show Mist.formed T i=false by rw [N.o,U.o,P.o];rfl);go_wp2_with fail;refine (dU _ 0 2000 false P.o _).mono ?_;rintro e r⟨rfl,rfl⟩;go_wp2_with fail;go_ret;exact⟨bD Ll.o.symm,ah g.o g.o.size⟩
  ·have P:=O hw;clear hw
   cases hem:x.1.text.isEmpty
   ·have F:=O hem;cases named
    ·have Ll:=O (show Mist.formed T i=false by rw [N.o,U.o,P.o,F.o];rfl);go_wp2_with fail;refine (dU _ 0 2000 true P.o _).mono ?_;rintro e r⟨rfl,rfl⟩;go_wp2_with fail;go_ret;exact⟨bD Ll.o.symm,ah g.o g.o.size⟩
    ·cases hnm:Mist.isName x.1.text
     ·have HNM:=O hnm;clear hnm;have Ll:=O (show Mist.formed T i=false by rw [N.o,U.o,P.o,F.o,HNM.o];rfl);go_wp2_with fail;refine (dU _ 0 2000 true P.o _).mono ?_;rintro e r⟨rfl,rfl⟩;go_wp2_with fail;refine (Hq x.1.text _ ((HE.o.below g.o).alloc _) htx).mono ?_;rintro e r⟨rfl,S⟩;rw [HNM.o];go_wp2_with fail;go_ret;exact⟨bD Ll.o.symm,(ah g.o g.o.size).trans (S.mono (by simp;have:=g.o.size;omega))⟩
     ·have HNM:=O hnm;clear hnm;go_wp2_with fail;refine (dU _ 0 2000 true P.o _).mono ?_;rintro e r⟨rfl,rfl⟩;go_wp2_with fail;refine (Hq x.1.text _ ((HE.o.below g.o).alloc _) htx).mono ?_;rintro e r⟨rfl,S⟩;rw [HNM.o];have U8:=(HT2.o.alloc (.cells #[.bool true,.int .i64 lo,.int .i64 hi,.slice X ps.length cs] 119)).below S (by simp;omega);have QV:=(Dw.o.alloc (.cells #[.bool true,.int .i64 lo,.int .i64 hi,.slice X ps.length cs] 119)).below S (by simp;omega);have U7:=gF S;have UZ:=(ah g.o g.o.size).trans (S.mono (by simp;have:=g.o.size;omega));have U3:=(HPS.o.below (ah (Below.refl _ _) (aaJ _) (o:=.cells #[.bool true,.int .i64 lo,.int .i64 hi,.slice X ps.length cs] 119))).below S;clear S;have m3:=QV.cell 3;go_wp2_with fail;have HT3:=O (show aC r w.heap.size 26 #[.slice (some ⟨b,o,none⟩) n c,.slice B m d] from U8);have HN3:=O (show aC r (w.heap.size+1) 50 #[.int .u8 x.1.kind,.string (aM x.1.text),.int .i64 x.1.n,.slice Ak q ck,.int .i64 x.1.at_] from QV);have U6:=O (show aC r w2.heap.size 119 #[.bool true,.int .i64 lo,.int .i64 hi,.slice X ps.length cs] from U7);have l:=O (show Below w.heap.size w r from UZ);have HP3:=O (show dS r X ps from U3);clear U8 QV U7 UZ U3 m3 t0 V n1 W n3 n4 HT2 Dw g HPS;have hs3:=U6.o.lt;obtain⟨pn,hpn⟩:∃ pn,pn=ps.length:=⟨_,rfl⟩;rw [← hpn] at U6 hcs ⊢
      have HPN:=O hpn;clear hpn;go_loopw [8,50] (fun v j wr=>∃ (f:Nat),f≤q∧j=.int .i64 f∧wr.ownsRow r.heap.size 5 1 v f (ku (kinds T (x.1.kids.take f)))∧Hid ((x.1.kids.take f).all (Mist.within · 0 ((i:Int) - 1))=true)∧Hid (Below r.heap.size r wr)) (fun _ j _=>q - (intOf j).toNat)
      case atStart=>exact⟨0,aaL _,rfl,World.ownsRow_nil _ _ _ _,O rfl,O (Below.refl _ _)⟩
      case round =>
       obtain⟨wo,rfl⟩:∃ wo:World,wo=wr:=⟨_,rfl⟩;obtain⟨f,hj,rfl,E,JR,h⟩:=hrel;obtain⟨Av,cv,rfl⟩:=dh E;have t:=O E;clear E;have Dx:=O (HT3.o.below h.o (by omega));have U2:=O (HN3.o.below h.o (by omega));have R:=O (U6.o.below h.o (by omega));have hso:=h.o.size;have t0:=Dx.o.cell 0;by_cases hjl:f < q
       case pos =>
        obtain⟨L,hkq⟩:∃ L,x.1.kids[f]? = some L:=⟨_,aaD (by rw [← nu.o];exact hjl)⟩;obtain⟨bk,ok,rfl,hbk,hck⟩:=tK.o.ex (by rw [← nu.o];omega);have cj:=((l.o.trans (h.o.mono l.o.size)).cell (p:=⟨bk,ok+f,none⟩) hbk).trans (hck f L hkq);have HKQ:=O hkq;clear hck hkq;have j0:(0:Int)≤(f:Int):=by omega
        have j1:(f:Int) < (q:Int):=by omega
        have j2:decide ((f:Int) < (q:Int))=true:=aaU j1;have j3:decide (f < q)=true:=aaU hjl
        cases hq:Mist.within L 0 ((i:Int) - 1)
        ·have HQ:=O hq;clear hq
         have Ll:=O (show Mist.formed T i=false by
          have h9:x.1.kids.all (Mist.within · 0 ((i:Int) - 1))=false:=by
           rw [List.all_eq_false];exact⟨L,aaM HKQ.o,by rw [HQ.o];simp⟩
          rw [N.o,U.o,h9];simp)
         go_wp2_with fail;refine (dU _ 0 _ false HQ.o _).mono ?_;rintro e w4⟨rfl,rfl⟩;go_wp2_with fail;go_ret;exact⟨bD Ll.o.symm,l.o.trans (h.o.mono l.o.size)⟩
        ·have hq2:0≤L∧L≤(i:Int) - 1:=by simpa [Mist.within] using hq
         have HQ:=O hq;clear hq;obtain⟨H,rfl⟩:∃ H:Nat,L=(H:Int):=⟨L.toNat,by omega⟩;obtain⟨xk,G⟩:∃ xk,xs[H]? = some xk:=jD (by rw [← pF.o];omega);have ckn:=((l.o.trans (h.o.mono l.o.size)).cell (p:=⟨b,o+H * 5,none⟩) hbl).trans (HN.o.c0 H xk G);have HKN:=O (show (nd T H).kind=xk.1.kind by rw [F9.o,l7 its G]);clear G;have k0:(0:Int)≤(H:Int):=by omega
         have k1:(H:Int) < (n:Int):=by omega
         obtain⟨kk,hkk⟩:∃ kk,kk=xk.1.kind:=⟨_,rfl⟩;rw [← hkk] at ckn HKN
         clear hkk;have HIN:=O (show x.1.kids.take (f+1)=x.1.kids.take f ++ [(H:Int)] by rw [List.take_add_one,HKQ.o];rfl);obtain⟨i0,hi0,hz0,hz1,hz2⟩:=info_parts UM;go_wp2_with fail;refine (dU _ 0 _ true HQ.o _).mono ?_;rintro e w4⟨rfl,rfl⟩
         go_wp2_with (at_builtin
                      refine wpList_append_lies _ rfl (.tmp 59) (.tmp 66) 41 rfl r.heap.size 5 i0 _ 1 1 Tryz.underlying41 hi0 hz0 hz1 hz2 rfl (by decide) _ f (ku (kinds T (x.1.kids.take f))) rfl
                        (t.o.alloc _) ⟨wo.heap.size,0,none⟩ 1 1 [.int .u8 (kk:Int)] rfl rfl (iP _ _ _) (by intro u hu;simp at hu;subst hu;rfl) (by omega) (by simp only [maxLen];omega) (by omega) (by simp;omega) (wo.heap.size+1) (by simp) ?_
                      intro gg cap w5 hown2 hg5 Jz hgl)
         refine⟨⟨f+1,by omega,by go_num,?_,O ?_,O ?_⟩,by simp [intOf];omega⟩
         ·rw [HIN.o]
          have h9:ku (kinds T (x.1.kids.take f ++ [(H:Int)]))=ku (kinds T (x.1.kids.take f)) ++ [.int .u8 (kk:Int)]:=by
           simp [ku,kinds,HKN.o]
          rw [h9];exact hown2
         ·rw [HIN.o,List.all_append,JR.o];simp [HQ.o]
         ·exact (ah h.o h.o.size).grown hg5 (by simp;omega) (fun b hb=>(t.o.lt b hb).1)
       case neg =>
        have Z:=O (show f=q by omega);have zk:=O (show x.1.kids.all (Mist.within · 0 ((i:Int) - 1))=true by have h9:=JR.o;rwa [Z.o,nu.o,List.take_length] at h9)
        have HKI:=O (show jY wo Av (kinds T x.1.kids) by
         have h9:=t.o;rw [Z.o,nu.o,List.take_length] at h9
         exact KG h9 (by simp [kinds]))
        have HKC:=O (show q≤cv by
         have h9:=Uv t.o;omega)
        have TI:=O (show (kinds T x.1.kids).length=q by simp [kinds,nu.o]);have hjn:f=q:=Z.o;subst hjn;clear t0 hj hjl t JR;have V:=U2.o.cell 0;have W:=U2.o.cell 2;have s0:=R.o.cell 0;have s1:=R.o.cell 1;have s2:=R.o.cell 2;have s3:=R.o.cell 3;have C:=U2.o.lt;have D:=R.o.lt;have hlo3:w.heap.size < wo.heap.size:=by omega
        have j2:decide ((f:Int) < (f:Int))=false:=aaV (by omega);have J:=O (Km true lo hi ps X pn cs HPN.o (kinds T x.1.kids) f TI.o Av cv wo (HP3.o.below h.o) hcs (ER HSH.o) HKI.o hxl HKC.o)
        cases k:Mist.fits ps (kinds T x.1.kids)
        ·have I:=O k;clear k;have Ll:=O (show Mist.formed T i=false by rw [N.o,U.o,I.o];simp);go_wp2_with fail;refine J.o.mono ?_;rintro e w6⟨rfl,a⟩;rw [I.o];go_wp2_with fail;go_ret;exact⟨bD Ll.o.symm,(l.o.trans (h.o.mono l.o.size)).trans (a.mono (by omega))⟩
        ·have I:=O k;clear k
         cases K:Mist.within x.1.n lo hi
         ·have Y:=O K;clear K;by_cases y:x.1.kind=1
          ·have e1:((x.1.kind:Int) == 1)=true:=by rw [y];rfl
           have Xo:=O y;clear y
           cases hw9:Mist.within x.1.n (-9999) (-1)
           all_goals
            have HW9:=O hw9;clear hw9;go_wp2_with fail;refine J.o.mono ?_;rintro e w6⟨rfl,a⟩;rw [I.o];have dA:=O ((l.o.trans (h.o.mono l.o.size)).trans (a.mono (by omega)));have M:=O (U2.o.below a C);have Q:=O (R.o.below a D);clear a V W s0 s1 s2 s3;have V:=M.o.cell 0;have W:=M.o.cell 2;have s1:=Q.o.cell 1;have s2:=Q.o.cell 2;go_wp2_with fail;refine (dU x.1.n lo hi false Y.o _).mono ?_;rintro e w7⟨rfl,rfl⟩;go_wp2_with fail;refine (dU x.1.n (-9999) (-1) _ HW9.o _).mono ?_;rintro e w7⟨rfl,rfl⟩;go_wp2_with fail;go_ret
            refine⟨bD ?_,dA.o⟩
            rw [N.o,U.o,I.o,Y.o,HW9.o,Xo.o,P.o,zk.o,F.o,HNM.o];rfl
          ·have e1:((x.1.kind:Int) == 1)=false:=by rw [aaF];omega
           have Xo:=O (show (x.1.kind == 1)=false by simpa using y);clear y;go_wp2_with fail;refine J.o.mono ?_;rintro e w6⟨rfl,a⟩;rw [I.o];have dA:=O ((l.o.trans (h.o.mono l.o.size)).trans (a.mono (by omega)));have M:=O (U2.o.below a C);have Q:=O (R.o.below a D);clear a V W s0 s1 s2 s3;have V:=M.o.cell 0;have W:=M.o.cell 2;have s1:=Q.o.cell 1;have s2:=Q.o.cell 2;go_wp2_with fail;refine (dU x.1.n lo hi false Y.o _).mono ?_;rintro e w7⟨rfl,rfl⟩;go_wp2_with fail;go_ret
           refine⟨bD ?_,dA.o⟩
           rw [N.o,U.o,I.o,Y.o,Xo.o,P.o,zk.o,F.o,HNM.o];rfl
         ·have Y:=O K;clear K;go_wp2_with fail;refine J.o.mono ?_;rintro e w6⟨rfl,a⟩;rw [I.o];have dA:=O ((l.o.trans (h.o.mono l.o.size)).trans (a.mono (by omega)));have M:=O (U2.o.below a C);have Q:=O (R.o.below a D);clear a V W s0 s1 s2 s3;have V:=M.o.cell 0;have W:=M.o.cell 2;have s1:=Q.o.cell 1;have s2:=Q.o.cell 2;go_wp2_with fail;refine (dU x.1.n lo hi true Y.o _).mono ?_;rintro e w7⟨rfl,rfl⟩;go_wp2_with fail;go_ret
          refine⟨bD ?_,dA.o⟩
          rw [N.o,U.o,I.o,Y.o,P.o,zk.o,F.o,HNM.o];rfl
   ·have F:=O hem;cases named
    ·have U8:=HT2.o.alloc (.cells #[.bool false,.int .i64 lo,.int .i64 hi,.slice X ps.length cs] 119);have QV:=Dw.o.alloc (.cells #[.bool false,.int .i64 lo,.int .i64 hi,.slice X ps.length cs] 119);have U7:=aC.new w2 119 #[.bool false,.int .i64 lo,.int .i64 hi,.slice X ps.length cs];have UZ:=ah g.o g.o.size (o:=.cells #[.bool false,.int .i64 lo,.int .i64 hi,.slice X ps.length cs] 119);have U3:=HPS.o.below (ah (Below.refl _ _) (aaJ _) (o:=.cells #[.bool false,.int .i64 lo,.int .i64 hi,.slice X ps.length cs] 119));go_wp2_with fail;refine (dU _ 0 2000 true P.o _).mono ?_;rintro e r⟨rfl,rfl⟩;go_wp2_with fail
     generalize w2.alloc (.cells #[.bool false,.int .i64 lo,.int .i64 hi,.slice X ps.length cs] 119)=r at U8 QV U7 UZ U3 ⊢
     have HT3:=O (show aC r w.heap.size 26 #[.slice (some ⟨b,o,none⟩) n c,.slice B m d] from U8);have HN3:=O (show aC r (w.heap.size+1) 50 #[.int .u8 x.1.kind,.string (aM x.1.text),.int .i64 x.1.n,.slice Ak q ck,.int .i64 x.1.at_] from QV);have U6:=O (show aC r w2.heap.size 119 #[.bool false,.int .i64 lo,.int .i64 hi,.slice X ps.length cs] from U7);have l:=O (show Below w.heap.size w r from UZ);have HP3:=O (show dS r X ps from U3);clear U8 QV U7 UZ U3 t0 V n1 W n3 n4 HT2 Dw g HPS;have hs3:=U6.o.lt;obtain⟨pn,hpn⟩:∃ pn,pn=ps.length:=⟨_,rfl⟩;rw [← hpn] at U6 hcs ⊢
     have HPN:=O hpn;clear hpn;go_loopw [8,50] (fun v j wr=>∃ (f:Nat),f≤q∧j=.int .i64 f∧wr.ownsRow r.heap.size 5 1 v f (ku (kinds T (x.1.kids.take f)))∧Hid ((x.1.kids.take f).all (Mist.within · 0 ((i:Int) - 1))=true)∧Hid (Below r.heap.size r wr)) (fun _ j _=>q - (intOf j).toNat)
     case atStart=>exact⟨0,aaL _,rfl,World.ownsRow_nil _ _ _ _,O rfl,O (Below.refl _ _)⟩
     case round =>
      obtain⟨wo,rfl⟩:∃ wo:World,wo=wr:=⟨_,rfl⟩;obtain⟨f,hj,rfl,E,JR,h⟩:=hrel;obtain⟨Av,cv,rfl⟩:=dh E;have t:=O E;clear E;have Dx:=O (HT3.o.below h.o (by omega));have U2:=O (HN3.o.below h.o (by omega));have R:=O (U6.o.below h.o (by omega));have hso:=h.o.size;have t0:=Dx.o.cell 0;by_cases hjl:f < q
      case pos =>
       obtain⟨L,hkq⟩:∃ L,x.1.kids[f]? = some L:=⟨_,aaD (by rw [← nu.o];exact hjl)⟩;obtain⟨bk,ok,rfl,hbk,hck⟩:=tK.o.ex (by rw [← nu.o];omega);have cj:=((l.o.trans (h.o.mono l.o.size)).cell (p:=⟨bk,ok+f,none⟩) hbk).trans (hck f L hkq);have HKQ:=O hkq;clear hck hkq;have j0:(0:Int)≤(f:Int):=by omega
       have j1:(f:Int) < (q:Int):=by omega
       have j2:decide ((f:Int) < (q:Int))=true:=aaU j1;have j3:decide (f < q)=true:=aaU hjl
       cases hq:Mist.within L 0 ((i:Int) - 1)
       ·have HQ:=O hq;clear hq
        have Ll:=O (show Mist.formed T i=false by
         have h9:x.1.kids.all (Mist.within · 0 ((i:Int) - 1))=false:=by
          rw [List.all_eq_false];exact⟨L,aaM HKQ.o,by rw [HQ.o];simp⟩
         rw [N.o,U.o,h9];simp)
        go_wp2_with fail;refine (dU _ 0 _ false HQ.o _).mono ?_;rintro e w4⟨rfl,rfl⟩;go_wp2_with fail;go_ret;exact⟨bD Ll.o.symm,l.o.trans (h.o.mono l.o.size)⟩
       ·have hq2:0≤L∧L≤(i:Int) - 1:=by simpa [Mist.within] using hq
        have HQ:=O hq;clear hq;obtain⟨H,rfl⟩:∃ H:Nat,L=(H:Int):=⟨L.toNat,by omega⟩;obtain⟨xk,G⟩:∃ xk,xs[H]? = some xk:=jD (by rw [← pF.o];omega);have ckn:=((l.o.trans (h.o.mono l.o.size)).cell (p:=⟨b,o+H * 5,none⟩) hbl).trans (HN.o.c0 H xk G);have HKN:=O (show (nd T H).kind=xk.1.kind by rw [F9.o,l7 its G]);clear G;have k0:(0:Int)≤(H:Int):=by omega
        have k1:(H:Int) < (n:Int):=by omega
        obtain⟨kk,hkk⟩:∃ kk,kk=xk.1.kind:=⟨_,rfl⟩;rw [← hkk] at ckn HKN
        clear hkk;have HIN:=O (show x.1.kids.take (f+1)=x.1.kids.take f ++ [(H:Int)] by rw [List.take_add_one,HKQ.o];rfl);obtain⟨i0,hi0,hz0,hz1,hz2⟩:=info_parts UM;go_wp2_with fail;refine (dU _ 0 _ true HQ.o _).mono ?_;rintro e w4⟨rfl,rfl⟩
        go_wp2_with (at_builtin
                     refine wpList_append_lies _ rfl (.tmp 59) (.tmp 66) 41 rfl r.heap.size 5 i0 _ 1 1 Tryz.underlying41 hi0 hz0 hz1 hz2 rfl (by decide) _ f (ku (kinds T (x.1.kids.take f))) rfl
                       (t.o.alloc _) ⟨wo.heap.size,0,none⟩ 1 1 [.int .u8 (kk:Int)] rfl rfl (iP _ _ _) (by intro u hu;simp at hu;subst hu;rfl) (by omega) (by simp only [maxLen];omega) (by omega) (by simp;omega) (wo.heap.size+1) (by simp) ?_
                     intro gg cap w5 hown2 hg5 Jz hgl)
        refine⟨⟨f+1,by omega,by go_num,?_,O ?_,O ?_⟩,by simp [intOf];omega⟩
        ·rw [HIN.o]
         have h9:ku (kinds T (x.1.kids.take f ++ [(H:Int)]))=ku (kinds T (x.1.kids.take f)) ++ [.int .u8 (kk:Int)]:=by
          simp [ku,kinds,HKN.o]
         rw [h9];exact hown2
        ·rw [HIN.o,List.all_append,JR.o];simp [HQ.o]
        ·exact (ah h.o h.o.size).grown hg5 (by simp;omega) (fun b hb=>(t.o.lt b hb).1)
      case neg =>
       have Z:=O (show f=q by omega);have zk:=O (show x.1.kids.all (Mist.within · 0 ((i:Int) - 1))=true by have h9:=JR.o;rwa [Z.o,nu.o,List.take_length] at h9)
       have HKI:=O (show jY wo Av (kinds T x.1.kids) by
        have h9:=t.o;rw [Z.o,nu.o,List.take_length] at h9
        exact KG h9 (by simp [kinds]))
       have HKC:=O (show q≤cv by
        have h9:=Uv t.o;omega)
       have TI:=O (show (kinds T x.1.kids).length=q by simp [kinds,nu.o]);have hjn:f=q:=Z.o;subst hjn;clear t0 hj hjl t JR;have V:=U2.o.cell 0;have W:=U2.o.cell 2;have s0:=R.o.cell 0;have s1:=R.o.cell 1;have s2:=R.o.cell 2;have s3:=R.o.cell 3;have C:=U2.o.lt;have D:=R.o.lt;have hlo3:w.heap.size < wo.heap.size:=by omega
       have j2:decide ((f:Int) < (f:Int))=false:=aaV (by omega);have J:=O (Km false lo hi ps X pn cs HPN.o (kinds T x.1.kids) f TI.o Av cv wo (HP3.o.below h.o) hcs (ER HSH.o) HKI.o hxl HKC.o)
       cases k:Mist.fits ps (kinds T x.1.kids)
       ·have I:=O k;clear k;have Ll:=O (show Mist.formed T i=false by rw [N.o,U.o,I.o];simp);go_wp2_with fail;refine J.o.mono ?_;rintro e w6⟨rfl,a⟩;rw [I.o];go_wp2_with fail;go_ret;exact⟨bD Ll.o.symm,(l.o.trans (h.o.mono l.o.size)).trans (a.mono (by omega))⟩
       ·have I:=O k;clear k
        cases K:Mist.within x.1.n lo hi
        ·have Y:=O K;clear K;by_cases y:x.1.kind=1
         ·have e1:((x.1.kind:Int) == 1)=true:=by rw [y];rfl
          have Xo:=O y;clear y
          cases hw9:Mist.within x.1.n (-9999) (-1)
          all_goals
           have HW9:=O hw9;clear hw9;go_wp2_with fail;refine J.o.mono ?_;rintro e w6⟨rfl,a⟩;rw [I.o];have dA:=O ((l.o.trans (h.o.mono l.o.size)).trans (a.mono (by omega)));have M:=O (U2.o.below a C);have Q:=O (R.o.below a D);clear a V W s0 s1 s2 s3;have V:=M.o.cell 0;have W:=M.o.cell 2;have s1:=Q.o.cell 1;have s2:=Q.o.cell 2;go_wp2_with fail;refine (dU x.1.n lo hi false Y.o _).mono ?_;rintro e w7⟨rfl,rfl⟩;go_wp2_with fail;refine (dU x.1.n (-9999) (-1) _ HW9.o _).mono ?_;rintro e w7⟨rfl,rfl⟩;go_wp2_with fail;go_ret
           refine⟨bD ?_,dA.o⟩
           rw [N.o,U.o,I.o,Y.o,HW9.o,Xo.o,P.o,zk.o,F.o];rfl
         ·have e1:((x.1.kind:Int) == 1)=false:=by rw [aaF];omega
          have Xo:=O (show (x.1.kind == 1)=false by simpa using y);clear y;go_wp2_with fail;refine J.o.mono ?_;rintro e w6⟨rfl,a⟩;rw [I.o];have dA:=O ((l.o.trans (h.o.mono l.o.size)).trans (a.mono (by omega)));have M:=O (U2.o.below a C);have Q:=O (R.o.below a D);clear a V W s0 s1 s2 s3;have V:=M.o.cell 0;have W:=M.o.cell 2;have s1:=Q.o.cell 1;have s2:=Q.o.cell 2;go_wp2_with fail;refine (dU x.1.n lo hi false Y.o _).mono ?_;rintro e w7⟨rfl,rfl⟩;go_wp2_with fail;go_ret
          refine⟨bD ?_,dA.o⟩
          rw [N.o,U.o,I.o,Y.o,Xo.o,P.o,zk.o,F.o];rfl
        ·have Y:=O K;clear K;go_wp2_with fail;refine J.o.mono ?_;rintro e w6⟨rfl,a⟩;rw [I.o];have dA:=O ((l.o.trans (h.o.mono l.o.size)).trans (a.mono (by omega)));have M:=O (U2.o.below a C);have Q:=O (R.o.below a D);clear a V W s0 s1 s2 s3;have V:=M.o.cell 0;have W:=M.o.cell 2;have s1:=Q.o.cell 1;have s2:=Q.o.cell 2;go_wp2_with fail;refine (dU x.1.n lo hi true Y.o _).mono ?_;rintro e w7⟨rfl,rfl⟩;go_wp2_with fail;go_ret
         refine⟨bD ?_,dA.o⟩
         rw [N.o,U.o,I.o,Y.o,P.o,zk.o,F.o];rfl
    ·have Ll:=O (show Mist.formed T i=false by rw [N.o,U.o,P.o,F.o];rfl);go_wp2_with fail;refine (dU _ 0 2000 true P.o _).mono ?_;rintro e r⟨rfl,rfl⟩;go_wp2_with fail;go_ret;exact⟨bD Ll.o.symm,ah g.o g.o.size⟩
end Go.Proofs.YthepmkjggfijoaaGreatDoor
namespace Go.Proofs.YthepmkjggfijoaaGreatDoor
open Go.RowKit Mist
theorem Qd {T:Tr}{f i:Nat}{root:Bool}{next x:Nat}(h:Mist.walk T f i root next=some x):x=i+1:=by
 cases f with
 | zero=>cases h
 | succ f =>
  unfold Mist.walk at h
  split at h
  ·cases h
  ·split at h
   ·split at h
    ·have:=aaP h;omega
    ·cases h
   ·cases h
theorem Xg {T:Tr}{f i:Nat}{root:Bool}{next:Nat}(h:(nd T i).kids.foldl (fun (o:Option Nat) c=>o.bind fun x=>Mist.walk T f c.toNat false x) (some next)=none):Mist.walk T (f+1) i root next=none:=by
 unfold Mist.walk;rw [h]
theorem walk_at {T:Tr}{f i:Nat}{root:Bool}{next y:Nat}(h:(nd T i).kids.foldl (fun (o:Option Nat) c=>o.bind fun x=>Mist.walk T f c.toNat false x) (some next)=some y):Mist.walk T (f+1) i root next=if i=y then (if eP (nd T i).kind=root then some (y+1) else none) else none:=by
 rw [Mist.walk];rw [h]
structure vU (w0:World) (w:World) (tb nb wb:Nat) (tv iv:Value) (next:Int):Prop where
 tree:aC w tb 26 #[tv,iv]
 self:aC w wb 123 #[.func (.func 106) #[] #[.pointer (some ⟨tb,0,none⟩),.pointer (some ⟨wb,0,none⟩),.pointer (some ⟨nb,0,none⟩)]]
 next:aC w nb 3 #[.int .i64 next]
 low:Below w0.heap.size w0 w
 nb:w0.heap.size≤nb
theorem vU.mv {w0 w d:World}{tb c f:Nat}{tv iv:Value}{next a:Int}(h:vU w0 w tb c f tv iv next)(m:Mv c none w none d)(g:aC d c 3 #[.int .i64 a]):vU w0 d tb c f tv iv a :=
 ⟨m.blk h.tree (h.tree.ne_ h.next (by decide)) (by simp),m.blk h.self (h.self.ne_ h.next (by decide)) (by simp),g,h.low.trans (m.below h.next.lt h.nb (fun b e=>nomatch e)),h.nb⟩
def Y6 (r:Option Nat)(nb:Nat)(w:World)(e:Ending)(w':World):Prop :=
 Mv nb none w none w'∧match r with
  | some x=>e=.returned (.bool true)∧aC w' nb 3 #[.int .i64 (x:Int)]
  | none=>e=.returned (.bool false)∧∃ y,aC w' nb 3 #[.int .i64 y]
theorem walk_any (xs:List NV)(G:List Int)(b o c m d n:Nat)(B:Option Addr)(w0:World)(hN:oZ w0 b o xs)(U:n=xs.length)(hn:n≤100000)(hK:∀ (i:Nat) x,xs[i]? = some x→∀ k ∈ x.1.kids,0≤k∧k≤(i:Int) - 1)(hR:xO (aA xs))(tb I wb:Nat) :
  ∀ (f i:Nat) (K:Int) (root:Bool) (next:Nat) (w:World),i < n→i < f→1≤K→K+i≤200000→(K == 1)=root→next≤1000000→vU w0 w tb I wb (.slice (some ⟨b,o,none⟩) n c) (.slice B m d) (next:Int) →
  Calls Tryz.prog 106 #[.int .i64 (i:Int),.int .i64 K,.pointer (some ⟨tb,0,none⟩),.pointer (some ⟨wb,0,none⟩),.pointer (some ⟨I,0,none⟩)] w (Y6 (Mist.walk ⟨aA xs,G⟩ f i root next) I w):=by
 obtain⟨T,hT⟩:∃ T:Tr,T=⟨aA xs,G⟩:=⟨_,rfl⟩;rw [← hT];have pF:=O U;clear U;have J:=O hN;clear hN;have HKK:=O hK;clear hK;have F9:=O hT;clear hT;have HRR:=O hR;clear hR;intro f
 induction f with
 | zero=>intro i _ _ _ _ _ h;omega
 | succ f ih =>
  have IH:=O ih;clear ih;intro i K root next w hi hif hd1 hd2 v hnx hm;have nH:=O v;clear v;have HM:=O hm;have t0:=hm.tree.cell 0;clear hm;obtain⟨x,V⟩:∃ x,xs[i]? = some x:=jD (by rw [← pF.o];exact hi);have oV:=O (show nd T i=x.1 by rw [F9.o];exact l7 G V);obtain⟨Ak,ck,W,hxl,X⟩:=J.o.kid V;have c3:=(HM.o.low.cell (p:=⟨b,o+i * 5+3,none⟩) J.o.lt).trans (J.o.c3 i x V);rw [W] at c3
  have tK:=O X;have HX:=O V;clear X V W;obtain⟨E,F⟩:∃ E,E=x.1.kids.length:=⟨_,rfl⟩;rw [← F] at c3 hxl
  have Z:=O F;clear F;have i1:(0:Int)≤(i:Int):=by omega
  have i2:(i:Int) < (n:Int):=by omega
  go_in
  go_wp2_with fail;go_loopw [17] (fun j wr=>∃ (l y:Nat),l≤E∧j=.int .i64 l∧y≤1000000∧Hid (vU w0 wr tb I wb (.slice (some ⟨b,o,none⟩) n c) (.slice B m d) (y:Int))∧Hid (Mv I none w none wr)∧Hid ((x.1.kids.drop l).foldl (fun (o:Option Nat) c=>o.bind fun x=>Mist.walk T f c.toNat false x) (some y)=x.1.kids.foldl (fun (o:Option Nat) c=>o.bind fun x=>Mist.walk T f c.toNat false x) (some next))) (fun j _=>E - (intOf j).toNat)
  case atStart=>exact⟨0,next,aaL _,rfl,hnx,HM,O Mv.refl,O rfl⟩
  case round =>
   obtain⟨wo,rfl⟩:∃ wo:World,wo=wr:=⟨_,rfl⟩;obtain⟨l,y,hj,rfl,hy,g,A,Xm⟩:=hrel;have s0:=g.o.self.cell 0;by_cases C:l < E
   ·obtain⟨Y,D⟩:∃ Y,x.1.kids[l]? = some Y:=⟨_,aaD (by rw [← Z.o];exact C)⟩;have hkb:=HKK.o i x HX.o Y (aaM D);obtain⟨H,rfl⟩:∃ H:Nat,Y=(H:Int):=⟨Y.toNat,by omega⟩;obtain⟨bk,ok,rfl,hbk,R⟩:=tK.o.ex (by rw [← Z.o];omega);have cj:=(g.o.low.cell (p:=⟨bk,ok+l,none⟩) hbk).trans (R l H D)
    have M:=O (show x.1.kids.drop l=(H:Int) :: x.1.kids.drop (l+1) by
     rw [aaX (by rw [← Z.o];exact C),(aaE.1 D).2])
    clear R D;have j0:(0:Int)≤(l:Int):=by omega
    have j1:(l:Int) < (E:Int):=by omega
    have j2:decide (l < E)=true:=aaU C;have HC:=O (IH.o H (K+1) false y wo (by omega) (by omega) (by omega) (by omega) (by rw [aaF];omega) hy g.o)
    have TH:=O (show (x.1.kids.drop (l+1)).foldl (fun (o:Option Nat) c=>o.bind fun x=>Mist.walk T f c.toNat false x) (Mist.walk T f H false y)=x.1.kids.foldl (fun (o:Option Nat) c=>o.bind fun x=>Mist.walk T f c.toNat false x) (some next) by
     have h9:=Xm.o;rw [M.o,List.foldl_cons,Option.bind_some,aaQ] at h9
     exact h9)
    clear Xm M;go_wp2_with fail;refine HC.o.mono ?_;rintro e w2⟨t,a⟩
    cases q:Mist.walk T f H false y with
    | none =>
     rw [q] at a
     obtain⟨rfl,z,L⟩:=a
     have HST:=O (show Mist.walk T (f+1) i root next=none from Xg (by
      rw [oV.o,← TH.o,q];exact wR (fun x c=>Mist.walk T f c.toNat false x) _))
     have HZ:=O L;have r:=O (A.o.trans t);clear q L t;go_wp2_with fail;go_ret
     refine⟨r.o,?_⟩
     rw [HST.o];exact⟨rfl,z,HZ.o⟩
    | some z =>
     rw [q] at a
     obtain⟨rfl,L⟩:=a;have hzv:=Qd q;have HZ:=O L;have r:=O (A.o.trans t);have qj:=O (g.o.mv t L);have HF3:=O (by have h9:=TH.o;rw [q] at h9;exact h9);have Z5:z≤1000000:=by omega
     clear q L t hzv;go_wp2_with fail;exact⟨⟨l+1,z,by omega,by go_num,Z5,qj,r,HF3⟩,by simp [intOf];omega⟩
   ·have HFE:=O (show x.1.kids.foldl (fun (o:Option Nat) c=>o.bind fun x=>Mist.walk T f c.toNat false x) (some next)=some y by
     rw [← Xm.o,List.drop_of_length_le (by rw [← Z.o];omega)];rfl)
    have j2:decide (l < E)=false:=aaV C;have y0:=g.o.next.cell 0;have yf:=g.o.next.frozen 0;have hyl:=g.o.next.lt;have t0':=g.o.tree.cell 0;have c0:=(g.o.low.cell (p:=⟨b,o+i * 5,none⟩) J.o.lt).trans (J.o.c0 i x HX.o);have HW:=O (walk_at (root:=root) (by rw [oV.o];exact HFE.o));by_cases S:i=y
    ·subst S;have e1:((i:Int) != (i:Int))=false:=by simp
     have HW2:=O (show Mist.walk T (f+1) i root next=if eP x.1.kind=root then some (i+1) else none by rw [HW.o,if_pos rfl,oV.o]);have P:=O (A.o.gset (i:=0) (u:=.int .i64 ((i:Int)+1)));have Q:=O (g.o.next.d_ 0 (.int .i64 ((i:Int)+1)));have hb1:=J.o.lt;have hlow:=g.o.low.size;have hnb:=g.o.nb;have hne:b ≠ I:=by omega
     have hne2:tb ≠ I:=g.o.tree.ne_ g.o.next (by decide);have htl:=g.o.tree.lt;clear HW
     cases hr:eP x.1.kind
     all_goals
      have N:=O hr;clear hr;cases root
      all_goals
       have d1:=nH.o;go_wp2_with fail;refine (Cn x.1.kind _ N.o _).mono ?_;rintro e w2⟨rfl,rfl⟩;go_wp2_with fail;go_ret
       refine⟨P.o,?_⟩
       rw [HW2.o,N.o]
       first
       | exact⟨rfl,by have h9:=Q.o;simpa using h9⟩
       | exact⟨rfl,_,Q.o⟩
    ·have e1:((i:Int) != (y:Int))=true:=by rw [bne_iff_ne];omega
     go_wp2_with fail;go_ret
     refine⟨A.o,?_⟩
     rw [HW.o,if_neg S];exact⟨rfl,_,g.o.next⟩
end Go.Proofs.YthepmkjggfijoaaGreatDoor
