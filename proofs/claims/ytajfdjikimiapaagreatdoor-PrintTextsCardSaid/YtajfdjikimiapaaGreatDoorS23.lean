/-
  A part of the proof.
-/
import Derived.Test.YtajfdjikimiapaaGreatDoorS13
import Derived.Test.YtajfdjikimiapaaGreatDoorS22
set_option linter.all false
set_option maxRecDepth 100000
set_option maxHeartbeats 4000000
namespace Go.Proofs.YtajfdjikimiapaaGreatDoor
section
open Go.RowKit Mist
attribute [local go_sem] au aN aV aM aG
def iV (ks:List Nat):List Value:=ks.map fun (k:Nat)=>Value.int .u8 (k:Int)
theorem QK:(Tryz.prog.info? 5).map (fun i=>(i.zero,i.size,i.bytes))=some (some (.int .u8 0),1,1):=by kernel_rfl
theorem FV {w:World}{base:Nat}{A:Option Addr}{n c:Nat}{ks:List Nat}(h:w.ownsRow base 5 1 (.slice A n c) n (iV ks))(e:n=ks.length):iL w A ks:=by
 subst e
 refine⟨fun h0=>?_⟩
 obtain⟨g,cap,hv,_,a⟩:=h.form h0;have b:A=some ⟨g,0,none⟩:=by injection hv
 subst b
 refine⟨g,0,rfl,a,fun j k d=>?_⟩
 have:=h.cells (g:=g) rfl j (.int .u8 k) (by simp [iV,d])
 rw [qH] at this
 exact this
theorem Qt {w:World}{base e b n c:Nat}{A:Option Addr}{d:List Value}(h:w.ownsRow base e b (.slice A n c) n d):n≤c:=by
 rcases h.2 with ⟨hv,h0⟩ | ⟨g,cap,a,hv,_,_,f,_⟩
 ·omega
 ·injection hv with _ _ h3;omega
theorem FE (nm:Bool)(lo hi:Int)(ps:List Part)(A:Option Addr)(f c:Nat)(d:f=ps.length)(ks:List Nat)(m:Nat)(k:ks.length=m)(K:Option Addr)(kc:Nat)(w:World)(h:dw w A ps)(b:f≤c)(i:uV ps)(g:iL w K ks)(j:m≤1000000)(a:m≤kc) :
  Calls Tryz.prog 160 #[.agg #[.bool nm,.int .i64 lo,.int .i64 hi,.slice A f c],.slice K m kc] w fun e l=>e=.returned (.bool (Mist.fits ps ks))∧Below w.heap.size w l:=by
 subst d;subst k;exact WJ nm lo hi ps A c ks K kc w h b i g j a
def mW (o:Option Shape):Prop:=∀ s,o=some s→uV s.parts
theorem mW.ite {c:Prop}[Decidable c]{a b:Option Shape}(d:mW a)(e:mW b):mW (if c then a else b):=by
 split
 ·exact d
 ·exact e
theorem mW.some_ {s:Shape}(h:uV s.parts):mW (some s):=fun t e=>by injection e with e;subst e;exact h
theorem mW.none_:mW none:=fun t e=>nomatch e
theorem Jp (n:Int):uV (Mist.asked n).parts:=by
 unfold Mist.asked;by_cases h7:n=7
 ·rw [if_pos h7];simp [uV]
 ·rw [if_neg h7];by_cases h8:n=8
  ·rw [if_pos h8];simp [uV]
  ·rw [if_neg h8];simp [uV]
theorem AV {k:Nat}{n:Int}{s:Shape}(h:Mist.shapeOf k n=some s):uV s.parts:=by
 have a:mW (Mist.shapeOf k n):=by
  unfold Mist.shapeOf
  repeat' (refine mW.ite ?_ ?_)
  all_goals first | exact mW.none_ | exact mW.some_ (Jp n)|(refine mW.some_ ?_;simp [uV])
 exact a s h
theorem JM {T:Tr}{i:Nat}(h:Mist.shapeOf (nd T i).kind (nd T i).n=none):Mist.formed T i=false:=by
 unfold Mist.formed;rw [h]
theorem JN {T:Tr}{i:Nat}{s:Shape}(h:Mist.shapeOf (nd T i).kind (nd T i).n=some s):Mist.formed T i=(Mist.within (nd T i).at_ 0 2000 && (s.named == !(nd T i).text.isEmpty) && (!s.named || Mist.isName (nd T i).text) && (nd T i).kids.all (Mist.within · 0 ((i:Int) - 1)) &&
  Mist.fits s.parts (kinds T (nd T i).kids) && (Mist.within (nd T i).n s.low s.high || ((nd T i).kind == 1 && Mist.within (nd T i).n (-9999) (-1)))):=by
 unfold Mist.formed;rw [h]
theorem Nw (A B:Option Addr)(c m d:Nat)(xs:List NV)(its:List Int)(i:Nat)(w:World)(hT:lJ w A B xs its)(hR:ED (aj xs))(hE:Env w)(hi:i < xs.length)(hn:xs.length≤100000) :
  Calls Tryz.prog 117 #[.agg #[.slice A xs.length c,.slice B m d],.int .i64 i] w fun e w'=>e=.returned (.bool (Mist.formed ⟨aj xs,its⟩ i))∧Below w.heap.size w w':=by
 obtain⟨n,hnn⟩:∃ n,n=xs.length:=⟨_,rfl⟩;rw [← hnn] at hi hn ⊢
 obtain⟨b,o,rfl,hN⟩:=hT.nodes (by omega);obtain⟨x,hx⟩:∃ x,xs[i]? = some x:=iG (by omega);have Q:=O (aY its hx);have hxr:=hR x.1 (List.mem_map_of_mem (aiy hx));have pU:=O hnn;clear hnn;have HN:=O hN;have HE:=O hE;clear hE hT;have c0:=hN.c0 i x hx;have c1:=hN.c1 i x hx;have c2:=hN.c2 i x hx;have c3:=hN.c3 i x hx;have c4:=hN.c4 i x hx;obtain⟨Ak,ck,hxe,hxl,F⟩:=hN.kid hx;rw [hxe] at c3
 have BG:=O F;have HX:=O hx;have hbl:=hN.lt;clear F hx hxe hN;obtain⟨q,hnk⟩:∃ q,q=x.1.kids.length:=⟨_,rfl⟩;rw [← hnk] at c3 hxl
 have gW:=O hnk;clear hnk;have i1:(0:Int)≤(i:Int):=by omega
 have i2:(i:Int) < (n:Int):=by omega
 have htx:=hxr.text;obtain⟨T,nU⟩:∃ T:Tr,T=⟨aj xs,its⟩:=⟨_,rfl⟩;rw [← nU] at Q ⊢
 have EA:=O nU;clear nU;have HRR:=O hR;clear hR;go_in
 go_wp2_with fail;refine (La x.1.kind x.1.text x.1.n x.1.at_ Ak q ck _).mono ?_;rintro e w2⟨nm,lo,hi,U,ns,cs,is,rfl,hb2,hs⟩;have HT2:=O (show aZ w2 w.heap.size 25 #[.slice (some ⟨b,o,none⟩) n c,.slice B m d] from aZ.below (by repeat (first|(with_reducible exact aZ.new _ _ _)|(with_reducible refine aZ.alloc ?_ _))) hb2 (by first | omega|(simp;done)|(simp;omega)));have uU:=O (show aZ w2 (w.heap.size+1) 39 #[.int .u8 x.1.kind,.string (aU x.1.text),.int .i64 x.1.n,.slice Ak q ck,.int .i64 x.1.at_] from aZ.below (by repeat (first|(with_reducible exact tZ (by simp))|(with_reducible refine aZ.alloc ?_ _))) hb2 (by first | omega|(simp;done)|(simp;omega)));have g:=O (show Below w.heap.size w w2 from Below.trans (by repeat (first|(with_reducible exact Below.refl _ _)|(with_reducible refine aF ?_ ?_) | omega|(simp;done)|(simp;omega))) (hb2.mono (by first | omega|(simp;done)|(simp;omega))));clear hb2;have t0:=HT2.o.cell 0;have R:=uU.o.cell 0;have n1:=uU.o.cell 1;have S:=uU.o.cell 2;have n3:=uU.o.cell 3;have n4:=uU.o.cell 4;have hl2:=uU.o.lt;have hl1:w.heap.size < w2.heap.size:=by omega
 rcases hsh:Mist.shapeOf x.1.kind x.1.n with _ | s
 ·rw [hsh] at hs
  subst hs;have J:=O (JM (T:=T) (i:=i) (by rw [Q.o];exact hsh));clear hsh;go_wp2_with fail;go_ret;exact⟨bD J.o.symm,aF g.o g.o.size⟩
 ·rw [hsh] at hs
  obtain⟨rfl,rfl,rfl,rfl,rfl,hcs,hps⟩:=hs;have J:=O (JN (T:=T) (i:=i) (by rw [Q.o];exact hsh));have MJ:=O hsh;have HPS:=O hps;clear hsh hps;obtain⟨named,lo,hi,ps⟩:=s;simp only at J HPS hcs ⊢
  cases hw:Mist.within x.1.at_ 0 2000
  ·have K:=O hw;clear hw;have W:=O (show Mist.formed T i=false by rw [J.o,Q.o,K.o];rfl);go_wp2_with fail;refine (dJ _ 0 2000 false K.o _).mono ?_;rintro e r⟨rfl,rfl⟩;go_wp2_with fail;go_ret;exact⟨bD W.o.symm,aF g.o g.o.size⟩
  ·have K:=O hw;clear hw
   cases hem:x.1.text.isEmpty
   ·have Y_:=O hem;cases named
    ·have W:=O (show Mist.formed T i=false by rw [J.o,Q.o,K.o,Y_.o];rfl);go_wp2_with fail;refine (dJ _ 0 2000 true K.o _).mono ?_;rintro e r⟨rfl,rfl⟩;go_wp2_with fail;go_ret;exact⟨bD W.o.symm,aF g.o g.o.size⟩
    ·cases hnm:Mist.isName x.1.text
     ·have Y:=O hnm;clear hnm;have W:=O (show Mist.formed T i=false by rw [J.o,Q.o,K.o,Y_.o,Y.o];rfl);go_wp2_with fail;refine (dJ _ 0 2000 true K.o _).mono ?_;rintro e r⟨rfl,rfl⟩;go_wp2_with fail;refine (Du x.1.text _ ((HE.o.below g.o).alloc _) htx).mono ?_;rintro e r⟨rfl,P⟩;rw [Y.o];go_wp2_with fail;go_ret;exact⟨bD W.o.symm,(aF g.o g.o.size).trans (P.mono (by simp;have:=g.o.size;omega))⟩
     ·have Y:=O hnm;clear hnm;go_wp2_with fail;refine (dJ _ 0 2000 true K.o _).mono ?_;rintro e r⟨rfl,rfl⟩;go_wp2_with fail;refine (Du x.1.text _ ((HE.o.below g.o).alloc _) htx).mono ?_;rintro e r⟨rfl,P⟩;rw [Y.o];have Rc:=(HT2.o.alloc (.cells #[.bool true,.int .i64 lo,.int .i64 hi,.slice U ps.length cs] 172)).below P (by simp;omega);have Mx:=(uU.o.alloc (.cells #[.bool true,.int .i64 lo,.int .i64 hi,.slice U ps.length cs] 172)).below P (by simp;omega);have Rb:=gB P;have QY:=(aF g.o g.o.size).trans (P.mono (by simp;have:=g.o.size;omega));have Q8:=(HPS.o.below (aF (Below.refl _ _) (aiv _) (o:=.cells #[.bool true,.int .i64 lo,.int .i64 hi,.slice U ps.length cs] 172))).below P;clear P;have m3:=Mx.cell 3;go_wp2_with fail;have HT3:=O (show aZ r w.heap.size 25 #[.slice (some ⟨b,o,none⟩) n c,.slice B m d] from Rc);have Q0:=O (show aZ r (w.heap.size+1) 39 #[.int .u8 x.1.kind,.string (aU x.1.text),.int .i64 x.1.n,.slice Ak q ck,.int .i64 x.1.at_] from Mx);have Px:=O (show aZ r w2.heap.size 172 #[.bool true,.int .i64 lo,.int .i64 hi,.slice U ps.length cs] from Rb);have k:=O (show Below w.heap.size w r from QY);have HP3:=O (show dw r U ps from Q8);clear Rc Mx Rb QY Q8 m3 t0 R n1 S n3 n4 HT2 uU g HPS;have hs3:=Px.o.lt;obtain⟨pn,hpn⟩:∃ pn,pn=ps.length:=⟨_,rfl⟩;rw [← hpn] at Px hcs ⊢
      have HPN:=O hpn;clear hpn;go_loopw [8,50] (fun v j wr=>∃ (f:Nat),f≤q∧j=.int .i64 f∧wr.ownsRow r.heap.size 5 1 v f (iV (kinds T (x.1.kids.take f)))∧Hid ((x.1.kids.take f).all (Mist.within · 0 ((i:Int) - 1))=true)∧Hid (Below r.heap.size r wr)) (fun _ j _=>q - (intOf j).toNat)
      case atStart=>exact⟨0,aix _,rfl,World.ownsRow_nil _ _ _ _,O rfl,O (Below.refl _ _)⟩
      case round =>
       obtain⟨wo,rfl⟩:∃ wo:World,wo=wr:=⟨_,rfl⟩;obtain⟨f,hj,rfl,E,IJ,l⟩:=hrel;obtain⟨Av,cv,rfl⟩:=dh E;have t:=O E;clear E;have yU:=O (HT3.o.below l.o (by omega));have Q7:=O (Q0.o.below l.o (by omega));have N:=O (Px.o.below l.o (by omega));have hso:=l.o.size;have t0:=yU.o.cell 0;by_cases Z:f < q
       case pos =>
        obtain⟨kq,hkq⟩:∃ kq,x.1.kids[f]? = some kq:=⟨_,aip (by rw [← gW.o];exact Z)⟩;obtain⟨bk,ok,rfl,hbk,hck⟩:=BG.o.ex (by rw [← gW.o];omega);have cj:=((k.o.trans (l.o.mono k.o.size)).cell (p:=⟨bk,ok+f,none⟩) hbk).trans (hck f kq hkq);have Jd:=O hkq;clear hck hkq;have j0:(0:Int)≤(f:Int):=by omega
        have j1:(f:Int) < (q:Int):=by omega
        have j2:decide ((f:Int) < (q:Int))=true:=aiG j1;have j3:decide (f < q)=true:=aiG Z
        cases hq:Mist.within kq 0 ((i:Int) - 1)
        ·have HQ:=O hq;clear hq
         have W:=O (show Mist.formed T i=false by
          have h9:x.1.kids.all (Mist.within · 0 ((i:Int) - 1))=false:=by
           rw [List.all_eq_false];exact⟨kq,aiy Jd.o,by rw [HQ.o];simp⟩
          rw [J.o,Q.o,h9];simp)
         go_wp2_with fail;refine (dJ _ 0 _ false HQ.o _).mono ?_;rintro e w4⟨rfl,rfl⟩;go_wp2_with fail;go_ret;exact⟨bD W.o.symm,k.o.trans (l.o.mono k.o.size)⟩
        ·have hq2:0≤kq∧kq≤(i:Int) - 1:=by simpa [Mist.within] using hq
         have HQ:=O hq;clear hq;obtain⟨G,rfl⟩:∃ G:Nat,kq=(G:Int):=⟨kq.toNat,by omega⟩;obtain⟨xk,F⟩:∃ xk,xs[G]? = some xk:=iG (by rw [← pU.o];omega);have ckn:=((k.o.trans (l.o.mono k.o.size)).cell (p:=⟨b,o+G * 5,none⟩) hbl).trans (HN.o.c0 G xk F);have Vz:=O (show (nd T G).kind=xk.1.kind by rw [EA.o,aY its F]);clear F;have k0:(0:Int)≤(G:Int):=by omega
         have k1:(G:Int) < (n:Int):=by omega
         obtain⟨kk,hkk⟩:∃ kk,kk=xk.1.kind:=⟨_,rfl⟩;rw [← hkk] at ckn Vz
         clear hkk;have HIN:=O (show x.1.kids.take (f+1)=x.1.kids.take f ++ [(G:Int)] by rw [List.take_add_one,Jd.o];rfl);obtain⟨i0,hi0,hz0,hz1,hz2⟩:=info_parts QK;go_wp2_with fail;refine (dJ _ 0 _ true HQ.o _).mono ?_;rintro e w4⟨rfl,rfl⟩
         go_wp2_with (at_builtin
                      refine wpList_append_lies _ rfl (.tmp 59) (.tmp 66) 47 rfl r.heap.size 5 i0 _ 1 1 Tryz.underlying47 hi0 hz0 hz1 hz2 rfl (by decide) _ f (iV (kinds T (x.1.kids.take f))) rfl
                        (t.o.alloc _) ⟨wo.heap.size,0,none⟩ 1 1 [.int .u8 (kk:Int)] rfl rfl (h_ _ _ _) (by intro u hu;simp at hu;subst hu;rfl) (by omega) (by simp only [maxLen];omega) (by omega) (by simp;omega) (wo.heap.size+1) (by simp) ?_
                      intro gg cap w5 hown2 hg5 aax hgl)
         refine⟨⟨f+1,by omega,by go_num,?_,O ?_,O ?_⟩,by simp [intOf];omega⟩
         ·rw [HIN.o]
          have h9:iV (kinds T (x.1.kids.take f ++ [(G:Int)]))=iV (kinds T (x.1.kids.take f)) ++ [.int .u8 (kk:Int)]:=by
           simp [iV,kinds,Vz.o]
          rw [h9];exact hown2
         ·rw [HIN.o,List.all_append,IJ.o];simp [HQ.o]
         ·exact (aF l.o l.o.size).grown hg5 (by simp;omega) (fun b hb=>(t.o.lt b hb).1)
       case neg =>
        have X:=O (show f=q by omega);have uK:=O (show x.1.kids.all (Mist.within · 0 ((i:Int) - 1))=true by have h9:=IJ.o;rwa [X.o,gW.o,List.take_length] at h9)
        have HKI:=O (show iL wo Av (kinds T x.1.kids) by
         have h9:=t.o;rw [X.o,gW.o,List.take_length] at h9
         exact FV h9 (by simp [kinds]))
        have HKC:=O (show q≤cv by
         have h9:=Qt t.o;omega)
        have IL:=O (show (kinds T x.1.kids).length=q by simp [kinds,gW.o]);have hjn:f=q:=X.o;subst hjn;clear t0 hj Z t IJ;have R:=Q7.o.cell 0;have S:=Q7.o.cell 2;have s0:=N.o.cell 0;have s1:=N.o.cell 1;have s2:=N.o.cell 2;have s3:=N.o.cell 3;have C:=Q7.o.lt;have D:=N.o.lt;have hlo3:w.heap.size < wo.heap.size:=by omega
        have j2:decide ((f:Int) < (f:Int))=false:=aiH (by omega);have Zp:=O (FE true lo hi ps U pn cs HPN.o (kinds T x.1.kids) f IL.o Av cv wo (HP3.o.below l.o) hcs (AV MJ.o) HKI.o hxl HKC.o)
        cases h:Mist.fits ps (kinds T x.1.kids)
        ·have H:=O h;clear h;have W:=O (show Mist.formed T i=false by rw [J.o,Q.o,H.o];simp);go_wp2_with fail;refine Zp.o.mono ?_;rintro e w6⟨rfl,a⟩;rw [H.o];go_wp2_with fail;go_ret;exact⟨bD W.o.symm,(k.o.trans (l.o.mono k.o.size)).trans (a.mono (by omega))⟩
        ·have H:=O h;clear h
         cases I:Mist.within x.1.n lo hi
         ·have V:=O I;clear I;by_cases y:x.1.kind=1
          ·have e1:((x.1.kind:Int) == 1)=true:=by rw [y];rfl
           have IK:=O y;clear y
           cases hw9:Mist.within x.1.n (-9999) (-1)
           all_goals
            have HW9:=O hw9;clear hw9;go_wp2_with fail;refine Zp.o.mono ?_;rintro e w6⟨rfl,a⟩;rw [H.o];have cZ:=O ((k.o.trans (l.o.mono k.o.size)).trans (a.mono (by omega)));have L:=O (Q7.o.below a C);have M:=O (N.o.below a D);clear a R S s0 s1 s2 s3;have R:=L.o.cell 0;have S:=L.o.cell 2;have s1:=M.o.cell 1;have s2:=M.o.cell 2;go_wp2_with fail;refine (dJ x.1.n lo hi false V.o _).mono ?_;rintro e w7⟨rfl,rfl⟩;go_wp2_with fail;refine (dJ x.1.n (-9999) (-1) _ HW9.o _).mono ?_;rintro e w7⟨rfl,rfl⟩;go_wp2_with fail;go_ret
            refine⟨bD ?_,cZ.o⟩
            rw [J.o,Q.o,H.o,V.o,HW9.o,IK.o,K.o,uK.o,Y_.o,Y.o];rfl
          ·have e1:((x.1.kind:Int) == 1)=false:=by rw [air];omega
           have IK:=O (show (x.1.kind == 1)=false by simpa using y);clear y;go_wp2_with fail;refine Zp.o.mono ?_;rintro e w6⟨rfl,a⟩;rw [H.o];have cZ:=O ((k.o.trans (l.o.mono k.o.size)).trans (a.mono (by omega)));have L:=O (Q7.o.below a C);have M:=O (N.o.below a D);clear a R S s0 s1 s2 s3;have R:=L.o.cell 0;have S:=L.o.cell 2;have s1:=M.o.cell 1;have s2:=M.o.cell 2;go_wp2_with fail;refine (dJ x.1.n lo hi false V.o _).mono ?_;rintro e w7⟨rfl,rfl⟩;go_wp2_with fail;go_ret
           refine⟨bD ?_,cZ.o⟩
           rw [J.o,Q.o,H.o,V.o,IK.o,K.o,uK.o,Y_.o,Y.o];rfl
         ·have V:=O I;clear I;go_wp2_with fail;refine Zp.o.mono ?_;rintro e w6⟨rfl,a⟩;rw [H.o];have cZ:=O ((k.o.trans (l.o.mono k.o.size)).trans (a.mono (by omega)));have L:=O (Q7.o.below a C);have M:=O (N.o.below a D);clear a R S s0 s1 s2 s3;have R:=L.o.cell 0;have S:=L.o.cell 2;have s1:=M.o.cell 1;have s2:=M.o.cell 2;go_wp2_with fail;refine (dJ x.1.n lo hi true V.o _).mono ?_;rintro e w7⟨rfl,rfl⟩;go_wp2_with fail;go_ret
          refine⟨bD ?_,cZ.o⟩
          rw [J.o,Q.o,H.o,V.o,K.o,uK.o,Y_.o,Y.o];rfl
   ·have Y_:=O hem;cases named
    ·have Rc:=HT2.o.alloc (.cells #[.bool false,.int .i64 lo,.int .i64 hi,.slice U ps.length cs] 172);have Mx:=uU.o.alloc (.cells #[.bool false,.int .i64 lo,.int .i64 hi,.slice U ps.length cs] 172);have Rb:=aZ.new w2 172 #[.bool false,.int .i64 lo,.int .i64 hi,.slice U ps.length cs];have QY:=aF g.o g.o.size (o:=.cells #[.bool false,.int .i64 lo,.int .i64 hi,.slice U ps.length cs] 172);have Q8:=HPS.o.below (aF (Below.refl _ _) (aiv _) (o:=.cells #[.bool false,.int .i64 lo,.int .i64 hi,.slice U ps.length cs] 172));go_wp2_with fail;refine (dJ _ 0 2000 true K.o _).mono ?_;rintro e r⟨rfl,rfl⟩;go_wp2_with fail
     generalize w2.alloc (.cells #[.bool false,.int .i64 lo,.int .i64 hi,.slice U ps.length cs] 172)=r at Rc Mx Rb QY Q8 ⊢
     have HT3:=O (show aZ r w.heap.size 25 #[.slice (some ⟨b,o,none⟩) n c,.slice B m d] from Rc);have Q0:=O (show aZ r (w.heap.size+1) 39 #[.int .u8 x.1.kind,.string (aU x.1.text),.int .i64 x.1.n,.slice Ak q ck,.int .i64 x.1.at_] from Mx);have Px:=O (show aZ r w2.heap.size 172 #[.bool false,.int .i64 lo,.int .i64 hi,.slice U ps.length cs] from Rb);have k:=O (show Below w.heap.size w r from QY);have HP3:=O (show dw r U ps from Q8);clear Rc Mx Rb QY Q8 t0 R n1 S n3 n4 HT2 uU g HPS;have hs3:=Px.o.lt;obtain⟨pn,hpn⟩:∃ pn,pn=ps.length:=⟨_,rfl⟩;rw [← hpn] at Px hcs ⊢
     have HPN:=O hpn;clear hpn;go_loopw [8,50] (fun v j wr=>∃ (f:Nat),f≤q∧j=.int .i64 f∧wr.ownsRow r.heap.size 5 1 v f (iV (kinds T (x.1.kids.take f)))∧Hid ((x.1.kids.take f).all (Mist.within · 0 ((i:Int) - 1))=true)∧Hid (Below r.heap.size r wr)) (fun _ j _=>q - (intOf j).toNat)
     case atStart=>exact⟨0,aix _,rfl,World.ownsRow_nil _ _ _ _,O rfl,O (Below.refl _ _)⟩
     case round =>
      obtain⟨wo,rfl⟩:∃ wo:World,wo=wr:=⟨_,rfl⟩;obtain⟨f,hj,rfl,E,IJ,l⟩:=hrel;obtain⟨Av,cv,rfl⟩:=dh E;have t:=O E;clear E;have yU:=O (HT3.o.below l.o (by omega));have Q7:=O (Q0.o.below l.o (by omega));have N:=O (Px.o.below l.o (by omega));have hso:=l.o.size;have t0:=yU.o.cell 0;by_cases Z:f < q
      case pos =>
       obtain⟨kq,hkq⟩:∃ kq,x.1.kids[f]? = some kq:=⟨_,aip (by rw [← gW.o];exact Z)⟩;obtain⟨bk,ok,rfl,hbk,hck⟩:=BG.o.ex (by rw [← gW.o];omega);have cj:=((k.o.trans (l.o.mono k.o.size)).cell (p:=⟨bk,ok+f,none⟩) hbk).trans (hck f kq hkq);have Jd:=O hkq;clear hck hkq;have j0:(0:Int)≤(f:Int):=by omega
       have j1:(f:Int) < (q:Int):=by omega
       have j2:decide ((f:Int) < (q:Int))=true:=aiG j1;have j3:decide (f < q)=true:=aiG Z
       cases hq:Mist.within kq 0 ((i:Int) - 1)
       ·have HQ:=O hq;clear hq
        have W:=O (show Mist.formed T i=false by
         have h9:x.1.kids.all (Mist.within · 0 ((i:Int) - 1))=false:=by
          rw [List.all_eq_false];exact⟨kq,aiy Jd.o,by rw [HQ.o];simp⟩
         rw [J.o,Q.o,h9];simp)
        go_wp2_with fail;refine (dJ _ 0 _ false HQ.o _).mono ?_;rintro e w4⟨rfl,rfl⟩;go_wp2_with fail;go_ret;exact⟨bD W.o.symm,k.o.trans (l.o.mono k.o.size)⟩
       ·have hq2:0≤kq∧kq≤(i:Int) - 1:=by simpa [Mist.within] using hq
        have HQ:=O hq;clear hq;obtain⟨G,rfl⟩:∃ G:Nat,kq=(G:Int):=⟨kq.toNat,by omega⟩;obtain⟨xk,F⟩:∃ xk,xs[G]? = some xk:=iG (by rw [← pU.o];omega);have ckn:=((k.o.trans (l.o.mono k.o.size)).cell (p:=⟨b,o+G * 5,none⟩) hbl).trans (HN.o.c0 G xk F);have Vz:=O (show (nd T G).kind=xk.1.kind by rw [EA.o,aY its F]);clear F;have k0:(0:Int)≤(G:Int):=by omega
        have k1:(G:Int) < (n:Int):=by omega
        obtain⟨kk,hkk⟩:∃ kk,kk=xk.1.kind:=⟨_,rfl⟩;rw [← hkk] at ckn Vz
        clear hkk;have HIN:=O (show x.1.kids.take (f+1)=x.1.kids.take f ++ [(G:Int)] by rw [List.take_add_one,Jd.o];rfl);obtain⟨i0,hi0,hz0,hz1,hz2⟩:=info_parts QK;go_wp2_with fail;refine (dJ _ 0 _ true HQ.o _).mono ?_;rintro e w4⟨rfl,rfl⟩
        go_wp2_with (at_builtin
                     refine wpList_append_lies _ rfl (.tmp 59) (.tmp 66) 47 rfl r.heap.size 5 i0 _ 1 1 Tryz.underlying47 hi0 hz0 hz1 hz2 rfl (by decide) _ f (iV (kinds T (x.1.kids.take f))) rfl
                       (t.o.alloc _) ⟨wo.heap.size,0,none⟩ 1 1 [.int .u8 (kk:Int)] rfl rfl (h_ _ _ _) (by intro u hu;simp at hu;subst hu;rfl) (by omega) (by simp only [maxLen];omega) (by omega) (by simp;omega) (wo.heap.size+1) (by simp) ?_
                     intro gg cap w5 hown2 hg5 aax hgl)
        refine⟨⟨f+1,by omega,by go_num,?_,O ?_,O ?_⟩,by simp [intOf];omega⟩
        ·rw [HIN.o]
         have h9:iV (kinds T (x.1.kids.take f ++ [(G:Int)]))=iV (kinds T (x.1.kids.take f)) ++ [.int .u8 (kk:Int)]:=by
          simp [iV,kinds,Vz.o]
         rw [h9];exact hown2
        ·rw [HIN.o,List.all_append,IJ.o];simp [HQ.o]
        ·exact (aF l.o l.o.size).grown hg5 (by simp;omega) (fun b hb=>(t.o.lt b hb).1)
      case neg =>
       have X:=O (show f=q by omega);have uK:=O (show x.1.kids.all (Mist.within · 0 ((i:Int) - 1))=true by have h9:=IJ.o;rwa [X.o,gW.o,List.take_length] at h9)
       have HKI:=O (show iL wo Av (kinds T x.1.kids) by
        have h9:=t.o;rw [X.o,gW.o,List.take_length] at h9
        exact FV h9 (by simp [kinds]))
       have HKC:=O (show q≤cv by
        have h9:=Qt t.o;omega)
       have IL:=O (show (kinds T x.1.kids).length=q by simp [kinds,gW.o]);have hjn:f=q:=X.o;subst hjn;clear t0 hj Z t IJ;have R:=Q7.o.cell 0;have S:=Q7.o.cell 2;have s0:=N.o.cell 0;have s1:=N.o.cell 1;have s2:=N.o.cell 2;have s3:=N.o.cell 3;have C:=Q7.o.lt;have D:=N.o.lt;have hlo3:w.heap.size < wo.heap.size:=by omega
       have j2:decide ((f:Int) < (f:Int))=false:=aiH (by omega);have Zp:=O (FE false lo hi ps U pn cs HPN.o (kinds T x.1.kids) f IL.o Av cv wo (HP3.o.below l.o) hcs (AV MJ.o) HKI.o hxl HKC.o)
       cases h:Mist.fits ps (kinds T x.1.kids)
       ·have H:=O h;clear h;have W:=O (show Mist.formed T i=false by rw [J.o,Q.o,H.o];simp);go_wp2_with fail;refine Zp.o.mono ?_;rintro e w6⟨rfl,a⟩;rw [H.o];go_wp2_with fail;go_ret;exact⟨bD W.o.symm,(k.o.trans (l.o.mono k.o.size)).trans (a.mono (by omega))⟩
       ·have H:=O h;clear h
        cases I:Mist.within x.1.n lo hi
        ·have V:=O I;clear I;by_cases y:x.1.kind=1
         ·have e1:((x.1.kind:Int) == 1)=true:=by rw [y];rfl
          have IK:=O y;clear y
          cases hw9:Mist.within x.1.n (-9999) (-1)
          all_goals
           have HW9:=O hw9;clear hw9;go_wp2_with fail;refine Zp.o.mono ?_;rintro e w6⟨rfl,a⟩;rw [H.o];have cZ:=O ((k.o.trans (l.o.mono k.o.size)).trans (a.mono (by omega)));have L:=O (Q7.o.below a C);have M:=O (N.o.below a D);clear a R S s0 s1 s2 s3;have R:=L.o.cell 0;have S:=L.o.cell 2;have s1:=M.o.cell 1;have s2:=M.o.cell 2;go_wp2_with fail;refine (dJ x.1.n lo hi false V.o _).mono ?_;rintro e w7⟨rfl,rfl⟩;go_wp2_with fail;refine (dJ x.1.n (-9999) (-1) _ HW9.o _).mono ?_;rintro e w7⟨rfl,rfl⟩;go_wp2_with fail;go_ret
           refine⟨bD ?_,cZ.o⟩
           rw [J.o,Q.o,H.o,V.o,HW9.o,IK.o,K.o,uK.o,Y_.o];rfl
         ·have e1:((x.1.kind:Int) == 1)=false:=by rw [air];omega
          have IK:=O (show (x.1.kind == 1)=false by simpa using y);clear y;go_wp2_with fail;refine Zp.o.mono ?_;rintro e w6⟨rfl,a⟩;rw [H.o];have cZ:=O ((k.o.trans (l.o.mono k.o.size)).trans (a.mono (by omega)));have L:=O (Q7.o.below a C);have M:=O (N.o.below a D);clear a R S s0 s1 s2 s3;have R:=L.o.cell 0;have S:=L.o.cell 2;have s1:=M.o.cell 1;have s2:=M.o.cell 2;go_wp2_with fail;refine (dJ x.1.n lo hi false V.o _).mono ?_;rintro e w7⟨rfl,rfl⟩;go_wp2_with fail;go_ret
          refine⟨bD ?_,cZ.o⟩
          rw [J.o,Q.o,H.o,V.o,IK.o,K.o,uK.o,Y_.o];rfl
        ·have V:=O I;clear I;go_wp2_with fail;refine Zp.o.mono ?_;rintro e w6⟨rfl,a⟩;rw [H.o];have cZ:=O ((k.o.trans (l.o.mono k.o.size)).trans (a.mono (by omega)));have L:=O (Q7.o.below a C);have M:=O (N.o.below a D);clear a R S s0 s1 s2 s3;have R:=L.o.cell 0;have S:=L.o.cell 2;have s1:=M.o.cell 1;have s2:=M.o.cell 2;go_wp2_with fail;refine (dJ x.1.n lo hi true V.o _).mono ?_;rintro e w7⟨rfl,rfl⟩;go_wp2_with fail;go_ret
         refine⟨bD ?_,cZ.o⟩
         rw [J.o,Q.o,H.o,V.o,K.o,uK.o,Y_.o];rfl
    ·have W:=O (show Mist.formed T i=false by rw [J.o,Q.o,K.o,Y_.o];rfl);go_wp2_with fail;refine (dJ _ 0 2000 true K.o _).mono ?_;rintro e r⟨rfl,rfl⟩;go_wp2_with fail;go_ret;exact⟨bD W.o.symm,aF g.o g.o.size⟩
end
section
open Go.RowKit Mist
theorem Lm {T:Tr}{f i:Nat}{root:Bool}{next x:Nat}(h:Mist.walk T f i root next=some x):x=i+1:=by
 cases f with
 | zero=>cases h
 | succ f =>
  unfold Mist.walk at h
  split at h
  ·cases h
  ·split at h
   ·split at h
    ·have:=aiB h;omega
    ·cases h
   ·cases h
theorem UK {T:Tr}{f i:Nat}{root:Bool}{next:Nat}(h:(nd T i).kids.foldl (fun (o:Option Nat) c=>o.bind fun x=>Mist.walk T f c.toNat false x) (some next)=none):Mist.walk T (f+1) i root next=none:=by
 unfold Mist.walk;rw [h]
theorem abr {T:Tr}{f i:Nat}{root:Bool}{next y:Nat}(h:(nd T i).kids.foldl (fun (o:Option Nat) c=>o.bind fun x=>Mist.walk T f c.toNat false x) (some next)=some y):Mist.walk T (f+1) i root next=if i=y then (if dB (nd T i).kind=root then some (y+1) else none) else none:=by
 rw [Mist.walk];rw [h]
structure rC (w0:World) (w:World) (tb nb wb:Nat) (tv iv:Value) (next:Int):Prop where
 tree:aZ w tb 25 #[tv,iv]
 self:aZ w wb 75 #[.func (.func 161) #[] #[.pointer (some ⟨tb,0,none⟩),.pointer (some ⟨wb,0,none⟩),.pointer (some ⟨nb,0,none⟩)]]
 next:aZ w nb 3 #[.int .i64 next]
 low:Below w0.heap.size w0 w
 nb:w0.heap.size≤nb
theorem rC.mv {w0 w d:World}{tb c f:Nat}{tv iv:Value}{next a:Int}(h:rC w0 w tb c f tv iv next)(m:Mv c none w none d)(g:aZ d c 3 #[.int .i64 a]):rC w0 d tb c f tv iv a :=
 ⟨m.blk h.tree (h.tree.Zk h.next (by decide)) (by simp),m.blk h.self (h.self.Zk h.next (by decide)) (by simp),g,h.low.trans (m.below h.next.lt h.nb (fun b e=>nomatch e)),h.nb⟩
def V7 (r:Option Nat)(nb:Nat)(w:World)(e:Ending)(w':World):Prop :=
 Mv nb none w none w'∧match r with
  | some x=>e=.returned (.bool true)∧aZ w' nb 3 #[.int .i64 (x:Int)]
  | none=>e=.returned (.bool false)∧∃ y,aZ w' nb 3 #[.int .i64 y]
theorem Y6 (xs:List NV)(H:List Int)(b o c m d n:Nat)(B:Option Addr)(w0:World)(hN:qG w0 b o xs)(U:n=xs.length)(hn:n≤100000)(hK:∀ (i:Nat) x,xs[i]? = some x→∀ k ∈ x.1.kids,0≤k∧k≤(i:Int) - 1)(hR:ED (aj xs))(tb J wb:Nat) :
  ∀ (f i:Nat) (L:Int) (root:Bool) (next:Nat) (w:World),i < n→i < f→1≤L→L+i≤200000→(L == 1)=root→next≤1000000→rC w0 w tb J wb (.slice (some ⟨b,o,none⟩) n c) (.slice B m d) (next:Int) →
  Calls Tryz.prog 161 #[.int .i64 (i:Int),.int .i64 L,.pointer (some ⟨tb,0,none⟩),.pointer (some ⟨wb,0,none⟩),.pointer (some ⟨J,0,none⟩)] w (V7 (Mist.walk ⟨aj xs,H⟩ f i root next) J w):=by
 obtain⟨T,hT⟩:∃ T:Tr,T=⟨aj xs,H⟩:=⟨_,rfl⟩;rw [← hT];have pU:=O U;clear U;have K:=O hN;clear hN;have HKK:=O hK;clear hK;have EA:=O hT;clear hT;have HRR:=O hR;clear hR;intro f
 induction f with
 | zero=>intro i _ _ _ _ _ h;omega
 | succ f ih =>
  have IH:=O ih;clear ih;intro i L root next w hi hif hd1 hd2 t hnx hm;have vC:=O t;clear t;have HM:=O hm;have t0:=hm.tree.cell 0;clear hm;obtain⟨x,V⟩:∃ x,xs[i]? = some x:=iG (by rw [← pU.o];exact hi);have vB:=O (show nd T i=x.1 by rw [EA.o];exact aY H V);obtain⟨Ak,ck,W,hxl,X⟩:=K.o.kid V;have c3:=(HM.o.low.cell (p:=⟨b,o+i * 5+3,none⟩) K.o.lt).trans (K.o.c3 i x V);rw [W] at c3
  have BG:=O X;have HX:=O V;clear X V W;obtain⟨E,G⟩:∃ E,E=x.1.kids.length:=⟨_,rfl⟩;rw [← G] at c3 hxl
  have Y:=O G;clear G;have i1:(0:Int)≤(i:Int):=by omega
  have i2:(i:Int) < (n:Int):=by omega
  go_in
  go_wp2_with fail;go_loopw [17] (fun j wr=>∃ (l y:Nat),l≤E∧j=.int .i64 l∧y≤1000000∧Hid (rC w0 wr tb J wb (.slice (some ⟨b,o,none⟩) n c) (.slice B m d) (y:Int))∧Hid (Mv J none w none wr)∧Hid ((x.1.kids.drop l).foldl (fun (o:Option Nat) c=>o.bind fun x=>Mist.walk T f c.toNat false x) (some y)=x.1.kids.foldl (fun (o:Option Nat) c=>o.bind fun x=>Mist.walk T f c.toNat false x) (some next))) (fun j _=>E - (intOf j).toNat)
  case atStart=>exact⟨0,next,aix _,rfl,hnx,HM,O Mv.refl,O rfl⟩
  case round =>
   obtain⟨wo,rfl⟩:∃ wo:World,wo=wr:=⟨_,rfl⟩;obtain⟨l,y,hj,rfl,hy,g,A,UQ⟩:=hrel;have s0:=g.o.self.cell 0;by_cases C:l < E
   ·obtain⟨kq,D⟩:∃ kq,x.1.kids[l]? = some kq:=⟨_,aip (by rw [← Y.o];exact C)⟩;have hkb:=HKK.o i x HX.o kq (aiy D);obtain⟨I,rfl⟩:∃ I:Nat,kq=(I:Int):=⟨kq.toNat,by omega⟩;obtain⟨bk,ok,rfl,hbk,R⟩:=BG.o.ex (by rw [← Y.o];omega);have cj:=(g.o.low.cell (p:=⟨bk,ok+l,none⟩) hbk).trans (R l I D)
    have N:=O (show x.1.kids.drop l=(I:Int) :: x.1.kids.drop (l+1) by
     rw [aiJ (by rw [← Y.o];exact C),(aiq.1 D).2])
    clear R D;have j0:(0:Int)≤(l:Int):=by omega
    have j1:(l:Int) < (E:Int):=by omega
    have j2:decide (l < E)=true:=aiG C;have HC:=O (IH.o I (L+1) false y wo (by omega) (by omega) (by omega) (by omega) (by rw [air];omega) hy g.o)
    have Za:=O (show (x.1.kids.drop (l+1)).foldl (fun (o:Option Nat) c=>o.bind fun x=>Mist.walk T f c.toNat false x) (Mist.walk T f I false y)=x.1.kids.foldl (fun (o:Option Nat) c=>o.bind fun x=>Mist.walk T f c.toNat false x) (some next) by
     have h9:=UQ.o;rw [N.o,List.foldl_cons,Option.bind_some,aiC] at h9
     exact h9)
    clear UQ N;go_wp2_with fail;refine HC.o.mono ?_;rintro e w2⟨r,a⟩
    cases q:Mist.walk T f I false y with
    | none =>
     rw [q] at a
     obtain⟨rfl,z,M⟩:=a
     have HST:=O (show Mist.walk T (f+1) i root next=none from UK (by
      rw [vB.o,← Za.o,q];exact rV (fun x c=>Mist.walk T f c.toNat false x) _))
     have HZ:=O M;have F:=O (A.o.trans r);clear q M r;go_wp2_with fail;go_ret
     refine⟨F.o,?_⟩
     rw [HST.o];exact⟨rfl,z,HZ.o⟩
    | some z =>
     rw [q] at a
     obtain⟨rfl,M⟩:=a;have hzv:=Lm q;have HZ:=O M;have F:=O (A.o.trans r);have rW:=O (g.o.mv r M);have Z:=O (by have h9:=Za.o;rw [q] at h9;exact h9);have hz6:z≤1000000:=by omega
     clear q M r hzv;go_wp2_with fail;exact⟨⟨l+1,z,by omega,by go_num,hz6,rW,F,Z⟩,by simp [intOf];omega⟩
   ·have HFE:=O (show x.1.kids.foldl (fun (o:Option Nat) c=>o.bind fun x=>Mist.walk T f c.toNat false x) (some next)=some y by
     rw [← UQ.o,List.drop_of_length_le (by rw [← Y.o];omega)];rfl)
    have j2:decide (l < E)=false:=aiH C;have y0:=g.o.next.cell 0;have yf:=g.o.next.frozen 0;have hyl:=g.o.next.lt;have t0':=g.o.tree.cell 0;have c0:=(g.o.low.cell (p:=⟨b,o+i * 5,none⟩) K.o.lt).trans (K.o.c0 i x HX.o);have HW:=O (abr (root:=root) (by rw [vB.o];exact HFE.o));by_cases S:i=y
    ·subst S;have e1:((i:Int) != (i:Int))=false:=by simp
     have HW2:=O (show Mist.walk T (f+1) i root next=if dB x.1.kind=root then some (i+1) else none by rw [HW.o,if_pos rfl,vB.o]);have afn:=O (A.o.acN (i:=0) (u:=.int .i64 ((i:Int)+1)));have Q:=O (g.o.next.jD 0 (.int .i64 ((i:Int)+1)));have hb1:=K.o.lt;have hlow:=g.o.low.size;have hnb:=g.o.nb;have hne:b ≠ J:=by omega
     have hne2:tb ≠ J:=g.o.tree.Zk g.o.next (by decide);have htl:=g.o.tree.lt;clear HW
     cases hr:dB x.1.kind
     all_goals
      have P:=O hr;clear hr;cases root
      all_goals
       have d1:=vC.o;go_wp2_with fail;refine (aaF x.1.kind _ P.o _).mono ?_;rintro e w2⟨rfl,rfl⟩;go_wp2_with fail;go_ret
       refine⟨afn.o,?_⟩
       rw [HW2.o,P.o]
       first
       | exact⟨rfl,by have h9:=Q.o;simpa using h9⟩
       | exact⟨rfl,_,Q.o⟩
    ·have e1:((i:Int) != (y:Int))=true:=by rw [bne_iff_ne];omega
     go_wp2_with fail;go_ret
     refine⟨A.o,?_⟩
     rw [HW.o,if_neg S];exact⟨rfl,_,g.o.next⟩
def lS (T:Tr)(o:Option Nat)(i:Int):Option Nat:=o.bind fun x=>if Mist.within i x ((T.nodes.length:Int) - 1)=true then Mist.walk T (i.toNat+1) i.toNat true x else none
theorem DK (T:Tr):∀ l:List Int,l.foldl (lS T) none=none
 | []=>rfl
 | _ :: r=>DK T r
theorem Ib {T:Tr}{y:Nat}(h:T.items.foldl (lS T) (some 0)=some y):Mist.ordered T=(y == T.nodes.length):=by
 unfold Mist.ordered;unfold lS at h
 rw [h]
theorem yh {T:Tr}(h:T.items.foldl (lS T) (some 0)=none):Mist.ordered T=false:=by
 unfold Mist.ordered;unfold lS at h
 rw [h]
theorem Kw (A B:Option Addr)(c d:Nat)(xs:List NV)(a:List Int)(w:World)(hT:lJ w A B xs a)(hR:ED (aj xs))(hn:xs.length≤100000)(hm:a.length≤1000000)(hK:∀ (i:Nat) x,xs[i]? = some x→∀ k ∈ x.1.kids,0≤k∧k≤(i:Int) - 1) :
  Calls Tryz.prog 118 #[.agg #[.slice A xs.length c,.slice B a.length d]] w fun e w'=>e=.returned (.bool (Mist.ordered ⟨aj xs,a⟩))∧Below w.heap.size w w':=by
 obtain⟨n,u⟩:∃ n,n=xs.length:=⟨_,rfl⟩;obtain⟨m,D⟩:∃ m,m=a.length:=⟨_,rfl⟩;rw [← u] at hn ⊢
 rw [← D] at hm ⊢
 obtain⟨T,Q⟩:∃ T:Tr,T=⟨aj xs,a⟩:=⟨_,rfl⟩;rw [← Q];have Jm:=O (show T.nodes.length=n by rw [Q,u];exact bW xs);have C:=O (show T.items=a by rw [Q]);have EA:=O Q;clear Q;have pU:=O u;clear u;have R:=O D;clear D;have HT:=O hT;clear hT;have W:=O hK;clear hK;have X:=O hR;clear hR;go_in
 go_wp2_with fail;have M:=((aZ.new w 25 #[.slice A n c,.slice B m d]).alloc (.cells #[.int .i64 0] 3)).alloc (.cells #[.func (.func 161) #[] #[.pointer (some ⟨w.heap.size,0,none⟩),.pointer (some ⟨w.heap.size+1+1,0,none⟩),.pointer (some ⟨w.heap.size+1,0,none⟩)]] 75)
 have E:aZ (((w.alloc (.cells #[.slice A n c,.slice B m d] 25)).alloc (.cells #[.int .i64 0] 3)).alloc (.cells #[.func (.func 161) #[] #[.pointer (some ⟨w.heap.size,0,none⟩),.pointer (some ⟨w.heap.size+1+1,0,none⟩),.pointer (some ⟨w.heap.size+1,0,none⟩)]] 75)) (w.heap.size+1) 3 #[.int .i64 0]:=by
  refine aZ.alloc ?_ _;have h9:=aZ.new (w.alloc (.cells #[.slice A n c,.slice B m d] 25)) 3 #[.int .i64 0]
  rwa [show (w.alloc (.cells #[.slice A n c,.slice B m d] 25)).heap.size=w.heap.size+1 by simp] at h9
 have N:aZ (((w.alloc (.cells #[.slice A n c,.slice B m d] 25)).alloc (.cells #[.int .i64 0] 3)).alloc (.cells #[.func (.func 161) #[] #[.pointer (some ⟨w.heap.size,0,none⟩),.pointer (some ⟨w.heap.size+1+1,0,none⟩),.pointer (some ⟨w.heap.size+1,0,none⟩)]] 75)) (w.heap.size+1+1) 75 #[.func (.func 161) #[] #[.pointer (some ⟨w.heap.size,0,none⟩),.pointer (some ⟨w.heap.size+1+1,0,none⟩),.pointer (some ⟨w.heap.size+1,0,none⟩)]]:=by
  have h9:=aZ.new ((w.alloc (.cells #[.slice A n c,.slice B m d] 25)).alloc (.cells #[.int .i64 0] 3)) 75 #[.func (.func 161) #[] #[.pointer (some ⟨w.heap.size,0,none⟩),.pointer (some ⟨w.heap.size+1+1,0,none⟩),.pointer (some ⟨w.heap.size+1,0,none⟩)]]
  rwa [show ((w.alloc (.cells #[.slice A n c,.slice B m d] 25)).alloc (.cells #[.int .i64 0] 3)).heap.size=w.heap.size+1+1 by simp] at h9
 have H:=O (show rC w _ w.heap.size (w.heap.size+1) (w.heap.size+1+1) (.slice A n c) (.slice B m d) ((0:Nat):Int) from ⟨M,N,E,aF (aF (aF (Below.refl _ _) (aiv _)) (by simp)) (by simp;omega),by omega⟩);clear M E N;go_loopw [11] (fun j wr=>∃ (g y:Nat),g≤m∧j=.int .i64 g∧y≤1000000∧Hid (rC w wr w.heap.size (w.heap.size+1) (w.heap.size+1+1) (.slice A n c) (.slice B m d) (y:Int))∧Hid ((a.drop g).foldl (lS T) (some y)=a.foldl (lS T) (some 0))) (fun j _=>m - (intOf j).toNat)
 case atStart=>exact⟨0,0,aix _,rfl,by omega,H,O rfl⟩
 case round =>
  clear H;obtain⟨wo,rfl⟩:∃ wo:World,wo=wr:=⟨_,rfl⟩;obtain⟨g,y,hj,rfl,hy,l,U⟩:=hrel;have t0:=l.o.tree.cell 0;have s0:=l.o.self.cell 0;have y0:=l.o.next.cell 0;by_cases r:g < m
  ·obtain⟨q,hq⟩:∃ q,a[g]? = some q:=⟨_,aip (by rw [← R.o];exact r)⟩;obtain⟨bi,oi,rfl,Z,K⟩:=HT.o.items.ex (by rw [← R.o];omega);have cj:=(l.o.low.cell (p:=⟨bi,oi+g,none⟩) Z).trans (K g q hq)
   have F:=O (show a.drop g=q :: a.drop (g+1) by
    rw [aiJ (by rw [← R.o];exact r),(aiq.1 hq).2])
   have Y:=O (show (a.drop (g+1)).foldl (lS T) (if Mist.within q y ((n:Int) - 1)=true then Mist.walk T (q.toNat+1) q.toNat true y else none)=a.foldl (lS T) (some 0) by
    have h9:=U.o;rw [F.o,List.foldl_cons] at h9
    rw [← h9,lS,Option.bind_some,Jm.o])
   clear K hq F U;have j0:(0:Int)≤(g:Int):=by omega
   have j1:(g:Int) < (m:Int):=by omega
   have j2:decide (g < m)=true:=aiG r
   cases L:Mist.within q y ((n:Int) - 1)
   ·have J:=O L;clear L;have I:=O (show Mist.ordered T=false from yh (by rw [C.o,← Y.o,J.o,if_neg (by simp)];exact DK T _));go_wp2_with fail;refine (dJ q y _ false J.o _).mono ?_;rintro e w2⟨rfl,rfl⟩;go_wp2_with fail;go_ret;exact⟨bD I.o.symm,l.o.low⟩
   ·have E:(y:Int)≤q∧q≤(n:Int) - 1:=by simpa [Mist.within] using L
    have J:=O L;clear L;obtain⟨qn,rfl⟩:∃ qn:Nat,q=(qn:Int):=⟨q.toNat,by omega⟩;obtain⟨b,o,rfl,hN⟩:=HT.o.nodes (by rw [← pU.o];omega);have HC:=O (Y6 xs a b o c m d n _ w hN pU.o hn W.o X.o w.heap.size (w.heap.size+1) (w.heap.size+1+1) (qn+1) qn 1 true y wo (by omega) (by omega) (by omega) (by omega) rfl hy l.o)
    have G:=O (show (a.drop (g+1)).foldl (lS T) (Mist.walk T (qn+1) qn true y)=a.foldl (lS T) (some 0) by
     have h9:=Y.o;rw [J.o,if_pos rfl,aiC] at h9
     exact h9)
    clear hN Y;go_wp2_with fail;refine (dJ (qn:Int) y _ true J.o _).mono ?_;rintro e w2⟨rfl,rfl⟩;go_wp2_with fail;refine HC.o.mono ?_;rintro e w3⟨t,f⟩;rw [← EA.o] at f
    cases h:Mist.walk T (qn+1) qn true y with
    | none =>
     rw [h] at f
     obtain⟨rfl,z,P⟩:=f;have I:=O (show Mist.ordered T=false from yh (by rw [C.o,← G.o,h];exact DK T _));have S:=O (l.o.mv t P);clear h P t;go_wp2_with fail;go_ret;exact⟨bD I.o.symm,S.o.low⟩
    | some z =>
     rw [h] at f
     obtain⟨rfl,P⟩:=f;have hzv:=Lm h;have S:=O (l.o.mv t P);have V:=O (by have h9:=G.o;rw [h] at h9;exact h9);have hz6:z≤1000000:=by omega
     clear h P t hzv;go_wp2_with fail;exact⟨⟨g+1,z,by omega,by go_num,hz6,S,V⟩,by simp [intOf];omega⟩
  ·have I:=O (show Mist.ordered T=(y == n) by
    have h9:=U.o;rw [List.drop_of_length_le (by rw [← R.o];omega)] at h9
    rw [Ib (y:=y) (by rw [C.o];exact h9.symm),Jm.o])
   have j2:decide (g < m)=false:=aiH r;go_wp2_with fail;go_ret
   refine⟨bD ?_,l.o.low⟩
   rw [I.o,aiu];simp
   omega
end
