/-
  A part of the proof.
-/
import Derived.Test.YtalghggmkojblaaGreatDoorS32
set_option linter.all false
set_option maxRecDepth 100000
set_option maxHeartbeats 4000000
namespace Go.Proofs.YtalghggmkojblaaGreatDoor
section
open Go.RowKit Mist
attribute [local go_sem] ak aN aV aF aj
def jO (ks:List Nat):List Value:=ks.map fun (k:Nat)=>Value.int .u8 (k:Int)
theorem VP:(Tryz.prog.info? 5).map (fun i=>(i.zero,i.size,i.bytes))=some (some (.int .u8 0),1,1):=by kernel_rfl
theorem JR {w:World}{base:Nat}{A:Option Addr}{n c:Nat}{ks:List Nat}(h:w.ownsRow base 5 1 (.slice A n c) n (jO ks))(e:n=ks.length):jI w A ks:=by
 subst e
 refine⟨fun h0=>?_⟩
 obtain⟨g,cap,hv,_,a⟩:=h.form h0;have b:A=some ⟨g,0,none⟩:=by injection hv
 subst b
 refine⟨g,0,rfl,a,fun j k d=>?_⟩
 have:=h.cells (g:=g) rfl j (.int .u8 k) (by simp [jO,d])
 rw [vD] at this
 exact this
theorem Vv {w:World}{base e b n c:Nat}{A:Option Addr}{d:List Value}(h:w.ownsRow base e b (.slice A n c) n d):n≤c:=by
 rcases h.2 with ⟨hv,h0⟩ | ⟨g,cap,a,hv,_,_,f,_⟩
 ·omega
 ·injection hv with _ _ h3;omega
theorem Js (nm:Bool)(lo hi:Int)(ps:List Part)(A:Option Addr)(f c:Nat)(d:f=ps.length)(ks:List Nat)(m:Nat)(k:ks.length=m)(K:Option Addr)(kc:Nat)(w:World)(h:fq w A ps)(b:f≤c)(i:xO ps)(g:jI w K ks)(j:m≤1000000)(a:m≤kc) :
  Calls Tryz.prog 116 #[.agg #[.bool nm,.int .i64 lo,.int .i64 hi,.slice A f c],.slice K m kc] w fun e l=>e=.returned (.bool (Mist.fits ps ks))∧Below w.heap.size w l:=by
 subst d;subst k;exact aaT nm lo hi ps A c ks K kc w h b i g j a
def nX (o:Option Shape):Prop:=∀ s,o=some s→xO s.parts
theorem nX.ite {c:Prop}[Decidable c]{a b:Option Shape}(d:nX a)(e:nX b):nX (if c then a else b):=by
 split
 ·exact d
 ·exact e
theorem nX.some_ {s:Shape}(h:xO s.parts):nX (some s):=fun t e=>by injection e with e;subst e;exact h
theorem nX.none_:nX none:=fun t e=>nomatch e
theorem Nr (n:Int):xO (Mist.asked n).parts:=by
 unfold Mist.asked;by_cases h7:n=7
 ·rw [if_pos h7];simp [xO]
 ·rw [if_neg h7];by_cases h8:n=8
  ·rw [if_pos h8];simp [xO]
  ·rw [if_neg h8];simp [xO]
theorem Ei {k:Nat}{n:Int}{s:Shape}(h:Mist.shapeOf k n=some s):xO s.parts:=by
 have a:nX (Mist.shapeOf k n):=by
  unfold Mist.shapeOf
  repeat' (refine nX.ite ?_ ?_)
  all_goals first | exact nX.none_ | exact nX.some_ (Nr n)|(refine nX.some_ ?_;simp [xO])
 exact a s h
theorem Ob {T:Tr}{i:Nat}(h:Mist.shapeOf (nd T i).kind (nd T i).n=none):Mist.formed T i=false:=by
 unfold Mist.formed;rw [h]
theorem Oc {T:Tr}{i:Nat}{s:Shape}(h:Mist.shapeOf (nd T i).kind (nd T i).n=some s):Mist.formed T i=(Mist.within (nd T i).at_ 0 2000 && (s.named == !(nd T i).text.isEmpty) && (!s.named || Mist.isName (nd T i).text) && (nd T i).kids.all (Mist.within · 0 ((i:Int) - 1)) &&
  Mist.fits s.parts (kinds T (nd T i).kids) && (Mist.within (nd T i).n s.low s.high || ((nd T i).kind == 1 && Mist.within (nd T i).n (-9999) (-1)))):=by
 unfold Mist.formed;rw [h]
theorem R9 (A B:Option Addr)(c m d:Nat)(xs:List NV)(its:List Int)(i:Nat)(w:World)(hT:uZ w A B xs its)(hR:FL (aH xs))(hE:Env w)(hi:i < xs.length)(hn:xs.length≤100000) :
  Calls Tryz.prog 78 #[.agg #[.slice A xs.length c,.slice B m d],.int .i64 i] w fun e w'=>e=.returned (.bool (Mist.formed ⟨aH xs,its⟩ i))∧Below w.heap.size w w':=by
 obtain⟨n,hnn⟩:∃ n,n=xs.length:=⟨_,rfl⟩;rw [← hnn] at hi hn ⊢
 obtain⟨b,o,rfl,hN⟩:=hT.nodes (by omega);obtain⟨x,hx⟩:∃ x,xs[i]? = some x:=nE (by omega);have S:=O (bD its hx);have hxr:=hR x.1 (List.mem_map_of_mem (amO hx));have vv:=O hnn;clear hnn;have HN:=O hN;have HE:=O hE;clear hE hT;have c0:=hN.c0 i x hx;have c1:=hN.c1 i x hx;have c2:=hN.c2 i x hx;have c3:=hN.c3 i x hx;have c4:=hN.c4 i x hx;obtain⟨Ak,ck,hxe,hxl,G⟩:=hN.kid hx;rw [hxe] at c3
 have Y8:=O G;have HX:=O hx;have hbl:=hN.lt;clear G hx hxe hN;obtain⟨q,hnk⟩:∃ q,q=x.1.kids.length:=⟨_,rfl⟩;rw [← hnk] at c3 hxl
 have Iq:=O hnk;clear hnk;have i1:(0:Int)≤(i:Int):=by omega
 have i2:(i:Int) < (n:Int):=by omega
 have htx:=hxr.text;obtain⟨T,uo⟩:∃ T:Tr,T=⟨aH xs,its⟩:=⟨_,rfl⟩;rw [← uo] at S ⊢
 have IB:=O uo;clear uo;have HRR:=O hR;clear hR;go_in
 go_wp2_with fail;refine (P5 x.1.kind x.1.text x.1.n x.1.at_ Ak q ck _).mono ?_;rintro e w2⟨nm,lo,hi,W,ns,cs,is,rfl,hb2,hs⟩;have HT2:=O (show bY w2 w.heap.size 28 #[.slice (some ⟨b,o,none⟩) n c,.slice B m d] from bY.below (by repeat (first|(with_reducible exact bY.new _ _ _)|(with_reducible refine bY.alloc ?_ _))) hb2 (by first | omega|(simp;done)|(simp;omega)));have CK:=O (show bY w2 (w.heap.size+1) 56 #[.int .u8 x.1.kind,.string (aG x.1.text),.int .i64 x.1.n,.slice Ak q ck,.int .i64 x.1.at_] from bY.below (by repeat (first|(with_reducible exact wB (by simp))|(with_reducible refine bY.alloc ?_ _))) hb2 (by first | omega|(simp;done)|(simp;omega)));have g:=O (show Below w.heap.size w w2 from Below.trans (by repeat (first|(with_reducible exact Below.refl _ _)|(with_reducible refine aU ?_ ?_) | omega|(simp;done)|(simp;omega))) (hb2.mono (by first | omega|(simp;done)|(simp;omega))));clear hb2;have t0:=HT2.o.cell 0;have U:=CK.o.cell 0;have n1:=CK.o.cell 1;have V:=CK.o.cell 2;have n3:=CK.o.cell 3;have n4:=CK.o.cell 4;have hl2:=CK.o.lt;have hl1:w.heap.size < w2.heap.size:=by omega
 rcases hsh:Mist.shapeOf x.1.kind x.1.n with _ | s
 ·rw [hsh] at hs
  subst hs;have M:=O (Ob (T:=T) (i:=i) (by rw [S.o];exact hsh));clear hsh;go_wp2_with fail;go_ret;exact⟨bM M.o.symm,aU g.o g.o.size⟩
 ·rw [hsh] at hs
  obtain⟨rfl,rfl,rfl,rfl,rfl,hcs,hps⟩:=hs;have M:=O (Oc (T:=T) (i:=i) (by rw [S.o];exact hsh));have Rh:=O hsh;have HPS:=O hps;clear hsh hps;obtain⟨named,lo,hi,ps⟩:=s;simp only at M HPS hcs ⊢
  cases hw:Mist.within x.1.at_ 0 2000
  ·have N:=O hw;clear hw;have Q7:=O (show Mist.formed T i=false by rw [M.o,S.o,N.o];rfl);go_wp2_with fail;refine (dO _ 0 2000 false N.o _).mono ?_;rintro e r⟨rfl,rfl⟩;go_wp2_with fail;go_ret;exact⟨bM Q7.o.symm,aU g.o g.o.size⟩
  ·have N:=O hw;clear hw
   cases hem:x.1.text.isEmpty
   ·have F:=O hem;cases named
    ·have Q7:=O (show Mist.formed T i=false by rw [M.o,S.o,N.o,F.o];rfl);go_wp2_with fail;refine (dO _ 0 2000 true N.o _).mono ?_;rintro e r⟨rfl,rfl⟩;go_wp2_with fail;go_ret;exact⟨bM Q7.o.symm,aU g.o g.o.size⟩
    ·cases hnm:Mist.isName x.1.text
     ·have Z:=O hnm;clear hnm;have Q7:=O (show Mist.formed T i=false by rw [M.o,S.o,N.o,F.o,Z.o];rfl);go_wp2_with fail;refine (dO _ 0 2000 true N.o _).mono ?_;rintro e r⟨rfl,rfl⟩;go_wp2_with fail;refine (Gn x.1.text _ ((HE.o.below g.o).alloc _) htx).mono ?_;rintro e r⟨rfl,R⟩;rw [Z.o];go_wp2_with fail;go_ret;exact⟨bM Q7.o.symm,(aU g.o g.o.size).trans (R.mono (by simp;have:=g.o.size;omega))⟩
     ·have Z:=O hnm;clear hnm;go_wp2_with fail;refine (dO _ 0 2000 true N.o _).mono ?_;rintro e r⟨rfl,rfl⟩;go_wp2_with fail;refine (Gn x.1.text _ ((HE.o.below g.o).alloc _) htx).mono ?_;rintro e r⟨rfl,R⟩;rw [Z.o];have Wm:=(HT2.o.alloc (.cells #[.bool true,.int .i64 lo,.int .i64 hi,.slice W ps.length cs] 163)).below R (by simp;omega);have Q_:=(CK.o.alloc (.cells #[.bool true,.int .i64 lo,.int .i64 hi,.slice W ps.length cs] 163)).below R (by simp;omega);have Wj:=lD R;have V6:=(aU g.o g.o.size).trans (R.mono (by simp;have:=g.o.size;omega));have V9:=(HPS.o.below (aU (Below.refl _ _) (amL _) (o:=.cells #[.bool true,.int .i64 lo,.int .i64 hi,.slice W ps.length cs] 163))).below R;clear R;have m3:=Q_.cell 3;go_wp2_with fail;have HT3:=O (show bY r w.heap.size 28 #[.slice (some ⟨b,o,none⟩) n c,.slice B m d] from Wm);have HN3:=O (show bY r (w.heap.size+1) 56 #[.int .u8 x.1.kind,.string (aG x.1.text),.int .i64 x.1.n,.slice Ak q ck,.int .i64 x.1.at_] from Q_);have Mr:=O (show bY r w2.heap.size 163 #[.bool true,.int .i64 lo,.int .i64 hi,.slice W ps.length cs] from Wj);have k:=O (show Below w.heap.size w r from V6);have HP3:=O (show fq r W ps from V9);clear Wm Q_ Wj V6 V9 m3 t0 U n1 V n3 n4 HT2 CK g HPS;have hs3:=Mr.o.lt;obtain⟨pn,hpn⟩:∃ pn,pn=ps.length:=⟨_,rfl⟩;rw [← hpn] at Mr hcs ⊢
      have HPN:=O hpn;clear hpn;go_loopw [8,50] (fun v j wr=>∃ (f:Nat),f≤q∧j=.int .i64 f∧wr.ownsRow r.heap.size 5 1 v f (jO (kinds T (x.1.kids.take f)))∧Hid ((x.1.kids.take f).all (Mist.within · 0 ((i:Int) - 1))=true)∧Hid (Below r.heap.size r wr)) (fun _ j _=>q - (intOf j).toNat)
      case atStart=>exact⟨0,amN _,rfl,World.ownsRow_nil _ _ _ _,O rfl,O (Below.refl _ _)⟩
      case round =>
       obtain⟨wo,rfl⟩:∃ wo:World,wo=wr:=⟨_,rfl⟩;obtain⟨f,hj,rfl,E,VX,l⟩:=hrel;obtain⟨Av,cv,rfl⟩:=dA E;have t:=O E;clear E;have C8:=O (HT3.o.below l.o (by omega));have V8:=O (HN3.o.below l.o (by omega));have Q:=O (Mr.o.below l.o (by omega));have hso:=l.o.size;have t0:=C8.o.cell 0;by_cases hjl:f < q
       case pos =>
        obtain⟨kq,hkq⟩:∃ kq,x.1.kids[f]? = some kq:=⟨_,amF (by rw [← Iq.o];exact hjl)⟩;obtain⟨bk,ok,rfl,hbk,hck⟩:=Y8.o.ex (by rw [← Iq.o];omega);have cj:=((k.o.trans (l.o.mono k.o.size)).cell (p:=⟨bk,ok+f,none⟩) hbk).trans (hck f kq hkq);have V5:=O hkq;clear hck hkq;have j0:(0:Int)≤(f:Int):=by omega
        have j1:(f:Int) < (q:Int):=by omega
        have j2:decide ((f:Int) < (q:Int))=true:=amW j1;have j3:decide (f < q)=true:=amW hjl
        cases hq:Mist.within kq 0 ((i:Int) - 1)
        ·have HQ:=O hq;clear hq
         have Q7:=O (show Mist.formed T i=false by
          have h9:x.1.kids.all (Mist.within · 0 ((i:Int) - 1))=false:=by
           rw [List.all_eq_false];exact⟨kq,amO V5.o,by rw [HQ.o];simp⟩
          rw [M.o,S.o,h9];simp)
         go_wp2_with fail;refine (dO _ 0 _ false HQ.o _).mono ?_;rintro e w4⟨rfl,rfl⟩;go_wp2_with fail;go_ret;exact⟨bM Q7.o.symm,k.o.trans (l.o.mono k.o.size)⟩
        ·have hq2:0≤kq∧kq≤(i:Int) - 1:=by simpa [Mist.within] using hq
         have HQ:=O hq;clear hq;obtain⟨H,rfl⟩:∃ H:Nat,kq=(H:Int):=⟨kq.toNat,by omega⟩;obtain⟨xk,G⟩:∃ xk,xs[H]? = some xk:=nE (by rw [← vv.o];omega);have ckn:=((k.o.trans (l.o.mono k.o.size)).cell (p:=⟨b,o+H * 5,none⟩) hbl).trans (HN.o.c0 H xk G);have VZ:=O (show (nd T H).kind=xk.1.kind by rw [IB.o,bD its G]);clear G;have k0:(0:Int)≤(H:Int):=by omega
         have k1:(H:Int) < (n:Int):=by omega
         obtain⟨kk,hkk⟩:∃ kk,kk=xk.1.kind:=⟨_,rfl⟩;rw [← hkk] at ckn VZ
         clear hkk;have HIN:=O (show x.1.kids.take (f+1)=x.1.kids.take f ++ [(H:Int)] by rw [List.take_add_one,V5.o];rfl);obtain⟨i0,hi0,hz0,hz1,hz2⟩:=info_parts VP;go_wp2_with fail;refine (dO _ 0 _ true HQ.o _).mono ?_;rintro e w4⟨rfl,rfl⟩
         go_wp2_with (at_builtin
                      refine wpList_append_lies _ rfl (.tmp 59) (.tmp 66) 22 rfl r.heap.size 5 i0 _ 1 1 Tryz.underlying22 hi0 hz0 hz1 hz2 rfl (by decide) _ f (jO (kinds T (x.1.kids.take f))) rfl
                        (t.o.alloc _) ⟨wo.heap.size,0,none⟩ 1 1 [.int .u8 (kk:Int)] rfl rfl (iK _ _ _) (by intro u hu;simp at hu;subst hu;rfl) (by omega) (by simp only [maxLen];omega) (by omega) (by simp;omega) (wo.heap.size+1) (by simp) ?_
                      intro gg cap w5 hown2 hg5 ad6 hgl)
         refine⟨⟨f+1,by omega,by go_num,?_,O ?_,O ?_⟩,by simp [intOf];omega⟩
         ·rw [HIN.o]
          have h9:jO (kinds T (x.1.kids.take f ++ [(H:Int)]))=jO (kinds T (x.1.kids.take f)) ++ [.int .u8 (kk:Int)]:=by
           simp [jO,kinds,VZ.o]
          rw [h9];exact hown2
         ·rw [HIN.o,List.all_append,VX.o];simp [HQ.o]
         ·exact (aU l.o l.o.size).grown hg5 (by simp;omega) (fun b hb=>(t.o.lt b hb).1)
       case neg =>
        have Y:=O (show f=q by omega);have w_:=O (show x.1.kids.all (Mist.within · 0 ((i:Int) - 1))=true by have h9:=VX.o;rwa [Y.o,Iq.o,List.take_length] at h9)
        have HKI:=O (show jI wo Av (kinds T x.1.kids) by
         have h9:=t.o;rw [Y.o,Iq.o,List.take_length] at h9
         exact JR h9 (by simp [kinds]))
        have HKC:=O (show q≤cv by
         have h9:=Vv t.o;omega)
        have Qp:=O (show (kinds T x.1.kids).length=q by simp [kinds,Iq.o]);have hjn:f=q:=Y.o;subst hjn;clear t0 hj hjl t VX;have U:=V8.o.cell 0;have V:=V8.o.cell 2;have s0:=Q.o.cell 0;have s1:=Q.o.cell 1;have s2:=Q.o.cell 2;have s3:=Q.o.cell 3;have C:=V8.o.lt;have D:=Q.o.lt;have hlo3:w.heap.size < wo.heap.size:=by omega
        have j2:decide ((f:Int) < (f:Int))=false:=amX (by omega);have I:=O (Js true lo hi ps W pn cs HPN.o (kinds T x.1.kids) f Qp.o Av cv wo (HP3.o.below l.o) hcs (Ei Rh.o) HKI.o hxl HKC.o)
        cases h:Mist.fits ps (kinds T x.1.kids)
        ·have J:=O h;clear h;have Q7:=O (show Mist.formed T i=false by rw [M.o,S.o,J.o];simp);go_wp2_with fail;refine I.o.mono ?_;rintro e w6⟨rfl,a⟩;rw [J.o];go_wp2_with fail;go_ret;exact⟨bM Q7.o.symm,(k.o.trans (l.o.mono k.o.size)).trans (a.mono (by omega))⟩
        ·have J:=O h;clear h
         cases K:Mist.within x.1.n lo hi
         ·have X:=O K;clear K;by_cases y:x.1.kind=1
          ·have e1:((x.1.kind:Int) == 1)=true:=by rw [y];rfl
           have VY:=O y;clear y
           cases hw9:Mist.within x.1.n (-9999) (-1)
           all_goals
            have HW9:=O hw9;clear hw9;go_wp2_with fail;refine I.o.mono ?_;rintro e w6⟨rfl,a⟩;rw [J.o];have eY:=O ((k.o.trans (l.o.mono k.o.size)).trans (a.mono (by omega)));have L:=O (V8.o.below a C);have P:=O (Q.o.below a D);clear a U V s0 s1 s2 s3;have U:=L.o.cell 0;have V:=L.o.cell 2;have s1:=P.o.cell 1;have s2:=P.o.cell 2;go_wp2_with fail;refine (dO x.1.n lo hi false X.o _).mono ?_;rintro e w7⟨rfl,rfl⟩;go_wp2_with fail;refine (dO x.1.n (-9999) (-1) _ HW9.o _).mono ?_;rintro e w7⟨rfl,rfl⟩;go_wp2_with fail;go_ret
            refine⟨bM ?_,eY.o⟩
            rw [M.o,S.o,J.o,X.o,HW9.o,VY.o,N.o,w_.o,F.o,Z.o];rfl
          ·have e1:((x.1.kind:Int) == 1)=false:=by rw [amH];omega
           have VY:=O (show (x.1.kind == 1)=false by simpa using y);clear y;go_wp2_with fail;refine I.o.mono ?_;rintro e w6⟨rfl,a⟩;rw [J.o];have eY:=O ((k.o.trans (l.o.mono k.o.size)).trans (a.mono (by omega)));have L:=O (V8.o.below a C);have P:=O (Q.o.below a D);clear a U V s0 s1 s2 s3;have U:=L.o.cell 0;have V:=L.o.cell 2;have s1:=P.o.cell 1;have s2:=P.o.cell 2;go_wp2_with fail;refine (dO x.1.n lo hi false X.o _).mono ?_;rintro e w7⟨rfl,rfl⟩;go_wp2_with fail;go_ret
           refine⟨bM ?_,eY.o⟩
           rw [M.o,S.o,J.o,X.o,VY.o,N.o,w_.o,F.o,Z.o];rfl
         ·have X:=O K;clear K;go_wp2_with fail;refine I.o.mono ?_;rintro e w6⟨rfl,a⟩;rw [J.o];have eY:=O ((k.o.trans (l.o.mono k.o.size)).trans (a.mono (by omega)));have L:=O (V8.o.below a C);have P:=O (Q.o.below a D);clear a U V s0 s1 s2 s3;have U:=L.o.cell 0;have V:=L.o.cell 2;have s1:=P.o.cell 1;have s2:=P.o.cell 2;go_wp2_with fail;refine (dO x.1.n lo hi true X.o _).mono ?_;rintro e w7⟨rfl,rfl⟩;go_wp2_with fail;go_ret
          refine⟨bM ?_,eY.o⟩
          rw [M.o,S.o,J.o,X.o,N.o,w_.o,F.o,Z.o];rfl
   ·have F:=O hem;cases named
    ·have Wm:=HT2.o.alloc (.cells #[.bool false,.int .i64 lo,.int .i64 hi,.slice W ps.length cs] 163);have Q_:=CK.o.alloc (.cells #[.bool false,.int .i64 lo,.int .i64 hi,.slice W ps.length cs] 163);have Wj:=bY.new w2 163 #[.bool false,.int .i64 lo,.int .i64 hi,.slice W ps.length cs];have V6:=aU g.o g.o.size (o:=.cells #[.bool false,.int .i64 lo,.int .i64 hi,.slice W ps.length cs] 163);have V9:=HPS.o.below (aU (Below.refl _ _) (amL _) (o:=.cells #[.bool false,.int .i64 lo,.int .i64 hi,.slice W ps.length cs] 163));go_wp2_with fail;refine (dO _ 0 2000 true N.o _).mono ?_;rintro e r⟨rfl,rfl⟩;go_wp2_with fail
     generalize w2.alloc (.cells #[.bool false,.int .i64 lo,.int .i64 hi,.slice W ps.length cs] 163)=r at Wm Q_ Wj V6 V9 ⊢
     have HT3:=O (show bY r w.heap.size 28 #[.slice (some ⟨b,o,none⟩) n c,.slice B m d] from Wm);have HN3:=O (show bY r (w.heap.size+1) 56 #[.int .u8 x.1.kind,.string (aG x.1.text),.int .i64 x.1.n,.slice Ak q ck,.int .i64 x.1.at_] from Q_);have Mr:=O (show bY r w2.heap.size 163 #[.bool false,.int .i64 lo,.int .i64 hi,.slice W ps.length cs] from Wj);have k:=O (show Below w.heap.size w r from V6);have HP3:=O (show fq r W ps from V9);clear Wm Q_ Wj V6 V9 t0 U n1 V n3 n4 HT2 CK g HPS;have hs3:=Mr.o.lt;obtain⟨pn,hpn⟩:∃ pn,pn=ps.length:=⟨_,rfl⟩;rw [← hpn] at Mr hcs ⊢
     have HPN:=O hpn;clear hpn;go_loopw [8,50] (fun v j wr=>∃ (f:Nat),f≤q∧j=.int .i64 f∧wr.ownsRow r.heap.size 5 1 v f (jO (kinds T (x.1.kids.take f)))∧Hid ((x.1.kids.take f).all (Mist.within · 0 ((i:Int) - 1))=true)∧Hid (Below r.heap.size r wr)) (fun _ j _=>q - (intOf j).toNat)
     case atStart=>exact⟨0,amN _,rfl,World.ownsRow_nil _ _ _ _,O rfl,O (Below.refl _ _)⟩
     case round =>
      obtain⟨wo,rfl⟩:∃ wo:World,wo=wr:=⟨_,rfl⟩;obtain⟨f,hj,rfl,E,VX,l⟩:=hrel;obtain⟨Av,cv,rfl⟩:=dA E;have t:=O E;clear E;have C8:=O (HT3.o.below l.o (by omega));have V8:=O (HN3.o.below l.o (by omega));have Q:=O (Mr.o.below l.o (by omega));have hso:=l.o.size;have t0:=C8.o.cell 0;by_cases hjl:f < q
      case pos =>
       obtain⟨kq,hkq⟩:∃ kq,x.1.kids[f]? = some kq:=⟨_,amF (by rw [← Iq.o];exact hjl)⟩;obtain⟨bk,ok,rfl,hbk,hck⟩:=Y8.o.ex (by rw [← Iq.o];omega);have cj:=((k.o.trans (l.o.mono k.o.size)).cell (p:=⟨bk,ok+f,none⟩) hbk).trans (hck f kq hkq);have V5:=O hkq;clear hck hkq;have j0:(0:Int)≤(f:Int):=by omega
       have j1:(f:Int) < (q:Int):=by omega
       have j2:decide ((f:Int) < (q:Int))=true:=amW j1;have j3:decide (f < q)=true:=amW hjl
       cases hq:Mist.within kq 0 ((i:Int) - 1)
       ·have HQ:=O hq;clear hq
        have Q7:=O (show Mist.formed T i=false by
         have h9:x.1.kids.all (Mist.within · 0 ((i:Int) - 1))=false:=by
          rw [List.all_eq_false];exact⟨kq,amO V5.o,by rw [HQ.o];simp⟩
         rw [M.o,S.o,h9];simp)
        go_wp2_with fail;refine (dO _ 0 _ false HQ.o _).mono ?_;rintro e w4⟨rfl,rfl⟩;go_wp2_with fail;go_ret;exact⟨bM Q7.o.symm,k.o.trans (l.o.mono k.o.size)⟩
       ·have hq2:0≤kq∧kq≤(i:Int) - 1:=by simpa [Mist.within] using hq
        have HQ:=O hq;clear hq;obtain⟨H,rfl⟩:∃ H:Nat,kq=(H:Int):=⟨kq.toNat,by omega⟩;obtain⟨xk,G⟩:∃ xk,xs[H]? = some xk:=nE (by rw [← vv.o];omega);have ckn:=((k.o.trans (l.o.mono k.o.size)).cell (p:=⟨b,o+H * 5,none⟩) hbl).trans (HN.o.c0 H xk G);have VZ:=O (show (nd T H).kind=xk.1.kind by rw [IB.o,bD its G]);clear G;have k0:(0:Int)≤(H:Int):=by omega
        have k1:(H:Int) < (n:Int):=by omega
        obtain⟨kk,hkk⟩:∃ kk,kk=xk.1.kind:=⟨_,rfl⟩;rw [← hkk] at ckn VZ
        clear hkk;have HIN:=O (show x.1.kids.take (f+1)=x.1.kids.take f ++ [(H:Int)] by rw [List.take_add_one,V5.o];rfl);obtain⟨i0,hi0,hz0,hz1,hz2⟩:=info_parts VP;go_wp2_with fail;refine (dO _ 0 _ true HQ.o _).mono ?_;rintro e w4⟨rfl,rfl⟩
        go_wp2_with (at_builtin
                     refine wpList_append_lies _ rfl (.tmp 59) (.tmp 66) 22 rfl r.heap.size 5 i0 _ 1 1 Tryz.underlying22 hi0 hz0 hz1 hz2 rfl (by decide) _ f (jO (kinds T (x.1.kids.take f))) rfl
                       (t.o.alloc _) ⟨wo.heap.size,0,none⟩ 1 1 [.int .u8 (kk:Int)] rfl rfl (iK _ _ _) (by intro u hu;simp at hu;subst hu;rfl) (by omega) (by simp only [maxLen];omega) (by omega) (by simp;omega) (wo.heap.size+1) (by simp) ?_
                     intro gg cap w5 hown2 hg5 ad6 hgl)
        refine⟨⟨f+1,by omega,by go_num,?_,O ?_,O ?_⟩,by simp [intOf];omega⟩
        ·rw [HIN.o]
         have h9:jO (kinds T (x.1.kids.take f ++ [(H:Int)]))=jO (kinds T (x.1.kids.take f)) ++ [.int .u8 (kk:Int)]:=by
          simp [jO,kinds,VZ.o]
         rw [h9];exact hown2
        ·rw [HIN.o,List.all_append,VX.o];simp [HQ.o]
        ·exact (aU l.o l.o.size).grown hg5 (by simp;omega) (fun b hb=>(t.o.lt b hb).1)
      case neg =>
       have Y:=O (show f=q by omega);have w_:=O (show x.1.kids.all (Mist.within · 0 ((i:Int) - 1))=true by have h9:=VX.o;rwa [Y.o,Iq.o,List.take_length] at h9)
       have HKI:=O (show jI wo Av (kinds T x.1.kids) by
        have h9:=t.o;rw [Y.o,Iq.o,List.take_length] at h9
        exact JR h9 (by simp [kinds]))
       have HKC:=O (show q≤cv by
        have h9:=Vv t.o;omega)
       have Qp:=O (show (kinds T x.1.kids).length=q by simp [kinds,Iq.o]);have hjn:f=q:=Y.o;subst hjn;clear t0 hj hjl t VX;have U:=V8.o.cell 0;have V:=V8.o.cell 2;have s0:=Q.o.cell 0;have s1:=Q.o.cell 1;have s2:=Q.o.cell 2;have s3:=Q.o.cell 3;have C:=V8.o.lt;have D:=Q.o.lt;have hlo3:w.heap.size < wo.heap.size:=by omega
       have j2:decide ((f:Int) < (f:Int))=false:=amX (by omega);have I:=O (Js false lo hi ps W pn cs HPN.o (kinds T x.1.kids) f Qp.o Av cv wo (HP3.o.below l.o) hcs (Ei Rh.o) HKI.o hxl HKC.o)
       cases h:Mist.fits ps (kinds T x.1.kids)
       ·have J:=O h;clear h;have Q7:=O (show Mist.formed T i=false by rw [M.o,S.o,J.o];simp);go_wp2_with fail;refine I.o.mono ?_;rintro e w6⟨rfl,a⟩;rw [J.o];go_wp2_with fail;go_ret;exact⟨bM Q7.o.symm,(k.o.trans (l.o.mono k.o.size)).trans (a.mono (by omega))⟩
       ·have J:=O h;clear h
        cases K:Mist.within x.1.n lo hi
        ·have X:=O K;clear K;by_cases y:x.1.kind=1
         ·have e1:((x.1.kind:Int) == 1)=true:=by rw [y];rfl
          have VY:=O y;clear y
          cases hw9:Mist.within x.1.n (-9999) (-1)
          all_goals
           have HW9:=O hw9;clear hw9;go_wp2_with fail;refine I.o.mono ?_;rintro e w6⟨rfl,a⟩;rw [J.o];have eY:=O ((k.o.trans (l.o.mono k.o.size)).trans (a.mono (by omega)));have L:=O (V8.o.below a C);have P:=O (Q.o.below a D);clear a U V s0 s1 s2 s3;have U:=L.o.cell 0;have V:=L.o.cell 2;have s1:=P.o.cell 1;have s2:=P.o.cell 2;go_wp2_with fail;refine (dO x.1.n lo hi false X.o _).mono ?_;rintro e w7⟨rfl,rfl⟩;go_wp2_with fail;refine (dO x.1.n (-9999) (-1) _ HW9.o _).mono ?_;rintro e w7⟨rfl,rfl⟩;go_wp2_with fail;go_ret
           refine⟨bM ?_,eY.o⟩
           rw [M.o,S.o,J.o,X.o,HW9.o,VY.o,N.o,w_.o,F.o];rfl
         ·have e1:((x.1.kind:Int) == 1)=false:=by rw [amH];omega
          have VY:=O (show (x.1.kind == 1)=false by simpa using y);clear y;go_wp2_with fail;refine I.o.mono ?_;rintro e w6⟨rfl,a⟩;rw [J.o];have eY:=O ((k.o.trans (l.o.mono k.o.size)).trans (a.mono (by omega)));have L:=O (V8.o.below a C);have P:=O (Q.o.below a D);clear a U V s0 s1 s2 s3;have U:=L.o.cell 0;have V:=L.o.cell 2;have s1:=P.o.cell 1;have s2:=P.o.cell 2;go_wp2_with fail;refine (dO x.1.n lo hi false X.o _).mono ?_;rintro e w7⟨rfl,rfl⟩;go_wp2_with fail;go_ret
          refine⟨bM ?_,eY.o⟩
          rw [M.o,S.o,J.o,X.o,VY.o,N.o,w_.o,F.o];rfl
        ·have X:=O K;clear K;go_wp2_with fail;refine I.o.mono ?_;rintro e w6⟨rfl,a⟩;rw [J.o];have eY:=O ((k.o.trans (l.o.mono k.o.size)).trans (a.mono (by omega)));have L:=O (V8.o.below a C);have P:=O (Q.o.below a D);clear a U V s0 s1 s2 s3;have U:=L.o.cell 0;have V:=L.o.cell 2;have s1:=P.o.cell 1;have s2:=P.o.cell 2;go_wp2_with fail;refine (dO x.1.n lo hi true X.o _).mono ?_;rintro e w7⟨rfl,rfl⟩;go_wp2_with fail;go_ret
         refine⟨bM ?_,eY.o⟩
         rw [M.o,S.o,J.o,X.o,N.o,w_.o,F.o];rfl
    ·have Q7:=O (show Mist.formed T i=false by rw [M.o,S.o,N.o,F.o];rfl);go_wp2_with fail;refine (dO _ 0 2000 true N.o _).mono ?_;rintro e r⟨rfl,rfl⟩;go_wp2_with fail;go_ret;exact⟨bM Q7.o.symm,aU g.o g.o.size⟩
end
section
open Go.RowKit Mist
theorem Qg {T:Tr}{f i:Nat}{root:Bool}{next x:Nat}(h:Mist.walk T f i root next=some x):x=i+1:=by
 cases f with
 | zero=>cases h
 | succ f =>
  unfold Mist.walk at h
  split at h
  ·cases h
  ·split at h
   ·split at h
    ·have:=amR h;omega
    ·cases h
   ·cases h
theorem YX {T:Tr}{f i:Nat}{root:Bool}{next:Nat}(h:(nd T i).kids.foldl (fun (o:Option Nat) c=>o.bind fun x=>Mist.walk T f c.toNat false x) (some next)=none):Mist.walk T (f+1) i root next=none:=by
 unfold Mist.walk;rw [h]
theorem afg {T:Tr}{f i:Nat}{root:Bool}{next y:Nat}(h:(nd T i).kids.foldl (fun (o:Option Nat) c=>o.bind fun x=>Mist.walk T f c.toNat false x) (some next)=some y):Mist.walk T (f+1) i root next=if i=y then (if fM (nd T i).kind=root then some (y+1) else none) else none:=by
 rw [Mist.walk];rw [h]
structure uj (w0:World) (w:World) (tb nb wb:Nat) (tv iv:Value) (next:Int):Prop where
 tree:bY w tb 28 #[tv,iv]
 self:bY w wb 140 #[.func (.func 117) #[] #[.pointer (some ⟨tb,0,none⟩),.pointer (some ⟨wb,0,none⟩),.pointer (some ⟨nb,0,none⟩)]]
 next:bY w nb 3 #[.int .i64 next]
 low:Below w0.heap.size w0 w
 nb:w0.heap.size≤nb
theorem uj.mv {w0 w d:World}{tb c f:Nat}{tv iv:Value}{next a:Int}(h:uj w0 w tb c f tv iv next)(m:Mv c none w none d)(g:bY d c 3 #[.int .i64 a]):uj w0 d tb c f tv iv a :=
 ⟨m.blk h.tree (h.tree.ne_ h.next (by decide)) (by simp),m.blk h.self (h.self.ne_ h.next (by decide)) (by simp),g,h.low.trans (m.below h.next.lt h.nb (fun b e=>nomatch e)),h.nb⟩
def aap (r:Option Nat)(nb:Nat)(w:World)(e:Ending)(w':World):Prop :=
 Mv nb none w none w'∧match r with
  | some x=>e=.returned (.bool true)∧bY w' nb 3 #[.int .i64 (x:Int)]
  | none=>e=.returned (.bool false)∧∃ y,bY w' nb 3 #[.int .i64 y]
theorem adk (xs:List NV)(H:List Int)(b o c m d n:Nat)(B:Option Addr)(w0:World)(hN:sN w0 b o xs)(V:n=xs.length)(hn:n≤100000)(hK:∀ (i:Nat) x,xs[i]? = some x→∀ k ∈ x.1.kids,0≤k∧k≤(i:Int) - 1)(hR:FL (aH xs))(tb J wb:Nat) :
  ∀ (f i:Nat) (L:Int) (root:Bool) (next:Nat) (w:World),i < n→i < f→1≤L→L+i≤200000→(L == 1)=root→next≤1000000→uj w0 w tb J wb (.slice (some ⟨b,o,none⟩) n c) (.slice B m d) (next:Int) →
  Calls Tryz.prog 117 #[.int .i64 (i:Int),.int .i64 L,.pointer (some ⟨tb,0,none⟩),.pointer (some ⟨wb,0,none⟩),.pointer (some ⟨J,0,none⟩)] w (aap (Mist.walk ⟨aH xs,H⟩ f i root next) J w):=by
 obtain⟨T,hT⟩:∃ T:Tr,T=⟨aH xs,H⟩:=⟨_,rfl⟩;rw [← hT];have vv:=O V;clear V;have K:=O hN;clear hN;have HKK:=O hK;clear hK;have IB:=O hT;clear hT;have HRR:=O hR;clear hR;intro f
 induction f with
 | zero=>intro i _ _ _ _ _ h;omega
 | succ f ih =>
  have IH:=O ih;clear ih;intro i L root next w hi hif hd1 hd2 t hnx hm;have KG:=O t;clear t;have HM:=O hm;have t0:=hm.tree.cell 0;clear hm;obtain⟨x,W⟩:∃ x,xs[i]? = some x:=nE (by rw [← vv.o];exact hi);have xJ:=O (show nd T i=x.1 by rw [IB.o];exact bD H W);obtain⟨Ak,ck,X,hxl,Y⟩:=K.o.kid W;have c3:=(HM.o.low.cell (p:=⟨b,o+i * 5+3,none⟩) K.o.lt).trans (K.o.c3 i x W);rw [X] at c3
  have Y8:=O Y;have HX:=O W;clear Y W X;obtain⟨D,G⟩:∃ D,D=x.1.kids.length:=⟨_,rfl⟩;rw [← G] at c3 hxl
  have Z:=O G;clear G;have i1:(0:Int)≤(i:Int):=by omega
  have i2:(i:Int) < (n:Int):=by omega
  go_in
  go_wp2_with fail;go_loopw [17] (fun j wr=>∃ (l y:Nat),l≤D∧j=.int .i64 l∧y≤1000000∧Hid (uj w0 wr tb J wb (.slice (some ⟨b,o,none⟩) n c) (.slice B m d) (y:Int))∧Hid (Mv J none w none wr)∧Hid ((x.1.kids.drop l).foldl (fun (o:Option Nat) c=>o.bind fun x=>Mist.walk T f c.toNat false x) (some y)=x.1.kids.foldl (fun (o:Option Nat) c=>o.bind fun x=>Mist.walk T f c.toNat false x) (some next))) (fun j _=>D - (intOf j).toNat)
  case atStart=>exact⟨0,next,amN _,rfl,hnx,HM,O Mv.refl,O rfl⟩
  case round =>
   obtain⟨wo,rfl⟩:∃ wo:World,wo=wr:=⟨_,rfl⟩;obtain⟨l,y,hj,rfl,hy,g,v,E⟩:=hrel;have s0:=g.o.self.cell 0;by_cases A:l < D
   ·obtain⟨kq,C⟩:∃ kq,x.1.kids[l]? = some kq:=⟨_,amF (by rw [← Z.o];exact A)⟩;have hkb:=HKK.o i x HX.o kq (amO C);obtain⟨I,rfl⟩:∃ I:Nat,kq=(I:Int):=⟨kq.toNat,by omega⟩;obtain⟨bk,ok,rfl,hbk,S⟩:=Y8.o.ex (by rw [← Z.o];omega);have cj:=(g.o.low.cell (p:=⟨bk,ok+l,none⟩) hbk).trans (S l I C)
    have N:=O (show x.1.kids.drop l=(I:Int) :: x.1.kids.drop (l+1) by
     rw [amZ (by rw [← Z.o];exact A),(amG.1 C).2])
    clear S C;have j0:(0:Int)≤(l:Int):=by omega
    have j1:(l:Int) < (D:Int):=by omega
    have j2:decide (l < D)=true:=amW A;have HC:=O (IH.o I (L+1) false y wo (by omega) (by omega) (by omega) (by omega) (by rw [amH];omega) hy g.o)
    have P:=O (show (x.1.kids.drop (l+1)).foldl (fun (o:Option Nat) c=>o.bind fun x=>Mist.walk T f c.toNat false x) (Mist.walk T f I false y)=x.1.kids.foldl (fun (o:Option Nat) c=>o.bind fun x=>Mist.walk T f c.toNat false x) (some next) by
     have h9:=E.o;rw [N.o,List.foldl_cons,Option.bind_some,amS] at h9
     exact h9)
    clear E N;go_wp2_with fail;refine HC.o.mono ?_;rintro e w2⟨r,a⟩
    cases q:Mist.walk T f I false y with
    | none =>
     rw [q] at a
     obtain⟨rfl,z,M⟩:=a
     have HST:=O (show Mist.walk T (f+1) i root next=none from YX (by
      rw [xJ.o,← P.o,q];exact uK (fun x c=>Mist.walk T f c.toNat false x) _))
     have HZ:=O M;have F:=O (v.o.trans r);clear q M r;go_wp2_with fail;go_ret
     refine⟨F.o,?_⟩
     rw [HST.o];exact⟨rfl,z,HZ.o⟩
    | some z =>
     rw [q] at a
     obtain⟨rfl,M⟩:=a;have hzv:=Qg q;have HZ:=O M;have F:=O (v.o.trans r);have vo:=O (g.o.mv r M);have HF3:=O (by have h9:=P.o;rw [q] at h9;exact h9);have hz6:z≤1000000:=by omega
     clear q M r hzv;go_wp2_with fail;exact⟨⟨l+1,z,by omega,by go_num,hz6,vo,F,HF3⟩,by simp [intOf];omega⟩
   ·have HFE:=O (show x.1.kids.foldl (fun (o:Option Nat) c=>o.bind fun x=>Mist.walk T f c.toNat false x) (some next)=some y by
     rw [← E.o,List.drop_of_length_le (by rw [← Z.o];omega)];rfl)
    have j2:decide (l < D)=false:=amX A;have y0:=g.o.next.cell 0;have yf:=g.o.next.frozen 0;have hyl:=g.o.next.lt;have t0':=g.o.tree.cell 0;have c0:=(g.o.low.cell (p:=⟨b,o+i * 5,none⟩) K.o.lt).trans (K.o.c0 i x HX.o);have HW:=O (afg (root:=root) (by rw [xJ.o];exact HFE.o));by_cases U:i=y
    ·subst U;have e1:((i:Int) != (i:Int))=false:=by simp
     have HW2:=O (show Mist.walk T (f+1) i root next=if fM x.1.kind=root then some (i+1) else none by rw [HW.o,if_pos rfl,xJ.o]);have ajd:=O (v.o.ad3 (i:=0) (u:=.int .i64 ((i:Int)+1)));have R:=O (g.o.next.jX 0 (.int .i64 ((i:Int)+1)));have hb1:=K.o.lt;have hlow:=g.o.low.size;have hnb:=g.o.nb;have hne:b ≠ J:=by omega
     have hne2:tb ≠ J:=g.o.tree.ne_ g.o.next (by decide);have htl:=g.o.tree.lt;clear HW
     cases hr:fM x.1.kind
     all_goals
      have Q:=O hr;clear hr;cases root
      all_goals
       have d1:=KG.o;go_wp2_with fail;refine (aee x.1.kind _ Q.o _).mono ?_;rintro e w2⟨rfl,rfl⟩;go_wp2_with fail;go_ret
       refine⟨ajd.o,?_⟩
       rw [HW2.o,Q.o]
       first
       | exact⟨rfl,by have h9:=R.o;simpa using h9⟩
       | exact⟨rfl,_,R.o⟩
    ·have e1:((i:Int) != (y:Int))=true:=by rw [bne_iff_ne];omega
     go_wp2_with fail;go_ret
     refine⟨v.o,?_⟩
     rw [HW.o,if_neg U];exact⟨rfl,_,g.o.next⟩
end
