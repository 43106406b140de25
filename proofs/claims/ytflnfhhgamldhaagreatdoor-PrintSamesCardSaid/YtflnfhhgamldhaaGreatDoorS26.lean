/-
  A part of the proof.
-/
import Derived.Test.YtflnfhhgamldhaaGreatDoorS16
import Derived.Test.YtflnfhhgamldhaaGreatDoorS25
set_option linter.all false
set_option maxRecDepth 100000
set_option maxHeartbeats 4000000
namespace Go.Proofs.YtflnfhhgamldhaaGreatDoor
section
open Go.RowKit Mist
attribute [local go_sem] ah aM aV au ak
def jO (ks:List Nat):List Value:=ks.map fun (k:Nat)=>Value.int .u8 (k:Int)
theorem S_:(Tryz.prog.info? 5).map (fun i=>(i.zero,i.size,i.bytes))=some (some (.int .u8 0),1,1):=by kernel_rfl
theorem Hz {w:World}{base:Nat}{A:Option Addr}{n c:Nat}{ks:List Nat}(h:w.ownsRow base 5 1 (.slice A n c) n (jO ks))(e:n=ks.length):jH w A ks:=by
 subst e
 refine⟨fun h0=>?_⟩
 obtain⟨g,cap,hv,_,a⟩:=h.form h0;have b:A=some ⟨g,0,none⟩:=by injection hv
 subst b
 refine⟨g,0,rfl,a,fun j k d=>?_⟩
 have:=h.cells (g:=g) rfl j (.int .u8 k) (by simp [jO,d])
 rw [xQ] at this
 exact this
theorem Sr {w:World}{base e b n c:Nat}{A:Option Addr}{d:List Value}(h:w.ownsRow base e b (.slice A n c) n d):n≤c:=by
 rcases h.2 with ⟨hv,h0⟩ | ⟨g,cap,a,hv,_,_,f,_⟩
 ·omega
 ·injection hv with _ _ h3;omega
theorem GX (nm:Bool)(lo hi:Int)(ps:List Part)(A:Option Addr)(f c:Nat)(d:f=ps.length)(ks:List Nat)(m:Nat)(k:ks.length=m)(K:Option Addr)(kc:Nat)(w:World)(h:dR w A ps)(b:f≤c)(i:vX ps)(g:jH w K ks)(j:m≤1000000)(a:m≤kc) :
  Calls Tryz.prog 134 #[.agg #[.bool nm,.int .i64 lo,.int .i64 hi,.slice A f c],.slice K m kc] w fun e l=>e=.returned (.bool (Mist.fits ps ks))∧Below w.heap.size w l:=by
 subst d;subst k;exact YW nm lo hi ps A c ks K kc w h b i g j a
def nV (o:Option Shape):Prop:=∀ s,o=some s→vX s.parts
theorem nV.ite {c:Prop}[Decidable c]{a b:Option Shape}(d:nV a)(e:nV b):nV (if c then a else b):=by
 split
 ·exact d
 ·exact e
theorem nV.some_ {s:Shape}(h:vX s.parts):nV (some s):=fun t e=>by injection e with e;subst e;exact h
theorem nV.none_:nV none:=fun t e=>nomatch e
theorem KT (n:Int):vX (Mist.asked n).parts:=by
 unfold Mist.asked;by_cases h7:n=7
 ·rw [if_pos h7];simp [vX]
 ·rw [if_neg h7];by_cases h8:n=8
  ·rw [if_pos h8];simp [vX]
  ·rw [if_neg h8];simp [vX]
theorem BK {k:Nat}{n:Int}{s:Shape}(h:Mist.shapeOf k n=some s):vX s.parts:=by
 have a:nV (Mist.shapeOf k n):=by
  unfold Mist.shapeOf
  repeat' (refine nV.ite ?_ ?_)
  all_goals first | exact nV.none_ | exact nV.some_ (KT n)|(refine nV.some_ ?_;simp [vX])
 exact a s h
theorem Li {T:Tr}{i:Nat}(h:Mist.shapeOf (nd T i).kind (nd T i).n=none):Mist.formed T i=false:=by
 unfold Mist.formed;rw [h]
theorem Lj {T:Tr}{i:Nat}{s:Shape}(h:Mist.shapeOf (nd T i).kind (nd T i).n=some s):Mist.formed T i=(Mist.within (nd T i).at_ 0 2000 && (s.named == !(nd T i).text.isEmpty) && (!s.named || Mist.isName (nd T i).text) && (nd T i).kids.all (Mist.within · 0 ((i:Int) - 1)) &&
  Mist.fits s.parts (kinds T (nd T i).kids) && (Mist.within (nd T i).n s.low s.high || ((nd T i).kind == 1 && Mist.within (nd T i).n (-9999) (-1)))):=by
 unfold Mist.formed;rw [h]
theorem Py (A B:Option Addr)(c m d:Nat)(xs:List NV)(its:List Int)(i:Nat)(w:World)(hT:rQ w A B xs its)(hR:Dt (aF xs))(hE:Env w)(hi:i < xs.length)(hn:xs.length≤100000) :
  Calls Tryz.prog 90 #[.agg #[.slice A xs.length c,.slice B m d],.int .i64 i] w fun e w'=>e=.returned (.bool (Mist.formed ⟨aF xs,its⟩ i))∧Below w.heap.size w w':=by
 obtain⟨n,hnn⟩:∃ n,n=xs.length:=⟨_,rfl⟩;rw [← hnn] at hi hn ⊢
 obtain⟨b,o,rfl,hN⟩:=hT.nodes (by omega);obtain⟨x,hx⟩:∃ x,xs[i]? = some x:=lF (by omega);have S:=O (bI its hx);have hxr:=hR x.1 (List.mem_map_of_mem (ak3 hx));have uq:=O hnn;clear hnn;have HN:=O hN;have HE:=O hE;clear hE hT;have c0:=hN.c0 i x hx;have c1:=hN.c1 i x hx;have c2:=hN.c2 i x hx;have c3:=hN.c3 i x hx;have c4:=hN.c4 i x hx;obtain⟨Ak,ck,hxe,hxl,G⟩:=hN.kid hx;rw [hxe] at c3
 have FT:=O G;have HX:=O hx;have hbl:=hN.lt;clear G hx hxe hN;obtain⟨q,hnk⟩:∃ q,q=x.1.kids.length:=⟨_,rfl⟩;rw [← hnk] at c3 hxl
 have FQ:=O hnk;clear hnk;have i1:(0:Int)≤(i:Int):=by omega
 have i2:(i:Int) < (n:Int):=by omega
 have htx:=hxr.text;obtain⟨T,sS⟩:∃ T:Tr,T=⟨aF xs,its⟩:=⟨_,rfl⟩;rw [← sS] at S ⊢
 have AZ:=O sS;clear sS;have HRR:=O hR;clear hR;go_in
 go_wp2_with fail;refine (Nv x.1.kind x.1.text x.1.n x.1.at_ Ak q ck _).mono ?_;rintro e w2⟨nm,lo,hi,W,ns,cs,is,rfl,hb2,hs⟩;have HT2:=O (show bf w2 w.heap.size 32 #[.slice (some ⟨b,o,none⟩) n c,.slice B m d] from bf.below (by repeat (first|(with_reducible exact bf.new _ _ _)|(with_reducible refine bf.alloc ?_ _))) hb2 (by first | omega|(simp;done)|(simp;omega)));have zG:=O (show bf w2 (w.heap.size+1) 50 #[.int .u8 x.1.kind,.string (aH x.1.text),.int .i64 x.1.n,.slice Ak q ck,.int .i64 x.1.at_] from bf.below (by repeat (first|(with_reducible exact u_ (by simp))|(with_reducible refine bf.alloc ?_ _))) hb2 (by first | omega|(simp;done)|(simp;omega)));have g:=O (show Below w.heap.size w w2 from Below.trans (by repeat (first|(with_reducible exact Below.refl _ _)|(with_reducible refine aG ?_ ?_) | omega|(simp;done)|(simp;omega))) (hb2.mono (by first | omega|(simp;done)|(simp;omega))));clear hb2;have t0:=HT2.o.cell 0;have U:=zG.o.cell 0;have n1:=zG.o.cell 1;have V:=zG.o.cell 2;have n3:=zG.o.cell 3;have n4:=zG.o.cell 4;have hl2:=zG.o.lt;have hl1:w.heap.size < w2.heap.size:=by omega
 rcases hsh:Mist.shapeOf x.1.kind x.1.n with _ | s
 ·rw [hsh] at hs
  subst hs;have L:=O (Li (T:=T) (i:=i) (by rw [S.o];exact hsh));clear hsh;go_wp2_with fail;go_ret;exact⟨bM L.o.symm,aG g.o g.o.size⟩
 ·rw [hsh] at hs
  obtain⟨rfl,rfl,rfl,rfl,rfl,hcs,hps⟩:=hs;have L:=O (Lj (T:=T) (i:=i) (by rw [S.o];exact hsh));have OL:=O hsh;have HPS:=O hps;clear hsh hps;obtain⟨named,lo,hi,ps⟩:=s;simp only at L HPS hcs ⊢
  cases hw:Mist.within x.1.at_ 0 2000
  ·have M:=O hw;clear hw;have Oz:=O (show Mist.formed T i=false by rw [L.o,S.o,M.o];rfl);go_wp2_with fail;refine (eD _ 0 2000 false M.o _).mono ?_;rintro e r⟨rfl,rfl⟩;go_wp2_with fail;go_ret;exact⟨bM Oz.o.symm,aG g.o g.o.size⟩
  ·have M:=O hw;clear hw
   cases hem:x.1.text.isEmpty
   ·have F:=O hem;cases named
    ·have Oz:=O (show Mist.formed T i=false by rw [L.o,S.o,M.o,F.o];rfl);go_wp2_with fail;refine (eD _ 0 2000 true M.o _).mono ?_;rintro e r⟨rfl,rfl⟩;go_wp2_with fail;go_ret;exact⟨bM Oz.o.symm,aG g.o g.o.size⟩
    ·cases hnm:Mist.isName x.1.text
     ·have Z:=O hnm;clear hnm;have Oz:=O (show Mist.formed T i=false by rw [L.o,S.o,M.o,F.o,Z.o];rfl);go_wp2_with fail;refine (eD _ 0 2000 true M.o _).mono ?_;rintro e r⟨rfl,rfl⟩;go_wp2_with fail;refine (D7 x.1.text _ ((HE.o.below g.o).alloc _) htx).mono ?_;rintro e r⟨rfl,R⟩;rw [Z.o];go_wp2_with fail;go_ret;exact⟨bM Oz.o.symm,(aG g.o g.o.size).trans (R.mono (by simp;have:=g.o.size;omega))⟩
     ·have Z:=O hnm;clear hnm;go_wp2_with fail;refine (eD _ 0 2000 true M.o _).mono ?_;rintro e r⟨rfl,rfl⟩;go_wp2_with fail;refine (D7 x.1.text _ ((HE.o.below g.o).alloc _) htx).mono ?_;rintro e r⟨rfl,R⟩;rw [Z.o];have Tw:=(HT2.o.alloc (.cells #[.bool true,.int .i64 lo,.int .i64 hi,.slice W ps.length cs] 150)).below R (by simp;omega);have OC:=(zG.o.alloc (.cells #[.bool true,.int .i64 lo,.int .i64 hi,.slice W ps.length cs] 150)).below R (by simp;omega);have Tv:=gW R;have Tj:=(aG g.o g.o.size).trans (R.mono (by simp;have:=g.o.size;omega));have Tn:=(HPS.o.below (aG (Below.refl _ _) (ak0 _) (o:=.cells #[.bool true,.int .i64 lo,.int .i64 hi,.slice W ps.length cs] 150))).below R;clear R;have m3:=OC.cell 3;go_wp2_with fail;have HT3:=O (show bf r w.heap.size 32 #[.slice (some ⟨b,o,none⟩) n c,.slice B m d] from Tw);have HN3:=O (show bf r (w.heap.size+1) 50 #[.int .u8 x.1.kind,.string (aH x.1.text),.int .i64 x.1.n,.slice Ak q ck,.int .i64 x.1.at_] from OC);have Ru:=O (show bf r w2.heap.size 150 #[.bool true,.int .i64 lo,.int .i64 hi,.slice W ps.length cs] from Tv);have k:=O (show Below w.heap.size w r from Tj);have HP3:=O (show dR r W ps from Tn);clear Tw OC Tv Tj Tn m3 t0 U n1 V n3 n4 HT2 zG g HPS;have hs3:=Ru.o.lt;obtain⟨pn,hpn⟩:∃ pn,pn=ps.length:=⟨_,rfl⟩;rw [← hpn] at Ru hcs ⊢
      have HPN:=O hpn;clear hpn;go_loopw [8,50] (fun v j wr=>∃ (f:Nat),f≤q∧j=.int .i64 f∧wr.ownsRow r.heap.size 5 1 v f (jO (kinds T (x.1.kids.take f)))∧Hid ((x.1.kids.take f).all (Mist.within · 0 ((i:Int) - 1))=true)∧Hid (Below r.heap.size r wr)) (fun _ j _=>q - (intOf j).toNat)
      case atStart=>exact⟨0,ak2 _,rfl,World.ownsRow_nil _ _ _ _,O rfl,O (Below.refl _ _)⟩
      case round =>
       obtain⟨wo,rfl⟩:∃ wo:World,wo=wr:=⟨_,rfl⟩;obtain⟨f,hj,rfl,E,NY,l⟩:=hrel;obtain⟨Av,cv,rfl⟩:=d_ E;have t:=O E;clear E;have zH:=O (HT3.o.below l.o (by omega));have Tm:=O (HN3.o.below l.o (by omega));have Q:=O (Ru.o.below l.o (by omega));have hso:=l.o.size;have t0:=zH.o.cell 0;by_cases hjl:f < q
       case pos =>
        obtain⟨kq,hkq⟩:∃ kq,x.1.kids[f]? = some kq:=⟨_,akU (by rw [← FQ.o];exact hjl)⟩;obtain⟨bk,ok,rfl,hbk,hck⟩:=FT.o.ex (by rw [← FQ.o];omega);have cj:=((k.o.trans (l.o.mono k.o.size)).cell (p:=⟨bk,ok+f,none⟩) hbk).trans (hck f kq hkq);have Ti:=O hkq;clear hck hkq;have j0:(0:Int)≤(f:Int):=by omega
        have j1:(f:Int) < (q:Int):=by omega
        have j2:decide ((f:Int) < (q:Int))=true:=ak' j1;have j3:decide (f < q)=true:=ak' hjl
        cases hq:Mist.within kq 0 ((i:Int) - 1)
        ·have HQ:=O hq;clear hq
         have Oz:=O (show Mist.formed T i=false by
          have h9:x.1.kids.all (Mist.within · 0 ((i:Int) - 1))=false:=by
           rw [List.all_eq_false];exact⟨kq,ak3 Ti.o,by rw [HQ.o];simp⟩
          rw [L.o,S.o,h9];simp)
         go_wp2_with fail;refine (eD _ 0 _ false HQ.o _).mono ?_;rintro e w4⟨rfl,rfl⟩;go_wp2_with fail;go_ret;exact⟨bM Oz.o.symm,k.o.trans (l.o.mono k.o.size)⟩
        ·have hq2:0≤kq∧kq≤(i:Int) - 1:=by simpa [Mist.within] using hq
         have HQ:=O hq;clear hq;obtain⟨H,rfl⟩:∃ H:Nat,kq=(H:Int):=⟨kq.toNat,by omega⟩;obtain⟨xk,G⟩:∃ xk,xs[H]? = some xk:=lF (by rw [← uq.o];omega);have ckn:=((k.o.trans (l.o.mono k.o.size)).cell (p:=⟨b,o+H * 5,none⟩) hbl).trans (HN.o.c0 H xk G);have Tg:=O (show (nd T H).kind=xk.1.kind by rw [AZ.o,bI its G]);clear G;have k0:(0:Int)≤(H:Int):=by omega
         have k1:(H:Int) < (n:Int):=by omega
         obtain⟨kk,hkk⟩:∃ kk,kk=xk.1.kind:=⟨_,rfl⟩;rw [← hkk] at ckn Tg
         clear hkk;have HIN:=O (show x.1.kids.take (f+1)=x.1.kids.take f ++ [(H:Int)] by rw [List.take_add_one,Ti.o];rfl);obtain⟨i0,hi0,hz0,hz1,hz2⟩:=info_parts S_;go_wp2_with fail;refine (eD _ 0 _ true HQ.o _).mono ?_;rintro e w4⟨rfl,rfl⟩
         go_wp2_with (at_builtin
                      refine wpList_append_lies _ rfl (.tmp 59) (.tmp 66) 60 rfl r.heap.size 5 i0 _ 1 1 Tryz.underlying60 hi0 hz0 hz1 hz2 rfl (by decide) _ f (jO (kinds T (x.1.kids.take f))) rfl
                        (t.o.alloc _) ⟨wo.heap.size,0,none⟩ 1 1 [.int .u8 (kk:Int)] rfl rfl (iD _ _ _) (by intro u hu;simp at hu;subst hu;rfl) (by omega) (by simp only [maxLen];omega) (by omega) (by simp;omega) (wo.heap.size+1) (by simp) ?_
                      intro gg cap w5 hown2 hg5 ab' hgl)
         refine⟨⟨f+1,by omega,by go_num,?_,O ?_,O ?_⟩,by simp [intOf];omega⟩
         ·rw [HIN.o]
          have h9:jO (kinds T (x.1.kids.take f ++ [(H:Int)]))=jO (kinds T (x.1.kids.take f)) ++ [.int .u8 (kk:Int)]:=by
           simp [jO,kinds,Tg.o]
          rw [h9];exact hown2
         ·rw [HIN.o,List.all_append,NY.o];simp [HQ.o]
         ·exact (aG l.o l.o.size).grown hg5 (by simp;omega) (fun b hb=>(t.o.lt b hb).1)
       case neg =>
        have Y:=O (show f=q by omega);have vK:=O (show x.1.kids.all (Mist.within · 0 ((i:Int) - 1))=true by have h9:=NY.o;rwa [Y.o,FQ.o,List.take_length] at h9)
        have HKI:=O (show jH wo Av (kinds T x.1.kids) by
         have h9:=t.o;rw [Y.o,FQ.o,List.take_length] at h9
         exact Hz h9 (by simp [kinds]))
        have HKC:=O (show q≤cv by
         have h9:=Sr t.o;omega)
        have Ke:=O (show (kinds T x.1.kids).length=q by simp [kinds,FQ.o]);have hjn:f=q:=Y.o;subst hjn;clear t0 hj hjl t NY;have U:=Tm.o.cell 0;have V:=Tm.o.cell 2;have s0:=Q.o.cell 0;have s1:=Q.o.cell 1;have s2:=Q.o.cell 2;have s3:=Q.o.cell 3;have C:=Tm.o.lt;have D:=Q.o.lt;have hlo3:w.heap.size < wo.heap.size:=by omega
        have j2:decide ((f:Int) < (f:Int))=false:=ala (by omega);have I:=O (GX true lo hi ps W pn cs HPN.o (kinds T x.1.kids) f Ke.o Av cv wo (HP3.o.below l.o) hcs (BK OL.o) HKI.o hxl HKC.o)
        cases h:Mist.fits ps (kinds T x.1.kids)
        ·have J:=O h;clear h;have Oz:=O (show Mist.formed T i=false by rw [L.o,S.o,J.o];simp);go_wp2_with fail;refine I.o.mono ?_;rintro e w6⟨rfl,a⟩;rw [J.o];go_wp2_with fail;go_ret;exact⟨bM Oz.o.symm,(k.o.trans (l.o.mono k.o.size)).trans (a.mono (by omega))⟩
        ·have J:=O h;clear h
         cases K:Mist.within x.1.n lo hi
         ·have X:=O K;clear K;by_cases y:x.1.kind=1
          ·have e1:((x.1.kind:Int) == 1)=true:=by rw [y];rfl
           have Dh:=O y;clear y
           cases hw9:Mist.within x.1.n (-9999) (-1)
           all_goals
            have HW9:=O hw9;clear hw9;go_wp2_with fail;refine I.o.mono ?_;rintro e w6⟨rfl,a⟩;rw [J.o];have dO:=O ((k.o.trans (l.o.mono k.o.size)).trans (a.mono (by omega)));have N:=O (Tm.o.below a C);have P:=O (Q.o.below a D);clear a U V s0 s1 s2 s3;have U:=N.o.cell 0;have V:=N.o.cell 2;have s1:=P.o.cell 1;have s2:=P.o.cell 2;go_wp2_with fail;refine (eD x.1.n lo hi false X.o _).mono ?_;rintro e w7⟨rfl,rfl⟩;go_wp2_with fail;refine (eD x.1.n (-9999) (-1) _ HW9.o _).mono ?_;rintro e w7⟨rfl,rfl⟩;go_wp2_with fail;go_ret
            refine⟨bM ?_,dO.o⟩
            rw [L.o,S.o,J.o,X.o,HW9.o,Dh.o,M.o,vK.o,F.o,Z.o];rfl
          ·have e1:((x.1.kind:Int) == 1)=false:=by rw [akW];omega
           have Dh:=O (show (x.1.kind == 1)=false by simpa using y);clear y;go_wp2_with fail;refine I.o.mono ?_;rintro e w6⟨rfl,a⟩;rw [J.o];have dO:=O ((k.o.trans (l.o.mono k.o.size)).trans (a.mono (by omega)));have N:=O (Tm.o.below a C);have P:=O (Q.o.below a D);clear a U V s0 s1 s2 s3;have U:=N.o.cell 0;have V:=N.o.cell 2;have s1:=P.o.cell 1;have s2:=P.o.cell 2;go_wp2_with fail;refine (eD x.1.n lo hi false X.o _).mono ?_;rintro e w7⟨rfl,rfl⟩;go_wp2_with fail;go_ret
           refine⟨bM ?_,dO.o⟩
           rw [L.o,S.o,J.o,X.o,Dh.o,M.o,vK.o,F.o,Z.o];rfl
         ·have X:=O K;clear K;go_wp2_with fail;refine I.o.mono ?_;rintro e w6⟨rfl,a⟩;rw [J.o];have dO:=O ((k.o.trans (l.o.mono k.o.size)).trans (a.mono (by omega)));have N:=O (Tm.o.below a C);have P:=O (Q.o.below a D);clear a U V s0 s1 s2 s3;have U:=N.o.cell 0;have V:=N.o.cell 2;have s1:=P.o.cell 1;have s2:=P.o.cell 2;go_wp2_with fail;refine (eD x.1.n lo hi true X.o _).mono ?_;rintro e w7⟨rfl,rfl⟩;go_wp2_with fail;go_ret
          refine⟨bM ?_,dO.o⟩
          rw [L.o,S.o,J.o,X.o,M.o,vK.o,F.o,Z.o];rfl
   ·have F:=O hem;cases named
    ·have Tw:=HT2.o.alloc (.cells #[.bool false,.int .i64 lo,.int .i64 hi,.slice W ps.length cs] 150);have OC:=zG.o.alloc (.cells #[.bool false,.int .i64 lo,.int .i64 hi,.slice W ps.length cs] 150);have Tv:=bf.new w2 150 #[.bool false,.int .i64 lo,.int .i64 hi,.slice W ps.length cs];have Tj:=aG g.o g.o.size (o:=.cells #[.bool false,.int .i64 lo,.int .i64 hi,.slice W ps.length cs] 150);have Tn:=HPS.o.below (aG (Below.refl _ _) (ak0 _) (o:=.cells #[.bool false,.int .i64 lo,.int .i64 hi,.slice W ps.length cs] 150));go_wp2_with fail;refine (eD _ 0 2000 true M.o _).mono ?_;rintro e r⟨rfl,rfl⟩;go_wp2_with fail
     generalize w2.alloc (.cells #[.bool false,.int .i64 lo,.int .i64 hi,.slice W ps.length cs] 150)=r at Tw OC Tv Tj Tn ⊢
     have HT3:=O (show bf r w.heap.size 32 #[.slice (some ⟨b,o,none⟩) n c,.slice B m d] from Tw);have HN3:=O (show bf r (w.heap.size+1) 50 #[.int .u8 x.1.kind,.string (aH x.1.text),.int .i64 x.1.n,.slice Ak q ck,.int .i64 x.1.at_] from OC);have Ru:=O (show bf r w2.heap.size 150 #[.bool false,.int .i64 lo,.int .i64 hi,.slice W ps.length cs] from Tv);have k:=O (show Below w.heap.size w r from Tj);have HP3:=O (show dR r W ps from Tn);clear Tw OC Tv Tj Tn t0 U n1 V n3 n4 HT2 zG g HPS;have hs3:=Ru.o.lt;obtain⟨pn,hpn⟩:∃ pn,pn=ps.length:=⟨_,rfl⟩;rw [← hpn] at Ru hcs ⊢
     have HPN:=O hpn;clear hpn;go_loopw [8,50] (fun v j wr=>∃ (f:Nat),f≤q∧j=.int .i64 f∧wr.ownsRow r.heap.size 5 1 v f (jO (kinds T (x.1.kids.take f)))∧Hid ((x.1.kids.take f).all (Mist.within · 0 ((i:Int) - 1))=true)∧Hid (Below r.heap.size r wr)) (fun _ j _=>q - (intOf j).toNat)
     case atStart=>exact⟨0,ak2 _,rfl,World.ownsRow_nil _ _ _ _,O rfl,O (Below.refl _ _)⟩
     case round =>
      obtain⟨wo,rfl⟩:∃ wo:World,wo=wr:=⟨_,rfl⟩;obtain⟨f,hj,rfl,E,NY,l⟩:=hrel;obtain⟨Av,cv,rfl⟩:=d_ E;have t:=O E;clear E;have zH:=O (HT3.o.below l.o (by omega));have Tm:=O (HN3.o.below l.o (by omega));have Q:=O (Ru.o.below l.o (by omega));have hso:=l.o.size;have t0:=zH.o.cell 0;by_cases hjl:f < q
      case pos =>
       obtain⟨kq,hkq⟩:∃ kq,x.1.kids[f]? = some kq:=⟨_,akU (by rw [← FQ.o];exact hjl)⟩;obtain⟨bk,ok,rfl,hbk,hck⟩:=FT.o.ex (by rw [← FQ.o];omega);have cj:=((k.o.trans (l.o.mono k.o.size)).cell (p:=⟨bk,ok+f,none⟩) hbk).trans (hck f kq hkq);have Ti:=O hkq;clear hck hkq;have j0:(0:Int)≤(f:Int):=by omega
       have j1:(f:Int) < (q:Int):=by omega
       have j2:decide ((f:Int) < (q:Int))=true:=ak' j1;have j3:decide (f < q)=true:=ak' hjl
       cases hq:Mist.within kq 0 ((i:Int) - 1)
       ·have HQ:=O hq;clear hq
        have Oz:=O (show Mist.formed T i=false by
         have h9:x.1.kids.all (Mist.within · 0 ((i:Int) - 1))=false:=by
          rw [List.all_eq_false];exact⟨kq,ak3 Ti.o,by rw [HQ.o];simp⟩
         rw [L.o,S.o,h9];simp)
        go_wp2_with fail;refine (eD _ 0 _ false HQ.o _).mono ?_;rintro e w4⟨rfl,rfl⟩;go_wp2_with fail;go_ret;exact⟨bM Oz.o.symm,k.o.trans (l.o.mono k.o.size)⟩
       ·have hq2:0≤kq∧kq≤(i:Int) - 1:=by simpa [Mist.within] using hq
        have HQ:=O hq;clear hq;obtain⟨H,rfl⟩:∃ H:Nat,kq=(H:Int):=⟨kq.toNat,by omega⟩;obtain⟨xk,G⟩:∃ xk,xs[H]? = some xk:=lF (by rw [← uq.o];omega);have ckn:=((k.o.trans (l.o.mono k.o.size)).cell (p:=⟨b,o+H * 5,none⟩) hbl).trans (HN.o.c0 H xk G);have Tg:=O (show (nd T H).kind=xk.1.kind by rw [AZ.o,bI its G]);clear G;have k0:(0:Int)≤(H:Int):=by omega
        have k1:(H:Int) < (n:Int):=by omega
        obtain⟨kk,hkk⟩:∃ kk,kk=xk.1.kind:=⟨_,rfl⟩;rw [← hkk] at ckn Tg
        clear hkk;have HIN:=O (show x.1.kids.take (f+1)=x.1.kids.take f ++ [(H:Int)] by rw [List.take_add_one,Ti.o];rfl);obtain⟨i0,hi0,hz0,hz1,hz2⟩:=info_parts S_;go_wp2_with fail;refine (eD _ 0 _ true HQ.o _).mono ?_;rintro e w4⟨rfl,rfl⟩
        go_wp2_with (at_builtin
                     refine wpList_append_lies _ rfl (.tmp 59) (.tmp 66) 60 rfl r.heap.size 5 i0 _ 1 1 Tryz.underlying60 hi0 hz0 hz1 hz2 rfl (by decide) _ f (jO (kinds T (x.1.kids.take f))) rfl
                       (t.o.alloc _) ⟨wo.heap.size,0,none⟩ 1 1 [.int .u8 (kk:Int)] rfl rfl (iD _ _ _) (by intro u hu;simp at hu;subst hu;rfl) (by omega) (by simp only [maxLen];omega) (by omega) (by simp;omega) (wo.heap.size+1) (by simp) ?_
                     intro gg cap w5 hown2 hg5 ab' hgl)
        refine⟨⟨f+1,by omega,by go_num,?_,O ?_,O ?_⟩,by simp [intOf];omega⟩
        ·rw [HIN.o]
         have h9:jO (kinds T (x.1.kids.take f ++ [(H:Int)]))=jO (kinds T (x.1.kids.take f)) ++ [.int .u8 (kk:Int)]:=by
          simp [jO,kinds,Tg.o]
         rw [h9];exact hown2
        ·rw [HIN.o,List.all_append,NY.o];simp [HQ.o]
        ·exact (aG l.o l.o.size).grown hg5 (by simp;omega) (fun b hb=>(t.o.lt b hb).1)
      case neg =>
       have Y:=O (show f=q by omega);have vK:=O (show x.1.kids.all (Mist.within · 0 ((i:Int) - 1))=true by have h9:=NY.o;rwa [Y.o,FQ.o,List.take_length] at h9)
       have HKI:=O (show jH wo Av (kinds T x.1.kids) by
        have h9:=t.o;rw [Y.o,FQ.o,List.take_length] at h9
        exact Hz h9 (by simp [kinds]))
       have HKC:=O (show q≤cv by
        have h9:=Sr t.o;omega)
       have Ke:=O (show (kinds T x.1.kids).length=q by simp [kinds,FQ.o]);have hjn:f=q:=Y.o;subst hjn;clear t0 hj hjl t NY;have U:=Tm.o.cell 0;have V:=Tm.o.cell 2;have s0:=Q.o.cell 0;have s1:=Q.o.cell 1;have s2:=Q.o.cell 2;have s3:=Q.o.cell 3;have C:=Tm.o.lt;have D:=Q.o.lt;have hlo3:w.heap.size < wo.heap.size:=by omega
       have j2:decide ((f:Int) < (f:Int))=false:=ala (by omega);have I:=O (GX false lo hi ps W pn cs HPN.o (kinds T x.1.kids) f Ke.o Av cv wo (HP3.o.below l.o) hcs (BK OL.o) HKI.o hxl HKC.o)
       cases h:Mist.fits ps (kinds T x.1.kids)
       ·have J:=O h;clear h;have Oz:=O (show Mist.formed T i=false by rw [L.o,S.o,J.o];simp);go_wp2_with fail;refine I.o.mono ?_;rintro e w6⟨rfl,a⟩;rw [J.o];go_wp2_with fail;go_ret;exact⟨bM Oz.o.symm,(k.o.trans (l.o.mono k.o.size)).trans (a.mono (by omega))⟩
       ·have J:=O h;clear h
        cases K:Mist.within x.1.n lo hi
        ·have X:=O K;clear K;by_cases y:x.1.kind=1
         ·have e1:((x.1.kind:Int) == 1)=true:=by rw [y];rfl
          have Dh:=O y;clear y
          cases hw9:Mist.within x.1.n (-9999) (-1)
          all_goals
           have HW9:=O hw9;clear hw9;go_wp2_with fail;refine I.o.mono ?_;rintro e w6⟨rfl,a⟩;rw [J.o];have dO:=O ((k.o.trans (l.o.mono k.o.size)).trans (a.mono (by omega)));have N:=O (Tm.o.below a C);have P:=O (Q.o.below a D);clear a U V s0 s1 s2 s3;have U:=N.o.cell 0;have V:=N.o.cell 2;have s1:=P.o.cell 1;have s2:=P.o.cell 2;go_wp2_with fail;refine (eD x.1.n lo hi false X.o _).mono ?_;rintro e w7⟨rfl,rfl⟩;go_wp2_with fail;refine (eD x.1.n (-9999) (-1) _ HW9.o _).mono ?_;rintro e w7⟨rfl,rfl⟩;go_wp2_with fail;go_ret
           refine⟨bM ?_,dO.o⟩
           rw [L.o,S.o,J.o,X.o,HW9.o,Dh.o,M.o,vK.o,F.o];rfl
         ·have e1:((x.1.kind:Int) == 1)=false:=by rw [akW];omega
          have Dh:=O (show (x.1.kind == 1)=false by simpa using y);clear y;go_wp2_with fail;refine I.o.mono ?_;rintro e w6⟨rfl,a⟩;rw [J.o];have dO:=O ((k.o.trans (l.o.mono k.o.size)).trans (a.mono (by omega)));have N:=O (Tm.o.below a C);have P:=O (Q.o.below a D);clear a U V s0 s1 s2 s3;have U:=N.o.cell 0;have V:=N.o.cell 2;have s1:=P.o.cell 1;have s2:=P.o.cell 2;go_wp2_with fail;refine (eD x.1.n lo hi false X.o _).mono ?_;rintro e w7⟨rfl,rfl⟩;go_wp2_with fail;go_ret
          refine⟨bM ?_,dO.o⟩
          rw [L.o,S.o,J.o,X.o,Dh.o,M.o,vK.o,F.o];rfl
        ·have X:=O K;clear K;go_wp2_with fail;refine I.o.mono ?_;rintro e w6⟨rfl,a⟩;rw [J.o];have dO:=O ((k.o.trans (l.o.mono k.o.size)).trans (a.mono (by omega)));have N:=O (Tm.o.below a C);have P:=O (Q.o.below a D);clear a U V s0 s1 s2 s3;have U:=N.o.cell 0;have V:=N.o.cell 2;have s1:=P.o.cell 1;have s2:=P.o.cell 2;go_wp2_with fail;refine (eD x.1.n lo hi true X.o _).mono ?_;rintro e w7⟨rfl,rfl⟩;go_wp2_with fail;go_ret
         refine⟨bM ?_,dO.o⟩
         rw [L.o,S.o,J.o,X.o,M.o,vK.o,F.o];rfl
    ·have Oz:=O (show Mist.formed T i=false by rw [L.o,S.o,M.o,F.o];rfl);go_wp2_with fail;refine (eD _ 0 2000 true M.o _).mono ?_;rintro e r⟨rfl,rfl⟩;go_wp2_with fail;go_ret;exact⟨bM Oz.o.symm,aG g.o g.o.size⟩
end
section
open Go.RowKit Mist
theorem NQ {T:Tr}{f i:Nat}{root:Bool}{next x:Nat}(h:Mist.walk T f i root next=some x):x=i+1:=by
 cases f with
 | zero=>cases h
 | succ f =>
  unfold Mist.walk at h
  split at h
  ·cases h
  ·split at h
   ·split at h
    ·have:=ak6 h;omega
    ·cases h
   ·cases h
theorem WC {T:Tr}{f i:Nat}{root:Bool}{next:Nat}(h:(nd T i).kids.foldl (fun (o:Option Nat) c=>o.bind fun x=>Mist.walk T f c.toNat false x) (some next)=none):Mist.walk T (f+1) i root next=none:=by
 unfold Mist.walk;rw [h]
theorem ac_ {T:Tr}{f i:Nat}{root:Bool}{next y:Nat}(h:(nd T i).kids.foldl (fun (o:Option Nat) c=>o.bind fun x=>Mist.walk T f c.toNat false x) (some next)=some y):Mist.walk T (f+1) i root next=if i=y then (if fM (nd T i).kind=root then some (y+1) else none) else none:=by
 rw [Mist.walk];rw [h]
structure sO (w0:World) (w:World) (tb nb wb:Nat) (tv iv:Value) (next:Int):Prop where
 tree:bf w tb 32 #[tv,iv]
 self:bf w wb 137 #[.func (.func 135) #[] #[.pointer (some ⟨tb,0,none⟩),.pointer (some ⟨wb,0,none⟩),.pointer (some ⟨nb,0,none⟩)]]
 next:bf w nb 3 #[.int .i64 next]
 low:Below w0.heap.size w0 w
 nb:w0.heap.size≤nb
theorem sO.mv {w0 w d:World}{tb c f:Nat}{tv iv:Value}{next a:Int}(h:sO w0 w tb c f tv iv next)(m:Mv c none w none d)(g:bf d c 3 #[.int .i64 a]):sO w0 d tb c f tv iv a :=
 ⟨m.blk h.tree (h.tree.ne_ h.next (by decide)) (by simp),m.blk h.self (h.self.ne_ h.next (by decide)) (by simp),g,h.low.trans (m.below h.next.lt h.nb (fun b e=>nomatch e)),h.nb⟩
def Yv (r:Option Nat)(nb:Nat)(w:World)(e:Ending)(w':World):Prop :=
 Mv nb none w none w'∧match r with
  | some x=>e=.returned (.bool true)∧bf w' nb 3 #[.int .i64 (x:Int)]
  | none=>e=.returned (.bool false)∧∃ y,bf w' nb 3 #[.int .i64 y]
theorem abq (xs:List NV)(H:List Int)(b o c m d n:Nat)(B:Option Addr)(w0:World)(hN:rU w0 b o xs)(V:n=xs.length)(hn:n≤100000)(hK:∀ (i:Nat) x,xs[i]? = some x→∀ k ∈ x.1.kids,0≤k∧k≤(i:Int) - 1)(hR:Dt (aF xs))(tb J wb:Nat) :
  ∀ (f i:Nat) (L:Int) (root:Bool) (next:Nat) (w:World),i < n→i < f→1≤L→L+i≤200000→(L == 1)=root→next≤1000000→sO w0 w tb J wb (.slice (some ⟨b,o,none⟩) n c) (.slice B m d) (next:Int) →
  Calls Tryz.prog 135 #[.int .i64 (i:Int),.int .i64 L,.pointer (some ⟨tb,0,none⟩),.pointer (some ⟨wb,0,none⟩),.pointer (some ⟨J,0,none⟩)] w (Yv (Mist.walk ⟨aF xs,H⟩ f i root next) J w):=by
 obtain⟨T,hT⟩:∃ T:Tr,T=⟨aF xs,H⟩:=⟨_,rfl⟩;rw [← hT];have uq:=O V;clear V;have K:=O hN;clear hN;have HKK:=O hK;clear hK;have AZ:=O hT;clear hT;have HRR:=O hR;clear hR;intro f
 induction f with
 | zero=>intro i _ _ _ _ _ h;omega
 | succ f ih =>
  have IH:=O ih;clear ih;intro i L root next w hi hif hd1 hd2 t hnx hm;have I4:=O t;clear t;have HM:=O hm;have t0:=hm.tree.cell 0;clear hm;obtain⟨x,W⟩:∃ x,xs[i]? = some x:=lF (by rw [← uq.o];exact hi);have zy:=O (show nd T i=x.1 by rw [AZ.o];exact bI H W);obtain⟨Ak,ck,X,hxl,Y⟩:=K.o.kid W;have c3:=(HM.o.low.cell (p:=⟨b,o+i * 5+3,none⟩) K.o.lt).trans (K.o.c3 i x W);rw [X] at c3
  have FT:=O Y;have HX:=O W;clear Y W X;obtain⟨D,G⟩:∃ D,D=x.1.kids.length:=⟨_,rfl⟩;rw [← G] at c3 hxl
  have Z:=O G;clear G;have i1:(0:Int)≤(i:Int):=by omega
  have i2:(i:Int) < (n:Int):=by omega
  go_in
  go_wp2_with fail;go_loopw [17] (fun j wr=>∃ (l y:Nat),l≤D∧j=.int .i64 l∧y≤1000000∧Hid (sO w0 wr tb J wb (.slice (some ⟨b,o,none⟩) n c) (.slice B m d) (y:Int))∧Hid (Mv J none w none wr)∧Hid ((x.1.kids.drop l).foldl (fun (o:Option Nat) c=>o.bind fun x=>Mist.walk T f c.toNat false x) (some y)=x.1.kids.foldl (fun (o:Option Nat) c=>o.bind fun x=>Mist.walk T f c.toNat false x) (some next))) (fun j _=>D - (intOf j).toNat)
  case atStart=>exact⟨0,next,ak2 _,rfl,hnx,HM,O Mv.refl,O rfl⟩
  case round =>
   obtain⟨wo,rfl⟩:∃ wo:World,wo=wr:=⟨_,rfl⟩;obtain⟨l,y,hj,rfl,hy,g,v,E⟩:=hrel;have s0:=g.o.self.cell 0;by_cases A:l < D
   ·obtain⟨kq,C⟩:∃ kq,x.1.kids[l]? = some kq:=⟨_,akU (by rw [← Z.o];exact A)⟩;have hkb:=HKK.o i x HX.o kq (ak3 C);obtain⟨I,rfl⟩:∃ I:Nat,kq=(I:Int):=⟨kq.toNat,by omega⟩;obtain⟨bk,ok,rfl,hbk,S⟩:=FT.o.ex (by rw [← Z.o];omega);have cj:=(g.o.low.cell (p:=⟨bk,ok+l,none⟩) hbk).trans (S l I C)
    have N:=O (show x.1.kids.drop l=(I:Int) :: x.1.kids.drop (l+1) by
     rw [alc (by rw [← Z.o];exact A),(akV.1 C).2])
    clear S C;have j0:(0:Int)≤(l:Int):=by omega
    have j1:(l:Int) < (D:Int):=by omega
    have j2:decide (l < D)=true:=ak' A;have HC:=O (IH.o I (L+1) false y wo (by omega) (by omega) (by omega) (by omega) (by rw [akW];omega) hy g.o)
    have P:=O (show (x.1.kids.drop (l+1)).foldl (fun (o:Option Nat) c=>o.bind fun x=>Mist.walk T f c.toNat false x) (Mist.walk T f I false y)=x.1.kids.foldl (fun (o:Option Nat) c=>o.bind fun x=>Mist.walk T f c.toNat false x) (some next) by
     have h9:=E.o;rw [N.o,List.foldl_cons,Option.bind_some,ak7] at h9
     exact h9)
    clear E N;go_wp2_with fail;refine HC.o.mono ?_;rintro e w2⟨r,a⟩
    cases q:Mist.walk T f I false y with
    | none =>
     rw [q] at a
     obtain⟨rfl,z,M⟩:=a
     have HST:=O (show Mist.walk T (f+1) i root next=none from WC (by
      rw [zy.o,← P.o,q];exact tF (fun x c=>Mist.walk T f c.toNat false x) _))
     have HZ:=O M;have F:=O (v.o.trans r);clear q M r;go_wp2_with fail;go_ret
     refine⟨F.o,?_⟩
     rw [HST.o];exact⟨rfl,z,HZ.o⟩
    | some z =>
     rw [q] at a
     obtain⟨rfl,M⟩:=a;have hzv:=NQ q;have HZ:=O M;have F:=O (v.o.trans r);have uo:=O (g.o.mv r M);have HF3:=O (by have h9:=P.o;rw [q] at h9;exact h9);have Zw:z≤1000000:=by omega
     clear q M r hzv;go_wp2_with fail;exact⟨⟨l+1,z,by omega,by go_num,Zw,uo,F,HF3⟩,by simp [intOf];omega⟩
   ·have HFE:=O (show x.1.kids.foldl (fun (o:Option Nat) c=>o.bind fun x=>Mist.walk T f c.toNat false x) (some next)=some y by
     rw [← E.o,List.drop_of_length_le (by rw [← Z.o];omega)];rfl)
    have j2:decide (l < D)=false:=ala A;have y0:=g.o.next.cell 0;have yf:=g.o.next.frozen 0;have hyl:=g.o.next.lt;have t0':=g.o.tree.cell 0;have c0:=(g.o.low.cell (p:=⟨b,o+i * 5,none⟩) K.o.lt).trans (K.o.c0 i x HX.o);have HW:=O (ac_ (root:=root) (by rw [zy.o];exact HFE.o));by_cases U:i=y
    ·subst U;have e1:((i:Int) != (i:Int))=false:=by simp
     have HW2:=O (show Mist.walk T (f+1) i root next=if fM x.1.kind=root then some (i+1) else none by rw [HW.o,if_pos rfl,zy.o]);have ahi:=O (v.o.ab6 (i:=0) (u:=.int .i64 ((i:Int)+1)));have R:=O (g.o.next.g_ 0 (.int .i64 ((i:Int)+1)));have hb1:=K.o.lt;have hlow:=g.o.low.size;have hnb:=g.o.nb;have hne:b ≠ J:=by omega
     have hne2:tb ≠ J:=g.o.tree.ne_ g.o.next (by decide);have htl:=g.o.tree.lt;clear HW
     cases hr:fM x.1.kind
     all_goals
      have Q:=O hr;clear hr;cases root
      all_goals
       have d1:=I4.o;go_wp2_with fail;refine (aci x.1.kind _ Q.o _).mono ?_;rintro e w2⟨rfl,rfl⟩;go_wp2_with fail;go_ret
       refine⟨ahi.o,?_⟩
       rw [HW2.o,Q.o]
       first
       | exact⟨rfl,by have h9:=R.o;simpa using h9⟩
       | exact⟨rfl,_,R.o⟩
    ·have e1:((i:Int) != (y:Int))=true:=by rw [bne_iff_ne];omega
     go_wp2_with fail;go_ret
     refine⟨v.o,?_⟩
     rw [HW.o,if_neg U];exact⟨rfl,_,g.o.next⟩
def mR (T:Tr)(o:Option Nat)(i:Int):Option Nat:=o.bind fun x=>if Mist.within i x ((T.nodes.length:Int) - 1)=true then Mist.walk T (i.toNat+1) i.toNat true x else none
theorem EM (T:Tr):∀ l:List Int,l.foldl (mR T) none=none
 | []=>rfl
 | _ :: r=>EM T r
theorem JH {T:Tr}{y:Nat}(h:T.items.foldl (mR T) (some 0)=some y):Mist.ordered T=(y == T.nodes.length):=by
 unfold Mist.ordered;unfold mR at h
 rw [h]
theorem yO {T:Tr}(h:T.items.foldl (mR T) (some 0)=none):Mist.ordered T=false:=by
 unfold Mist.ordered;unfold mR at h
 rw [h]
theorem Ml (A B:Option Addr)(c d:Nat)(xs:List NV)(a:List Int)(w:World)(hT:rQ w A B xs a)(hR:Dt (aF xs))(hn:xs.length≤100000)(hm:a.length≤1000000)(hK:∀ (i:Nat) x,xs[i]? = some x→∀ k ∈ x.1.kids,0≤k∧k≤(i:Int) - 1) :
  Calls Tryz.prog 91 #[.agg #[.slice A xs.length c,.slice B a.length d]] w fun e w'=>e=.returned (.bool (Mist.ordered ⟨aF xs,a⟩))∧Below w.heap.size w w':=by
 obtain⟨n,u⟩:∃ n,n=xs.length:=⟨_,rfl⟩;obtain⟨m,D⟩:∃ m,m=a.length:=⟨_,rfl⟩;rw [← u] at hn ⊢
 rw [← D] at hm ⊢
 obtain⟨T,P⟩:∃ T:Tr,T=⟨aF xs,a⟩:=⟨_,rfl⟩;rw [← P];have Rv:=O (show T.nodes.length=n by rw [P,u];exact dL xs);have C:=O (show T.items=a by rw [P]);have AZ:=O P;clear P;have uq:=O u;clear u;have Q:=O D;clear D;have HT:=O hT;clear hT;have V:=O hK;clear hK;have W:=O hR;clear hR;go_in
 go_wp2_with fail;have L:=((bf.new w 32 #[.slice A n c,.slice B m d]).alloc (.cells #[.int .i64 0] 3)).alloc (.cells #[.func (.func 135) #[] #[.pointer (some ⟨w.heap.size,0,none⟩),.pointer (some ⟨w.heap.size+1+1,0,none⟩),.pointer (some ⟨w.heap.size+1,0,none⟩)]] 137)
 have E:bf (((w.alloc (.cells #[.slice A n c,.slice B m d] 32)).alloc (.cells #[.int .i64 0] 3)).alloc (.cells #[.func (.func 135) #[] #[.pointer (some ⟨w.heap.size,0,none⟩),.pointer (some ⟨w.heap.size+1+1,0,none⟩),.pointer (some ⟨w.heap.size+1,0,none⟩)]] 137)) (w.heap.size+1) 3 #[.int .i64 0]:=by
  refine bf.alloc ?_ _;have h9:=bf.new (w.alloc (.cells #[.slice A n c,.slice B m d] 32)) 3 #[.int .i64 0]
  rwa [show (w.alloc (.cells #[.slice A n c,.slice B m d] 32)).heap.size=w.heap.size+1 by simp] at h9
 have M:bf (((w.alloc (.cells #[.slice A n c,.slice B m d] 32)).alloc (.cells #[.int .i64 0] 3)).alloc (.cells #[.func (.func 135) #[] #[.pointer (some ⟨w.heap.size,0,none⟩),.pointer (some ⟨w.heap.size+1+1,0,none⟩),.pointer (some ⟨w.heap.size+1,0,none⟩)]] 137)) (w.heap.size+1+1) 137 #[.func (.func 135) #[] #[.pointer (some ⟨w.heap.size,0,none⟩),.pointer (some ⟨w.heap.size+1+1,0,none⟩),.pointer (some ⟨w.heap.size+1,0,none⟩)]]:=by
  have h9:=bf.new ((w.alloc (.cells #[.slice A n c,.slice B m d] 32)).alloc (.cells #[.int .i64 0] 3)) 137 #[.func (.func 135) #[] #[.pointer (some ⟨w.heap.size,0,none⟩),.pointer (some ⟨w.heap.size+1+1,0,none⟩),.pointer (some ⟨w.heap.size+1,0,none⟩)]]
  rwa [show ((w.alloc (.cells #[.slice A n c,.slice B m d] 32)).alloc (.cells #[.int .i64 0] 3)).heap.size=w.heap.size+1+1 by simp] at h9
 have XV:=O (show sO w _ w.heap.size (w.heap.size+1) (w.heap.size+1+1) (.slice A n c) (.slice B m d) ((0:Nat):Int) from ⟨L,M,E,aG (aG (aG (Below.refl _ _) (ak0 _)) (by simp)) (by simp;omega),by omega⟩);clear L E M;go_loopw [11] (fun j wr=>∃ (g y:Nat),g≤m∧j=.int .i64 g∧y≤1000000∧Hid (sO w wr w.heap.size (w.heap.size+1) (w.heap.size+1+1) (.slice A n c) (.slice B m d) (y:Int))∧Hid ((a.drop g).foldl (mR T) (some y)=a.foldl (mR T) (some 0))) (fun j _=>m - (intOf j).toNat)
 case atStart=>exact⟨0,0,ak2 _,rfl,by omega,XV,O rfl⟩
 case round =>
  clear XV;obtain⟨wo,rfl⟩:∃ wo:World,wo=wr:=⟨_,rfl⟩;obtain⟨g,y,hj,rfl,hy,l,S⟩:=hrel;have t0:=l.o.tree.cell 0;have s0:=l.o.self.cell 0;have y0:=l.o.next.cell 0;by_cases r:g < m
  ·obtain⟨q,Y⟩:∃ q,a[g]? = some q:=⟨_,akU (by rw [← Q.o];exact r)⟩;obtain⟨bi,oi,rfl,X,J⟩:=HT.o.items.ex (by rw [← Q.o];omega);have cj:=(l.o.low.cell (p:=⟨bi,oi+g,none⟩) X).trans (J g q Y)
   have F:=O (show a.drop g=q :: a.drop (g+1) by
    rw [alc (by rw [← Q.o];exact r),(akV.1 Y).2])
   have v:=O (show (a.drop (g+1)).foldl (mR T) (if Mist.within q y ((n:Int) - 1)=true then Mist.walk T (q.toNat+1) q.toNat true y else none)=a.foldl (mR T) (some 0) by
    have h9:=S.o;rw [F.o,List.foldl_cons] at h9
    rw [← h9,mR,Option.bind_some,Rv.o])
   clear J Y F S;have j0:(0:Int)≤(g:Int):=by omega
   have j1:(g:Int) < (m:Int):=by omega
   have j2:decide (g < m)=true:=ak' r
   cases K:Mist.within q y ((n:Int) - 1)
   ·have I:=O K;clear K;have H:=O (show Mist.ordered T=false from yO (by rw [C.o,← v.o,I.o,if_neg (by simp)];exact EM T _));go_wp2_with fail;refine (eD q y _ false I.o _).mono ?_;rintro e w2⟨rfl,rfl⟩;go_wp2_with fail;go_ret;exact⟨bM H.o.symm,l.o.low⟩
   ·have E:(y:Int)≤q∧q≤(n:Int) - 1:=by simpa [Mist.within] using K
    have I:=O K;clear K;obtain⟨qn,rfl⟩:∃ qn:Nat,q=(qn:Int):=⟨q.toNat,by omega⟩;obtain⟨b,o,rfl,hN⟩:=HT.o.nodes (by rw [← uq.o];omega);have HC:=O (abq xs a b o c m d n _ w hN uq.o hn V.o W.o w.heap.size (w.heap.size+1) (w.heap.size+1+1) (qn+1) qn 1 true y wo (by omega) (by omega) (by omega) (by omega) rfl hy l.o)
    have G:=O (show (a.drop (g+1)).foldl (mR T) (Mist.walk T (qn+1) qn true y)=a.foldl (mR T) (some 0) by
     have h9:=v.o;rw [I.o,if_pos rfl,ak7] at h9
     exact h9)
    clear hN v;go_wp2_with fail;refine (eD (qn:Int) y _ true I.o _).mono ?_;rintro e w2⟨rfl,rfl⟩;go_wp2_with fail;refine HC.o.mono ?_;rintro e w3⟨t,f⟩;rw [← AZ.o] at f
    cases h:Mist.walk T (qn+1) qn true y with
    | none =>
     rw [h] at f
     obtain⟨rfl,z,N⟩:=f;have H:=O (show Mist.ordered T=false from yO (by rw [C.o,← G.o,h];exact EM T _));have R:=O (l.o.mv t N);clear h N t;go_wp2_with fail;go_ret;exact⟨bM H.o.symm,R.o.low⟩
    | some z =>
     rw [h] at f
     obtain⟨rfl,N⟩:=f;have Z:=NQ h;have R:=O (l.o.mv t N);have U:=O (by have h9:=G.o;rw [h] at h9;exact h9);have Zw:z≤1000000:=by omega
     clear h N t Z;go_wp2_with fail;exact⟨⟨g+1,z,by omega,by go_num,Zw,R,U⟩,by simp [intOf];omega⟩
  ·have H:=O (show Mist.ordered T=(y == n) by
    have h9:=S.o;rw [List.drop_of_length_le (by rw [← Q.o];omega)] at h9
    rw [JH (y:=y) (by rw [C.o];exact h9.symm),Rv.o])
   have j2:decide (g < m)=false:=ala r;go_wp2_with fail;go_ret
   refine⟨bM ?_,l.o.low⟩
   rw [H.o,akZ];simp
   omega
end
