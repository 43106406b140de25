/-
  A part of the proof.
-/
import Derived.Test.YthepmkjggfijoaaGreatDoorSA
import Derived.Test.YthepmkjggfijoaaGreatDoorS06
import Derived.Test.YthepmkjggfijoaaGreatDoorS20
import Derived.Test.YthepmkjggfijoaaGreatDoorS23
import Derived.Test.YthepmkjggfijoaaGreatDoorS25
set_option linter.all false
set_option maxRecDepth 100000
set_option maxHeartbeats 4000000
open Go.Lib (hid)
namespace Go.Proofs.YthepmkjggfijoaaGreatDoor
open Go.RowKit Mist
attribute [local go_sem] aj aH aS aB ak
def ku (ks:List Nat):List Value:=ks.map fun (k:Nat)=>Value.int .u8 (k:Int)
theorem UM:(Tryz.prog.info? 5).map (fun i=>(i.zero,i.size,i.bytes))=some (some (.int .u8 0),1,1):=by kernel_rfl
theorem KG {w:World}{base:Nat}{A:Option Addr}{n c:Nat}{ks:List Nat}(h:w.ownsRow base 5 1 (.slice A n c) n (ku ks))(hn:n=ks.length):jY w A ks:=by
 subst hn
 refine⟨fun h0=>?_⟩
 obtain⟨g,cap,hv,_,hlt⟩:=h.form h0;have hA:A=some ⟨g,0,none⟩:=by injection hv
 subst hA
 refine⟨g,0,rfl,hlt,fun j k hk=>?_⟩
 have:=h.cells (g:=g) rfl j (.int .u8 k) (by simp [ku,hk])
 rw [sj] at this
 exact this
theorem Uv {w:World}{base e sz n c:Nat}{A:Option Addr}{ys:List Value}(h:w.ownsRow base e sz (.slice A n c) n ys):n≤c:=by
 rcases h.2 with ⟨hv,h0⟩ | ⟨g,cap,cur,hv,_,_,hc,_⟩
 ·omega
 ·injection hv with _ _ h3;omega
theorem Km (nm:Bool)(lo hi:Int)(ps:List Part)(A:Option Addr)(pn c:Nat)(hpn:pn=ps.length)(ks:List Nat)(m:Nat)(hm:ks.length=m)(K:Option Addr)(kc:Nat)(w:World)(hP:dS w A ps)(hpc:pn≤c)(hR:zy ps)(hK:jY w K ks)(hl:m≤1000000)(hkc:m≤kc) :
  Calls Tryz.prog 105 #[.agg #[.bool nm,.int .i64 lo,.int .i64 hi,.slice A pn c],.slice K m kc] w fun e w'=>e=.returned (.bool (Mist.fits ps ks))∧Below w.heap.size w w':=by
 subst hpn;subst hm;exact Zr nm lo hi ps A c ks K kc w hP hpc hR hK hl hkc
def pG (o:Option Shape):Prop:=∀ s,o=some s→zy s.parts
theorem pG.ite {c:Prop}[Decidable c]{a b:Option Shape}(ha:pG a)(hb:pG b):pG (if c then a else b):=by
 split
 ·exact ha
 ·exact hb
theorem pG.some_ {s:Shape}(h:zy s.parts):pG (some s):=fun t e=>by injection e with e;subst e;exact h
theorem pG.none_:pG none:=fun t e=>nomatch e
theorem NH (n:Int):zy (Mist.asked n).parts:=by
 unfold Mist.asked;by_cases h7:n=7
 ·rw [if_pos h7];simp [zy]
 ·rw [if_neg h7];by_cases h8:n=8
  ·rw [if_pos h8];simp [zy]
  ·rw [if_neg h8];simp [zy]
theorem ER {k:Nat}{n:Int}{s:Shape}(h:Mist.shapeOf k n=some s):zy s.parts:=by
 have key:pG (Mist.shapeOf k n):=by
  unfold Mist.shapeOf
  repeat' (refine pG.ite ?_ ?_)
  all_goals first | exact pG.none_ | exact pG.some_ (NH n)|(refine pG.some_ ?_;simp [zy])
 exact key s h
theorem Od {T:Tr}{i:Nat}(h:Mist.shapeOf (nd T i).kind (nd T i).n=none):Mist.formed T i=false:=by
 unfold Mist.formed;rw [h]
theorem Oe {T:Tr}{i:Nat}{s:Shape}(h:Mist.shapeOf (nd T i).kind (nd T i).n=some s):Mist.formed T i=(Mist.within (nd T i).at_ 0 2000 && (s.named == !(nd T i).text.isEmpty) && (!s.named || Mist.isName (nd T i).text) && (nd T i).kids.all (Mist.within · 0 ((i:Int) - 1)) &&
  Mist.fits s.parts (kinds T (nd T i).kids) && (Mist.within (nd T i).n s.low s.high || ((nd T i).kind == 1 && Mist.within (nd T i).n (-9999) (-1)))):=by
 unfold Mist.formed;rw [h]
theorem RJ (A B:Option Addr)(c m d:Nat)(xs:List NV)(its:List Int)(i:Nat)(w:World)(hT:mq w A B xs its)(hR:xO (aA xs))(hE:Env w)(hi:i < xs.length)(hn:xs.length≤100000) :
  Calls Tryz.prog 61 #[.agg #[.slice A xs.length c,.slice B m d],.int .i64 i] w fun e w'=>e=.returned (.bool (Mist.formed ⟨aA xs,its⟩ i))∧Below w.heap.size w w':=by
 obtain⟨n,hnn⟩:∃ n,n=xs.length:=⟨_,rfl⟩;rw [← hnn] at hi hn ⊢
 obtain⟨b,o,rfl,hN⟩:=hT.nodes (by omega);obtain⟨x,hx⟩:∃ x,xs[i]? = some x:=jD (by omega);have oV:=hid (l7 its hx);have hxr:=hR x.1 (List.mem_map_of_mem (aaM hx));have pF:=hid hnn;clear hnn;have HN:=hid hN;have HE:=hid hE;clear hE hT;have c0:=hN.c0 i x hx;have c1:=hN.c1 i x hx;have c2:=hN.c2 i x hx;have c3:=hN.c3 i x hx;have c4:=hN.c4 i x hx;obtain⟨Ak,ck,hxe,hxl,hxk⟩:=hN.kid hx;rw [hxe] at c3
 have tK:=hid hxk;have HX:=hid hx;have hbl:=hN.lt;clear hxk hx hxe hN;obtain⟨nk,hnk⟩:∃ nk,nk=x.1.kids.length:=⟨_,rfl⟩;rw [← hnk] at c3 hxl
 have nu:=hid hnk;clear hnk;have i1:(0:Int)≤(i:Int):=by omega
 have i2:(i:Int) < (n:Int):=by omega
 have htx:=hxr.text;obtain⟨T,ni⟩:∃ T:Tr,T=⟨aA xs,its⟩:=⟨_,rfl⟩;rw [← ni] at oV ⊢
 have F9:=hid ni;clear ni;have HRR:=hid hR;clear hR;go_in
 go_wp2_with fail;refine (Pz x.1.kind x.1.text x.1.n x.1.at_ Ak nk ck _).mono ?_;rintro e w2⟨nm,lo,hi,As,ns,cs,is,rfl,hb2,hs⟩;have HT2:=hid (show aC w2 w.heap.size 26 #[.slice (some ⟨b,o,none⟩) n c,.slice B m d] from aC.below (by repeat (first|(with_reducible exact aC.new _ _ _)|(with_reducible refine aC.alloc ?_ _))) hb2 (by first | omega|(simp;done)|(simp;omega)));have Dw:=hid (show aC w2 (w.heap.size+1) 50 #[.int .u8 x.1.kind,.string (aM x.1.text),.int .i64 x.1.n,.slice Ak nk ck,.int .i64 x.1.at_] from aC.below (by repeat (first|(with_reducible exact yU (by simp))|(with_reducible refine aC.alloc ?_ _))) hb2 (by first | omega|(simp;done)|(simp;omega)));have HL2:=hid (show Below w.heap.size w w2 from Below.trans (by repeat (first|(with_reducible exact Below.refl _ _)|(with_reducible refine ah ?_ ?_) | omega|(simp;done)|(simp;omega))) (hb2.mono (by first | omega|(simp;done)|(simp;omega))));clear hb2;have t0:=HT2.out.cell 0;have n0:=Dw.out.cell 0;have n1:=Dw.out.cell 1;have n2:=Dw.out.cell 2;have n3:=Dw.out.cell 3;have n4:=Dw.out.cell 4;have hl2:=Dw.out.lt;have hl1:w.heap.size < w2.heap.size:=by omega
 rcases hsh:Mist.shapeOf x.1.kind x.1.n with _ | s
 ·rw [hsh] at hs
  subst hs;have HF:=hid (Od (T:=T) (i:=i) (by rw [oV.out];exact hsh));clear hsh;go_wp2_with fail;go_ret;exact⟨bD HF.out.symm,ah HL2.out HL2.out.size⟩
 ·rw [hsh] at hs
  obtain⟨rfl,rfl,rfl,rfl,rfl,hcs,hps⟩:=hs;have HF:=hid (Oe (T:=T) (i:=i) (by rw [oV.out];exact hsh));have HSH:=hid hsh;have HPS:=hid hps;clear hsh hps;obtain⟨named,lo,hi,ps⟩:=s;simp only at HF HPS hcs ⊢
  cases hw:Mist.within x.1.at_ 0 2000
  ·have HW:=hid hw;clear hw;have Ll:=hid (show Mist.formed T i=false by rw [HF.out,oV.out,HW.out];rfl);go_wp2_with fail;refine (dU _ 0 2000 false HW.out _).mono ?_;rintro e w3⟨rfl,rfl⟩;go_wp2_with fail;go_ret;exact⟨bD Ll.out.symm,ah HL2.out HL2.out.size⟩
  ·have HW:=hid hw;clear hw
   cases hem:x.1.text.isEmpty
   ·have HEM:=hid hem;cases named
    ·have Ll:=hid (show Mist.formed T i=false by rw [HF.out,oV.out,HW.out,HEM.out];rfl);go_wp2_with fail;refine (dU _ 0 2000 true HW.out _).mono ?_;rintro e w3⟨rfl,rfl⟩;go_wp2_with fail;go_ret;exact⟨bD Ll.out.symm,ah HL2.out HL2.out.size⟩
    ·cases hnm:Mist.isName x.1.text
     ·have HNM:=hid hnm;clear hnm;have Ll:=hid (show Mist.formed T i=false by rw [HF.out,oV.out,HW.out,HEM.out,HNM.out];rfl);go_wp2_with fail;refine (dU _ 0 2000 true HW.out _).mono ?_;rintro e w3⟨rfl,rfl⟩;go_wp2_with fail;refine (Hq x.1.text _ ((HE.out.below HL2.out).alloc _) htx).mono ?_;rintro e w3⟨rfl,hb3⟩;rw [HNM.out];go_wp2_with fail;go_ret;exact⟨bD Ll.out.symm,(ah HL2.out HL2.out.size).trans (hb3.mono (by simp;have:=HL2.out.size;omega))⟩
     ·have HNM:=hid hnm;clear hnm;go_wp2_with fail;refine (dU _ 0 2000 true HW.out _).mono ?_;rintro e w3⟨rfl,rfl⟩;go_wp2_with fail;refine (Hq x.1.text _ ((HE.out.below HL2.out).alloc _) htx).mono ?_;rintro e w3⟨rfl,hb3⟩;rw [HNM.out];have U8:=(HT2.out.alloc (.cells #[.bool true,.int .i64 lo,.int .i64 hi,.slice As ps.length cs] 119)).below hb3 (by simp;omega);have QV:=(Dw.out.alloc (.cells #[.bool true,.int .i64 lo,.int .i64 hi,.slice As ps.length cs] 119)).below hb3 (by simp;omega);have U7:=gF hb3;have UZ:=(ah HL2.out HL2.out.size).trans (hb3.mono (by simp;have:=HL2.out.size;omega));have U3:=(HPS.out.below (ah (Below.refl _ _) (aaJ _) (o:=.cells #[.bool true,.int .i64 lo,.int .i64 hi,.slice As ps.length cs] 119))).below hb3;clear hb3;have m3:=QV.cell 3;go_wp2_with fail;have HT3:=hid (show aC w3 w.heap.size 26 #[.slice (some ⟨b,o,none⟩) n c,.slice B m d] from U8);have HN3:=hid (show aC w3 (w.heap.size+1) 50 #[.int .u8 x.1.kind,.string (aM x.1.text),.int .i64 x.1.n,.slice Ak nk ck,.int .i64 x.1.at_] from QV);have U6:=hid (show aC w3 w2.heap.size 119 #[.bool true,.int .i64 lo,.int .i64 hi,.slice As ps.length cs] from U7);have lS:=hid (show Below w.heap.size w w3 from UZ);have HP3:=hid (show dS w3 As ps from U3);clear U8 QV U7 UZ U3 m3 t0 n0 n1 n2 n3 n4 HT2 Dw HL2 HPS;have hs3:=U6.out.lt;obtain⟨pn,hpn⟩:∃ pn,pn=ps.length:=⟨_,rfl⟩;rw [← hpn] at U6 hcs ⊢
      have HPN:=hid hpn;clear hpn;go_loopw [8,50] (fun v j wr=>∃ (jn:Nat),jn≤nk∧j=.int .i64 jn∧wr.ownsRow w3.heap.size 5 1 v jn (ku (kinds T (x.1.kids.take jn)))∧Hid ((x.1.kids.take jn).all (Mist.within · 0 ((i:Int) - 1))=true)∧Hid (Below w3.heap.size w3 wr)) (fun _ j _=>nk - (intOf j).toNat)
      case atStart=>exact⟨0,aaL _,rfl,World.ownsRow_nil _ _ _ _,hid rfl,hid (Below.refl _ _)⟩
      case round =>
       obtain⟨wo,rfl⟩:∃ wo:World,wo=wr:=⟨_,rfl⟩;obtain⟨jn,hj,rfl,hown,JR,Bu⟩:=hrel;obtain⟨Av,cv,rfl⟩:=dh hown;have HOW:=hid hown;clear hown;have Dx:=hid (HT3.out.below Bu.out (by omega));have U2:=hid (HN3.out.below Bu.out (by omega));have Ny:=hid (U6.out.below Bu.out (by omega));have hso:=Bu.out.size;have t0:=Dx.out.cell 0;by_cases hjl:jn < nk
       case pos =>
        obtain⟨kq,hkq⟩:∃ kq,x.1.kids[jn]? = some kq:=⟨_,aaD (by rw [← nu.out];exact hjl)⟩;obtain⟨bk,ok,rfl,hbk,hck⟩:=tK.out.ex (by rw [← nu.out];omega);have cj:=((lS.out.trans (Bu.out.mono lS.out.size)).cell (p:=⟨bk,ok+jn,none⟩) hbk).trans (hck jn kq hkq);have HKQ:=hid hkq;clear hck hkq;have j0:(0:Int)≤(jn:Int):=by omega
        have j1:(jn:Int) < (nk:Int):=by omega
        have j2:decide ((jn:Int) < (nk:Int))=true:=aaU j1;have j3:decide (jn < nk)=true:=aaU hjl
        cases hq:Mist.within kq 0 ((i:Int) - 1)
        ·have HQ:=hid hq;clear hq
         have Ll:=hid (show Mist.formed T i=false by
          have h9:x.1.kids.all (Mist.within · 0 ((i:Int) - 1))=false:=by
           rw [List.all_eq_false];exact⟨kq,aaM HKQ.out,by rw [HQ.out];simp⟩
          rw [HF.out,oV.out,h9];simp)
         go_wp2_with fail;refine (dU _ 0 _ false HQ.out _).mono ?_;rintro e w4⟨rfl,rfl⟩;go_wp2_with fail;go_ret;exact⟨bD Ll.out.symm,lS.out.trans (Bu.out.mono lS.out.size)⟩
        ·have hq2:0≤kq∧kq≤(i:Int) - 1:=by simpa [Mist.within] using hq
         have HQ:=hid hq;clear hq;obtain⟨kn,rfl⟩:∃ kn:Nat,kq=(kn:Int):=⟨kq.toNat,by omega⟩;obtain⟨xk,hxk⟩:∃ xk,xs[kn]? = some xk:=jD (by rw [← pF.out];omega);have ckn:=((lS.out.trans (Bu.out.mono lS.out.size)).cell (p:=⟨b,o+kn * 5,none⟩) hbl).trans (HN.out.c0 kn xk hxk);have HKN:=hid (show (nd T kn).kind=xk.1.kind by rw [F9.out,l7 its hxk]);clear hxk;have k0:(0:Int)≤(kn:Int):=by omega
         have k1:(kn:Int) < (n:Int):=by omega
         obtain⟨kk,hkk⟩:∃ kk,kk=xk.1.kind:=⟨_,rfl⟩;rw [← hkk] at ckn HKN
         clear hkk;have HIN:=hid (show x.1.kids.take (jn+1)=x.1.kids.take jn ++ [(kn:Int)] by rw [List.take_add_one,HKQ.out];rfl);obtain⟨i0,hi0,hz0,hz1,hz2⟩:=info_parts UM;go_wp2_with fail;refine (dU _ 0 _ true HQ.out _).mono ?_;rintro e w4⟨rfl,rfl⟩
         go_wp2_with (at_builtin
                      refine wpList_append_lies _ rfl (.tmp 59) (.tmp 66) 41 rfl w3.heap.size 5 i0 _ 1 1 Tryz.underlying41 hi0 hz0 hz1 hz2 rfl (by decide) _ jn (ku (kinds T (x.1.kids.take jn))) rfl
                        (HOW.out.alloc _) ⟨wo.heap.size,0,none⟩ 1 1 [.int .u8 (kk:Int)] rfl rfl (iP _ _ _) (by intro u hu;simp at hu;subst hu;rfl) (by omega) (by simp only [maxLen];omega) (by omega) (by simp;omega) (wo.heap.size+1) (by simp) ?_
                      intro gg cap w5 hown2 hg5 Jz hgl)
         refine⟨⟨jn+1,by omega,by go_num,?_,hid ?_,hid ?_⟩,by simp [intOf];omega⟩
         ·rw [HIN.out]
          have h9:ku (kinds T (x.1.kids.take jn ++ [(kn:Int)]))=ku (kinds T (x.1.kids.take jn)) ++ [.int .u8 (kk:Int)]:=by
           simp [ku,kinds,HKN.out]
          rw [h9];exact hown2
         ·rw [HIN.out,List.all_append,JR.out];simp [HQ.out]
         ·exact (ah Bu.out Bu.out.size).grown hg5 (by simp;omega) (fun b hb=>(HOW.out.lt b hb).1)
       case neg =>
        have HJN:=hid (show jn=nk by omega);have zk:=hid (show x.1.kids.all (Mist.within · 0 ((i:Int) - 1))=true by have h9:=JR.out;rwa [HJN.out,nu.out,List.take_length] at h9)
        have HKI:=hid (show jY wo Av (kinds T x.1.kids) by
         have h9:=HOW.out;rw [HJN.out,nu.out,List.take_length] at h9
         exact KG h9 (by simp [kinds]))
        have HKC:=hid (show nk≤cv by
         have h9:=Uv HOW.out;omega)
        have TI:=hid (show (kinds T x.1.kids).length=nk by simp [kinds,nu.out]);have hjn:jn=nk:=HJN.out;subst hjn;clear t0 hj hjl HOW JR;have n0:=U2.out.cell 0;have n2:=U2.out.cell 2;have s0:=Ny.out.cell 0;have s1:=Ny.out.cell 1;have s2:=Ny.out.cell 2;have s3:=Ny.out.cell 3;have hlo1:=U2.out.lt;have hlo2:=Ny.out.lt;have hlo3:w.heap.size < wo.heap.size:=by omega
        have j2:decide ((jn:Int) < (jn:Int))=false:=aaV (by omega);have HFI:=hid (Km true lo hi ps As pn cs HPN.out (kinds T x.1.kids) jn TI.out Av cv wo (HP3.out.below Bu.out) hcs (ER HSH.out) HKI.out hxl HKC.out)
        cases hfit:Mist.fits ps (kinds T x.1.kids)
        ·have Bt:=hid hfit;clear hfit;have Ll:=hid (show Mist.formed T i=false by rw [HF.out,oV.out,Bt.out];simp);go_wp2_with fail;refine HFI.out.mono ?_;rintro e w6⟨rfl,hb6⟩;rw [Bt.out];go_wp2_with fail;go_ret;exact⟨bD Ll.out.symm,(lS.out.trans (Bu.out.mono lS.out.size)).trans (hb6.mono (by omega))⟩
        ·have Bt:=hid hfit;clear hfit
         cases hwi:Mist.within x.1.n lo hi
         ·have Ga:=hid hwi;clear hwi;by_cases hk1:x.1.kind=1
          ·have e1:((x.1.kind:Int) == 1)=true:=by rw [hk1];rfl
           have Xo:=hid hk1;clear hk1
           cases hw9:Mist.within x.1.n (-9999) (-1)
           all_goals
            have HW9:=hid hw9;clear hw9;go_wp2_with fail;refine HFI.out.mono ?_;rintro e w6⟨rfl,hb6⟩;rw [Bt.out];have dA:=hid ((lS.out.trans (Bu.out.mono lS.out.size)).trans (hb6.mono (by omega)));have F6:=hid (U2.out.below hb6 hlo1);have Nw:=hid (Ny.out.below hb6 hlo2);clear hb6 n0 n2 s0 s1 s2 s3;have n0:=F6.out.cell 0;have n2:=F6.out.cell 2;have s1:=Nw.out.cell 1;have s2:=Nw.out.cell 2;go_wp2_with fail;refine (dU x.1.n lo hi false Ga.out _).mono ?_;rintro e w7⟨rfl,rfl⟩;go_wp2_with fail;refine (dU x.1.n (-9999) (-1) _ HW9.out _).mono ?_;rintro e w7⟨rfl,rfl⟩;go_wp2_with fail;go_ret
            refine⟨bD ?_,dA.out⟩
            rw [HF.out,oV.out,Bt.out,Ga.out,HW9.out,Xo.out,HW.out,zk.out,HEM.out,HNM.out];rfl
          ·have e1:((x.1.kind:Int) == 1)=false:=by rw [aaF];omega
           have Xo:=hid (show (x.1.kind == 1)=false by simpa using hk1);clear hk1;go_wp2_with fail;refine HFI.out.mono ?_;rintro e w6⟨rfl,hb6⟩;rw [Bt.out];have dA:=hid ((lS.out.trans (Bu.out.mono lS.out.size)).trans (hb6.mono (by omega)));have F6:=hid (U2.out.below hb6 hlo1);have Nw:=hid (Ny.out.below hb6 hlo2);clear hb6 n0 n2 s0 s1 s2 s3;have n0:=F6.out.cell 0;have n2:=F6.out.cell 2;have s1:=Nw.out.cell 1;have s2:=Nw.out.cell 2;go_wp2_with fail;refine (dU x.1.n lo hi false Ga.out _).mono ?_;rintro e w7⟨rfl,rfl⟩;go_wp2_with fail;go_ret
           refine⟨bD ?_,dA.out⟩
           rw [HF.out,oV.out,Bt.out,Ga.out,Xo.out,HW.out,zk.out,HEM.out,HNM.out];rfl
         ·have Ga:=hid hwi;clear hwi;go_wp2_with fail;refine HFI.out.mono ?_;rintro e w6⟨rfl,hb6⟩;rw [Bt.out];have dA:=hid ((lS.out.trans (Bu.out.mono lS.out.size)).trans (hb6.mono (by omega)));have F6:=hid (U2.out.below hb6 hlo1);have Nw:=hid (Ny.out.below hb6 hlo2);clear hb6 n0 n2 s0 s1 s2 s3;have n0:=F6.out.cell 0;have n2:=F6.out.cell 2;have s1:=Nw.out.cell 1;have s2:=Nw.out.cell 2;go_wp2_with fail;refine (dU x.1.n lo hi true Ga.out _).mono ?_;rintro e w7⟨rfl,rfl⟩;go_wp2_with fail;go_ret
          refine⟨bD ?_,dA.out⟩
          rw [HF.out,oV.out,Bt.out,Ga.out,HW.out,zk.out,HEM.out,HNM.out];rfl
   ·have HEM:=hid hem;cases named
    ·have U8:=HT2.out.alloc (.cells #[.bool false,.int .i64 lo,.int .i64 hi,.slice As ps.length cs] 119);have QV:=Dw.out.alloc (.cells #[.bool false,.int .i64 lo,.int .i64 hi,.slice As ps.length cs] 119);have U7:=aC.new w2 119 #[.bool false,.int .i64 lo,.int .i64 hi,.slice As ps.length cs];have UZ:=ah HL2.out HL2.out.size (o:=.cells #[.bool false,.int .i64 lo,.int .i64 hi,.slice As ps.length cs] 119);have U3:=HPS.out.below (ah (Below.refl _ _) (aaJ _) (o:=.cells #[.bool false,.int .i64 lo,.int .i64 hi,.slice As ps.length cs] 119));go_wp2_with fail;refine (dU _ 0 2000 true HW.out _).mono ?_;rintro e w3⟨rfl,rfl⟩;go_wp2_with fail
     generalize w2.alloc (.cells #[.bool false,.int .i64 lo,.int .i64 hi,.slice As ps.length cs] 119)=w3 at U8 QV U7 UZ U3 ⊢
     have HT3:=hid (show aC w3 w.heap.size 26 #[.slice (some ⟨b,o,none⟩) n c,.slice B m d] from U8);have HN3:=hid (show aC w3 (w.heap.size+1) 50 #[.int .u8 x.1.kind,.string (aM x.1.text),.int .i64 x.1.n,.slice Ak nk ck,.int .i64 x.1.at_] from QV);have U6:=hid (show aC w3 w2.heap.size 119 #[.bool false,.int .i64 lo,.int .i64 hi,.slice As ps.length cs] from U7);have lS:=hid (show Below w.heap.size w w3 from UZ);have HP3:=hid (show dS w3 As ps from U3);clear U8 QV U7 UZ U3 t0 n0 n1 n2 n3 n4 HT2 Dw HL2 HPS;have hs3:=U6.out.lt;obtain⟨pn,hpn⟩:∃ pn,pn=ps.length:=⟨_,rfl⟩;rw [← hpn] at U6 hcs ⊢
     have HPN:=hid hpn;clear hpn;go_loopw [8,50] (fun v j wr=>∃ (jn:Nat),jn≤nk∧j=.int .i64 jn∧wr.ownsRow w3.heap.size 5 1 v jn (ku (kinds T (x.1.kids.take jn)))∧Hid ((x.1.kids.take jn).all (Mist.within · 0 ((i:Int) - 1))=true)∧Hid (Below w3.heap.size w3 wr)) (fun _ j _=>nk - (intOf j).toNat)
     case atStart=>exact⟨0,aaL _,rfl,World.ownsRow_nil _ _ _ _,hid rfl,hid (Below.refl _ _)⟩
     case round =>
      obtain⟨wo,rfl⟩:∃ wo:World,wo=wr:=⟨_,rfl⟩;obtain⟨jn,hj,rfl,hown,JR,Bu⟩:=hrel;obtain⟨Av,cv,rfl⟩:=dh hown;have HOW:=hid hown;clear hown;have Dx:=hid (HT3.out.below Bu.out (by omega));have U2:=hid (HN3.out.below Bu.out (by omega));have Ny:=hid (U6.out.below Bu.out (by omega));have hso:=Bu.out.size;have t0:=Dx.out.cell 0;by_cases hjl:jn < nk
      case pos =>
       obtain⟨kq,hkq⟩:∃ kq,x.1.kids[jn]? = some kq:=⟨_,aaD (by rw [← nu.out];exact hjl)⟩;obtain⟨bk,ok,rfl,hbk,hck⟩:=tK.out.ex (by rw [← nu.out];omega);have cj:=((lS.out.trans (Bu.out.mono lS.out.size)).cell (p:=⟨bk,ok+jn,none⟩) hbk).trans (hck jn kq hkq);have HKQ:=hid hkq;clear hck hkq;have j0:(0:Int)≤(jn:Int):=by omega
       have j1:(jn:Int) < (nk:Int):=by omega
       have j2:decide ((jn:Int) < (nk:Int))=true:=aaU j1;have j3:decide (jn < nk)=true:=aaU hjl
       cases hq:Mist.within kq 0 ((i:Int) - 1)
       ·have HQ:=hid hq;clear hq
        have Ll:=hid (show Mist.formed T i=false by
         have h9:x.1.kids.all (Mist.within · 0 ((i:Int) - 1))=false:=by
          rw [List.all_eq_false];exact⟨kq,aaM HKQ.out,by rw [HQ.out];simp⟩
         rw [HF.out,oV.out,h9];simp)
        go_wp2_with fail;refine (dU _ 0 _ false HQ.out _).mono ?_;rintro e w4⟨rfl,rfl⟩;go_wp2_with fail;go_ret;exact⟨bD Ll.out.symm,lS.out.trans (Bu.out.mono lS.out.size)⟩
       ·have hq2:0≤kq∧kq≤(i:Int) - 1:=by simpa [Mist.within] using hq
        have HQ:=hid hq;clear hq;obtain⟨kn,rfl⟩:∃ kn:Nat,kq=(kn:Int):=⟨kq.toNat,by omega⟩;obtain⟨xk,hxk⟩:∃ xk,xs[kn]? = some xk:=jD (by rw [← pF.out];omega);have ckn:=((lS.out.trans (Bu.out.mono lS.out.size)).cell (p:=⟨b,o+kn * 5,none⟩) hbl).trans (HN.out.c0 kn xk hxk);have HKN:=hid (show (nd T kn).kind=xk.1.kind by rw [F9.out,l7 its hxk]);clear hxk;have k0:(0:Int)≤(kn:Int):=by omega
        have k1:(kn:Int) < (n:Int):=by omega
        obtain⟨kk,hkk⟩:∃ kk,kk=xk.1.kind:=⟨_,rfl⟩;rw [← hkk] at ckn HKN
        clear hkk;have HIN:=hid (show x.1.kids.take (jn+1)=x.1.kids.take jn ++ [(kn:Int)] by rw [List.take_add_one,HKQ.out];rfl);obtain⟨i0,hi0,hz0,hz1,hz2⟩:=info_parts UM;go_wp2_with fail;refine (dU _ 0 _ true HQ.out _).mono ?_;rintro e w4⟨rfl,rfl⟩
        go_wp2_with (at_builtin
                     refine wpList_append_lies _ rfl (.tmp 59) (.tmp 66) 41 rfl w3.heap.size 5 i0 _ 1 1 Tryz.underlying41 hi0 hz0 hz1 hz2 rfl (by decide) _ jn (ku (kinds T (x.1.kids.take jn))) rfl
                       (HOW.out.alloc _) ⟨wo.heap.size,0,none⟩ 1 1 [.int .u8 (kk:Int)] rfl rfl (iP _ _ _) (by intro u hu;simp at hu;subst hu;rfl) (by omega) (by simp only [maxLen];omega) (by omega) (by simp;omega) (wo.heap.size+1) (by simp) ?_
                     intro gg cap w5 hown2 hg5 Jz hgl)
        refine⟨⟨jn+1,by omega,by go_num,?_,hid ?_,hid ?_⟩,by simp [intOf];omega⟩
        ·rw [HIN.out]
         have h9:ku (kinds T (x.1.kids.take jn ++ [(kn:Int)]))=ku (kinds T (x.1.kids.take jn)) ++ [.int .u8 (kk:Int)]:=by
          simp [ku,kinds,HKN.out]
         rw [h9];exact hown2
        ·rw [HIN.out,List.all_append,JR.out];simp [HQ.out]
        ·exact (ah Bu.out Bu.out.size).grown hg5 (by simp;omega) (fun b hb=>(HOW.out.lt b hb).1)
      case neg =>
       have HJN:=hid (show jn=nk by omega);have zk:=hid (show x.1.kids.all (Mist.within · 0 ((i:Int) - 1))=true by have h9:=JR.out;rwa [HJN.out,nu.out,List.take_length] at h9)
       have HKI:=hid (show jY wo Av (kinds T x.1.kids) by
        have h9:=HOW.out;rw [HJN.out,nu.out,List.take_length] at h9
        exact KG h9 (by simp [kinds]))
       have HKC:=hid (show nk≤cv by
        have h9:=Uv HOW.out;omega)
       have TI:=hid (show (kinds T x.1.kids).length=nk by simp [kinds,nu.out]);have hjn:jn=nk:=HJN.out;subst hjn;clear t0 hj hjl HOW JR;have n0:=U2.out.cell 0;have n2:=U2.out.cell 2;have s0:=Ny.out.cell 0;have s1:=Ny.out.cell 1;have s2:=Ny.out.cell 2;have s3:=Ny.out.cell 3;have hlo1:=U2.out.lt;have hlo2:=Ny.out.lt;have hlo3:w.heap.size < wo.heap.size:=by omega
       have j2:decide ((jn:Int) < (jn:Int))=false:=aaV (by omega);have HFI:=hid (Km false lo hi ps As pn cs HPN.out (kinds T x.1.kids) jn TI.out Av cv wo (HP3.out.below Bu.out) hcs (ER HSH.out) HKI.out hxl HKC.out)
       cases hfit:Mist.fits ps (kinds T x.1.kids)
       ·have Bt:=hid hfit;clear hfit;have Ll:=hid (show Mist.formed T i=false by rw [HF.out,oV.out,Bt.out];simp);go_wp2_with fail;refine HFI.out.mono ?_;rintro e w6⟨rfl,hb6⟩;rw [Bt.out];go_wp2_with fail;go_ret;exact⟨bD Ll.out.symm,(lS.out.trans (Bu.out.mono lS.out.size)).trans (hb6.mono (by omega))⟩
       ·have Bt:=hid hfit;clear hfit
        cases hwi:Mist.within x.1.n lo hi
        ·have Ga:=hid hwi;clear hwi;by_cases hk1:x.1.kind=1
         ·have e1:((x.1.kind:Int) == 1)=true:=by rw [hk1];rfl
          have Xo:=hid hk1;clear hk1
          cases hw9:Mist.within x.1.n (-9999) (-1)
          all_goals
           have HW9:=hid hw9;clear hw9;go_wp2_with fail;refine HFI.out.mono ?_;rintro e w6⟨rfl,hb6⟩;rw [Bt.out];have dA:=hid ((lS.out.trans (Bu.out.mono lS.out.size)).trans (hb6.mono (by omega)));have F6:=hid (U2.out.below hb6 hlo1);have Nw:=hid (Ny.out.below hb6 hlo2);clear hb6 n0 n2 s0 s1 s2 s3;have n0:=F6.out.cell 0;have n2:=F6.out.cell 2;have s1:=Nw.out.cell 1;have s2:=Nw.out.cell 2;go_wp2_with fail;refine (dU x.1.n lo hi false Ga.out _).mono ?_;rintro e w7⟨rfl,rfl⟩;go_wp2_with fail;refine (dU x.1.n (-9999) (-1) _ HW9.out _).mono ?_;rintro e w7⟨rfl,rfl⟩;go_wp2_with fail;go_ret
           refine⟨bD ?_,dA.out⟩
           rw [HF.out,oV.out,Bt.out,Ga.out,HW9.out,Xo.out,HW.out,zk.out,HEM.out];rfl
         ·have e1:((x.1.kind:Int) == 1)=false:=by rw [aaF];omega
          have Xo:=hid (show (x.1.kind == 1)=false by simpa using hk1);clear hk1;go_wp2_with fail;refine HFI.out.mono ?_;rintro e w6⟨rfl,hb6⟩;rw [Bt.out];have dA:=hid ((lS.out.trans (Bu.out.mono lS.out.size)).trans (hb6.mono (by omega)));have F6:=hid (U2.out.below hb6 hlo1);have Nw:=hid (Ny.out.below hb6 hlo2);clear hb6 n0 n2 s0 s1 s2 s3;have n0:=F6.out.cell 0;have n2:=F6.out.cell 2;have s1:=Nw.out.cell 1;have s2:=Nw.out.cell 2;go_wp2_with fail;refine (dU x.1.n lo hi false Ga.out _).mono ?_;rintro e w7⟨rfl,rfl⟩;go_wp2_with fail;go_ret
          refine⟨bD ?_,dA.out⟩
          rw [HF.out,oV.out,Bt.out,Ga.out,Xo.out,HW.out,zk.out,HEM.out];rfl
        ·have Ga:=hid hwi;clear hwi;go_wp2_with fail;refine HFI.out.mono ?_;rintro e w6⟨rfl,hb6⟩;rw [Bt.out];have dA:=hid ((lS.out.trans (Bu.out.mono lS.out.size)).trans (hb6.mono (by omega)));have F6:=hid (U2.out.below hb6 hlo1);have Nw:=hid (Ny.out.below hb6 hlo2);clear hb6 n0 n2 s0 s1 s2 s3;have n0:=F6.out.cell 0;have n2:=F6.out.cell 2;have s1:=Nw.out.cell 1;have s2:=Nw.out.cell 2;go_wp2_with fail;refine (dU x.1.n lo hi true Ga.out _).mono ?_;rintro e w7⟨rfl,rfl⟩;go_wp2_with fail;go_ret
         refine⟨bD ?_,dA.out⟩
         rw [HF.out,oV.out,Bt.out,Ga.out,HW.out,zk.out,HEM.out];rfl
    ·have Ll:=hid (show Mist.formed T i=false by rw [HF.out,oV.out,HW.out,HEM.out];rfl);go_wp2_with fail;refine (dU _ 0 2000 true HW.out _).mono ?_;rintro e w3⟨rfl,rfl⟩;go_wp2_with fail;go_ret;exact⟨bD Ll.out.symm,ah HL2.out HL2.out.size⟩
end Go.Proofs.YthepmkjggfijoaaGreatDoor
namespace Go.Proofs.YthepmkjggfijoaaGreatDoor
open Go.RowKit Mist
theorem Qd {T:Tr}{f i:Nat}{root:Bool}{next x:Nat}(h:Mist.walk T f i root next=some x):x=i+1:=by
 cases f with
 | zero=>cases h
 | succ f =>
  unfold Mist.walk at h
  split at h
  ·cases h
  ·split at h
   ·split at h
    ·have:=aaP h;omega
    ·cases h
   ·cases h
theorem Xg {T:Tr}{f i:Nat}{root:Bool}{next:Nat}(h:(nd T i).kids.foldl (fun (o:Option Nat) c=>o.bind fun x=>Mist.walk T f c.toNat false x) (some next)=none):Mist.walk T (f+1) i root next=none:=by
 unfold Mist.walk;rw [h]
theorem walk_at {T:Tr}{f i:Nat}{root:Bool}{next y:Nat}(h:(nd T i).kids.foldl (fun (o:Option Nat) c=>o.bind fun x=>Mist.walk T f c.toNat false x) (some next)=some y):Mist.walk T (f+1) i root next=if i=y then (if eP (nd T i).kind=root then some (y+1) else none) else none:=by
 rw [Mist.walk];rw [h]
structure vU (w0:World) (w:World) (tb nb wb:Nat) (tv iv:Value) (next:Int):Prop where
 tree:aC w tb 26 #[tv,iv]
 self:aC w wb 123 #[.func (.func 106) #[] #[.pointer (some ⟨tb,0,none⟩),.pointer (some ⟨wb,0,none⟩),.pointer (some ⟨nb,0,none⟩)]]
 next:aC w nb 3 #[.int .i64 next]
 low:Below w0.heap.size w0 w
 nb:w0.heap.size≤nb
theorem vU.mv {w0 w w':World}{tb nb wb:Nat}{tv iv:Value}{next next':Int}(h:vU w0 w tb nb wb tv iv next)(m:Mv nb none w none w')(hn:aC w' nb 3 #[.int .i64 next']):vU w0 w' tb nb wb tv iv next' :=
 ⟨m.blk h.tree (h.tree.ne_ h.next (by decide)) (by simp),m.blk h.self (h.self.ne_ h.next (by decide)) (by simp),hn,h.low.trans (m.below h.next.lt h.nb (fun b e=>nomatch e)),h.nb⟩
def Y6 (r:Option Nat)(nb:Nat)(w:World)(e:Ending)(w':World):Prop :=
 Mv nb none w none w'∧match r with
  | some x=>e=.returned (.bool true)∧aC w' nb 3 #[.int .i64 (x:Int)]
  | none=>e=.returned (.bool false)∧∃ y,aC w' nb 3 #[.int .i64 y]
theorem walk_any (xs:List NV)(its:List Int)(b o c m d n:Nat)(B:Option Addr)(w0:World)(hN:oZ w0 b o xs)(hnn:n=xs.length)(hn:n≤100000)(hK:∀ (i:Nat) x,xs[i]? = some x→∀ k ∈ x.1.kids,0≤k∧k≤(i:Int) - 1)(hR:xO (aA xs))(tb nb wb:Nat) :
  ∀ (f i:Nat) (dp:Int) (root:Bool) (next:Nat) (w:World),i < n→i < f→1≤dp→dp+i≤200000→(dp == 1)=root→next≤1000000→vU w0 w tb nb wb (.slice (some ⟨b,o,none⟩) n c) (.slice B m d) (next:Int) →
  Calls Tryz.prog 106 #[.int .i64 (i:Int),.int .i64 dp,.pointer (some ⟨tb,0,none⟩),.pointer (some ⟨wb,0,none⟩),.pointer (some ⟨nb,0,none⟩)] w (Y6 (Mist.walk ⟨aA xs,its⟩ f i root next) nb w):=by
 obtain⟨T,hT⟩:∃ T:Tr,T=⟨aA xs,its⟩:=⟨_,rfl⟩;rw [← hT];have pF:=hid hnn;clear hnn;have HN:=hid hN;clear hN;have HKK:=hid hK;clear hK;have F9:=hid hT;clear hT;have HRR:=hid hR;clear hR;intro f
 induction f with
 | zero=>intro i _ _ _ _ _ h;omega
 | succ f ih =>
  have IH:=hid ih;clear ih;intro i dp root next w hi hif hd1 hd2 hroot hnx hm;have nH:=hid hroot;clear hroot;have HM:=hid hm;have t0:=hm.tree.cell 0;clear hm;obtain⟨x,hx⟩:∃ x,xs[i]? = some x:=jD (by rw [← pF.out];exact hi);have oV:=hid (show nd T i=x.1 by rw [F9.out];exact l7 its hx);obtain⟨Ak,ck,hxe,hxl,hxk⟩:=HN.out.kid hx;have c3:=(HM.out.low.cell (p:=⟨b,o+i * 5+3,none⟩) HN.out.lt).trans (HN.out.c3 i x hx);rw [hxe] at c3
  have tK:=hid hxk;have HX:=hid hx;clear hxk hx hxe;obtain⟨nk,hnk⟩:∃ nk,nk=x.1.kids.length:=⟨_,rfl⟩;rw [← hnk] at c3 hxl
  have nu:=hid hnk;clear hnk;have i1:(0:Int)≤(i:Int):=by omega
  have i2:(i:Int) < (n:Int):=by omega
  go_in
  go_wp2_with fail;go_loopw [17] (fun j wr=>∃ (jn y:Nat),jn≤nk∧j=.int .i64 jn∧y≤1000000∧Hid (vU w0 wr tb nb wb (.slice (some ⟨b,o,none⟩) n c) (.slice B m d) (y:Int))∧Hid (Mv nb none w none wr)∧Hid ((x.1.kids.drop jn).foldl (fun (o:Option Nat) c=>o.bind fun x=>Mist.walk T f c.toNat false x) (some y)=x.1.kids.foldl (fun (o:Option Nat) c=>o.bind fun x=>Mist.walk T f c.toNat false x) (some next))) (fun j _=>nk - (intOf j).toNat)
  case atStart=>exact⟨0,next,aaL _,rfl,hnx,HM,hid Mv.refl,hid rfl⟩
  case round =>
   obtain⟨wo,rfl⟩:∃ wo:World,wo=wr:=⟨_,rfl⟩;obtain⟨jn,y,hj,rfl,hy,Qm,HMV,Xm⟩:=hrel;have s0:=Qm.out.self.cell 0;by_cases hjl:jn < nk
   ·obtain⟨kq,hkq⟩:∃ kq,x.1.kids[jn]? = some kq:=⟨_,aaD (by rw [← nu.out];exact hjl)⟩;have hkb:=HKK.out i x HX.out kq (aaM hkq);obtain⟨kn,rfl⟩:∃ kn:Nat,kq=(kn:Int):=⟨kq.toNat,by omega⟩;obtain⟨bk,ok,rfl,hbk,hck⟩:=tK.out.ex (by rw [← nu.out];omega);have cj:=(Qm.out.low.cell (p:=⟨bk,ok+jn,none⟩) hbk).trans (hck jn kn hkq)
    have HDR:=hid (show x.1.kids.drop jn=(kn:Int) :: x.1.kids.drop (jn+1) by
     rw [aaX (by rw [← nu.out];exact hjl),(aaE.1 hkq).2])
    clear hck hkq;have j0:(0:Int)≤(jn:Int):=by omega
    have j1:(jn:Int) < (nk:Int):=by omega
    have j2:decide (jn < nk)=true:=aaU hjl;have HC:=hid (IH.out kn (dp+1) false y wo (by omega) (by omega) (by omega) (by omega) (by rw [aaF];omega) hy Qm.out)
    have TH:=hid (show (x.1.kids.drop (jn+1)).foldl (fun (o:Option Nat) c=>o.bind fun x=>Mist.walk T f c.toNat false x) (Mist.walk T f kn false y)=x.1.kids.foldl (fun (o:Option Nat) c=>o.bind fun x=>Mist.walk T f c.toNat false x) (some next) by
     have h9:=Xm.out;rw [HDR.out,List.foldl_cons,Option.bind_some,aaQ] at h9
     exact h9)
    clear Xm HDR;go_wp2_with fail;refine HC.out.mono ?_;rintro e w2⟨hmv,hpost⟩
    cases hwk:Mist.walk T f kn false y with
    | none =>
     rw [hwk] at hpost
     obtain⟨rfl,z,hz⟩:=hpost
     have HST:=hid (show Mist.walk T (f+1) i root next=none from Xg (by
      rw [oV.out,← TH.out,hwk];exact wR (fun x c=>Mist.walk T f c.toNat false x) _))
     have HZ:=hid hz;have HMV2:=hid (HMV.out.trans hmv);clear hwk hz hmv;go_wp2_with fail;go_ret
     refine⟨HMV2.out,?_⟩
     rw [HST.out];exact⟨rfl,z,HZ.out⟩
    | some z =>
     rw [hwk] at hpost
     obtain⟨rfl,hz⟩:=hpost;have hzv:=Qd hwk;have HZ:=hid hz;have HMV2:=hid (HMV.out.trans hmv);have qj:=hid (Qm.out.mv hmv hz);have HF3:=hid (by have h9:=TH.out;rw [hwk] at h9;exact h9);have Z5:z≤1000000:=by omega
     clear hwk hz hmv hzv;go_wp2_with fail;exact⟨⟨jn+1,z,by omega,by go_num,Z5,qj,HMV2,HF3⟩,by simp [intOf];omega⟩
   ·have HFE:=hid (show x.1.kids.foldl (fun (o:Option Nat) c=>o.bind fun x=>Mist.walk T f c.toNat false x) (some next)=some y by
     rw [← Xm.out,List.drop_of_length_le (by rw [← nu.out];omega)];rfl)
    have j2:decide (jn < nk)=false:=aaV hjl;have y0:=Qm.out.next.cell 0;have yf:=Qm.out.next.frozen 0;have hyl:=Qm.out.next.lt;have t0':=Qm.out.tree.cell 0;have c0:=(Qm.out.low.cell (p:=⟨b,o+i * 5,none⟩) HN.out.lt).trans (HN.out.c0 i x HX.out);have HW:=hid (walk_at (root:=root) (by rw [oV.out];exact HFE.out));by_cases hiy:i=y
    ·subst hiy;have e1:((i:Int) != (i:Int))=false:=by simp
     have HW2:=hid (show Mist.walk T (f+1) i root next=if eP x.1.kind=root then some (i+1) else none by rw [HW.out,if_pos rfl,oV.out]);have HMV3:=hid (HMV.out.gset (i:=0) (u:=.int .i64 ((i:Int)+1)));have HY3:=hid (Qm.out.next.d_ 0 (.int .i64 ((i:Int)+1)));have hb1:=HN.out.lt;have hlow:=Qm.out.low.size;have hnb:=Qm.out.nb;have hne:b ≠ nb:=by omega
     have hne2:tb ≠ nb:=Qm.out.tree.ne_ Qm.out.next (by decide);have htl:=Qm.out.tree.lt;clear HW
     cases hr:eP x.1.kind
     all_goals
      have HIT:=hid hr;clear hr;cases root
      all_goals
       have d1:=nH.out;go_wp2_with fail;refine (Cn x.1.kind _ HIT.out _).mono ?_;rintro e w2⟨rfl,rfl⟩;go_wp2_with fail;go_ret
       refine⟨HMV3.out,?_⟩
       rw [HW2.out,HIT.out]
       first
       | exact⟨rfl,by have h9:=HY3.out;simpa using h9⟩
       | exact⟨rfl,_,HY3.out⟩
    ·have e1:((i:Int) != (y:Int))=true:=by rw [bne_iff_ne];omega
     go_wp2_with fail;go_ret
     refine⟨HMV.out,?_⟩
     rw [HW.out,if_neg hiy];exact⟨rfl,_,Qm.out.next⟩
end Go.Proofs.YthepmkjggfijoaaGreatDoor
