/-
  A part of the proof.
-/
import Derived.Test.YthepmkjggfijoaaGreatDoorSA
import Derived.Deep.QuietTactic
import Derived.BigRegion
import Derived.Deep.CutRange
import Derived.Deep.RegionHeld3
import Derived.Test.YthepmkjggfijoaaGreatDoorS21
import Derived.Test.YthepmkjggfijoaaGreatDoorS32
import Derived.Test.YthepmkjggfijoaaGreatDoorS30
import Derived.Test.YthepmkjggfijoaaGreatDoorS04
import Derived.Test.YthepmkjggfijoaaGreatDoorS08
import Derived.Test.YthepmkjggfijoaaGreatDoorS25
import Derived.Test.YthepmkjggfijoaaGreatDoorS29
import Derived.Test.YthepmkjggfijoaaGreatDoorS07
import Derived.Test.YthepmkjggfijoaaGreatDoorS28
import Derived.Test.YthepmkjggfijoaaGreatDoorS22
import Derived.Test.YthepmkjggfijoaaGreatDoorS31
set_option linter.all false
set_option maxRecDepth 100000
set_option maxHeartbeats 4000000
open Go.Lib (hid)
namespace Go.Proofs.YthepmkjggfijoaaGreatDoor
open Go.RowKit Mist
attribute [local go_sem] aj aH aS aB ak
section
variable {P:Program} {md:Region.Mode} {l:List Oper} {Q:Exit→Act→World→Prop} {S:World→Prop} {oi:Oper} {fuel:Nat} {listed:Array Bool} {a:Act} {w:World}
end
end Go.Proofs.YthepmkjggfijoaaGreatDoor
namespace Go.Proofs.YthepmkjggfijoaaGreatDoor
open Go.RowKit Mist
theorem OP (i:Nat)(D:List Nat)(h:i < D.length):D.set i (max (D.getD i 0) 1)=nD i D:=by
 unfold nD;split
 ·rename_i h0;rw [h0];rfl
 ·rename_i h0
  rw [show max (D.getD i 0) 1=D.getD i 0 by omega];rw [aaH,aaD h];simp
theorem Zk (i:Nat)(D:List Nat)(h:i < D.length):(nD i D).getD i 0=max (D.getD i 0) 1:=by
 rw [← OP i D h,qD,if_pos ⟨rfl,h⟩]
theorem foldl_max (D:List Nat):∀ (m:Nat),(D.map fun (d:Nat)=>(d:Int)).foldl max (m:Int)=((D.foldl max m:Nat):Int):=by
 induction D with
 | nil=>intro m;rfl
 | cons a r ih =>
  intro m;simp only [List.map_cons,List.foldl_cons];rw [show max (m:Int) (a:Int)=((max m a:Nat):Int) by omega];exact ih _
theorem EM (A B:Option Addr)(c m d:Nat)(xs:List NV)(its:List Int)(w:World)(hT:mq w A B xs its)(hW:Wf (aA xs))(hn:xs.length≤100000) :
  Calls Tryz.prog 83 #[.agg #[.slice A xs.length c,.slice B m d]] w fun e w'=>∃ g,e=.returned (.slice (some ⟨g,0,none⟩) xs.length xs.length)∧w.heap.size≤g∧aC w' g 3 (iA (f_ (aA xs)))∧Below w.heap.size w w':=by
 obtain⟨n,hnn⟩:∃ n,n=xs.length:=⟨_,rfl⟩;rw [← hnn] at hn ⊢
 have pF:=hid hnn;clear hnn;have Lx:=hid hT;clear hT;have HW:=hid hW;clear hW;have hmk:=run_make_row' (P:=Tryz.prog) 24 3 (.int .i64 0) 8 Tryz.underlying24 gN rfl .i64 .i64 n (by omega) (by omega) (w.alloc (.cells #[.slice A n c,.slice B m d] 26));rw [Kv] at hmk
 go_in
 go_wp2_with fail;have hb0:=aC.new (w.alloc (.cells #[.slice A n c,.slice B m d] 26)) 3 (iA (List.replicate n 0));rw [show (w.alloc (.cells #[.slice A n c,.slice B m d] 26)).heap.size=w.heap.size+1 by simp] at hb0
 have HB0:=hid hb0;clear hb0;have HT0:=hid ((aC.new w 26 #[.slice A n c,.slice B m d]).alloc (.cells (iA (List.replicate n 0)) 3));have eH:=hid (ah (ah (Below.refl w.heap.size w) (aaJ _) (o:=.cells #[.slice A n c,.slice B m d] 26)) (by simp) (o:=.cells (iA (List.replicate n 0)) 3));clear hmk;go_loopw [4] (fun i wr=>∃ (k:Nat) (D:List Nat),k≤n∧i=.int .i64 ((k:Int) - 1)∧Hid (D.length=n)∧Hid (aC wr (w.heap.size+1) 3 (iA D))∧Hid (aC wr w.heap.size 26 #[.slice A n c,.slice B m d])∧Hid (Rq (aA xs) k D=f_ (aA xs))∧Hid (mE (n - k+1) D)∧Hid (Below w.heap.size w wr)) (fun i _=>(intOf i+1).toNat)
 case atStart=>exact⟨n,List.replicate n 0,aaJ _,rfl,hid (by simp),HB0,HT0,hid (by unfold f_;rw [aD,← pF.out]),hid (Gl _ _),eH⟩
 case round =>
  clear HB0 HT0 eH;obtain⟨k,D,hk,rfl,Lh,HB,HT,HD,HA,HL⟩:=hrel;rcases Nat.eq_zero_or_pos k with h0 | h0
  ·subst h0;have HD2:=hid (show D=f_ (aA xs) from HD.out);go_wp2_with fail;go_ret;exact⟨_,rfl,by omega,by rw [← HD2.out];exact HB.out,HL.out⟩
  ·obtain⟨k,rfl⟩:∃ k0,k=k0+1:=⟨k - 1,by omega⟩;rw [show (((k+1:Nat):Int) - 1)=(k:Int) by omega];obtain⟨b,o,rfl,yc⟩:=Lx.out.nodes (by rw [← pF.out];omega);have HN:=hid yc.kids;clear yc;have tc0:=HT.out.cell 0;have tc1:=HT.out.cell 1
   have dk:wr.cell? ⟨w.heap.size+1,k,none⟩=some (.int .i64 ((D.getD k 0:Nat):Int)):=by
    rw [HB.out.cell k];exact sM D k (by rw [Lh.out];omega)
   have fk:=HB.out.frozen k;have i1:(0:Int)≤(k:Int):=by omega
   have i2:(k:Int) < (n:Int):=by omega
   obtain⟨v,hv⟩:∃ v,v=D.getD k 0:=⟨_,rfl⟩;rw [← hv] at dk
   have HV:=hid hv;clear hv;obtain⟨x,hx⟩:∃ x,xs[k]? = some x:=⟨_,aaD (by rw [← pF.out];omega)⟩;have HX:=hid hx;have kc:=(HN.out.below HL.out).kv k x hx;obtain⟨Ak,ca,hxe,hxl,hxk⟩:=HN.out.kids x (aaM hx);rw [hxe] at kc
   have tK:=hid hxk;have HKV:=hid (show ∀ W,Below w.heap.size w W→W.cell? ⟨b,o+k * 5+3,none⟩=some (.slice Ak x.1.kids.length ca) from fun W hb=>by rw [← hxe];exact (HN.out.below hb).kv k x hx);clear hx hxe hxk;have hbl:=HN.out.lt;have hmx:max ((v:Nat):Int) 1=((max v 1:Nat):Int):=by omega
   obtain⟨u,hu⟩:∃ u,u=max v 1:=⟨_,rfl⟩;rw [← hu] at hmx
   have H1:=hid (show (nD k D).getD k 0=u by rw [Zk k D (by rw [Lh.out];omega),← HV.out,hu]);have HO:=hid (show D.set k u=nD k D by rw [← OP k D (by rw [Lh.out];omega),← HV.out,hu]);have HA1:=hid (HA.out.nD (i:=k) (by omega));have hv1:u≤n - (k+1)+1:=by have:=HA1.out k;rw [H1.out] at this;exact this
   have HD1:=hid (xV k D);clear hu;go_wp2_with fail;have HB1:=hid (show aC (wr.setCell ⟨w.heap.size+1,k,none⟩ (.int .i64 u)) (w.heap.size+1) 3 (iA (nD k D)) from (by rw [← HO.out,← Hf];exact HB.out.d_ k _));have HT1:=hid (show aC (wr.setCell ⟨w.heap.size+1,k,none⟩ (.int .i64 u)) w.heap.size 26 #[.slice (some ⟨b,o,none⟩) n c,.slice B m d] from HT.out.far (by simp) _);have uE:=hid (show Below w.heap.size w (wr.setCell ⟨w.heap.size+1,k,none⟩ (.int .i64 u)) from dx HL.out (by simp));clear hmx dk fk;go_loopw [5] (fun j xD=>∃ (jn:Nat) (D':List Nat),jn≤x.1.kids.length∧j=.int .i64 jn∧Hid (D'.length=n)∧Hid (aC xD (w.heap.size+1) 3 (iA D'))∧Hid (aC xD w.heap.size 26 #[.slice (some ⟨b,o,none⟩) n c,.slice B m d])∧Hid (tV u (x.1.kids.drop jn) D'=qy (aA xs) k D)∧Hid (D'.getD k 0=u)∧Hid (mE (n - k+1) D')∧Hid (Below w.heap.size w xD)) (fun j _=>x.1.kids.length - (intOf j).toNat)
   case atStart=>exact⟨0,nD k D,aaL _,rfl,hid (HD1.out.trans Lh.out),HB1,HT1,hid (by rw [List.drop_zero,qy,H1.out,yE HX.out]),H1,hid (HA1.out.mono (by omega)),uE⟩
   case round =>
    obtain⟨jn,D',hj,rfl,Br,Nr,HTj,HDK,xB,HAA,Xp⟩:=hrel;have tc0:=HTj.out.cell 0;have tc1:=HTj.out.cell 1;have kc:=HKV.out wr Xp.out;by_cases hjl:jn < x.1.kids.length
    case pos =>
     obtain⟨bk,ok,rfl,hbk,hck⟩:=tK.out (by omega);obtain⟨kq,hkq⟩:∃ kq,x.1.kids[jn]? = some kq:=⟨_,aaD hjl⟩;have hwf:=HW.out k x.1 (by unfold aA;rw [List.getElem?_map,HX.out];rfl) kq (aaM hkq);obtain⟨kn,rfl⟩:∃ kn:Nat,kq=(kn:Int):=⟨kq.toNat,by omega⟩;have cj:=(Xp.out.cell (p:=⟨bk,ok+jn,none⟩) hbk).trans (hck jn kn hkq)
     have HDR:=hid (show x.1.kids.drop jn=(kn:Int) :: x.1.kids.drop (jn+1) by
      rw [aaX hjl,(aaE.1 hkq).2])
     have ck:wr.cell? ⟨w.heap.size+1,k,none⟩=some (.int .i64 ((u:Nat):Int)):=by
      rw [Nr.out.cell k,sM D' k (by rw [Br.out];omega),xB.out]
     have fn:=Nr.out.frozen kn
     have cn:wr.cell? ⟨w.heap.size+1,kn,none⟩=some (.int .i64 ((D'.getD kn 0:Nat):Int)):=by
      rw [Nr.out.cell kn,sM D' kn (by rw [Br.out];omega)]
     have k1:(0:Int)≤(kn:Int):=by omega
     have k2:(kn:Int) < (n:Int):=by omega
     have hkk:kn < k:=by omega
     clear hck hkq hwf;have j1:decide ((jn:Int) < (x.1.kids.length:Int))=true:=aaU (by omega);have j2:decide (jn < x.1.kids.length)=true:=aaU hjl;have w1:IntKind.i64.wrap ((u:Int)+1)=(u:Int)+1:=IntWalk.i64_in _ (by omega);have j3:(0:Int)≤(jn:Int):=by omega
     have j4:(jn:Int) < (x.1.kids.length:Int):=by omega
     go_wp2_with fail;go_region
     go_wp2_with fail
     refine⟨⟨jn+1,D'.set kn (u+1),by omega,by go_num,hid (by rw [List.length_set];exact Br.out),hid (aC.drew (by rw [← Hf];exact Nr.out.d_ kn _)),hid (aC.drew (HTj.out.far (by simp) _)),hid (by have h9:=HDK.out;rw [HDR.out] at h9;exact h9),hid (by rw [qD,if_neg (by omega)];exact xB.out),hid (HAA.out.set (by omega)),hid (Below.drew (dx Xp.out (by simp)))⟩,by simp [intOf];omega⟩
    case neg =>
     have JU:=hid (show D'=qy (aA xs) k D by have h9:=HDK.out;rw [List.drop_of_length_le (by omega)] at h9;exact h9);have j1:decide ((jn:Int) < (x.1.kids.length:Int))=false:=aaV (by omega);have j2:decide (jn < x.1.kids.length)=false:=aaV hjl;go_wp2_with fail
     refine⟨⟨k,D',by omega,by go_num,Br,Nr,HTj,hid (by rw [JU.out];exact HD.out),HAA,Xp⟩,by (first|(simp [intOf];done)|(simp [intOf];omega))⟩
theorem Sd:∀ (l:List Nat),l ≠ []→Lib.maxOf (l.map fun (d:Nat)=>(d:Int))=((l.foldl max 0:Nat):Int):=by
 intro l h;obtain⟨a,r,rfl⟩:=List.exists_cons_of_ne_nil h
 show (((a :: r).map fun (d:Nat)=>(d:Int)).foldl max (a:Int))=_
 rw [foldl_max];simp
theorem RI (l:List Nat)(k:Nat)(h:k < l.length):(l.take (k+1)).foldl max 0=max ((l.take k).foldl max 0) (l.getD k 0):=by
 rw [List.take_add_one,aaD h,List.foldl_append];simp [aaH,aaD h]
theorem L_ (ns:List Nd):jB ns=(((f_ ns).foldl max 0:Nat):Int):=by
 unfold jB;split
 ·rename_i h
  rw [List.length_eq_zero_iff.1 h];rfl
 ·rename_i h
  exact Sd _ (fun e=>h (by have:=congrArg List.length e;unfold f_ at this;rw [uV,List.length_replicate] at this;exact this))
theorem C8 (A B:Option Addr)(c m d:Nat)(xs:List NV)(its:List Int)(w:World)(hT:mq w A B xs its)(hW:Wf (aA xs))(hn:xs.length≤100000) :
  Calls Tryz.prog 57 #[.agg #[.slice A xs.length c,.slice B m d]] w fun e w'=>e=.returned (.int .i64 (jB (aA xs)))∧Below w.heap.size w w':=by
 have HD:=hid fun W (hb:Below w.heap.size w W)=>EM A B c m d xs its W (hT.below hb) hW hn
 have HX:=hid (L_ (aA xs));have Lh:=hid (show (f_ (aA xs)).length=xs.length by unfold f_;rw [uV,List.length_replicate,aD]);clear hT hW;obtain⟨n,hnn⟩:∃ n,n=xs.length:=⟨_,rfl⟩;rw [← hnn] at HD Lh hn ⊢
 clear hnn;have eH:=hid (ah (Below.refl w.heap.size w) (aaJ _) (o:=.cells #[.slice A n c,.slice B m d] 26));go_in
 go_wp2_with fail;refine (HD.out _ eH.out).mono ?_;rintro e w1⟨g,rfl,hg,hb,hl⟩;have HB:=hid hb;clear hb;have HL:=hid (eH.out.trans (hl.mono eH.out.size));clear hl eH;obtain⟨D,hD⟩:∃ D,D=f_ (aA xs):=⟨_,rfl⟩;rw [← hD] at HX Lh HB
 clear hD HD;go_wp2_with fail;go_loopw [3,5] (fun v i wr=>∃ (k u:Nat),wr=w1∧k≤n∧i=.int .i64 k∧v=.int .i64 u∧Hid (u=(D.take k).foldl max 0)) (fun _ i _=>n - (intOf i).toNat)
 case atStart=>exact⟨0,0,rfl,aaL _,rfl,rfl,hid rfl⟩
 case round =>
  obtain⟨k,u,rfl,hk,rfl,rfl,HU⟩:=hrel;by_cases hkn:k < n
  ·have i3:decide (k < n)=true:=aaU hkn;have ck:=HB.out.cell k;rw [sM D k (by rw [Lh.out];exact hkn)] at ck
   have HF:=hid (RI D k (by rw [Lh.out];exact hkn));rw [← HU.out] at HF
   obtain⟨q,hq⟩:∃ q,q=D.getD k 0:=⟨_,rfl⟩;rw [← hq] at ck HF
   clear hq;have z0:(0:Int)≤(k:Int):=by omega
   have z1:(k:Int) < (n:Int):=by omega
   have hmx:max (u:Int) (q:Int)=((max u q:Nat):Int):=by omega
   obtain⟨v,hv⟩:∃ v,v=max u q:=⟨_,rfl⟩;rw [← hv] at hmx HF
   clear hv;go_wp2_with fail;exact⟨⟨k+1,v,by first | rfl | trivial,by omega,by go_num,rfl,hid HF.out.symm⟩,by simp [intOf];omega⟩
  ·have i3:decide (k < n)=false:=aaV hkn;have HE:=hid (show ((u:Nat):Int)=jB (aA xs) by rw [HX.out,HU.out,aaN (by rw [Lh.out];omega)]);go_wp2_with fail;go_ret;exact⟨by rw [← HE.out];rfl,HL.out⟩
end Go.Proofs.YthepmkjggfijoaaGreatDoor
namespace Go.Proofs.YthepmkjggfijoaaGreatDoor
open Go.RowKit Mist
attribute [local go_sem] aj aH aS aB ak
def A8 (xs:List NV)(x:Nd):Prop:=x.kind=40→∃ (p q:Nat) (y z:NV),x.kids[0]? = some (p:Int)∧x.kids[1]? = some (q:Int)∧xs[p]? = some y∧xs[q]? = some z∧(-100000≤y.1.n∧y.1.n≤100000)∧(-100000≤z.1.n∧z.1.n≤100000)
theorem IQ (A B:Option Addr)(c m d i:Nat)(xs:List NV)(its:List Int)(x:NV)(w:World)(hT:mq w A B xs its)(hx:xs[i]? = some x)(hn:xs.length≤10000)(hC:A8 xs x.1) :
  Calls Tryz.prog 58 #[.agg #[.slice A xs.length c,.slice B m d],.int .i64 i] w fun e w'=>e=.returned (.bool (gD ⟨aA xs,its⟩ x.1))∧Below w.heap.size w w':=by
 have hil:i < xs.length:=(aaE.1 hx).1;obtain⟨b,o,rfl,hA⟩:=hT.nodes (by omega);have HA:=hid hA;have c0:=hA.c0 i x hx;have c1:=hA.c1 i x hx;have c2:=hA.c2 i x hx;have c3:=hA.c3 i x hx;have c4:=hA.c4 i x hx;have hbl:=hA.lt;obtain⟨Ka,ca,hxe,hxl,hxk⟩:=hA.kid hx;rw [hxe] at c3
 have tK:=hid hxk;clear hA hxe hxk hT;obtain⟨n,hnn⟩:∃ n,n=xs.length:=⟨_,rfl⟩;rw [← hnn] at hn hil ⊢
 have HN:=hid hnn;clear hnn;have HC:=hid hC;clear hC;clear hx;obtain⟨⟨k,tx,nn,ks,at_⟩,xv⟩:=x;obtain⟨nk,hnk⟩:∃ nk,nk=ks.length:=⟨_,rfl⟩;simp only at c0 c1 c2 c3 c4 hxl HC tK ⊢
 rw [← hnk] at c3 hxl
 have nu:=hid hnk;clear hnk;have z0:(0:Int)≤(i:Int):=by omega
 have z1:(i:Int) < (n:Int):=by omega
 have eH:=hid (ah (ah (Below.refl w.heap.size w) (aaJ _) (o:=.cells #[.slice (some ⟨b,o,none⟩) n c,.slice B m d] 26)) (by simp) (o:=.cells #[.int .u8 k,.string (aM tx),.int .i64 nn,.slice Ka nk ca,.int .i64 at_] 50))
 have HS:=hid (show gD ⟨aA xs,its⟩ ⟨k,tx,nn,ks,at_⟩=(if k=40 then decide ((nd ⟨aA xs,its⟩ (ks.getD 0 0).toNat).n≤(nd ⟨aA xs,its⟩ (ks.getD 1 0).toNat).n) && decide ((nd ⟨aA xs,its⟩ (ks.getD 1 0).toNat).n - (nd ⟨aA xs,its⟩ (ks.getD 0 0).toNat).n+1≤12)
   else if k=41 then decide (nk≤6) else if k=42 then decide ((nk:Int) - 2≤4) && decide (nn≤8) else if k=33 then within nn 1 6 else if k=26 then decide (nk≤6) else if k=46 then decide (nk≤4) else true) by rw [nu.out];rfl)
 go_in
 by_cases rT:k=40
 ·subst rT;obtain⟨p,q,y,z,hp,hq,hy,hz,hyb,hzb⟩:=HC.out rfl;obtain⟨bk,ok,rfl,hbk,hck⟩:=tK.out.ex (by show 0 < ks.length;have:=(aaE.1 hp).1;omega);have k0:=hck 0 p hp;rw [Nat.add_zero] at k0
  have k1:=hck 1 q hq;have n2:1 < nk:=by rw [nu.out];exact (aaE.1 hq).1
  have py:=HA.out.c2 p y hy;have pz:=HA.out.c2 q z hz;have hpn:p < n:=by rw [HN.out];exact (aaE.1 hy).1
  have VP:q < n:=by rw [HN.out];exact (aaE.1 hz).1
  have E_:=hid (show gD ⟨aA xs,its⟩ ⟨40,tx,nn,ks,at_⟩=(decide (y.1.n≤z.1.n) && decide (z.1.n - y.1.n+1≤12)) by
   rw [HS.out,if_pos rfl];rw [show ks.getD 0 0=(p:Int) by rw [aaH,hp];rfl,show ks.getD 1 0=(q:Int) by rw [aaH,hq];rfl,aaQ,aaQ,l7 its hy,l7 its hz])
  clear hck hp hq hy hz;obtain⟨u,hu⟩:∃ u,u=y.1.n:=⟨_,rfl⟩;obtain⟨v,hv⟩:∃ v,v=z.1.n:=⟨_,rfl⟩;rw [← hu] at py hyb E_
  rw [← hv] at pz hzb E_
  clear hu hv;have y0:(0:Int)≤(p:Int):=by omega
  have y1:(p:Int) < (n:Int):=by omega
  have y2:(0:Int)≤(q:Int):=by omega
  have y3:(q:Int) < (n:Int):=by omega
  have y4:(0:Int) < (nk:Int):=by omega
  have y5:(1:Int) < (nk:Int):=by omega
  go_wp2_with fail;go_region
  by_cases h1:u≤v
  ·have d1:decide (u≤v)=true:=aaU h1;go_wp2_with fail;go_ret;exact⟨by rw [E_.out,d1];rfl,by first | exact Below.drew eH.out | exact eH.out⟩
  ·have d1:decide (u≤v)=false:=aaV h1;go_wp2_with fail;go_ret;exact⟨by rw [E_.out,d1];rfl,by first | exact Below.drew eH.out | exact eH.out⟩
 have e40:((k:Int) == 40)=false:=by rw [aaF];omega
 by_cases h41:k=41
 ·subst h41;have E_:=hid (show gD ⟨aA xs,its⟩ ⟨41,tx,nn,ks,at_⟩=(decide (nk≤6)) by rw [HS.out];simp);clear HS;by_cases h1:nk≤6
  ·have d1:decide (nk≤6)=true:=aaU h1;have d1':decide ((nk:Int)≤6)=true:=aaU (by omega);clear h1;go_wp2_with fail;go_ret;exact⟨by rw [E_.out,d1];rfl,eH.out⟩
  ·have d1:decide (nk≤6)=false:=aaV h1;have d1':decide ((nk:Int)≤6)=false:=aaV (by omega);clear h1;go_wp2_with fail;go_ret;exact⟨by rw [E_.out,d1];rfl,eH.out⟩
 have e41:((k:Int) == 41)=false:=by rw [aaF];omega
 by_cases h42:k=42
 ·subst h42;have E_:=hid (show gD ⟨aA xs,its⟩ ⟨42,tx,nn,ks,at_⟩=(decide ((nk:Int) - 2≤4) && decide (nn≤8)) by rw [HS.out];simp);clear HS;have w1:IntKind.i64.wrap ((nk:Int) - 2)=(nk:Int) - 2:=IntWalk.i64_in _ (by omega);by_cases h1:(nk:Int) - 2≤4
  ·have d1:decide ((nk:Int) - 2≤4)=true:=aaU h1;by_cases h2:nn≤8
   ·have d2:decide (nn≤8)=true:=aaU h2;go_wp2_with fail;go_ret;exact⟨by rw [E_.out,d1,d2];rfl,eH.out⟩
   ·have d2:decide (nn≤8)=false:=aaV h2;go_wp2_with fail;go_ret;exact⟨by rw [E_.out,d1,d2];rfl,eH.out⟩
  ·have d1:decide ((nk:Int) - 2≤4)=false:=aaV h1;go_wp2_with fail;go_ret;exact⟨by rw [E_.out,d1];rfl,eH.out⟩
 have e42:((k:Int) == 42)=false:=by rw [aaF];omega
 by_cases h33:k=33
 ·subst h33;have E_:=hid (show gD ⟨aA xs,its⟩ ⟨33,tx,nn,ks,at_⟩=(decide (1≤nn) && decide (nn≤6)) by rw [HS.out];simp [within]);clear HS;by_cases h1:1≤nn
  ·have d1:decide (1≤nn)=true:=aaU h1;by_cases h2:nn≤6
   ·have d2:decide (nn≤6)=true:=aaU h2;go_wp2_with fail;go_ret;exact⟨by rw [E_.out,d1,d2];rfl,eH.out⟩
   ·have d2:decide (nn≤6)=false:=aaV h2;go_wp2_with fail;go_ret;exact⟨by rw [E_.out,d1,d2];rfl,eH.out⟩
  ·have d1:decide (1≤nn)=false:=aaV h1;go_wp2_with fail;go_ret;exact⟨by rw [E_.out,d1];rfl,eH.out⟩
 have e33:((k:Int) == 33)=false:=by rw [aaF];omega
 by_cases h26:k=26
 ·subst h26;have E_:=hid (show gD ⟨aA xs,its⟩ ⟨26,tx,nn,ks,at_⟩=(decide (nk≤6)) by rw [HS.out];simp);clear HS;by_cases h1:nk≤6
  ·have d1:decide (nk≤6)=true:=aaU h1;have d1':decide ((nk:Int)≤6)=true:=aaU (by omega);clear h1;go_wp2_with fail;go_ret;exact⟨by rw [E_.out,d1];rfl,eH.out⟩
  ·have d1:decide (nk≤6)=false:=aaV h1;have d1':decide ((nk:Int)≤6)=false:=aaV (by omega);clear h1;go_wp2_with fail;go_ret;exact⟨by rw [E_.out,d1];rfl,eH.out⟩
 have e26:((k:Int) == 26)=false:=by rw [aaF];omega
 by_cases h46:k=46
 ·subst h46;have E_:=hid (show gD ⟨aA xs,its⟩ ⟨46,tx,nn,ks,at_⟩=(decide (nk≤4)) by rw [HS.out];simp);clear HS;by_cases h1:nk≤4
  ·have d1:decide (nk≤4)=true:=aaU h1;have d1':decide ((nk:Int)≤4)=true:=aaU (by omega);clear h1;go_wp2_with fail;go_ret;exact⟨by rw [E_.out,d1];rfl,eH.out⟩
  ·have d1:decide (nk≤4)=false:=aaV h1;have d1':decide ((nk:Int)≤4)=false:=aaV (by omega);clear h1;go_wp2_with fail;go_ret;exact⟨by rw [E_.out,d1];rfl,eH.out⟩
 have e46:((k:Int) == 46)=false:=by rw [aaF];omega
 have E_:=hid (show gD ⟨aA xs,its⟩ ⟨k,tx,nn,ks,at_⟩=true by rw [HS.out];simp [*]);clear HS;go_wp2_with fail;go_ret;exact⟨by rw [E_.out];rfl,eH.out⟩
structure RowsIn (g:Nat) (w:World) (nv iv:Value) (xs:List NV) (its:List Int):Prop where
 own:w.ownsRow g 50 5 nv xs.length (iO xs)
 kids:∀ x ∈ xs,w.ownsRow g 3 1 x.2 x.1.kids.length (intCells x.1.kids)
 row:w.ownsRow g 3 1 iv its.length (intCells its)
 far:∀ x ∈ xs,x.2.ownBlock=none∨x.2.ownBlock ≠ iv.ownBlock
theorem RowsIn.below {g:Nat}{w w':World}{nv iv:Value}{xs:List NV}{its:List Int}(h:RowsIn g w nv iv xs its)(hb:Below w.heap.size w w'):RowsIn g w' nv iv xs its :=
 ⟨own_below h.own hb,fun x hx=>own_below (h.kids x hx) hb,own_below h.row hb,h.far⟩
theorem RowsIn.add {g:Nat}{w w1:World}{tb:Nat}{nv eO iv:Value}{xs:List NV}{its:List Int}{x:NV}(h:RowsIn g w nv iv xs its)(hB:aC w tb 26 #[nv,iv])(hg:w.grownBy w1 nv.ownBlock)(hown:w1.ownsRow g 50 5 eO (xs.length+1) (iO xs ++ fC x))(hk:w.ownsRow g 3 1 x.2 x.1.kids.length (intCells x.1.kids))(hf:x.2.ownBlock=none∨x.2.ownBlock ≠ iv.ownBlock) :
  RowsIn g (w1.setCell ⟨tb,0,none⟩ eO) eO iv (xs ++ [x]) its∧aC (w1.setCell ⟨tb,0,none⟩ eO) tb 26 #[eO,iv]:=by
 have hb:=hB.grown hg (fun e=>aT h.own hB (by decide) e.symm)
 have keep:∀ {v:Value} {n:Nat} {cs:List Value},w.ownsRow g 3 1 v n cs→(w1.setCell ⟨tb,0,none⟩ eO).ownsRow g 3 1 v n cs:=fun hk =>
  ownsRow_setCell_other (hk.kept hg (iE hk h.own (by decide))) (aT (hk.kept hg (iE hk h.own (by decide))) hb (by decide)) _
 refine⟨⟨?_,fun y hy=>?_,keep h.row,fun y hy=>?_⟩,?_⟩
 ·rw [aaO,rJ];have e:iO [x]=fC x:=by simp [iO]
  rw [e];exact ownsRow_setCell_other hown (aT hown hb (by decide)) _
 ·rcases List.mem_append.1 hy with hy | hy
  ·exact keep (h.kids y hy)
  ·rw [List.mem_singleton.1 hy];exact keep hk
 ·rcases List.mem_append.1 hy with hy | hy
  ·exact h.far y hy
  ·rw [List.mem_singleton.1 hy];exact hf
 ·have:=hb.d_ 0 eO;simpa using this
def eU (x:Nd):Nd:=⟨x.kind,x.text,x.n,x.kids,0⟩
theorem FP {α:Type}{l r:List α}{k:Nat}{a b:α}(h1:l[k]? = some a)(h2:r[k]? = some b)(h:a ≠ b):l ≠ r:=by
 rintro rfl;exact h (aaP (h1.symm.trans h2))
theorem UJ {α:Type}{l r:List α}{k:Nat}{a b:α}(h1:l[k]? = some a)(h2:r[k]? = some b)(h:a=b)(ht:l.take k=r.take k):l.take (k+1)=r.take (k+1):=by
 rw [List.take_add_one,List.take_add_one,h1,h2,h,ht]
theorem KV {α:Type}{l r:List α}{k:Nat}(h1:l.length≤k)(h2:r.length≤k)(ht:l.take k=r.take k):l=r:=by
 rwa [aaN h1,aaN h2] at ht
theorem JZ (A B A' B':Option Addr)(c d c' d':Nat)(xs ys:List NV)(its iB:List Int)(w:World)(hT:mq w A B xs its)(hU:mq w A' B' ys iB)(hx:xs.length≤100000)(hy:ys.length≤100000)(hi:its.length≤100000)(hj:iB.length≤100000) :
  Calls Tryz.prog 59 #[.agg #[.slice A xs.length c,.slice B its.length d],.agg #[.slice A' ys.length c',.slice B' iB.length d']] w fun e w'=>Below w.heap.size w w'∧∃ r:Bool,e=.returned (.bool r)∧(r=true↔(aA xs).map eU=(aA ys).map eU∧its=iB):=by
 obtain⟨n,hnn⟩:∃ n,n=xs.length:=⟨_,rfl⟩;obtain⟨n',D_⟩:∃ n,n=ys.length:=⟨_,rfl⟩;obtain⟨m,hmm⟩:∃ m,m=its.length:=⟨_,rfl⟩;obtain⟨m',hmm'⟩:∃ m,m=iB.length:=⟨_,rfl⟩;rw [← hnn] at hx ⊢
 rw [← D_] at hy ⊢
 rw [← hmm] at hi ⊢
 rw [← hmm'] at hj ⊢
 have HT:=hid hT;clear hT;have HU:=hid hU;clear hU;have HN:=hid hnn;clear hnn;have Nv:=hid D_;clear D_;have HM:=hid hmm;clear hmm;have HM':=hid hmm';clear hmm';have eH:=hid (ah (ah (Below.refl w.heap.size w) (aaJ _) (o:=.cells #[.slice A n c,.slice B m d] 26)) (by simp) (o:=.cells #[.slice A' n' c',.slice B' m' d'] 26));have HX0:=hid ((aC.new w 26 #[.slice A n c,.slice B m d]).alloc (.cells #[.slice A' n' c',.slice B' m' d'] 26));have HY0:=hid (dL (W:=w.alloc (.cells #[.slice A n c,.slice B m d] 26)) (T:=26) (cs:=#[.slice A' n' c',.slice B' m' d']) (k:=w.heap.size+1) (by simp));by_cases hn:n=n'
 case neg =>
  have q1:((n:Int) != (n':Int))=true:=by simp;omega
  have HF:=hid (show ¬ ((aA xs).map eU=(aA ys).map eU∧its=iB) from fun h=>hn (by have:=congrArg List.length h.1;simp only [List.length_map,aD] at this;rw [HN.out,Nv.out];exact this));clear hn;go_in
  go_wp2_with fail;go_ret;exact⟨eH.out,false,rfl,by simp only [Bool.false_eq_true,false_iff];exact HF.out⟩
 subst hn;have q1:((n:Int) != (n:Int))=false:=by simp
 by_cases hm:m=m'
 case neg =>
  have q2:((m:Int) != (m':Int))=true:=by simp;omega
  have HF:=hid (show ¬ ((aA xs).map eU=(aA ys).map eU∧its=iB) from fun h=>hm (by rw [HM.out,HM'.out,h.2]));clear hm;go_in
  go_wp2_with fail;go_ret;exact⟨eH.out,false,rfl,by simp only [Bool.false_eq_true,false_iff];exact HF.out⟩
 subst hm;have q2:((m:Int) != (m:Int))=false:=by simp
 clear hy hj;go_in
 go_wp2_with fail;go_loopw [5] (fun i wr=>∃ k:Nat,k≤m∧i=.int .i64 k∧Hid (its.take k=iB.take k)∧Hid (aC wr w.heap.size 26 #[.slice A n c,.slice B m d])∧Hid (aC wr (w.heap.size+1) 26 #[.slice A' n c',.slice B' m d'])∧Hid (Below w.heap.size w wr)) (fun i _=>m - (intOf i).toNat)
 case atStart=>exact⟨0,aaL _,rfl,hid rfl,HX0,HY0,eH⟩
 case round =>
  obtain⟨k,hk,rfl,HK,HX,HY,HL⟩:=hrel;clear eH HX0 HY0;have x0:=HX.out.cell 0;have x1:=HX.out.cell 1;have y0:=HY.out.cell 0;have y1:=HY.out.cell 1;by_cases hkm:k < m
  ·have i3:decide (k < m)=true:=aaU hkm;obtain⟨b,o,rfl,hbl,hc⟩:=HT.out.items.ex (by rw [← HM.out];omega);obtain⟨b',o',rfl,hbl',hc'⟩:=HU.out.items.ex (by rw [← HM'.out];omega);obtain⟨p,hp⟩:∃ p,its[k]? = some p:=⟨_,aaD (by rw [← HM.out];exact hkm)⟩;obtain⟨q,hq⟩:∃ p,iB[k]? = some p:=⟨_,aaD (by rw [← HM'.out];exact hkm)⟩;have cp:=(HL.out.cell (p:=⟨b,o+k,none⟩) (by exact hbl)).trans (hc k p hp);have cq:=(HL.out.cell (p:=⟨b',o'+k,none⟩) (by exact hbl')).trans (hc' k q hq);have z0:(0:Int)≤(k:Int):=by omega
   have z1:(k:Int) < (m:Int):=by omega
   by_cases hpq:p=q
   ·have HK2:=hid (UJ hp hq hpq HK.out);have e1:(p != q)=false:=by simp [hpq]
    clear hc hc' hp hq hpq;go_wp2_with fail;go_quiet (fail)
    go_wp2_with fail;exact⟨⟨k+1,by omega,by go_num,HK2,hid (HX.out.drewN _),hid (HY.out.drewN _),hid (gU HL.out _)⟩,by simp [intOf];omega⟩
   ·have HF:=hid (show ¬ ((aA xs).map eU=(aA ys).map eU∧its=iB) from fun h=>FP hp hq hpq h.2);have e1:(p != q)=true:=by simp [hpq]
    clear hc hc' hp hq hpq;go_wp2_with fail;go_quiet (fail)
    go_wp2_with fail;go_ret;exact⟨gU HL.out _,false,rfl,by simp only [Bool.false_eq_true,false_iff];exact HF.out⟩
  ·have i3:decide (k < m)=false:=aaV hkm;have HIT:=hid (KV (by rw [← HM.out];omega) (by rw [← HM'.out];omega) HK.out);clear HK;go_wp2_with fail;clear x0 x1 y0 y1;go_loopw [6] (fun i wr=>∃ k:Nat,k≤n∧i=.int .i64 k∧Hid (((aA xs).take k).map eU=((aA ys).take k).map eU)∧Hid (aC wr w.heap.size 26 #[.slice A n c,.slice B m d])∧Hid (aC wr (w.heap.size+1) 26 #[.slice A' n c',.slice B' m d'])∧Hid (Below w.heap.size w wr)) (fun i _=>n - (intOf i).toNat)
   case atStart=>exact⟨0,aaL _,rfl,hid rfl,HX,HY,HL⟩
   case round =>
    clear HX HY HL;obtain⟨wo,rfl⟩:∃ wo:World,wo=wr:=⟨_,rfl⟩;obtain⟨k,hk,rfl,HK,HX,HY,HL⟩:=hrel;have x0:=HX.out.cell 0;have x1:=HX.out.cell 1;have y0:=HY.out.cell 0;have y1:=HY.out.cell 1;by_cases hkn:k < n
    ·have i3:decide (k < n)=true:=aaU hkn;obtain⟨b,o,rfl,hA⟩:=HT.out.nodes (by rw [← HN.out];omega);obtain⟨b',o',rfl,hB⟩:=HU.out.nodes (by rw [← Nv.out];omega);obtain⟨x,hx⟩:∃ x,xs[k]? = some x:=jD (by rw [← HN.out];exact hkn);obtain⟨y,hy⟩:∃ y,ys[k]? = some y:=jD (by rw [← Nv.out];exact hkn);have c0:=(HL.out.cell (p:=⟨b,o+k * 5,none⟩) hA.lt).trans (hA.c0 k x hx);have c1:=(HL.out.cell (p:=⟨b,o+k * 5+1,none⟩) hA.lt).trans (hA.c1 k x hx);have c2:=(HL.out.cell (p:=⟨b,o+k * 5+2,none⟩) hA.lt).trans (hA.c2 k x hx);have c3:=(HL.out.cell (p:=⟨b,o+k * 5+3,none⟩) hA.lt).trans (hA.c3 k x hx);have c4:=(HL.out.cell (p:=⟨b,o+k * 5+4,none⟩) hA.lt).trans (hA.c4 k x hx);have d0:=(HL.out.cell (p:=⟨b',o'+k * 5,none⟩) hB.lt).trans (hB.c0 k y hy);have d1:=(HL.out.cell (p:=⟨b',o'+k * 5+1,none⟩) hB.lt).trans (hB.c1 k y hy);have d2:=(HL.out.cell (p:=⟨b',o'+k * 5+2,none⟩) hB.lt).trans (hB.c2 k y hy);have d3:=(HL.out.cell (p:=⟨b',o'+k * 5+3,none⟩) hB.lt).trans (hB.c3 k y hy);have d4:=(HL.out.cell (p:=⟨b',o'+k * 5+4,none⟩) hB.lt).trans (hB.c4 k y hy);obtain⟨Ka,ca,hxe,hxl,hxk⟩:=hA.kid hx;obtain⟨Kb,cb,hye,hyl,hyk⟩:=hB.kid hy;rw [hxe] at c3
     rw [hye] at d3
     have tK:=hid hxk;have HYK:=hid hyk;have Rh:=hid (gP hx);have HYG:=hid (gP hy);have hl1:=HX.out.lt;have hl2:=HY.out.lt;have hb1:b < wo.heap.size:=aaW hA.lt HL.out.size;have hb2:b' < wo.heap.size:=aaW hB.lt HL.out.size;clear hA hB hx hy hxe hye hxk hyk;have z0:(0:Int)≤(k:Int):=by omega
     have z1:(k:Int) < (n:Int):=by omega
     have F7:=hid (show eU x.1 ≠ eU y.1→¬ ((aA xs).map eU=(aA ys).map eU∧its=iB) from fun h h2=>by
      refine FP (l:=(aA xs).map eU) (r:=(aA ys).map eU) (k:=k) ?_ ?_ h h2.1
      ·rw [List.getElem?_map,Rh.out];rfl
      ·rw [List.getElem?_map,HYG.out];rfl)
     go_upto_region 11 with (fail)
     go_cut [7,8] from 44 to 106 (fun u v wx=>∃ p q:Nat,u=.pointer (some ⟨p,0,none⟩)∧v=.pointer (some ⟨q,0,none⟩)∧Hid (aC wx p 50 #[.int .u8 x.1.kind,.string (aM x.1.text),.int .i64 x.1.n,.slice Ka x.1.kids.length ca,.int .i64 x.1.at_])∧Hid (aC wx q 50 #[.int .u8 y.1.kind,.string (aM y.1.text),.int .i64 y.1.n,.slice Kb y.1.kids.length cb,.int .i64 y.1.at_])∧Hid (Below wo.heap.size wo wx))
     case first =>
      go_region
      all_goals
       go_wp2_with fail;go_meet
       refine⟨_,_,rfl,rfl,hid (aC.drew ?_),hid (aC.drew ?_),hid (Below.drew (ah (ah (Below.refl _ _) (aaJ _)) (by simp)))⟩
       ·first | exact (aC.new wo _ _).alloc _ | exact dL (by simp)
       ·first | exact (aC.new wo _ _).alloc _ | exact dL (by simp)
     case rest =>
      obtain⟨p,q,rfl,rfl,HP,HQ,Ql⟩:=hcut;have HLc:=hid (HL.out.trans (Ql.out.mono HL.out.size));have HXc:=hid (HX.out.below Ql.out HX.out.lt);have HYc:=hid (HY.out.below Ql.out HY.out.lt);clear HX HY HL Ql x0 x1 y0 y1 c0 c1 c2 c3 c4 d0 d1 d2 d3 d4;have x0:=HXc.out.cell 0;have x1:=HXc.out.cell 1;have y0:=HYc.out.cell 0;have y1:=HYc.out.cell 1;have c0:=HP.out.cell 0;have c1:=HP.out.cell 1;have c2:=HP.out.cell 2;have c3:=HP.out.cell 3;have d0:=HQ.out.cell 0;have d1:=HQ.out.cell 1;have d2:=HQ.out.cell 2;have d3:=HQ.out.cell 3;by_cases h1:x.1.kind=y.1.kind
      case neg =>
       have e1:((x.1.kind:Int) != (y.1.kind:Int))=true:=by simp;omega
       have HF:=hid (F7.out fun h=>h1 (show x.1.kind=y.1.kind from by have h9:=congrArg Nd.kind h;exact h9));clear h1;go_wp2_with fail;go_ret;exact⟨HLc.out,false,rfl,by simp only [Bool.false_eq_true,false_iff];exact HF.out⟩
      have e1:((x.1.kind:Int) != (y.1.kind:Int))=false:=by simp;omega
      by_cases h2:x.1.text=y.1.text
      case neg =>
       have e2:(x.1.text != y.1.text)=true:=by simpa using h2
       have HF:=hid (F7.out fun h=>h2 (show x.1.text=y.1.text from by have h9:=congrArg Nd.text h;exact h9));have H1:=hid h1;clear h1;go_wp2_with fail;go_ret;exact⟨HLc.out,false,rfl,by simp only [Bool.false_eq_true,false_iff];exact HF.out⟩
      have e2:(x.1.text != y.1.text)=false:=by simpa using h2
      by_cases h3:x.1.n=y.1.n
      case neg =>
       have e3:(x.1.n != y.1.n)=true:=by simpa using h3
       have HF:=hid (F7.out fun h=>h3 (show x.1.n=y.1.n from by have h9:=congrArg Nd.n h;exact h9));have H1:=hid h1;have H2:=hid h2;clear h1 h2 h3;go_wp2_with fail;go_ret;exact⟨HLc.out,false,rfl,by simp only [Bool.false_eq_true,false_iff];exact HF.out⟩
      have e3:(x.1.n != y.1.n)=false:=by simpa using h3
      obtain⟨nk,hnk⟩:∃ nk,nk=x.1.kids.length:=⟨_,rfl⟩;obtain⟨nk',hnk'⟩:∃ nk,nk=y.1.kids.length:=⟨_,rfl⟩;have H1:=hid h1;have H2:=hid h2;have H3:=hid h3;clear h1 h2 h3;rw [← hnk] at c3 hxl HP
      rw [← hnk'] at d3 hyl HQ
      have Xo:=hid hnk;have HK2:=hid hnk';clear hnk hnk';by_cases h4:nk=nk'
      case neg =>
       have e4:((nk:Int) != (nk':Int))=true:=by simp;omega
       have HF:=hid (F7.out fun h=>h4 (by rw [Xo.out,HK2.out];have h9:=congrArg (fun z=>z.kids.length) h;exact h9));clear h4;go_wp2_with fail;go_ret;exact⟨HLc.out,false,rfl,by simp only [Bool.false_eq_true,false_iff];exact HF.out⟩
      subst h4;have e4:((nk:Int) != (nk:Int))=false:=by simp
      go_wp2_with fail;go_loopw [9] (fun i wr=>∃ j:Nat,j≤nk∧i=.int .i64 j∧Hid (x.1.kids.take j=y.1.kids.take j)∧Hid (aC wr p 50 #[.int .u8 x.1.kind,.string (aM x.1.text),.int .i64 x.1.n,.slice Ka nk ca,.int .i64 x.1.at_])∧Hid (aC wr q 50 #[.int .u8 y.1.kind,.string (aM y.1.text),.int .i64 y.1.n,.slice Kb nk cb,.int .i64 y.1.at_])∧Hid (aC wr w.heap.size 26 #[.slice (some ⟨b,o,none⟩) n c,.slice B m d])∧Hid (aC wr (w.heap.size+1) 26 #[.slice (some ⟨b',o',none⟩) n c',.slice B' m d'])∧Hid (Below w.heap.size w wr)) (fun i _=>nk - (intOf i).toNat)
      case atStart=>exact⟨0,aaL _,rfl,hid rfl,HP,HQ,HXc,HYc,HLc⟩
      case round =>
       clear HP HQ HXc HYc HLc x0 x1 y0 y1 c0 c1 c2 c3 d0 d1 d2 d3;obtain⟨j,hj,rfl,HJ,HP,HQ,HX,HY,HL⟩:=hrel;have c3:=HP.out.cell 3;have d3:=HQ.out.cell 3;by_cases hjl:j < nk
       ·have i4:decide (j < nk)=true:=aaU hjl;obtain⟨bk,ok,rfl,hbk,hck⟩:=tK.out.ex (by rw [← Xo.out];omega);obtain⟨bl,ol,rfl,hbl,hcl⟩:=HYK.out.ex (by rw [← HK2.out];omega);obtain⟨kp,hkp⟩:∃ kp,x.1.kids[j]? = some kp:=⟨_,aaD (by rw [← Xo.out];exact hjl)⟩;obtain⟨kq,hkq⟩:∃ kp,y.1.kids[j]? = some kp:=⟨_,aaD (by rw [← HK2.out];exact hjl)⟩;have cj:=(HL.out.cell (p:=⟨bk,ok+j,none⟩) hbk).trans (hck j kp hkp);have dj:=(HL.out.cell (p:=⟨bl,ol+j,none⟩) hbl).trans (hcl j kq hkq);have z2:(0:Int)≤(j:Int):=by omega
        have z3:(j:Int) < (nk:Int):=by omega
        by_cases hpq:kp=kq
        ·have HJ2:=hid (UJ hkp hkq hpq HJ.out);have e5:(kp != kq)=false:=by simp [hpq]
         clear hck hcl hkp hkq hpq;go_wp2_with fail;go_quiet (fail)
         go_wp2_with fail;exact⟨⟨j+1,by omega,by go_num,HJ2,hid (HP.out.drewN _),hid (HQ.out.drewN _),hid (HX.out.drewN _),hid (HY.out.drewN _),hid (gU HL.out _)⟩,by simp [intOf];omega⟩
        ·have HF:=hid (F7.out fun h=>FP hkp hkq hpq (show x.1.kids=y.1.kids from by have h9:=congrArg Nd.kids h;exact h9));have e5:(kp != kq)=true:=by simp [hpq]
         clear hck hcl hkp hkq hpq;go_wp2_with fail;go_quiet (fail)
         go_wp2_with fail;go_ret;exact⟨gU HL.out _,false,rfl,by simp only [Bool.false_eq_true,false_iff];exact HF.out⟩
       ·have i4:decide (j < nk)=false:=aaV hjl;have HKK:=hid (KV (by rw [← Xo.out];omega) (by rw [← HK2.out];omega) HJ.out)
        have HNX:=hid (show ((aA xs).take (k+1)).map eU=((aA ys).take (k+1)).map eU by
         rw [List.take_add_one,List.take_add_one,Rh.out,HYG.out,List.map_append,List.map_append,HK.out];simp [eU,H1.out,H2.out,H3.out,HKK.out])
        go_wp2_with fail;exact⟨⟨k+1,by omega,by go_num,HNX,HX,HY,HL⟩,by simp [intOf];omega⟩
    ·have i3:decide (k < n)=false:=aaV hkn
     have HEQ:=hid (show (aA xs).map eU=(aA ys).map eU by
      have h9:=HK.out
      rwa [aaN (by rw [aD,← HN.out];omega),aaN (by rw [aD,← Nv.out];omega)] at h9)
     go_wp2_with fail;go_ret;exact⟨HL.out,true,rfl,by simp only [true_iff];exact⟨HEQ.out,HIT.out⟩⟩
theorem Py (A B A' B':Option Addr)(c d c' d':Nat)(xs ys:List NV)(its:List Int)(w:World)(hT:mq w A B xs its)(hU:mq w A' B' ys its)(hN:aA xs=aA ys)(hx:xs.length≤100000)(hi:its.length≤100000) :
  Calls Tryz.prog 19 #[.agg #[.slice A xs.length c,.slice B its.length d],.agg #[.slice A' ys.length c',.slice B' its.length d']] w fun e w'=>Below w.heap.size w w'∧e=.returned (.bool true):=by
 have hl:ys.length=xs.length:=by rw [← aD,← aD,hN]
 have JR:=hid fun W (hb:Below w.heap.size w W)=>JZ A B A' B' c d c' d' xs ys its its W (hT.below hb) (hU.below hb) hx (by omega) hi hi
 rw [hl] at JR ⊢
 obtain⟨n,hnn⟩:∃ n,n=xs.length:=⟨_,rfl⟩;obtain⟨m,hmm⟩:∃ m,m=its.length:=⟨_,rfl⟩;rw [← hnn,← hmm] at JR ⊢
 rw [← hnn] at hx hl
 have HN:=hid hnn;clear hnn;have Nv:=hid hl.symm;clear hl;have HE:=hid hN;clear hN;have HT:=hid hT;clear hT;have HU:=hid hU;clear hU;clear hmm hi;have eH:=hid (ah (ah (Below.refl w.heap.size w) (aaJ _) (o:=.cells #[.slice A n c,.slice B m d] 26)) (by simp) (o:=.cells #[.slice A' n c',.slice B' m d'] 26));have HX0:=hid ((aC.new w 26 #[.slice A n c,.slice B m d]).alloc (.cells #[.slice A' n c',.slice B' m d'] 26));have HY0:=hid (dL (W:=w.alloc (.cells #[.slice A n c,.slice B m d] 26)) (T:=26) (cs:=#[.slice A' n c',.slice B' m d']) (k:=w.heap.size+1) (by simp));go_in
 go_wp2_with fail;refine (JR.out _ eH.out).mono ?_;rintro e w1⟨hb1,r,rfl,hr⟩;obtain rfl:r=true:=hr.2 ⟨by rw [HE.out],by trivial⟩;clear hr;have HX:=hid (HX0.out.below hb1 HX0.out.lt);have HY:=hid (HY0.out.below hb1 HY0.out.lt);have HL:=hid (eH.out.trans (hb1.mono eH.out.size));clear HX0 HY0 eH hb1 JR;go_wp2_with fail;go_loopw [5] (fun i wr=>∃ k:Nat,k≤n∧i=.int .i64 k∧Hid (aC wr w.heap.size 26 #[.slice A n c,.slice B m d])∧Hid (aC wr (w.heap.size+1) 26 #[.slice A' n c',.slice B' m d'])∧Hid (Below w.heap.size w wr)) (fun i _=>n - (intOf i).toNat)
 case atStart=>exact⟨0,aaL _,rfl,HX,HY,HL⟩
 case round =>
  clear HX HY HL;obtain⟨k,hk,rfl,HX,HY,HL⟩:=hrel;have x0:=HX.out.cell 0;have x1:=HX.out.cell 1;have y0:=HY.out.cell 0;have y1:=HY.out.cell 1;by_cases hkn:k < n
  ·have i3:decide (k < n)=true:=aaU hkn;obtain⟨b,o,rfl,hA⟩:=HT.out.nodes (by rw [← HN.out];omega);obtain⟨b',o',rfl,hB⟩:=HU.out.nodes (by rw [← Nv.out];omega);obtain⟨x,hx⟩:∃ x,xs[k]? = some x:=jD (by rw [← HN.out];exact hkn);obtain⟨y,hy⟩:∃ y,ys[k]? = some y:=jD (by rw [← Nv.out];exact hkn);have c4:=(HL.out.cell (p:=⟨b,o+k * 5+4,none⟩) hA.lt).trans (hA.c4 k x hx);have d4:=(HL.out.cell (p:=⟨b',o'+k * 5+4,none⟩) hB.lt).trans (hB.c4 k y hy)
   have e1:y.1=x.1:=by
    have h1:=gP hx;have h2:=gP hy;rw [HE.out] at h1
    exact aaP (h2.symm.trans h1)
   rw [e1] at d4
   clear hA hB hx hy e1;have z0:(0:Int)≤(k:Int):=by omega
   have z1:(k:Int) < (n:Int):=by omega
   have e2:(x.1.at_ != x.1.at_)=false:=by simp
   go_wp2_with fail;go_quiet (fail)
   go_wp2_with fail;exact⟨⟨k+1,by omega,by go_num,hid (HX.out.drewN _),hid (HY.out.drewN _),hid (gU HL.out _)⟩,by simp [intOf];omega⟩
  ·have i3:decide (k < n)=false:=aaV hkn;go_wp2_with fail;go_ret;exact⟨HL.out,rfl⟩
theorem RowsIn.UH {g:Nat}{w:World}{A B:Option Addr}{c d:Nat}{xs:List NV}{its:List Int}(h:RowsIn g w (.slice A xs.length c) (.slice B its.length d) xs its)(hk:∀ x ∈ xs,x.1.kids.length≤1000000):mq w A B xs its:=by
 refine⟨fun h0=>?_,yI h.row rfl⟩
 obtain⟨gb,e,hn⟩:=Ee h.own h0 (fun x hx=>⟨_,h.kids x hx⟩) hk;exact⟨gb,0,e,hn⟩
end Go.Proofs.YthepmkjggfijoaaGreatDoor
