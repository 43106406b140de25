/-
  A part of the proof.
-/
import Derived.Test.YtalghggmkojblaaGreatDoorS35
set_option linter.all false
set_option maxRecDepth 100000
set_option maxHeartbeats 4000000
set_option linter.all false
namespace Mist
theorem LW (out:List (List Pz))(c:Pz):(jA out c).flatten=out.flatten ++ [c]:=by
 unfold jA;split
 ·simp
 ·rename_i f
  have b:out ≠ []:=fun e=>f (.inr e)
  have e:out.getLastD []=out.getLast b:=by
   cases out with
   | nil=>exact absurd rfl b
   | cons a l=>rfl
  have h2:=List.dropLast_concat_getLast b;rw [e]
  conv=>rhs;rw [← h2]
  simp
theorem yM (l:List Pz):(eZ l).flatten=l:=by
 have:∀ (l:List Pz) (out:List (List Pz)),(l.foldl jA out).flatten=out.flatten ++ l:=by
  intro l
  induction l with
  | nil=>intro out;simp
  | cons c l a=>intro out;rw [List.foldl_cons,a,LW];simp
 have h:=this l []
 simpa [eZ] using h
def j_ (wide:Int)(st:Nat × Nat × Bs)(r:List Pz):Nat × Nat × Bs :=
 if st.1=0 then (1,(gP r).length,st.2.2 ++ gP r)
 else if wide < ((st.2.1+1+(gP r).length:Nat):Int) then (st.1+1,2+(gP r).length,st.2.2 ++ [10,32,32] ++ gP r)
 else (st.1+1,st.2.1+(1+(gP r).length),st.2.2 ++ [32] ++ gP r)
def fH (wide:Int)(rs:List (List Pz)):Nat × Nat × Bs:=rs.foldl (j_ wide) (0,0,[])
theorem oo (a:Int)(rs:List (List Pz))(r:List Pz):fH a (rs ++ [r])=j_ a (fH a rs) r:=by unfold fH;rw [List.foldl_append];rfl
theorem Jt (b:Int)(rs:List (List Pz)):(fH b rs).1=rs.length:=by
 have:∀ (n:Nat) (rs:List (List Pz)),rs.length=n→(fH b rs).1=n:=by
  intro n
  induction n with
  | zero=>intro l h;rw [List.length_eq_zero_iff.1 h];rfl
  | succ n i =>
   intro l h;have f:l ≠ []:=fun e=>by rw [e] at h;cases h
   obtain⟨a,x,e⟩:∃ a x,l=a ++ [x]:=⟨l.dropLast,l.getLast f,(List.dropLast_concat_getLast f).symm⟩;subst e;have g:=i a (by simp at h;exact h);rw [oo];unfold j_;rw [g];split
   ·omega
   ·split <;> rfl
 exact this _ rs rfl
theorem afb (s p:Bs):(Go.Lib.trimPrefix s p).length≤s.length:=by
 unfold Go.Lib.trimPrefix;split
 ·rw [List.length_drop];omega
 ·exact amL _
theorem VI {l:List Pz}(h:Sh l):(gP l).length≤13 * l.length:=Nat.le_trans (afb _ _) (tT h)
def Ry (rs:List (List Pz)):Nat:=13 * rs.flatten.length+3 * rs.length
theorem aaU (b:Int):∀ (n:Nat) (rs:List (List Pz)),rs.length=n→(∀ r ∈ rs,Sh r)→(fH b rs).2.1≤Ry rs∧(fH b rs).2.2.length≤Ry rs:=by
 intro n
 induction n with
 | zero=>intro l h _;rw [List.length_eq_zero_iff.1 h];exact⟨amL _,amL _⟩
 | succ n j =>
  intro l h hS;have f:l ≠ []:=fun e=>by rw [e] at h;cases h
  obtain⟨a,x,e⟩:∃ a x,l=a ++ [x]:=⟨l.dropLast,l.getLast f,(List.dropLast_concat_getLast f).symm⟩;subst e;obtain⟨h1,h2⟩:=j a (by simp at h;exact h) fun r i=>hS r (List.mem_append_left _ i)
  have h3:=VI (hS x (by simp));have g:Ry (a ++ [x])=Ry a+(13 * x.length+3):=by unfold Ry;simp;omega
  rw [oo,g];unfold j_;split
  ·refine⟨?_,?_⟩
   ·show (gP x).length≤_;omega
   ·show ((fH b a).2.2 ++ gP x).length≤_;rw [amQ];omega
  ·split
   ·refine⟨?_,?_⟩
    ·show 2+(gP x).length≤_;omega
    ·show ((fH b a).2.2 ++ [10,32,32] ++ gP x).length≤_;rw [amQ,amQ];simp;omega
   ·refine⟨?_,?_⟩
    ·show (fH b a).2.1+(1+(gP x).length)≤_;omega
    ·show ((fH b a).2.2 ++ [32] ++ gP x).length≤_;rw [amQ,amQ];simp;omega
theorem acQ {l:List Pz}(h:Sh l)(e:l.length≤20000):∀ r ∈ eZ l,Sh r∧r.length≤20000:=by
 intro r b
 have:=J_ (Q:=fun p=>p.text.length≤12) l.length l rfl (fun p a=>h p a) r b
 exact⟨fun p a=>this.2 p a,by omega⟩
theorem adh {l:List Pz}(a:l.length≤20000)(k:Nat):Ry ((eZ l).take k)≤400000:=by
 have h1:=DR l
 have h2:((eZ l).take k).flatten.length≤l.length:=by
  have h3:=congrArg List.length (yM l);have h4:(eZ l).flatten=((eZ l).take k).flatten ++ ((eZ l).drop k).flatten:=by rw [← List.flatten_append,List.take_append_drop]
  rw [h4,amQ] at h3
  omega
 unfold Ry;rw [List.length_take];omega
end Mist
namespace Go.Proofs.YtalghggmkojblaaGreatDoor
open Go.RowKit Mist
attribute [local go_sem] ak aN aV aF aj
def z_ (T:Tr)(k wide:Int):Bs × Int :=
 if (tC T k).2 ≠ 0 then ([],(tC T k).2)
 else if wide < 10∨200 < wide then ([],3)
 else if 2000 < (fH wide (eZ (mK T (T.nodes.length+2) (fC T k).1.toNat))).2.2.length then ([],5)
 else ((fH wide (eZ (mK T (T.nodes.length+2) (fC T k).1.toNat))).2.2,0)
theorem RI.spare {w j:World}{g base T:Nat}{cs:Array Value}{v:Value}{ls:List (List Pz)}{vs:List Value}(h:RI w base v ls vs)(i:lC g w j)(f:bY w g T cs)(h1:T ≠ 62)(h2:T ≠ 107):RI j base v ls vs :=
 ⟨tK h.own i (aW h.own f (Ne.symm h1)) (by decide),h.len,fun k l e=>by
  obtain⟨u,a,b⟩:=h.row k l e;exact⟨u,a,tK b i (aW b f (Ne.symm h2)) (by decide)⟩,h.ne⟩
theorem RI.akV {w:World}{base:Nat}{v:Value}{ls:List (List Pz)}{vs:List Value}(h:RI w base v ls vs){k:Nat}{l:List Pz}(e:ls[k]? = some l):∃ u,vs[k]? = some u∧xB w u l:=by
 obtain⟨u,a,b⟩:=h.row k l e;exact⟨u,a,jr b (fun _ _=>amN _)⟩
section
variable {W:World} {A Bi:Option Addr} {c d:Nat} {xs:List NV} {its:List Int}
theorem abw (X:Rs W A Bi xs its){k:Int}(h:(tC ⟨aH xs,its⟩ k).2=0):(fC ⟨aH xs,its⟩ k).2=0:=by
 rcases Int.decEq (fC ⟨aH xs,its⟩ k).2 0 with h0 | h0
 ·exfalso
  unfold tC at h
  rw [if_pos h0] at h
  exact h0 h
 ·exact h0
theorem wz (a b:Nat)(h:a+b≤2000000):wrap64 ((a:Int)+(b:Int))=((a+b:Nat):Int):=by unfold wrap64;omega
theorem wz3 (b:Nat)(h:b≤1000000):wrap64 (1+(b:Int))=1+(b:Int):=by unfold wrap64;omega
theorem wz2 (a b:Nat)(h:a+(1+b)≤2000000):wrap64 ((a:Int)+(1+(b:Int)))=(a:Int)+(1+(b:Int)):=by unfold wrap64;omega
theorem G_ {w a:World}{g T:Nat}{cs:Array Value}{v:Value}{l:List Pz}(h:xB w v l)(e:lC g w a)(b:bY w g T cs)(h2:T ≠ 107):xB a v l :=
 tK (show w.ownsRow 0 107 3 v l.length (gW l) from h) e (aW (show w.ownsRow 0 107 3 v l.length (gW l) from h) b (Ne.symm h2)) (by decide)
theorem afL (X:Rs W A Bi xs its)(k0 a:Int)(hk:D9 k0)(hwd:D9 a) :
  Calls Tryz.prog 8 #[.agg #[.slice A xs.length c,.slice Bi its.length d],.int .i64 k0,.int .i64 a] W fun e W'=>e=.returned (.tuple #[.string (aG (z_ ⟨aH xs,its⟩ k0 a).1),.int .i64 (z_ ⟨aH xs,its⟩ k0 a).2])∧Below W.heap.size W W':=by
 have E:=O ((Below.refl W.heap.size W).alloc (amL _) (.cells #[.slice A xs.length c,.slice Bi its.length d] 28));have HC:=O (Rq (c:=c) (d:=d) (X.below E.o) k0 hk);have HK:=O (bY.new W 28 #[.slice A xs.length c,.slice Bi its.length d]);obtain⟨n,hn⟩:∃ n,n=xs.length:=⟨_,rfl⟩;obtain⟨m,hm⟩:∃ m,m=its.length:=⟨_,rfl⟩;obtain⟨N,hN⟩:∃ N,N=tC ⟨aH xs,its⟩ k0:=⟨_,rfl⟩;rw [← hn,← hm] at HK HC E ⊢
 rw [← hN] at HC
 obtain⟨N1,N2⟩:=N;simp only at HC
 by_cases h0:N2=0
 ·by_cases h1:a < 10∨200 < a
  ·have HT:=O (show z_ ⟨aH xs,its⟩ k0 a=([],3) from by unfold z_;rw [← hN,if_neg (by simp [h0]),if_pos h1]);subst h0;clear hn hm hN X;rcases Int.lt_or_le a 10 with h2 | h2
   ·clear h1;go_in
    go_wp2_with fail;refine HC.o.mono ?_;rintro e w2⟨rfl,x⟩;have G:=O (E.o.trans (x.mono E.o.size));have Jc:=O (HK.o.below x HK.o.lt);clear x;go_wp2_with fail;go_ret2
    exact⟨by rw [HT.o];rfl,G.o⟩
   ·have h3:200 < a:=by omega
    have h4:¬ a < 10:=by omega
    clear h1 h2;go_in
    go_wp2_with fail;refine HC.o.mono ?_;rintro e w2⟨rfl,x⟩;have G:=O (E.o.trans (x.mono E.o.size));have Jc:=O (HK.o.below x HK.o.lt);clear x;go_wp2_with fail;go_ret2
    exact⟨by rw [HT.o];rfl,G.o⟩
  ·have w1:¬ a < 10:=by omega
   have w2:¬ 200 < a:=by omega
   have tu:=abw X (k:=k0) (by rw [← hN];exact h0);obtain⟨i,e1,e2,e3,e4,e5,e6,e7⟩:=Ec X (k:=k0) tu;have hwx:=X.wx e4;obtain⟨l0,hl⟩:∃ l,l=mK ⟨aH xs,its⟩ (n+2) i:=⟨_,rfl⟩;have hnl:(⟨aH xs,its⟩:Tr).nodes.length=n:=by rw [hn];simp [aH]
   obtain⟨rs,hrs⟩:∃ rs,rs=eZ l0:=⟨_,rfl⟩;have HT:=O (show z_ ⟨aH xs,its⟩ k0 a=if 2000 < (fH a rs).2.2.length then ([],5) else ((fH a rs).2.2,0) from by unfold z_;rw [← hN,if_neg (by simp [h0]),if_neg h1,e1,hnl,amS,← hl,← hrs])
   have hsh:Sh l0∧l0.length≤12012:=by
    rw [hl]
    refine⟨sh_head _ (zG hwx.1.ok _ _ (by rw [hnl,hn];exact e2)),?_⟩
    unfold mK;rw [au];exact hwx.1.bits e2 (by omega)
   have Qq:=O hsh.2;have UA:=O (show ∀ r ∈ rs,Sh r∧r.length≤20000 from by rw [hrs];exact acQ hsh.1 (by omega));have HRL:=O (show rs.length≤12012 from by rw [hrs];have:=DR l0;omega)
   have HCP:=O fun k=>(show (fH a (rs.take k)).2.1≤400000∧(fH a (rs.take k)).2.2.length≤400000 from by
    have h2:=adh (l:=l0) (by have:=hsh.2;omega) k;rw [← hrs] at h2
    have h3:=aaU a _ (rs.take k) rfl fun r hr=>(UA.o r (List.mem_of_mem_take hr)).1
    omega)
   have adw:=O fun W' (hb:Below W.heap.size W W')=>uE (c:=c) (m:=m) (d:=d) (f:=n+2) (hwx.1.below hb) e2 (by omega) e3
   rw [← hl] at adw
   rw [← hn] at adw
   obtain⟨j,rfl⟩:∃ j:Nat,k0=(j:Int):=⟨k0.toNat,by omega⟩;rw [amS] at e7
   obtain⟨kb,ko,hBi,hkb,hkc⟩:=X.t.items.ex (by rw [← hm];omega);have HQ:=O (hkc j _ e7);have HKB:=O hkb;subst h0 hBi;have y0:(0:Int)≤(j:Int):=by omega
   have y1:(j:Int) < (m:Int):=by omega
   clear hn hm hN X hwx e1 e2 e3 e4 e5 e6 e7 hl hnl tu hkb hkc hsh;go_in
   go_wp2_with fail;refine HC.o.mono ?_;rintro e w2⟨rfl,x⟩;have G:=O (E.o.trans (x.mono E.o.size));have Jc:=O (HK.o.below x HK.o.lt);clear x;go_upto_region 8 with (fail)
   have c0:w2.cell? ⟨W.heap.size,0,none⟩=some (.slice A n c):=Jc.o.cell 0;have P:=O (G.o.alloc G.o.size (.cells #[.pointer none,.slice none 0 0] 59));have Iy:=O (Cw.fresh 59 [] w2);have Q9:=O (Jc.o.below ((Below.refl _ _).alloc (amL _) (.cells #[.pointer none,.slice none 0 0] 59)) Jc.o.lt);have hgl:W.heap.size≤w2.heap.size:=G.o.size;have K:=O hgl;obtain⟨g,hg⟩:∃ g,g=w2.heap.size:=⟨_,rfl⟩;obtain⟨w3,hw3⟩:∃ w3,w3=w2.alloc (.cells #[.pointer none,.slice none 0 0] 59):=⟨_,rfl⟩
   change Hid (Cw 59 w2.heap.size w2.heap.size [] [] (w2.alloc (.cells #[.pointer none,.slice none 0 0] 59))) at Iy
   rw [← hw3] at P Iy Q9 ⊢
   rw [← hg] at Iy K ⊢
   have c0:w3.cell? ⟨W.heap.size,0,none⟩=some (.slice A n c):=Q9.o.cell 0;have c1:w3.cell? ⟨W.heap.size,1,none⟩=some (.slice (some ⟨kb,ko,none⟩) m d):=Q9.o.cell 1;have kq:w3.cell? ⟨kb,ko+j,none⟩=some (.int .i64 (i:Nat)):=(P.o.cell (p:=⟨kb,_,none⟩) HKB.o).trans HQ.o;have af6:=O (show kb < w3.heap.size from amY HKB.o P.o.size);have HRZ:=O hrs;clear hg hw3 hgl G Jc HQ HKB E HK HC w1 h1 hrs;have V5:=O kq;have HJM:=O (show j < m by omega);have z1:0 < m:=by omega
   go_region_held3 (fun w'=>w'.cell? ⟨W.heap.size,0,none⟩=some (.slice A n c)∧w'.cell? ⟨W.heap.size,1,none⟩=some (.slice (some ⟨kb,ko,none⟩) m d)∧w'.cell? ⟨kb,ko+j,none⟩=some (.int .i64 (i:Nat)))
    (first | go_keep|(go_split_ands;refine⟨?_,?_,?_⟩ <;> assumption))
    ((first
    | (go_at_call 16
       refine (adw.o _ (by repeat (first|(with_reducible exact P.o)|(with_reducible refine Below.drew ?_)))).mono ?_;rintro e w4⟨v,rfl,hr,hb4⟩;have Zy:=O (show Below w3.heap.size w3 w4 from Below.trans (by (repeat (first|(with_reducible exact Below.refl _ _)|(with_reducible refine Below.drew ?_)));done) hb4);have HR4:=O hr;have HK4:=O (Q9.o.below Zy.o Q9.o.lt);clear hr hb4 c0 c1 kq;have c0:w4.cell? ⟨W.heap.size,0,none⟩=some (.slice A n c):=HK4.o.cell 0;have c1:w4.cell? ⟨W.heap.size,1,none⟩=some (.slice (some ⟨kb,ko,none⟩) m d):=HK4.o.cell 1;have kq:w4.cell? ⟨kb,ko+j,none⟩=some (.int .i64 (i:Nat)):=(Zy.o.cell (p:=⟨kb,_,none⟩) af6.o).trans V5.o;obtain⟨Ap,cp,rfl,hpa⟩:=HR4.o.form;have HPA:=O hpa;clear hpa;obtain⟨np,hnp⟩:∃ np,np=l0.length:=⟨_,rfl⟩;have HNP:=O hnp;rw [← hnp];clear hnp)
    | (go_at_call 18
       refine (ag6 (A:=Ap) (c:=cp) (n:=np) (l:=l0) (by first | exact HPA.o | exact HPA.o.drew) HNP.o.symm (by rw [HNP.o];have:=Qq.o;omega)).mono ?_;rintro e w5⟨v5,rfl,⟨vs,hri⟩,hb5⟩;rw [← HRZ.o] at hri
       have xw:=O hri;obtain⟨Av,cv,rfl⟩:=dA hri.own;have afS:=O (show Below w4.heap.size w4 w5 from Below.trans (by (repeat (first|(with_reducible exact Below.refl _ _)|(with_reducible refine Below.drew ?_)));done) hb5);have fG:=O (Zy.o.trans (afS.o.mono Zy.o.size));have HK5:=O (HK4.o.below afS.o HK4.o.lt);clear hri hb5 c0 c1 kq;have c0:w5.cell? ⟨W.heap.size,0,none⟩=some (.slice A n c):=HK5.o.cell 0;have c1:w5.cell? ⟨W.heap.size,1,none⟩=some (.slice (some ⟨kb,ko,none⟩) m d):=HK5.o.cell 1;have kq:w5.cell? ⟨kb,ko+j,none⟩=some (.int .i64 (i:Nat)):=(fG.o.cell (p:=⟨kb,_,none⟩) af6.o).trans V5.o)))
   all_goals
    have ajn:=xw.o.own;obtain⟨M,hM⟩:∃ M,M=rs.length:=⟨_,rfl⟩;rw [← hM] at xw ⊢
    have HM:=O hM;have hMM:M≤12012:=by rw [hM];exact HRL.o
    have ahh:=O (P.o.trans (fG.o.mono P.o.size));have MX:=O (Iy.o.below fG.o);obtain⟨lb,hlb⟩:∃ lb,lb=w4.heap.size:=⟨_,rfl⟩;rw [← hlb] at xw
    clear hM hlb ajn HK5 HK4 c0 c1 kq fG afS Zy P Iy adw V5 af6 Q9 HRZ HNP HJM Qq HPA HR4 y0 y1 z1;go_wp2_with fail;go_loopw [11,12,13,14,41] (fun v11 _ _ _ v41 wr=>∃ k:Nat,k≤M∧v41=.int .i64 k∧v11=.int .i64 ((fH a (rs.take k)).2.1:Nat)∧Hid (Cw 59 g g [] (fH a (rs.take k)).2.2 wr)∧Hid (RI wr lb (.slice Av M cv) rs vs)∧Hid (Below W.heap.size W wr)) (fun _ _ _ _ v41 _=>M - (intOf v41).toNat)
    case atStart=>exact⟨0,amN _,rfl,rfl,MX,xw,ahh⟩
    case round =>
     obtain⟨k,hkm,rfl,rfl,T,HR,HB⟩:=hrel;clear MX xw ahh;by_cases hlt:k < M
     ·obtain⟨l,hl⟩:∃ l,rs[k]? = some l:=⟨_,amF (by rw [← HM.o];exact hlt)⟩;obtain⟨u,hu,hpr⟩:=HR.o.akV hl;obtain⟨Au,cu,hu2⟩:=dA (show wr.ownsRow 0 107 3 u l.length (gW l) from hpr);obtain⟨q,hq⟩:∃ q,q=l.length:=⟨_,rfl⟩;rw [← hq] at hu2
      subst hu2;have V_:=O hpr;have hown:wr.ownsRow lb 62 1 (.slice Av M cv) M vs:=by have:=HR.o.own;rw [← HM.o] at this;exact this
      obtain⟨gp,cap,hv,_⟩:=hown.form (by omega);injection hv with hv1 hv2 hv3
      subst hv1;subst hv3;clear hv2;have kq:wr.cell? ⟨gp,k,none⟩=some (.slice Au q cu):=by rw [hown.cellAt k (by omega)];exact hu
      have H:=O (UA.o l (amO hl));have mP:=O (Ym V_.o H.o.1 (by have:=H.o.2;omega));have KG:=O (show (gP l).length≤260000 from by have h1:=VI H.o.1;have:=H.o.2;omega);have htk:rs.take (k+1)=rs.take k ++ [l]:=by rw [List.take_succ,hl];rfl
      have Z:(fH a (rs.take k)).1=k:=by rw [Jt,List.length_take];have:=HM.o;omega
      have V:=O (HCP.o k);have y0:(0:Int)≤(k:Int):=by omega
      have y1:(k:Int) < (M:Int):=by omega
      clear hl hu hpr hown hq;by_cases hk0:k=0
      ·obtain rfl:k=0:=hk0;have y:=O (show fH a (rs.take (0+1))=(1,(gP l).length,(fH a (rs.take 0)).2.2 ++ gP l) from by rw [htk,oo];unfold j_;rw [Z,if_pos rfl]);have F:=HCP.o (0+1);rw [y.o] at F
       have HBD:=O F;obtain⟨D,C⟩:∃ t,t=(fH a (rs.take 0)).2.1:=⟨_,rfl⟩;obtain⟨tx,B⟩:∃ t,t=(fH a (rs.take 0)).2.2:=⟨_,rfl⟩;rw [← B] at T
       simp only [← C,← B,amQ] at y HBD V
       rw [← C];clear htk Z F C B;have L:=O (show tx.length+3+(gP l).length≤1000000∧D+3+(gP l).length≤1000000 from by have:=V.o;have:=KG.o;omega);have HL2:=O (show tx.length+(gP l).length≤1000000000 from by have:=L.o;omega);go_wp2_with fail;refine mP.o.mono ?_;rintro e w6⟨rfl,b⟩;have Y:=O (HB.o.trans (b.mono HB.o.size));have Ew:=O (HR.o.below b);have Et:=O (T.o.below b);have M_:=O (V_.o.below b);clear b kq HB HR T V_ mP;go_wp2_with fail;refine (wT M_.o H.o.1 (by have:=H.o.2;omega)).mono ?_;rintro e w8⟨rfl,R⟩;have J:=O (Y.o.trans (R.mono Y.o.size));have Je:=O (Ew.o.below R);have U:=O (Et.o.below R);clear R Y Ew Et M_;go_wp2_with fail;refine (jm 59 2 g g lZ [] tx (gP l) w8 U.o rfl HL2.o (amM U.o.lt)).mono ?_;rintro e w9⟨rfl,Ol,U7,w⟩;obtain⟨I,h⟩:=U.o.blk;have ZW:=O (Je.o.spare w h (by decide) (by decide));have HB9:=O (J.o.trans (U7.mono K.o));have ZK:=O (show Cw 59 g g [] (fH a (rs.take (0+1))).2.2 w9 from by rw [y.o];exact Ol);clear Ol U7 w h J Je U I;go_wp2_with fail;exact⟨⟨0+1,by omega,by go_num,(by rw [y.o];first | done | rfl),ZK,ZW,HB9⟩,by simp [intOf];omega⟩
      ·by_cases hw:a < (((fH a (rs.take k)).2.1+1+(gP l).length:Nat):Int)
       ·have y:=O (show fH a (rs.take (k+1))=(k+1,2+(gP l).length,(fH a (rs.take k)).2.2 ++ [10,32,32] ++ gP l) from by rw [htk,oo];unfold j_;rw [Z,if_neg hk0,if_pos hw]);have F:=HCP.o (k+1);rw [y.o] at F
        have HBD:=O F;obtain⟨D,C⟩:∃ t,t=(fH a (rs.take k)).2.1:=⟨_,rfl⟩;obtain⟨tx,B⟩:∃ t,t=(fH a (rs.take k)).2.2:=⟨_,rfl⟩;rw [← B] at T
        simp only [← C,← B,amQ] at y HBD V
        rw [← C] at hw
        rw [← C];clear htk Z F C B;have L:=O (show tx.length+3+(gP l).length≤1000000∧D+3+(gP l).length≤1000000 from by have:=V.o;have:=KG.o;omega);have CJ:=O (show tx.length+([10,32,32]:Bs).length≤1000000000 from by show tx.length+3≤_;have:=L.o;omega);have HL2:=O (show (tx ++ [10,32,32]).length+(gP l).length≤1000000000 from by rw [amQ];show tx.length+3+_≤_;have:=L.o;omega);have z0:((k:Int) == 0)=false:=by simpa using (by omega:¬ (k:Int)=0)
        have z1:¬ (k:Int)=0:=by omega
        have g1:D+1≤2000000:=by have:=L.o;omega
        have g2:D+1+(gP l).length≤2000000:=by have:=L.o;omega
        have g3:2+(gP l).length≤2000000:=by have:=L.o;omega
        have g5:(gP l).length≤1000000:=by have:=L.o;omega
        have g4:D+(1+(gP l).length)≤2000000:=by have:=L.o;omega
        have ws1:wrap64 ((D:Int)+1)=((D+1:Nat):Int):=wz D 1 g1;have ws2:wrap64 ((D:Int)+1+((gP l).length:Nat))=(D:Int)+1+((gP l).length:Nat):=wz (D+1) _ g2;have hw2:a < (D:Int)+1+((gP l).length:Nat):=by omega
        have ws3:wrap64 (2+((gP l).length:Nat))=2+((gP l).length:Nat):=wz 2 _ g3;clear hk0 g1 g2 g3 g4 g5;go_wp2_with fail;refine mP.o.mono ?_;rintro e w6⟨rfl,b⟩;have Y:=O (HB.o.trans (b.mono HB.o.size));have Ew:=O (HR.o.below b);have Et:=O (T.o.below b);have M_:=O (V_.o.below b);clear b kq HB HR T V_ mP;go_wp2_with fail;refine (jm 59 2 g g lZ [] tx [10,32,32] w6 Et.o rfl CJ.o (amM Et.o.lt)).mono ?_;rintro e w7⟨rfl,aa9,uq,w⟩;obtain⟨I,h⟩:=Et.o.blk;have Y6:=O (Ew.o.spare w h (by decide) (by decide));have ZV:=O (G_ M_.o w h (by decide));have t_:=O (Y.o.trans (uq.mono K.o));have ZJ:=O aa9;clear aa9 uq w h Y Ew Et M_ I;go_wp2_with fail;refine (wT ZV.o H.o.1 (by have:=H.o.2;omega)).mono ?_;rintro e w8⟨rfl,R⟩;have J:=O (t_.o.trans (R.mono t_.o.size));have Je:=O (Y6.o.below R);have U:=O (ZJ.o.below R);clear R t_ Y6 ZJ ZV;go_wp2_with fail;refine (jm 59 2 g g lZ [] (tx ++ [10,32,32]) (gP l) w8 U.o rfl HL2.o (amM U.o.lt)).mono ?_;rintro e w9⟨rfl,Ol,U7,w⟩;obtain⟨I,h⟩:=U.o.blk;have ZW:=O (Je.o.spare w h (by decide) (by decide));have HB9:=O (J.o.trans (U7.mono K.o));have ZK:=O (show Cw 59 g g [] (fH a (rs.take (k+1))).2.2 w9 from by rw [y.o];exact Ol);clear Ol U7 w h J Je U I;go_wp2_with fail;clear ws1 ws2 ws3;exact⟨⟨k+1,by omega,by go_num,(by rw [y.o];first | done | rfl),ZK,ZW,HB9⟩,by simp [intOf];omega⟩
       ·have y:=O (show fH a (rs.take (k+1))=(k+1,(fH a (rs.take k)).2.1+(1+(gP l).length),(fH a (rs.take k)).2.2 ++ [32] ++ gP l) from by rw [htk,oo];unfold j_;rw [Z,if_neg hk0,if_neg hw]);have F:=HCP.o (k+1);rw [y.o] at F
        have HBD:=O F;obtain⟨D,C⟩:∃ t,t=(fH a (rs.take k)).2.1:=⟨_,rfl⟩;obtain⟨tx,B⟩:∃ t,t=(fH a (rs.take k)).2.2:=⟨_,rfl⟩;rw [← B] at T
        simp only [← C,← B,amQ] at y HBD V
        rw [← C] at hw
        rw [← C];clear htk Z F C B;have L:=O (show tx.length+3+(gP l).length≤1000000∧D+3+(gP l).length≤1000000 from by have:=V.o;have:=KG.o;omega);have CJ:=O (show tx.length+1≤1000000000 from by have:=L.o;omega);have HL2:=O (show (tx ++ [32]).length+(gP l).length≤1000000000 from by rw [amQ];show tx.length+1+_≤_;have:=L.o;omega);have z0:((k:Int) == 0)=false:=by simpa using (by omega:¬ (k:Int)=0)
        have z1:¬ (k:Int)=0:=by omega
        have g1:D+1≤2000000:=by have:=L.o;omega
        have g2:D+1+(gP l).length≤2000000:=by have:=L.o;omega
        have g3:2+(gP l).length≤2000000:=by have:=L.o;omega
        have g5:(gP l).length≤1000000:=by have:=L.o;omega
        have g4:D+(1+(gP l).length)≤2000000:=by have:=L.o;omega
        have ws1:wrap64 ((D:Int)+1)=((D+1:Nat):Int):=wz D 1 g1;have ws2:wrap64 ((D:Int)+1+((gP l).length:Nat))=(D:Int)+1+((gP l).length:Nat):=wz (D+1) _ g2;have hw2:¬ a < (D:Int)+1+((gP l).length:Nat):=by omega
        have Kz:=O g4;have Eu:=O g5;clear hk0 g1 g2 g3 g4 g5;go_wp2_with fail;refine mP.o.mono ?_;rintro e w6⟨rfl,b⟩;have Y:=O (HB.o.trans (b.mono HB.o.size));have Ew:=O (HR.o.below b);have Et:=O (T.o.below b);have M_:=O (V_.o.below b);clear b kq HB HR T V_ mP;go_wp2_with fail;refine (yc 59 2 g g lZ [] tx 32 w6 Et.o rfl CJ.o (amM Et.o.lt)).mono ?_;rintro e w7⟨rfl,aa9,uq,w⟩;obtain⟨I,h⟩:=Et.o.blk;have Y6:=O (Ew.o.spare w h (by decide) (by decide));have ZV:=O (G_ M_.o w h (by decide));have t_:=O (Y.o.trans (uq.mono K.o));have ZJ:=O aa9;clear aa9 uq w h Y Ew Et M_ I;clear ws1 ws2 hw2;have ws3:wrap64 (1+((gP l).length:Nat))=1+((gP l).length:Nat):=wz3 _ Eu.o;have ws4:wrap64 ((D:Int)+(1+((gP l).length:Nat)))=(D:Int)+(1+((gP l).length:Nat)):=wz2 _ _ Kz.o;go_wp2_with fail;refine (wT ZV.o H.o.1 (by have:=H.o.2;omega)).mono ?_;rintro e w8⟨rfl,R⟩;have J:=O (t_.o.trans (R.mono t_.o.size));have Je:=O (Y6.o.below R);have U:=O (ZJ.o.below R);clear R t_ Y6 ZJ ZV;go_wp2_with fail;refine (jm 59 2 g g lZ [] (tx ++ [32]) (gP l) w8 U.o rfl HL2.o (amM U.o.lt)).mono ?_;rintro e w9⟨rfl,Ol,U7,w⟩;obtain⟨I,h⟩:=U.o.blk;have ZW:=O (Je.o.spare w h (by decide) (by decide));have HB9:=O (J.o.trans (U7.mono K.o));have ZK:=O (show Cw 59 g g [] (fH a (rs.take (k+1))).2.2 w9 from by rw [y.o];exact Ol);clear Ol U7 w h J Je U I;go_wp2_with fail;clear ws3 ws4;exact⟨⟨k+1,by omega,by go_num,(by rw [y.o];first | done | rfl),ZK,ZW,HB9⟩,by simp [intOf];omega⟩
     ·obtain rfl:k=M:=by omega
      have y1:¬ (k:Int) < (k:Int):=by omega
      have htl:rs.take k=rs:=amP (by rw [← HM.o];omega);have aea:=HCP.o k;rw [htl] at T aea ⊢
      have ajt:=T.o.lt;obtain⟨tx,B⟩:∃ t,t=(fH a rs).2.2:=⟨_,rfl⟩;rw [← B] at T HT aea
      clear hlt htl B;by_cases S:2000 < tx.length
      ·have Q:=HT.o;rw [if_pos S] at Q
       have y2:(2000:Int) < ((tx.length:Nat):Int):=by omega
       have HT3:=O Q;clear Q HT aea S;go_wp2_with fail;refine (uH 59 g g [] tx wr T.o (by omega)).mono ?_;rintro e w6⟨rfl,b⟩;have Y:=O (HB.o.trans (b.mono K.o));clear b;go_wp2_with fail;go_ret2
       exact⟨by rw [HT3.o];rfl,Y.o⟩
      ·have Q:=HT.o;rw [if_neg S] at Q
       have y2:¬ (2000:Int) < ((tx.length:Nat):Int):=by omega
       have HT3:=O Q;clear Q HT aea S;go_wp2_with fail;refine (uH 59 g g [] tx wr T.o (by omega)).mono ?_;rintro e w6⟨rfl,b⟩;have Y:=O (HB.o.trans (b.mono K.o));clear b;go_wp2_with fail;go_ret2
       exact⟨by rw [HT3.o];rfl,Y.o⟩
 ·have HT:=O (show z_ ⟨aH xs,its⟩ k0 a=([],N2) from by unfold z_;rw [← hN,if_pos h0]);have z:(N2 != 0)=true:=by simpa using h0
  clear hn hm hN X h0;go_in
  go_wp2_with fail;refine HC.o.mono ?_;rintro e w2⟨rfl,x⟩;have G:=O (E.o.trans (x.mono E.o.size));have Jc:=O (HK.o.below x HK.o.lt);clear x;go_wp2_with fail;go_ret2
  exact⟨by rw [HT.o];rfl,G.o⟩
end
theorem Ab (D:List Int)(i j:Nat)(v:Int):(D.set i v).getD j 0=if i=j∧j < D.length then v else D.getD j 0:=by
 simp only [amJ,List.getElem?_set];by_cases h:i=j
 ·subst h;by_cases h2:i < D.length
  ·simp [h2]
  ·simp [h2]
 ·simp [h]
def BU (i:Int):List Int→List Int→List Int
 | [],P=>P
 | k :: r,P=>BU i r (P.set k.toNat i)
def Vw (ns:List Nd)(i:Nat)(P:List Int):List Int:=BU (i:Int) ((ns[i]?.map Nd.kids).getD []) (P.set i (-1))
def DJ (ns:List Nd):Nat→List Int
 | 0=>List.replicate ns.length 0
 | i+1=>Vw ns i (DJ ns i)
def eD (ns:List Nd):List Int:=DJ ns ns.length
theorem JV (i:Int):∀ (ks P:List Int),(BU i ks P).length=P.length
 | [],_=>rfl
 | k :: r,P=>by rw [BU,JV i r,List.length_set]
theorem GV (ns:List Nd):∀ i,(DJ ns i).length=ns.length
 | 0=>by simp [DJ]
 | i+1=>by rw [DJ,Vw,JV,List.length_set,GV ns i]
theorem zH {W:World}{cs:Array Value}{T:TypeId}{k:Nat}(a:W.heap.size=k):bY (W.alloc (.cells cs T)) k T cs:=by subst a;exact bY.new W T cs
structure JS (g:Nat) (w:World) (tb:Nat) (nv iv:Value) (xs:List NV) (its:List Int):Prop where
 blk:bY w tb 28 #[nv,iv]
 lo:tb < g
 own:w.ownsRow g 56 5 nv xs.length (jC xs)
 kids:∀ x ∈ xs,w.ownsRow g 3 1 x.2 x.1.kids.length (intCells x.1.kids)
 row:w.ownsRow g 3 1 iv its.length (intCells its)
 far:∀ x ∈ xs,x.2.ownBlock=none∨x.2.ownBlock ≠ iv.ownBlock
theorem JS.below {g:Nat}{w b:World}{tb:Nat}{nv iv:Value}{xs:List NV}{its:List Int}(h:JS g w tb nv iv xs its)(a:Below w.heap.size w b):JS g b tb nv iv xs its :=
 ⟨h.blk.below a h.blk.lt,h.lo,own_below h.own a,fun x e=>own_below (h.kids x e) a,own_below h.row a,h.far⟩
theorem JS.add {g:Nat}{w w1:World}{tb:Nat}{nv gY iv:Value}{xs:List NV}{its:List Int}{x:NV}(h:JS g w tb nv iv xs its)(i:w.grownBy w1 nv.ownBlock)(a:w1.ownsRow g 56 5 gY (xs.length+1) (jC xs ++ iE x))(b:w.ownsRow g 3 1 x.2 x.1.kids.length (intCells x.1.kids))(j:x.2.ownBlock=none∨x.2.ownBlock ≠ iv.ownBlock):JS g (w1.setCell ⟨tb,0,none⟩ gY) tb gY iv (xs ++ [x]) its:=by
 have f:=h.blk.grown i (fun e=>aW h.own h.blk (by decide) e.symm)
 have keep:∀ {v:Value} {n:Nat} {cs:List Value},w.ownsRow g 3 1 v n cs→(w1.setCell ⟨tb,0,none⟩ gY).ownsRow g 3 1 v n cs:=fun b =>
  ownsRow_setCell_other (b.kept i (eB b h.own (by decide))) (aW (b.kept i (eB b h.own (by decide))) f (by decide)) _
 refine⟨?_,h.lo,?_,fun y hy=>?_,keep h.row,fun y hy=>?_⟩
 ·have:=f.jX 0 gY;simpa using this
 ·rw [amQ,qc];have e:jC [x]=iE x:=by simp [jC]
  rw [e];exact ownsRow_setCell_other a (aW a f (by decide)) _
 ·rcases List.mem_append.1 hy with hy | hy
  ·exact keep (h.kids y hy)
  ·rw [List.mem_singleton.1 hy];exact keep b
 ·rcases List.mem_append.1 hy with hy | hy
  ·exact h.far y hy
  ·rw [List.mem_singleton.1 hy];exact j
theorem JS.item {g:Nat}{w w1:World}{tb:Nat}{nv iv D_:Value}{xs:List NV}{its:List Int}{q:Int}(h:JS g w tb nv iv xs its)(j:w.grownBy w1 iv.ownBlock)(a:w1.ownsRow g 3 1 D_ (its.length+1) (intCells its ++ [.int .i64 q]))(i:D_.ownBlock=iv.ownBlock∨D_.ownBlock=some w.heap.size):JS g (w1.setCell ⟨tb,1,none⟩ D_) tb nv D_ xs (its ++ [q]):=by
 have f:=h.blk.grown j (fun e=>aW h.row h.blk (by decide) e.symm);have m:=h.own.kept j (eB h.own h.row (by decide))
 refine⟨?_,h.lo,ownsRow_setCell_other m (aW m f (by decide)) _,fun y hy=>?_,?_,fun y hy=>?_⟩
 ·have:=f.jX 1 D_;simpa using this
 ·have l:=(h.kids y hy).kept j (h.far y hy);exact ownsRow_setCell_other l (aW l f (by decide)) _
 ·rw [amQ,jf];exact ownsRow_setCell_other a (aW a f (by decide)) _
 ·rcases i with e | e
  ·rw [e];exact h.far y hy
  ·rcases h9:y.2.ownBlock with _ | b
   ·exact .inl rfl
   ·right
    rw [e];intro k
    have:=((h.kids y hy).lt b h9).2
    injection k with k
    omega
theorem Gm {w:World}{A:Option Addr}{ks:List Int}(h:IntsIn w A ks):Reads w w.heap.size 1 A ks.length (intCells ks):=by
 refine⟨by rw [Al,Nat.mul_one],fun h0=>?_⟩
 obtain⟨b,o,rfl,i,f⟩:=h.ex h0
 refine⟨⟨b,o,none⟩,rfl,i,fun j u a=>?_⟩
 rw [vD];have e:j < ks.length:=by have:=(amG.1 a).1;rwa [Al] at this
 have g:u=.int .i64 ks[j]:=by
  have h9:(intCells ks)[j]? = some (.int .i64 ks[j]):=by simp [intCells,e]
  rw [h9] at a;exact (amR a).symm
 rw [g];exact f j _ (amF e)
structure RowsIn (g:Nat) (w:World) (nv iv:Value) (xs:List NV) (its:List Int):Prop where
 own:w.ownsRow g 56 5 nv xs.length (jC xs)
 kids:∀ x ∈ xs,w.ownsRow g 3 1 x.2 x.1.kids.length (intCells x.1.kids)
 row:w.ownsRow g 3 1 iv its.length (intCells its)
 far:∀ x ∈ xs,x.2.ownBlock=none∨x.2.ownBlock ≠ iv.ownBlock
theorem RowsIn.below {g:Nat}{w b:World}{nv iv:Value}{xs:List NV}{its:List Int}(h:RowsIn g w nv iv xs its)(a:Below w.heap.size w b):RowsIn g b nv iv xs its :=
 ⟨own_below h.own a,fun x e=>own_below (h.kids x e) a,own_below h.row a,h.far⟩
theorem RowsIn.add {g:Nat}{w w1:World}{tb:Nat}{nv gY iv:Value}{xs:List NV}{its:List Int}{x:NV}(h:RowsIn g w nv iv xs its)(j:bY w tb 28 #[nv,iv])(i:w.grownBy w1 nv.ownBlock)(a:w1.ownsRow g 56 5 gY (xs.length+1) (jC xs ++ iE x))(b:w.ownsRow g 3 1 x.2 x.1.kids.length (intCells x.1.kids))(k:x.2.ownBlock=none∨x.2.ownBlock ≠ iv.ownBlock) :
  RowsIn g (w1.setCell ⟨tb,0,none⟩ gY) gY iv (xs ++ [x]) its∧bY (w1.setCell ⟨tb,0,none⟩ gY) tb 28 #[gY,iv]:=by
 have f:=j.grown i (fun e=>aW h.own j (by decide) e.symm)
 have keep:∀ {v:Value} {n:Nat} {cs:List Value},w.ownsRow g 3 1 v n cs→(w1.setCell ⟨tb,0,none⟩ gY).ownsRow g 3 1 v n cs:=fun b =>
  ownsRow_setCell_other (b.kept i (eB b h.own (by decide))) (aW (b.kept i (eB b h.own (by decide))) f (by decide)) _
 refine⟨⟨?_,fun y hy=>?_,keep h.row,fun y hy=>?_⟩,?_⟩
 ·rw [amQ,qc];have e:jC [x]=iE x:=by simp [jC]
  rw [e];exact ownsRow_setCell_other a (aW a f (by decide)) _
 ·rcases List.mem_append.1 hy with hy | hy
  ·exact keep (h.kids y hy)
  ·rw [List.mem_singleton.1 hy];exact keep b
 ·rcases List.mem_append.1 hy with hy | hy
  ·exact h.far y hy
  ·rw [List.mem_singleton.1 hy];exact k
 ·have:=f.jX 0 gY;simpa using this
theorem RowsIn.U1 {g:Nat}{w:World}{nv iv:Value}{xs:List NV}{its:List Int}{e i:Nat}{cs:Array Value}{u:Value}(h:RowsIn g w nv iv xs its)(a:bY w e 28 cs):RowsIn g (w.setCell ⟨e,i,none⟩ u) nv iv xs its :=
 ⟨ownsRow_setCell_other h.own (aW h.own a (by decide)) u,fun x b=>ownsRow_setCell_other (h.kids x b) (aW (h.kids x b) a (by decide)) u,ownsRow_setCell_other h.row (aW h.row a (by decide)) u,h.far⟩
theorem adW {w k:World}{v iv:Value}{b a e f s j n i:Nat}{xs l:List Value}(h:k.ownsRow b e s v n xs)(m:w.heap.size≤b)(hi:w.ownsRow a f j iv i l):v.ownBlock=none∨v.ownBlock ≠ iv.ownBlock:=by
 rcases h9:v.ownBlock with _ | q
 ·exact .inl rfl
 ·right
  intro g;have h1:=(h.lt q h9).1;have h2:=(hi.lt q g.symm).2;omega
