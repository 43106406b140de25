/-
  A part of the proof.
-/
import Derived.Test.YtajfdjikimiapaaGreatDoorS32
set_option linter.all false
set_option maxRecDepth 100000
set_option maxHeartbeats 4000000
set_option linter.all false
namespace Mist
def aA (g:List Pz):Bs:=(g.map (·.text)).flatten
theorem aI (g:List Pz)(p:Pz):aA (g ++ [p])=aA g ++ p.text:=by simp [aA]
theorem aK:∀ {r:List Pz},(∀ q ∈ r,q.blank=false)→dW r=aA r
 | [],_=>rfl
 | a :: r,h=>by
  rw [dW,aK fun q b=>h q (List.mem_cons_of_mem _ b),h a (List.mem_cons_self ..)];simp [aA]
theorem gq {p:Pz}{r:List Pz}(h:∀ q ∈ r,q.blank=false)(a:p.blank=true∨∃ c t,p.text=c :: t∧c ≠ 32):gU (p :: r)=aA (p :: r):=by
 unfold gU;rw [dW,aK h];rcases a with a | ⟨c,t,d,b⟩
 ·rw [a];simp [aA,Go.Lib.trimPrefix,Go.Lib.hasPrefix]
 ·cases e:p.blank
  ·simp [aA,Go.Lib.trimPrefix,Go.Lib.hasPrefix,d,Ne.symm b]
  ·simp [aA,Go.Lib.trimPrefix,Go.Lib.hasPrefix]
structure gK (l:List Pz) (i k:Nat) (g:List Pz):Prop where
 rows:jg (l.take k)=jg (l.take i) ++ [g]
 len:i+g.length=k
 head:∃ p r,g=p :: r∧l[i]? = some p∧∀ q ∈ r,q.blank=false
 cat:(aA g).length≤12 * g.length
def bg (l:List Pz)(i:Nat):Prop:=i=0∨∀ p,l[i]? = some p→p.blank=true
theorem gK.start {l:List Pz}{i:Nat}{p:Pz}(c:Sh l)(b:bg l i)(a:l[i]? = some p):gK l i (i+1) [p]:=by
 refine⟨?_,rfl,⟨p,[],rfl,a,fun q h=>by cases h⟩,?_⟩
 ·rw [List.take_add_one,a]
  show jg (l.take i ++ [p])=_
  rw [vR];unfold jm;rcases b with rfl | b
  ·rw [if_pos (.inr (by rfl))]
  ·rw [if_pos (.inl (b p a))]
 ·have:=c p (aiy a)
  simp [aA];omega
theorem gK.more {l:List Pz}{i k:Nat}{g:List Pz}{q:Pz}(h:gK l i k g)(d:Sh l)(c:l[k]? = some q)(b:q.blank=false):gK l i (k+1) (g ++ [q]):=by
 obtain⟨p,r,e,h1,h2⟩:=h.head
 refine⟨?_,?_,⟨p,r ++ [q],by rw [e];rfl,h1,fun x a=>?_⟩,?_⟩
 ·rw [List.take_add_one,c]
  show jg (l.take k ++ [q])=_
  rw [vR,h.rows];unfold jm;rw [if_neg (by simp [b])];simp
 ·have:=h.len;simp;omega
 ·rcases List.mem_append.1 a with a | a
  ·exact h2 x a
  ·rw [List.mem_singleton.1 a];exact b
 ·have h3:=d q (aiy c);have h4:=h.cat;rw [aI,aiA,aiA];simp;omega
theorem dz {l:List Pz}{i:Nat}(h0:0 < i)(hi:i≤l.length)(wide:Int):(gJ wide (jg (l.take i))).1 ≠ 0:=by
 rw [RJ];intro h;have h1:=OJ (l.take i);rw [List.length_eq_zero_iff.1 h] at h1
 have h2:=congrArg List.length h1;rw [List.length_take] at h2
 simp at h2
 omega
theorem gK.done {l:List Pz}{i k:Nat}{g:List Pz}(h:gK l i k g)(n:k≤l.length)(a:bg l i)(h0:∃ p c t,l[0]? = some p∧p.text=c :: t∧c ≠ 32)(wide:Int) :
  gJ wide (jg (l.take k))=if i=0 then (1,(aA g).length,aA g) else if wide < (((gJ wide (jg (l.take i))).2.1+1+(aA g).length:Nat):Int) then ((gJ wide (jg (l.take i))).1+1,2+(aA g).length,(gJ wide (jg (l.take i))).2.2 ++ [10,32,32] ++ aA g) else ((gJ wide (jg (l.take i))).1+1,(gJ wide (jg (l.take i))).2.1+(1+(aA g).length),(gJ wide (jg (l.take i))).2.2 ++ [32] ++ aA g):=by
 obtain⟨p,r,e,h1,h2⟩:=h.head
 have j:gU g=aA g:=by
  rw [e];refine gq h2 ?_;rcases a with rfl | a
  ·obtain⟨m,c,t,d,f⟩:=h0;obtain rfl:m=p:=aiB (d.symm.trans h1);exact .inr ⟨c,t,f⟩
  ·exact .inl (a p h1)
 rw [h.rows,oL];unfold oM;rw [j];by_cases b:i=0
 ·subst b;rw [if_pos (show (gJ wide (jg (l.take 0))).1=0 from rfl),if_pos rfl];rfl
 ·have:=h.len
  rw [if_neg (dz (by omega) (by omega) wide),if_neg b]
theorem aP {l:List Pz}(c:Sh l)(d:l.length≤20000)(wide:Int)(i:Nat):(gJ wide (jg (l.take i))).2.1≤400000∧(gJ wide (jg (l.take i))).2.2.length≤400000:=by
 have h1:Sh (l.take i):=fun p a=>c p (List.mem_of_mem_take a)
 have h2:(l.take i).length≤20000:=by rw [List.length_take];omega
 have h3:=WK wide _ _ rfl fun r b=>(YG h1 h2 r b).1
 have h4:=Y3 h2 (jg (l.take i)).length;rw [List.take_length] at h4
 omega
theorem aS {T:Tr}{f i:Nat}(b:0 < f)(h:dB (nd T i).kind=true):∃ p c t,(ah T f i)[0]? = some p∧p.text=c :: t∧c ≠ 32:=by
 obtain⟨f,rfl⟩:∃ g,f=g+1:=⟨f - 1,by omega⟩
 have a:(nd T i).kind=40∨(nd T i).kind=41∨(nd T i).kind=42∨(nd T i).kind=43∨(nd T i).kind=44∨(nd T i).kind=45∨(nd T i).kind=46:=by
  unfold dB at h;simp at h;omega
 rw [ah];rcases a with a | a | a | a | a | a | a
 ·rw [xU a];exact⟨_,_,_,rfl,rfl,by decide⟩
 ·rw [xV a];exact⟨_,_,_,rfl,rfl,by decide⟩
 ·rw [xW a];exact⟨_,_,_,rfl,rfl,by decide⟩
 ·rw [xX a];exact⟨_,_,_,rfl,rfl,by decide⟩
 ·rw [xY a];exact⟨_,_,_,rfl,rfl,by decide⟩
 ·rw [xZ a];exact⟨_,_,_,rfl,rfl,by decide⟩
 ·rw [x9 a];exact⟨_,_,_,rfl,rfl,by decide⟩
end Mist
set_option linter.all false
namespace Go.Proofs.YtajfdjikimiapaaGreatDoor
section
open Go.RowKit Mist
attribute [local go_sem] au aN aV aM aG
theorem cK {A Bi:Option Addr}{c d:Nat}{xs:List NV}{its:List Int}{w:World}(f:lJ w A Bi xs its)(b:ED (aj xs))(j:xs.length≤10000)(i:its.length≤10000):∀ W,Below w.heap.size w W→Calls Tryz.prog 68 #[.agg #[.slice A xs.length c,.slice Bi its.length d]] W fun e k=>e=.returned (.int .i64 (eP ⟨aj xs,its⟩))∧Below W.heap.size W k:=fun W g=>by
 have h:=acG A Bi c d xs its W (f.below g) j i fun x a=>(b x.1 (List.mem_map.2 ⟨x,a,rfl⟩)).text
 rw [← ady ⟨aj xs,its⟩ fun x a=>(b x a).num] at h
 exact h
theorem aD {A Bi:Option Addr}{c d:Nat}{xs:List NV}{its:List Int}{w:World}{k:Int}(hT:lJ w A Bi xs its)(hR:ED (aj xs))(hn:xs.length≤10000)(hm:its.length≤10000)(hk:Ar k) :
  Calls Tryz.prog 30 #[.agg #[.slice A xs.length c,.slice Bi its.length d],.int .i64 k] w fun e g=>∃ v,e=.returned (.tuple #[v,.int .i64 (qM ⟨aj xs,its⟩ k).2])∧((qM ⟨aj xs,its⟩ k).2=0→kJ (.bits (ah ⟨aj xs,its⟩ (xs.length+2) (d9 ⟨aj xs,its⟩ k).1.toNat)) v g)∧Below w.heap.size w g:=by
 have ji:=O (cK (c:=c) (d:=d) hT hR hn hm);have r:=O (aZ.new w 25 #[.slice A xs.length c,.slice Bi its.length d]);have D:=O (aF (Below.refl w.heap.size w) (aiv _) (o:=.cells #[.slice A xs.length c,.slice Bi its.length d] 25));have X:(⟨aj xs,its⟩:Tr).nodes.length=xs.length:=by simp [aj]
 have HI:=O hT.items
 have R:eP ⟨aj xs,its⟩=0→GD ⟨aj xs,its⟩∧acw ⟨aj xs,its⟩∧xs.length≤800:=fun h0=>by
  obtain⟨a9,h8,h6,V⟩:=X8 h0 hR;rw [X] at h8
  exact⟨a9,V,h8⟩
 have C:eP ⟨aj xs,its⟩=0→∀ f i:Nat,i < f→i < xs.length→∀ W,Below w.heap.size w W→Calls Tryz.prog 42 #[.agg #[.slice A xs.length c,.slice Bi its.length d],.int .i64 (i:Nat)] W (BR (ah ⟨aj xs,its⟩ f i) W):=fun h0 f i hf V=>ad1 (c:=c) (m:=its.length) (d:=d) hT rfl (by omega) (R h0).1 f i hf V
 have K:eP ⟨aj xs,its⟩ ≠ 0→qM ⟨aj xs,its⟩ k=([],eP ⟨aj xs,its⟩):=fun h=>by
  have e1:d9 ⟨aj xs,its⟩ k=(0,eP ⟨aj xs,its⟩):=by unfold d9;rw [if_pos h]
  unfold qM;rw [e1];simp only
  rw [if_pos h]
 have G:eP ⟨aj xs,its⟩=0→k < 0∨(its.length:Int)≤k→qM ⟨aj xs,its⟩ k=([],7):=fun h h1=>by
  have e1:d9 ⟨aj xs,its⟩ k=(0,7):=by unfold d9;rw [if_neg (by simp [h]),if_pos h1]
  unfold qM;rw [e1];rfl
 have B:eP ⟨aj xs,its⟩=0→∀ i:Nat,0≤k→its[k.toNat]? = some (i:Int)→i < xs.length→(d9 ⟨aj xs,its⟩ k).1=(i:Int)∧(qM ⟨aj xs,its⟩ k).2=((jA (dW (ah ⟨aj xs,its⟩ (xs.length+2) i)) (ah ⟨aj xs,its⟩ (xs.length+2) i).length).2:Nat):=fun h i h0 V H=>by
  have b4:=(aiq.1 V).1
  have e1:d9 ⟨aj xs,its⟩ k=((i:Int),0):=by
   unfold d9;rw [if_neg (by simp [h]),if_neg (by show ¬ (k < 0∨(its.length:Int)≤k);omega)]
   show (its.getD k.toNat 0,(0:Int))=_
   rw [ait,V];rfl
  unfold qM;rw [e1,if_neg (by simp)];simp only [aiC];unfold lG;rw [X,(C8 (R h).1 (xs.length+2) i (by omega) (by rw [X];exact H)).1];exact⟨trivial,rfl⟩
 have jw:eP ⟨aj xs,its⟩=0→∀ i:Nat,i < xs.length→(ah ⟨aj xs,its⟩ (xs.length+2) i).length≤9612∧(dW (ah ⟨aj xs,its⟩ (xs.length+2) i)).length≤124956:=fun h i V=>by
  have h1:=y9 (R h).1.right (R h).1.fo (i:=i) (f:=xs.length+2) (by rw [X];exact V) (by omega);have h2:=qW (wN (R h).1 (xs.length+2) i (by rw [X];exact V));have h3:=(R h).2.2;omega
 obtain⟨I,hI⟩:∃ I,I=qM ⟨aj xs,its⟩ k:=⟨_,rfl⟩;rw [← hI] at K G B ⊢
 obtain⟨N,hN⟩:∃ N,N=d9 ⟨aj xs,its⟩ k:=⟨_,rfl⟩;rw [← hN] at B ⊢
 obtain⟨E,hE⟩:∃ E,E=eP ⟨aj xs,its⟩:=⟨_,rfl⟩;rw [← hE] at K G B jw C R ji
 have kD:=O fun h=>(R h).2.1
 obtain⟨T,nU⟩:∃ T:Tr,T=⟨aj xs,its⟩:=⟨_,rfl⟩;have a7:=O (show T.items=its by rw [nU]);rw [← nU] at B jw C X kD ⊢
 obtain⟨n,a6⟩:∃ n,n=xs.length:=⟨_,rfl⟩;obtain⟨m,a1⟩:∃ m,m=its.length:=⟨_,rfl⟩;rw [← a6] at ji r D X C B jw ⊢
 rw [← a1] at ji r D C G ⊢
 have HM:=O a1;clear a1 a6 nU hE hN hI R hn hm hT hR;by_cases h0:E=0
 ·subst h0;have sK:=O (G rfl);have M:=O (B rfl);have MJ:=O (jw rfl);have I8:=O (C rfl);have pI:=O X;have b2:=O hk;clear K G B jw C X hk;by_cases h1:k < 0
  ·have F:=O (sK.o (.inl h1));have d1:decide (k < 0)=true:=aiG h1;clear sK M h1;go_in
   go_wp2_with (go_at_call 68;refine (ji.o _ D.o).mono ?_;rintro e J⟨rfl,b⟩;have u:=O (D.o.trans (b.mono D.o.size));clear b)
   go_ret2
   exact⟨_,by rw [F.o];rfl,fun h=>(by rw [F.o] at h;cases h),u.o⟩
  ·obtain⟨j,rfl⟩:∃ j:Nat,k=(j:Int):=⟨k.toNat,by omega⟩;have d1:decide ((j:Int) < 0)=false:=aiH h1;by_cases h2:m≤j
   ·have F:=O (sK.o (.inr (by omega)));have d2:decide (m≤j)=true:=aiG h2;have d3:decide ((m:Int)≤(j:Int))=true:=aiG (by omega);clear sK M h1 h2;go_in
    have b0:=r.o.cell 0;have b1:=r.o.cell 1;go_wp2_with (go_at_call 68;refine (ji.o _ D.o).mono ?_;rintro e J⟨rfl,b⟩;have u:=O (D.o.trans (b.mono D.o.size));have t:=O (r.o.below b r.o.lt);have d0:=t.o.cell 0;have a3:=t.o.cell 1;clear b)
    go_ret2
    exact⟨_,by rw [F.o];rfl,fun h=>(by rw [F.o] at h;cases h),u.o⟩
   ·have d2:decide (m≤j)=false:=aiH h2;have d3:decide ((m:Int)≤(j:Int))=false:=aiH (by omega);obtain⟨a,ha⟩:∃ a,its[j]? = some a:=⟨_,aip (by rw [← HM.o];omega)⟩;obtain⟨i,rfl,H,_⟩:=kD.o rfl a (by rw [a7.o];exact aiy ha);rw [pI.o] at H
    obtain⟨U,oi,rfl,a8,a5⟩:=HI.o.ex (by rw [← HM.o];omega);have mG:=a5 j _ ha;have F:=O (M.o i (by omega) (by rw [aiC];exact ha) H);have P:=O (MJ.o i H);have vX:Hid (∀ W,Below w.heap.size w W→Calls Tryz.prog 42 #[.agg #[.slice A n c,.slice (some ⟨U,oi,none⟩) m d],.int .i64 (i:Nat)] W (BR (ah T (n+2) i) W)):=O (I8.o (n+2) i (by omega) H);rw [F.o.1,aiC]
    generalize ah T (n+2) i=L at F P vX ⊢
    have z0:(0:Int)≤(j:Int):=by omega
    have z1:(j:Int) < (m:Int):=by omega
    clear sK M MJ I8 ha a5;go_in
    have b0:=r.o.cell 0;have b1:=r.o.cell 1;go_upto_region 6 with (go_at_call 68;refine (ji.o _ D.o).mono ?_;rintro e J⟨rfl,b⟩;have u:=O (D.o.trans (b.mono D.o.size));have t:=O (r.o.below b r.o.lt);have d0:=t.o.cell 0;have a3:=t.o.cell 1;clear b)
    have Y:Below w.heap.size w J.drew:=u.o.drew;have lQ:=O Y
    have fL:∀ g,Below J.drew.heap.size J.drew g→(Instr.loadAt 25 (.pointer (some ⟨w.heap.size,0,none⟩))).run Tryz.prog g=.ok (.agg #[.slice A n c,.slice (some ⟨U,oi,none⟩) m d]) g:=by
     intro g hb;have hh:=t.o.drew.below hb t.o.lt;have c0:=hh.cell 0;have c1:=hh.cell 1;go_simp
    have fI:∀ g,Below J.drew.heap.size J.drew g→(Instr.loadAt 23 (.pointer (some ⟨w.heap.size,1,none⟩))).run Tryz.prog g=.ok (.slice (some ⟨U,oi,none⟩) m d) g:=by
     intro g hb;have hh:=t.o.drew.below hb t.o.lt;have c1:=hh.cell 1;go_simp
    have fQ:∀ g,Below J.drew.heap.size J.drew g→(Instr.loadAt 3 (.pointer (some ⟨U,oi+j,none⟩))).run Tryz.prog g=.ok (.int .i64 ((i:Nat):Int)) g:=by
     intro g hb;have c0:=((Y.trans (hb.mono Y.size)).cell (p:=⟨U,oi+j,none⟩) a8).trans mG;go_simp
    have fA:∀ g,(Instr.fieldAt 25 (.pointer (some ⟨w.heap.size,0,none⟩)) 1).run Tryz.prog g=.ok (.pointer (some ⟨w.heap.size,1,none⟩)) g:=fun g=>by go_simp
    have fJ:∀ g,(Instr.indexAt 23 (.slice (some ⟨U,oi,none⟩) m d) (.int .i64 (j:Nat))).run Tryz.prog g=.ok (.pointer (some ⟨U,oi+j,none⟩)) g:=fun g=>by go_simp
    have a2:∀ {Q:Exit→Act→World→Prop} {E:Operand→SV} {o:Oper} {x y:Operand} {ts:Array TypeId},o.op=.call { callee:=.value (.func 42),args:=#[x,y],argTypes:=ts }→E x=.v (.agg #[.slice A n c,.slice (some ⟨U,oi,none⟩) m d])→E y=.v (.int .i64 (i:Nat))→iP Tryz.prog J.drew Q E o (.bits L):=by
     intro Q E o x y ts h e1 e2;refine nE h (fun args w=>by kernel_rfl) fun ρ g hx hb=>?_
     have h1:=hx x (by simp);have h2:=hx y (by simp);rw [e1] at h1
     rw [e2] at h2
     rw [show (#[x,y].map ρ)=#[ρ x,ρ y] by simp,show ρ x=.agg #[.slice A n c,.slice (some ⟨U,oi,none⟩) m d] from h1,show ρ y=.int .i64 (i:Nat) from h2];exact vX.o g (lQ.o.trans (hb.mono lQ.o.size))
    refine dx 40 (by kernel_rfl) rfl (by kernel_rfl) (out:=?out) ?runs ?fin
    case runs =>
     refine .cons (d_ rfl rfl fL) ?_;refine .cons (lN rfl rfl fA) ?_;refine .cons (d_ rfl rfl fI) ?_;refine .cons (fM (.inl rfl)) ?_;refine .cons (abY rfl rfl rfl fJ) ?_;refine .cons (d_ rfl rfl fQ) ?_;refine .cons (a2 rfl rfl rfl) ?_;refine .cons (fM (.inr rfl)) ?_;exact .nil
    case fin =>
    intro fv w3 hf a4;obtain⟨A2,c2,e2,a0⟩:kJ (.bits L) (fv 7) w3:=hf 7 (by decide);have kE:=O (u.o.trans ((show Below J.heap.size J w3 from a4).mono u.o.size));have Px:=O (afh (l:=L) (w:=w3) (by have:=P.o.1;omega) (by have:=P.o.2;omega) ⟨A2,c2,rfl,a0⟩);have mo:=O (show kJ (.bits L) (.slice A2 L.length c2) w3 from ⟨A2,c2,rfl,a0⟩);simp only [List.map_cons,List.map_nil,jC,Act.put,ail,ain,aio,e2];clear hf a4 a0 e2 fL fI fQ fA fJ a2 vX Y lQ mG t d0 a3 u;have Z:=F.o.2;obtain⟨S,hS⟩:∃ S,S=jA (dW L) L.length:=⟨_,rfl⟩;rw [← hS] at Z Px
    obtain⟨s1,s2⟩:=S;simp only at Z Px
    obtain⟨q,hq⟩:∃ q,q=L.length:=⟨_,rfl⟩;rw [← hq] at Px mo ⊢
    have vD:=O Z;clear Z hS hq F P;rcases Nat.eq_zero_or_pos s2 with hs | hs
    ·subst hs;go_wp2_with (go_at_call 41;refine Px.o.mono ?_;rintro e w5⟨rfl,rfl⟩)
     go_ret2
     exact⟨_,by rw [vD.o];rfl,fun _=>mo.o,kE.o⟩
    ·have z5:((s2:Int) != 0)=true:=by simp;omega
     have z6:((s2:Int) == 0)=false:=by simp;omega
     have VB:=O (show ¬ (s2:Int)=0 by omega);clear hs;go_wp2_with (go_at_call 41;refine Px.o.mono ?_;rintro e w5⟨rfl,rfl⟩)
     go_ret2
     exact⟨_,by rw [vD.o];rfl,fun h=>absurd (vD.o.symm.trans h) VB.o,kE.o⟩
 ·have b3:(E == 0)=false:=by simp [h0]
  have zJ:(E != 0)=true:=by simp [h0]
  have F:=O (K h0);have o8:=O h0;clear h0 K G B jw C kD;go_in
  go_wp2_with (go_at_call 68;refine (ji.o _ D.o).mono ?_;rintro e J⟨rfl,b⟩;have u:=O (D.o.trans (b.mono D.o.size));clear b)
  go_ret2
  exact⟨_,by rw [F.o];rfl,fun h=>by rw [F.o] at h;exact absurd h o8.o,u.o⟩
end
set_option linter.all false
section
open Go.RowKit Mist
attribute [local go_sem] au aN aV aM aG
theorem aR {w:World}{A Bi:Option Addr}{xs:List NV}{its:List Int}{k wide:Int}(X:MX w A Bi xs its)(h:(qM ⟨aj xs,its⟩ k).2=0):∃ L,L=ah ⟨aj xs,its⟩ (xs.length+2) (d9 ⟨aj xs,its⟩ k).1.toNat∧Sh L∧L.length≤9612∧(∃ p c t,L[0]? = some p∧p.text=c :: t∧c ≠ 32) ∧
  wY ⟨aj xs,its⟩ k wide=if wide < 10∨200 < wide then ([],3) else if 2000 < (gJ wide (jg L)).2.2.length then ([],5) else ((gJ wide (jg L)).2.2,0):=by
 obtain⟨i,d,e,g,j,_⟩:=AJ X (Xy X h);have b:(⟨aj xs,its⟩:Tr).nodes.length=xs.length:=by simp [aj]
 obtain⟨a,h8,_,_⟩:=X8 j X.r;rw [b] at h8
 refine⟨_,rfl,?_,?_,?_,?_⟩
 ·rw [d];exact wN a _ _ (by rw [b];exact e)
 ·rw [d]
  have:=y9 a.right a.fo (i:=i) (f:=xs.length+2) (by rw [b];exact e) (by omega)
  rw [aiC];omega
 ·rw [d];exact aS (by omega) g
 ·unfold wY;rw [if_neg (by simp [h]),b];unfold lG;rw [d,aiC,(C8 a (xs.length+2) i (by omega) (by rw [b];exact e)).1]
theorem jv {a b t:Nat}(h:a+3+t≤1000000∧b+3+t≤1000000):(wrap64 ((b:Int)+1)=((b+1:Nat):Int)∧wrap64 ((b:Int)+1+(t:Int))=(b:Int)+1+(t:Int))∧wrap64 (2+(t:Int))=2+(t:Int)∧(¬ 9223372036854775807 < a+3∧¬ 9223372036854775807 < a+3+t)∧¬ 9223372036854775807 < a+1∧¬ 9223372036854775807 < a+1+t :=
 ⟨⟨wz b 1 (by omega),wz (b+1) t (by omega)⟩,wz 2 t (by omega),⟨by omega,by omega⟩,by omega,by omega⟩
theorem dn {A Bi:Option Addr}{c d:Nat}{xs:List NV}{its:List Int}{w:World}{k0 wide:Int}(X:MX w A Bi xs its)(hn:xs.length≤10000)(hm:its.length≤10000)(K:Ar k0)(a2:Ar wide) :
  Calls Tryz.prog 9 #[.agg #[.slice A xs.length c,.slice Bi its.length d],.int .i64 k0,.int .i64 wide] w fun e w'=>e=.returned (.tuple #[.string (aU (wY ⟨aj xs,its⟩ k0 wide).1),.int .i64 (wY ⟨aj xs,its⟩ k0 wide).2])∧Below w.heap.size w w':=by
 have R:=O (aF (Below.refl w.heap.size w) (aiv _) (o:=.cells #[.slice A xs.length c,.slice Bi its.length d] 25));have r:=O (aZ.new w 25 #[.slice A xs.length c,.slice Bi its.length d]);have Q:=O (aD (c:=c) (d:=d) (X.t.below R.o) X.r hn hm K);by_cases h0:(qM ⟨aj xs,its⟩ k0).2=0
 ·obtain⟨L,hL,hS,Z,hF,hT⟩:=aR (wide:=wide) X h0;rw [← hL] at Q
  rw [h0] at Q
  have F:=O hT;have HS:=O hS;have HF:=O hF;obtain⟨n,M⟩:∃ n,n=L.length:=⟨_,rfl⟩;rw [← M] at Z
  have D:=O M;have b0:=r.o.cell 0;have b1:=r.o.cell 1;have HW:=O a2;clear hT hL hS hF h0 X M hn hm K a2;go_in
  go_wp2_with fail;refine Q.o.mono ?_;rintro e w2⟨v,rfl,hv,y⟩;have f:=O (R.o.trans (y.mono R.o.size));obtain⟨A2,c2,rfl,Y⟩:=hv trivial;rw [← D.o];have HB:=O Y;clear y hv Y R r Q b0 b1;by_cases h1:wide < 10
  ·have d1:decide (wide < 10)=true:=aiG h1;have m:=O (show wY ⟨aj xs,its⟩ k0 wide=([],3) from F.o.trans (if_pos (.inl h1)));clear h1;go_wp2_with fail;go_ret2
   exact⟨by rw [m.o];rfl,f.o⟩
  by_cases h2:200 < wide
  ·have d1:decide (wide < 10)=false:=aiH h1;have d2:decide (200 < wide)=true:=aiG h2;have m:=O (show wY ⟨aj xs,its⟩ k0 wide=([],3) from F.o.trans (if_pos (.inr h2)));clear h1 h2;go_wp2_with fail;go_ret2
   exact⟨by rw [m.o];rfl,f.o⟩
  have d1:decide (wide < 10)=false:=aiH h1;have d2:decide (200 < wide)=false:=aiH h2;have m:=O (show wY ⟨aj xs,its⟩ k0 wide=if 2000 < (gJ wide (jg L)).2.2.length then ([],5) else ((gJ wide (jg L)).2.2,0) from F.o.trans (if_neg (by omega)));clear h1 h2 F;go_wp2_with fail;go_loopw [10,11,12,13,14] (fun s lv iv _ _ wr=>∃ (i P:Nat) (tx:Bs),i≤n∧Hid (bg L i)∧Hid ((gJ wide (jg (L.take i))).2.1=P)∧Hid ((gJ wide (jg (L.take i))).2.2=tx)∧iv=.int .i64 i∧lv=.int .i64 P∧s=.string (aU tx)∧Hid (Below w2.heap.size w2 wr)) (fun _ _ iv _ _ _=>n - (intOf iv).toNat)
  case atStart=>exact⟨0,0,[],aix _,O (.inl rfl),O rfl,O rfl,rfl,rfl,rfl,O (Below.refl _ _)⟩
  case round =>
   obtain⟨wo,rfl⟩:∃ wo:World,wo=wr:=⟨_,rfl⟩;obtain⟨i,P,tx,hi,Ez,f_,W,rfl,rfl,rfl,wK⟩:=hrel;have iZ:=O (aP HS.o (by rw [← D.o];omega) wide i);rw [f_.o,W.o] at iZ
   by_cases B:i < n
   ·have i3:decide (i < n)=true:=aiG B;obtain⟨p,hp⟩:∃ p,L[i]? = some p:=⟨_,aip (by rw [← D.o];exact B)⟩;obtain⟨b,o,rfl,G,hc⟩:=HB.o.ex (by rw [← D.o];omega);have HC:=O hc;have c0:=(wK.o.cell (p:=⟨b,_,none⟩) G).trans (hc _ _ (Fj L i 0 p (.string (aU p.text)) hp rfl));rw [Nat.add_zero] at c0
    have l5:=O (gK.start HS.o Ez.o hp);have V:=O (show aA [p]=p.text by simp [aA]);have z0:(0:Int)≤(i:Int):=by omega
    have z1:(i:Int) < (n:Int):=by omega
    have b2:IntKind.i64.wrap ((i:Int)+1)=((i+1:Nat):Int):=by rw [IntWalk.i64_in _ (by omega)];omega
    clear hp hc;go_wp2_with fail;go_quiet (fail)
    clear b2;go_wp2_with fail;go_loopw [13,14] (fun kv rv vU=>∃ (k:Nat) (g:List Pz) (t:Bs),i < k∧k≤n∧Hid (gK L i k g)∧Hid (aA g=t)∧kv=.int .i64 k∧rv=.string (aU t)∧Hid (Below w2.heap.size w2 vU)) (fun kv _ _=>n - (intOf kv).toNat)
    case atStart=>exact⟨i+1,[p],p.text,by omega,by omega,l5,V,by go_num,rfl,O (jJ wK.o _)⟩
    case round =>
     clear wK c0 z0 z1 i3 l5 V;obtain⟨wi,rfl⟩:∃ wi:World,wi=wr:=⟨_,rfl⟩;obtain⟨k,g,t,a8,K,T,F,rfl,rfl,C⟩:=hrel
     have I:t.length≤12 * (k - i):=by
      have h1:=T.o.cat;have h2:=T.o.len;rw [F.o] at h1
      omega
     have Jm:=O I;have z2:(0:Int)≤(k:Int):=by omega
     rcases (show (k < n∧∃ q,L[k]? = some q∧q.blank=false)∨(k < n∧∃ q,L[k]? = some q∧q.blank=true)∨k=n from by
      rcases Nat.lt_or_ge k n with h | h
      ·have j:L[k]? = some (L[k]'(by rw [← D.o];exact h)):=aip (by rw [← D.o];exact h)
       cases a:(L[k]'(by rw [← D.o];exact h)).blank
       ·exact .inl ⟨h,_,j,a⟩
       ·exact .inr (.inl ⟨h,_,j,a⟩)
      ·exact .inr (.inr (by omega))) with ⟨l,q,j,a⟩ | h
     ·have z3:(k:Int) < (n:Int):=by omega
      have S:decide (k < n)=true:=aiG l;have c0:=(C.o.cell (p:=⟨b,_,none⟩) G).trans (HC.o _ _ (Fj L k 0 q (.string (aU q.text)) j rfl));have c1:=(C.o.cell (p:=⟨b,_,none⟩) G).trans (HC.o _ _ (Fj L k 1 q (.bool q.blank) j rfl));rw [Nat.add_zero] at c0
      rw [← Nat.add_assoc,a] at c1
      have a5:=O (T.o.more HS.o j a);have a9:q.text.length≤12:=HS.o q (aiy j);have g1:¬ 9223372036854775807 < t.length+q.text.length:=by omega
      have a6:=O (show aA (g ++ [q])=t ++ q.text from by rw [aI,F.o]);clear j a I a9
      generalize q.text=u at *
      go_wp2_with fail;exact⟨⟨k+1,g ++ [q],t ++ u,by omega,by omega,a5,a6,by go_num,rfl,C⟩,by simp [intOf];omega⟩
     ·have jo:=O (show bg L k from .inr fun q j=>by
       rcases h with ⟨_,q2,a0,a⟩ | h
       ·rw [j] at a0
        rw [aiB a0];exact a
       ·rw [List.getElem?_eq_none (by rw [← D.o];omega)] at j;cases j)
      have x:=O (T.o.done (by rw [← D.o];exact K) Ez.o HF.o wide);rw [f_.o,W.o,F.o] at x
      have a7:=iZ.o;have fF:=O (show tx.length+3+t.length≤1000000∧P+3+t.length≤1000000 from by omega);clear a7 I iZ Jm T F f_ W Ez;rcases h with ⟨l,q,j,a⟩ | l
      focus
       have z3:(k:Int) < (n:Int):=by omega
       have S:decide (k < n)=true:=aiG l;have c1:=(C.o.cell (p:=⟨b,_,none⟩) G).trans (HC.o _ _ (Fj L k 1 q (.bool q.blank) j rfl));rw [← Nat.add_assoc,a] at c1
       clear j a l
      rotate_left
      focus
       have S:decide (k < n)=false:=aiH (by omega);clear l
      all_goals
       by_cases J:i=0
       ·obtain rfl:i=0:=J;rw [if_pos rfl] at x
        clear fF;go_wp2_with fail;exact⟨⟨k,_,_,K,jo,O (by rw [x.o]),O (by rw [x.o]),rfl,rfl,rfl,C⟩,by simp [intOf];omega⟩
       ·rw [if_neg J] at x
        have y0:((i:Int) == 0)=false:=by simp;omega
        have y1:¬ (i:Int)=0:=by omega
        have H:=O (jv fF.o);have U:=O (show n - k < n - i by omega);clear J fF hi B a8 d1 d2 Z;by_cases hw:wide < ((P+1+t.length:Nat):Int)
        ·rw [if_pos hw] at x
         have N:wide < (P:Int)+1+(t.length:Nat):=by omega
         have a3:=H.o.1.1;have a4:=H.o.1.2;clear hw;go_upto_region 16 with (fail)
         clear a3 a4 N y0 y1 S;have b3:=H.o.2.1;have q1:=H.o.2.2.1.1;have q2:=H.o.2.2.1.2;go_wp2_with fail;exact⟨⟨k,_,_,K,jo,O (by rw [x.o]),O (by rw [x.o]),rfl,by go_num,by rw [show ({ data:=#[10,32,32] }:ByteArray)=aU [10,32,32] from rfl,aG,aG],C⟩,by simp only [intOf,aiC];exact U.o⟩
        ·rw [if_neg hw] at x
         have N:¬ wide < (P:Int)+1+(t.length:Nat):=by omega
         have a3:=H.o.1.1;have a4:=H.o.1.2;clear hw;go_upto_region 12 with (fail)
         clear N y0 y1 S;have q1:=H.o.2.2.2.1;have q2:=H.o.2.2.2.2;go_wp2_with fail;exact⟨⟨k,_,_,K,jo,O (by rw [x.o]),O (by rw [x.o]),rfl,by go_num,by rw [show ({ data:=#[32] }:ByteArray)=aU [32] from rfl,aG,aG],C⟩,by simp only [intOf,aiC];exact U.o⟩
   ·have i3:decide (i < n)=false:=aiH B;have C:=wK;have lV:=W.o;have a1:=iZ.o.2;rw [aiz (by rw [← D.o];omega)] at lV
    rw [lV] at m
    clear W iZ Ez f_ lV B;by_cases a:2000 < tx.length
    ·have S:decide (2000 < tx.length)=true:=aiG a;have i5:decide ((2000:Int) < ((tx.length:Nat):Int))=true:=aiG (by omega);have Fe:=O (m.o.trans (if_pos a));clear a m a1;go_wp2_with fail;go_ret2
     exact⟨by rw [Fe.o];rfl,f.o.trans (C.o.mono f.o.size)⟩
    ·have S:decide (2000 < tx.length)=false:=aiH a;have i5:decide ((2000:Int) < ((tx.length:Nat):Int))=false:=aiH (by omega);have Fe:=O (m.o.trans (if_neg a));clear a m a1;go_wp2_with fail;go_ret2
     exact⟨by rw [Fe.o];rfl,f.o.trans (C.o.mono f.o.size)⟩
 ·have m:=O (show wY ⟨aj xs,its⟩ k0 wide=([],(qM ⟨aj xs,its⟩ k0).2) from by unfold wY;rw [if_pos h0]);obtain⟨E,hE⟩:∃ E,E=(qM ⟨aj xs,its⟩ k0).2:=⟨_,rfl⟩;rw [← hE] at m Q h0
  have e1:(E != 0)=true:=by simpa using h0
  have b0:=r.o.cell 0;have b1:=r.o.cell 1;clear hE h0 X;go_in
  go_wp2_with fail;refine Q.o.mono ?_;rintro e w2⟨v,rfl,_,y⟩;have f:=O (R.o.trans (y.mono R.o.size));clear y;go_wp2_with fail;go_ret2
  exact⟨by rw [m.o];rfl,f.o⟩
end
