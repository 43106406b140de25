/-
  A part of the proof.
-/
import Derived.Test.YtajfdjikimiapaaGreatDoorS34
set_option linter.all false
set_option maxRecDepth 100000
set_option maxHeartbeats 4000000
set_option linter.all false
namespace Go.Proofs.YtajfdjikimiapaaGreatDoor
section
open Go.RowKit Mist
attribute [local go_sem] au aN aV aM aG
theorem lJ.aeK {w r:World}{A B:Option Addr}{xs:List NV}{its:List Int}{tb:Nat}(h:lJ w A B xs its)(D:w.heap.size≤r.heap.size)(n:∀ (o:Nat) k q,w.cell? ⟨tb,o,none⟩ ≠ some (.int k q))(m:∀ (b o:Nat),b ≠ tb→r.cell? ⟨b,o,none⟩=w.cell? ⟨b,o,none⟩):lJ r A B xs its:=by
 have l:∀ {C:Option Addr} {ks:List Int},IntsIn w C ks→IntsIn r C ks:=fun hi=>⟨fun h0=>by
  obtain⟨b,o,e,F,u⟩:=hi.ex h0
  refine⟨b,o,e,aiI F D,fun j k y=>?_⟩
  rw [m b _ (fun t=>n (o+j) _ _ (by rw [← t];exact u j k y))];exact u j k y⟩
 refine⟨fun h0=>?_,l h.items⟩
 obtain⟨b,o,e,g⟩:=h.nodes h0;have a:b ≠ tb:=fun t=>n _ _ _ (by rw [← t];exact g.c0 0 _ (aip h0))
 refine⟨b,o,e,⟨⟨aiI g.lt D,fun i x f=>(m b _ a).trans (g.c3 i x f),fun x f=>?_⟩,fun i x f=>(m b _ a).trans (g.c0 i x f),fun i x f=>(m b _ a).trans (g.c1 i x f),fun i x f=>(m b _ a).trans (g.c2 i x f),fun i x f=>(m b _ a).trans (g.c4 i x f)⟩⟩
 obtain⟨E,c1,h1,h2,h3⟩:=g.kids.kids x f;exact⟨E,c1,h1,h2,(l ⟨h3⟩).ex⟩
def yF (T U:Tr)(E F:Int):Bool × Int:=if E ≠ 0 then (false,E) else if F ≠ 0 then (false,F) else eqE T U
def InT (w:World)(u v:Value)(T:Tr):Prop:=∃ (A B:Option Addr) (c d:Nat) (xs:List NV),u=.slice A xs.length c∧v=.slice B T.items.length d∧aj xs=T.nodes∧lJ w A B xs T.items
structure sO (T U:Tr) (E F:Int) (b k:Nat) (w:World):Prop where
 blk:∃ A0 A1 B0 B1:Option Addr,∃ n0 n1 m0 m1 c0 c1 d0 d1:Nat,aZ w b 88 #[.slice A0 n0 c0,.slice B0 m0 d0,.slice A1 n1 c1,.slice B1 m1 d1] ∧
  (1≤k→E=0∧InT w (.slice A0 n0 c0) (.slice B0 m0 d0) T)∧(2≤k→F=0∧InT w (.slice A1 n1 c1) (.slice B1 m1 d1) U)
theorem InT.below {w a:World}{u v:Value}{T:Tr}(h:InT w u v T)(b:Below w.heap.size w a):InT a u v T:=by
 obtain⟨A,B,c,d,xs,h1,h2,h3,h4⟩:=h;exact⟨A,B,c,d,xs,h1,h2,h3,h4.below b⟩
theorem sO.below {T U:Tr}{E F:Int}{b k:Nat}{w f:World}(h:sO T U E F b k w)(e:Below w.heap.size w f):sO T U E F b k f:=by
 obtain⟨g,i,j,l,t,u,q,r,m,c1,n,o,h1,h2,h3⟩:=h.blk;exact⟨g,i,j,l,t,u,q,r,m,c1,n,o,h1.below e h1.lt,fun a=>⟨(h2 a).1,(h2 a).2.below e⟩,fun a=>⟨(h3 a).1,(h3 a).2.below e⟩⟩
theorem InT.set {w:World}{x y:Value}{T:Tr}{b i:Nat}{f g j l:Option Addr}{E F C D m c1 n r:Nat}(h:InT w x y T)(t:aZ w b 88 #[.slice f E m,.slice j C n,.slice g F c1,.slice l D r])(u v:Value):InT ((w.setCell ⟨b,i,none⟩ u).setCell ⟨b,i+1,none⟩ v) x y T:=by
 obtain⟨A,B,c,d,xs,h1,h2,h3,h4⟩:=h
 refine⟨A,B,c,d,xs,h1,h2,h3,h4.aeK (tb:=b) (by simp) (fun o k q e=>?_) fun b o a=>?_⟩
 ·rw [t.cell o] at e
  match o with
  | 0=>simp at e
  | 1=>simp at e
  | 2=>simp at e
  | 3=>simp at e
  | o+4=>simp at e
 ·rw [World.cell?_setCell_other _ _ _ _ (by intro e;injection e with e;exact a e.symm),World.cell?_setCell_other _ _ _ _ (by intro e;injection e with e;exact a e.symm)]
theorem sO.one {T U:Tr}{E F:Int}{b:Nat}{w:World}(h:sO T U E F b 0 w){A B:Option Addr}{n m c d:Nat}(g:E=0)(j:InT w (.slice A n c) (.slice B m d) T):sO T U E F b 1 ((w.setCell ⟨b,0,none⟩ (.slice A n c)).setCell ⟨b,1,none⟩ (.slice B m d)):=by
 obtain⟨q,a,r,e,y,o,x,l,t,c1,u,f,h1,h2,h3⟩:=h.blk
 refine⟨A,a,B,e,n,o,m,l,c,c1,d,f,?_,fun _=>⟨g,j.set (i:=0) h1 _ _⟩,fun k=>absurd k (by omega)⟩
 have:=(h1.jD 0 (.slice A n c)).jD 1 (.slice B m d)
 simpa using this
theorem sO.two {T U:Tr}{E F:Int}{b:Nat}{w:World}(h:sO T U E F b 1 w){A B:Option Addr}{n m c d:Nat}(hF:F=0)(j:InT w (.slice A n c) (.slice B m d) U):sO T U E F b 2 ((w.setCell ⟨b,2,none⟩ (.slice A n c)).setCell ⟨b,3,none⟩ (.slice B m d)):=by
 obtain⟨a,o,e,q,l,x,k,u,f,c1,g,r,h1,h2,h3⟩:=h.blk
 refine⟨a,A,e,B,l,n,k,m,f,c,g,d,?_,fun _=>⟨(h2 (by omega)).1,(h2 (by omega)).2.set (i:=2) h1 _ _⟩,fun t=>⟨hF,j.set (i:=2) h1 _ _⟩⟩
 have:=(h1.jD 2 (.slice A n c)).jD 3 (.slice B m d)
 simpa using this
theorem adq (a b:Bs)(w:World):Sem.run Tryz.prog (Instr.index 89 (.agg #[.string (aU a),.string (aU b)]) (.int .i64 0)) w=.ok (.string (aU a)) w:=by kernel_rfl
theorem adr (a b:Bs)(w:World):Sem.run Tryz.prog (Instr.index 89 (.agg #[.string (aU a),.string (aU b)]) (.int .i64 1)) w=.ok (.string (aU b)) w:=by kernel_rfl
theorem acy {W:World}{s t:Bs}{T U:Tr}{X Y E F:Int}(hP:∀ w,Env w→Calls Tryz.prog 18 #[.string (aU s)] w (sM T X E w))(hQ:∀ w,Env w→Calls Tryz.prog 18 #[.string (aU t)] w (sM U Y F w))(hT:Parsed T X E)(hU:Parsed U Y F)(hTn:T.nodes.length≤1000∧T.items.length≤1000)(hUn:U.nodes.length≤1000∧U.items.length≤1000)(hE:Env W) :
  Calls Tryz.prog 20 #[.string (aU s),.string (aU t)] W fun e W'=>e=.returned (.tuple #[.bool (yF T U E F).1,.int .i64 (yF T U E F).2])∧Below W.heap.size W W':=by
 have HP:=O hP;have HQ:=O hQ;have HE:=O hE;have HT:=O hT;have HU:=O hU;have HN:=O (And.intro hTn hUn);have Q:=O (show sO T U E F W.heap.size 0 (W.alloc (.cells #[.slice none 0 0,.slice none 0 0,.slice none 0 0,.slice none 0 0] 88)) from ⟨none,none,none,none,0,0,0,0,0,0,0,0,aZ.new W _ _,fun h=>absurd h (by omega),fun h=>absurd h (by omega)⟩);have P:=O ((Below.refl W.heap.size W).alloc (aiv _) (.cells #[.slice none 0 0,.slice none 0 0,.slice none 0 0,.slice none 0 0] 88));clear hP hQ hE hT hU hTn hUn;go_in
 go_wp2_with fail;go_loopw [7,8,9,10,11,15] (fun _ _ _ _ _ I wr=>∃ k:Nat,k≤2∧I=.int .i64 k∧Hid (sO T U E F W.heap.size k wr)∧Hid (Below W.heap.size W wr)) (fun _ _ _ _ _ I _=>2 - (intOf I).toNat)
 case atStart=>exact⟨0,by omega,rfl,Q,P⟩
 case round =>
  obtain⟨k,hk,rfl,G,r⟩:=hrel;clear Q P;rcases (show k=0∨k=1∨k=2 by omega) with rfl | rfl | rfl
  ·have x:=adq s t wr;have g:=HP.o wr (HE.o.below r.o);have Z:=O g;clear g;go_wp2_with fail;refine Z.o.mono ?_;rintro e w1⟨q,A,B,c,d,xs,rfl,y,V⟩;have a:=O (r.o.trans (q.mono r.o.size));have S:=O (G.o.below q);have j:=O (show InT w1 (.slice A xs.length c) (.slice B T.items.length d) T from ⟨A,B,c,d,xs,rfl,rfl,y,V⟩);obtain⟨n,hn⟩:∃ n,n=xs.length:=⟨_,rfl⟩;obtain⟨m,hm⟩:∃ m,m=T.items.length:=⟨_,rfl⟩;rw [← hn,← hm] at j ⊢
   clear x q y V hn hm G r Z;by_cases h0:E=0
   ·have H:=O ((Below.refl w1.heap.size w1).alloc (aiv _) (.cells #[.slice A n c,.slice B m d] 25));have yT:=O (S.o.below H.o);have D:=O (j.o.below H.o);have f:=O (a.o.trans (H.o.mono a.o.size));have Vz:=O (yT.o.one h0 D.o);have UN:=O (dS (b:=W.heap.size) (i:=0+1) (u:=.slice B m d) (dS (b:=W.heap.size) (i:=0) (u:=.slice A n c) f.o (aiv _)) (aiv _));have z1:(E != 0)=false:=by simp [h0]
    obtain⟨K,L,M,N,n0,n1,m0,m1,c0,c1,d0,d1,h1,_,_⟩:=yT.o.blk;have a0:=h1.cell 0;have a1:=h1.cell 1;have a2:=h1.cell 2;have a3:=h1.cell 3;have hlt:=h1.lt;have r0:=h1.frozen 0;have r1:=h1.frozen 1;clear h1;clear S j;go_wp2_with fail;exact⟨⟨1,by omega,rfl,Vz,UN⟩,by simp [intOf]⟩
   ·have z:(E != 0)=true:=by simpa using h0
    have J:=O (show yF T U E F=(false,E) from by unfold yF;rw [if_pos h0]);have f:=O (a.o.alloc a.o.size (.cells #[.slice A n c,.slice B m d] 25));clear h0;go_wp2_with fail;go_ret2
    exact⟨(by rw [J.o];first | done | rfl),f.o⟩
  ·have l:=O (show E=0 from by
    obtain⟨K,L,M,N,n0,n1,m0,m1,c0,c1,d0,d1,h1,h2,h3⟩:=G.o.blk;exact (h2 (by omega)).1)
   have x:=adr s t wr;have g:=HQ.o wr (HE.o.below r.o);have Z:=O g;clear g;go_wp2_with fail;refine Z.o.mono ?_;rintro e w1⟨q,A,B,c,d,xs,rfl,y,V⟩;have a:=O (r.o.trans (q.mono r.o.size));have S:=O (G.o.below q);have j:=O (show InT w1 (.slice A xs.length c) (.slice B U.items.length d) U from ⟨A,B,c,d,xs,rfl,rfl,y,V⟩);obtain⟨n,hn⟩:∃ n,n=xs.length:=⟨_,rfl⟩;obtain⟨m,hm⟩:∃ m,m=U.items.length:=⟨_,rfl⟩;rw [← hn,← hm] at j ⊢
   clear x q y V hn hm G r Z;by_cases h0:F=0
   ·have H:=O ((Below.refl w1.heap.size w1).alloc (aiv _) (.cells #[.slice A n c,.slice B m d] 25));have yT:=O (S.o.below H.o);have D:=O (j.o.below H.o);have f:=O (a.o.trans (H.o.mono a.o.size));have Vz:=O (yT.o.two h0 D.o);have UN:=O (dS (b:=W.heap.size) (i:=2+1) (u:=.slice B m d) (dS (b:=W.heap.size) (i:=2) (u:=.slice A n c) f.o (aiv _)) (aiv _));have z1:(F != 0)=false:=by simp [h0]
    obtain⟨K,L,M,N,n0,n1,m0,m1,c0,c1,d0,d1,h1,_,_⟩:=yT.o.blk;have a0:=h1.cell 0;have a1:=h1.cell 1;have a2:=h1.cell 2;have a3:=h1.cell 3;have hlt:=h1.lt;have r0:=h1.frozen 2;have r1:=h1.frozen 3;clear h1;clear S j;go_wp2_with fail;exact⟨⟨2,by omega,rfl,Vz,UN⟩,by simp [intOf]⟩
   ·have z:(F != 0)=true:=by simpa using h0
    have J:=O (show yF T U E F=(false,F) from by unfold yF;rw [if_neg (by simp [l.o]),if_pos h0]);have f:=O (a.o.alloc a.o.size (.cells #[.slice A n c,.slice B m d] 25));clear h0;go_wp2_with fail;go_ret2
    exact⟨(by rw [J.o];first | done | rfl),f.o⟩
  ·have l:=O (show E=0∧F=0 from by
    obtain⟨K,L,M,N,n0,n1,m0,m1,c0,c1,d0,d1,h1,h2,h3⟩:=G.o.blk;exact⟨(h2 (by omega)).1,(h3 (by omega)).1⟩)
   obtain⟨K,L,M,N,n0,n1,m0,m1,c0,c1,d0,d1,h1,h2,h3⟩:=G.o.blk;obtain⟨A,B,c,d,xs,e1,e2,e3,e4⟩:=(h2 (by omega)).2;obtain⟨A',B',c',d',ys,e5,e6,e7,e8⟩:=(h3 (by omega)).2;injection e1 with q1 q2 q3
   injection e2 with q4 q5 q6
   injection e5 with q7 q8 q9
   injection e6 with q10 q11 q12
   subst q1 q2 q3 q4 q5 q6 q7 q8 q9 q10 q11 q12;have t1:=IE e3;have t2:=IE e7;have hTR:eP T=0∧ED T.nodes:=by rcases HT.o with h | h;exact absurd l.o.1 h;exact⟨h.2.2.1,h.2.2.2⟩
   have hUR:eP U=0∧ED U.nodes:=by rcases HU.o with h | h;exact absurd l.o.2 h;exact⟨h.2.2.1,h.2.2.2⟩
   have C:=O (Nn K M L N c0 d0 c1 d1 xs ys T.items U.items wr e4 e8 (by rw [e3];exact hTR.2) (by rw [e7];exact hUR.2) (HE.o.below r.o) (by have:=congrArg List.length e3;rw [bW] at this;have:=HN.o.1.1;omega) (by have:=congrArg List.length e7;rw [bW] at this;have:=HN.o.2.1;omega) (by have:=HN.o.1.2;omega) (by have:=HN.o.2.2;omega));rw [← t1,← t2] at C
   have J:=O (show yF T U E F=eqE T U from by unfold yF;rw [if_neg (by simp [l.o.1]),if_neg (by simp [l.o.2])]);obtain⟨R,hR⟩:∃ R,R=eqE T U:=⟨_,rfl⟩;rw [← hR] at J C
   obtain⟨i0,hi0⟩:∃ i,i=T.items.length:=⟨_,rfl⟩;obtain⟨i1,hi1⟩:∃ i,i=U.items.length:=⟨_,rfl⟩;rw [← hi0,← hi1] at C h1
   have a0:=h1.cell 0;have a1:=h1.cell 1;have a2:=h1.cell 2;have a3:=h1.cell 3;clear h1 h2 h3 e3 e4 e7 e8 t1 t2 hTR hUR hR hi0 hi1 l;go_wp2_with fail;refine C.o.mono ?_;rintro e w2⟨rfl,hb2⟩;have f:=O (r.o.trans (hb2.mono r.o.size));clear hb2 a0 a1 a2 a3;go_wp2_with fail;go_ret2
   exact⟨(by rw [J.o];first | done | rfl),f.o⟩
end
set_option linter.all false
section
open Go.RowKit Mist
def zp1:Bs:=[108,101,116,32,115,61,40,97,41,43,40,40,98,42,50,41,41,59,97,115,107,32,108,111,111,107,45,40,97,45,40,98,45,99,41,41,44,45,32,45,97,44,40,105,102,32,99,32,116,104,101,110,32,49,32,101,108,115,101,32,50,41,43,49,44,102,40,45,97,44,91,49,44,50,93,91,48,93,41,59]
def zp2:Bs:=[99,104,111,111,115,101,32,100,32,58,32,45,32,51,32,46,46,32,54,32,59,32,102,117,110,32,102,40,97,58,105,110,116,44,98,58,112,41,58,91,105,110,116,59,50,93,117,112,116,111,32,51,61,91,97,44,98,46,120,93,59,32,108,101,116,32,115,32,61,32,97,32,43,32,98,32,42,32,50,59]
def zp3:Bs:=[108,101,116,32,97,32,61,32,40,49,41,59]
def zp4:Bs:=[108,101,116,32,97,61,49,59]
def zo1:Bs:=[108,101,116,32,115,32,61,32,97,32,43,32,98,32,42,32,50,59,10,97,115,107,32,108,111,111,107,32,45,40,97,32,45,32,40,98,32,45,32,99,41,41,44,32,45,32,45,97,44,32,40,105,102,32,99,32,116,104,101,110,32,49,32,101,108,115,101,32,50,41,32,43,32,49,44,32,102,40,45,97,44,32,91,49,44,32,50,93,91,48,93,41,59,10]
def zo2:Bs:=[102,117,110,32,102,40,97,58,32,105,110,116,44,32,98,58,32,112,41,58,32,91,105,110,116,59,32,50,93,32,117,112,116,111,32,51,32,61,32,91,97,44,32,98,46,120,93,59]
def zo3:Bs:=[99,104,111,111,115,101,32,100,58,32,45,51,46,46,54,59]
def zo4:Bs:=[108,101,116,32,115,32,61,32,97,32,43,10,32,32,98,32,42,32,50,59]
def lp1:List Mist.Tok:=(Mist.read zp1).1
def Zl:Tr:=match prog lp1 (zp1.length:Int) 1000 50 0 [] [] with | some (.ok its _ ns)=>⟨ns,its⟩ | _=>⟨[],[]⟩
theorem aaZ:Mist.read zp1=(lp1,0,0):=by decide +kernel
theorem ae2:PF lp1:=Qw (by decide +kernel)
theorem aaY:prog lp1 (zp1.length:Int) 1000 50 0 [] []=some (.ok Zl.items lp1.length Zl.nodes):=by decide +kernel
theorem aaX:z_ Zl:=yu (by decide +kernel)
theorem Tf:iN Zl=(0,0):=by decide +kernel
theorem Yb:eP Zl=0:=by decide +kernel
theorem Ya:ED Zl.nodes:=IB (by decide +kernel)
theorem agL:Parsed Zl 0 0:=.inr ⟨rfl,rfl,Yb,Ya⟩
def lp2:List Mist.Tok:=(Mist.read zp2).1
def EU:Tr:=match prog lp2 (zp2.length:Int) 1000 50 0 [] [] with | some (.ok its _ ns)=>⟨ns,its⟩ | _=>⟨[],[]⟩
theorem aa2:Mist.read zp2=(lp2,0,0):=by decide +kernel
theorem ae3:PF lp2:=Qw (by decide +kernel)
theorem aa1:prog lp2 (zp2.length:Int) 1000 50 0 [] []=some (.ok EU.items lp2.length EU.nodes):=by decide +kernel
theorem aa0:z_ EU:=yu (by decide +kernel)
theorem Tg:iN EU=(0,0):=by decide +kernel
theorem Yd:ED EU.nodes:=IB (by decide +kernel)
def lp3:List Mist.Tok:=(Mist.read zp3).1
def tp3:Tr:=match prog lp3 (zp3.length:Int) 1000 50 0 [] [] with | some (.ok its _ ns)=>⟨ns,its⟩ | _=>⟨[],[]⟩
theorem aa5:Mist.read zp3=(lp3,0,0):=by decide +kernel
theorem ae4:PF lp3:=Qw (by decide +kernel)
theorem aa4:prog lp3 (zp3.length:Int) 1000 50 0 [] []=some (.ok tp3.items lp3.length tp3.nodes):=by decide +kernel
theorem aa3:z_ tp3:=yu (by decide +kernel)
theorem Tj:iN tp3=(0,0):=by decide +kernel
theorem Yg:eP tp3=0:=by decide +kernel
theorem Yf:ED tp3.nodes:=IB (by decide +kernel)
theorem agM:Parsed tp3 0 0:=.inr ⟨rfl,rfl,Yg,Yf⟩
def lp4:List Mist.Tok:=(Mist.read zp4).1
def tp4:Tr:=match prog lp4 (zp4.length:Int) 1000 50 0 [] [] with | some (.ok its _ ns)=>⟨ns,its⟩ | _=>⟨[],[]⟩
theorem aa8:Mist.read zp4=(lp4,0,0):=by decide +kernel
theorem ae5:PF lp4:=Qw (by decide +kernel)
theorem aa7:prog lp4 (zp4.length:Int) 1000 50 0 [] []=some (.ok tp4.items lp4.length tp4.nodes):=by decide +kernel
theorem aa6:z_ tp4:=yu (by decide +kernel)
theorem Tk:iN tp4=(0,0):=by decide +kernel
theorem Yj:eP tp4=0:=by decide +kernel
theorem Yi:ED tp4.nodes:=IB (by decide +kernel)
theorem agN:Parsed tp4 0 0:=.inr ⟨rfl,rfl,Yj,Yi⟩
theorem aeU:yw Zl=(zo1,0):=by decide +kernel
theorem aeW:qM EU 1=(zo2,0):=by decide +kernel
theorem aeX:qM EU 0=(zo3,0):=by decide +kernel
theorem aeY:wY EU 2 11=(zo4,0):=by decide +kernel
theorem aeZ:yF tp3 tp4 0 0=(true,0):=by decide +kernel
theorem BM {s:Bs}{l:List Mist.Tok}{n f k:Nat}{T:Tr}(o:Mist.read s=(l,0,0))(hF:PF l)(m:prog l (s.length:Int) n f 0 [] []=some (.ok T.items k T.nodes))(j:s.length≤100000000)(b:z_ T)(i:iN T=(0,0))(w:World)(a:Env w) :
  Calls Tryz.prog 18 #[.string (aU s)] w (sM T 0 0 w) :=
 (aaH w o hF m a j b i).mono fun e q h=>by
  obtain⟨g,A,B,c,d,xs,h1,h2,h3,_,h4⟩:=h;exact⟨g,A,B,c,d,xs,by rw [h3];exact h1,h2,h4⟩
theorem Yc (w:World)(a:Env w):Calls Tryz.prog 18 #[.string (aU zp1)] w (sM Zl 0 0 w):=BM aaZ ae2 aaY (by decide) aaX Tf w a
theorem Ye (w:World)(a:Env w):Calls Tryz.prog 18 #[.string (aU zp2)] w (sM EU 0 0 w):=BM aa2 ae3 aa1 (by decide) aa0 Tg w a
theorem Yh (w:World)(a:Env w):Calls Tryz.prog 18 #[.string (aU zp3)] w (sM tp3 0 0 w):=BM aa5 ae4 aa4 (by decide) aa3 Tj w a
theorem Yk (w:World)(a:Env w):Calls Tryz.prog 18 #[.string (aU zp4)] w (sM tp4 0 0 w):=BM aa8 ae5 aa7 (by decide) aa6 Tk w a
end
set_option linter.all false
section
open Go.RowKit Mist
attribute [local go_sem] au aN aV aM aG
theorem aeV:oo Zl 0 0=(zo1,0,0):=by unfold oo;rw [if_neg (by simp),aeU];rfl
section
variable {W w:World} {A B:Option Addr} {c d:Nat} {xs:List NV} {its:List Int}
theorem kx2 (e:Env w)(f:Pow w)(hi:its=EU.items)(a:aj xs=EU.nodes)(b:lJ w A B xs its):MX w A B xs its:=⟨b,by rw [a];exact Yd,e,f⟩
theorem kt2 (hi:its=EU.items)(a:aj xs=EU.nodes):(⟨aj xs,its⟩:Tr)=EU:=by rw [hi];exact (IE a).symm
theorem agn (X:MX w A B xs its)(hi:its=EU.items)(a:aj xs=EU.nodes):Calls Tryz.prog 19 #[.agg #[.slice A xs.length c,.slice B its.length d],.int .i64 1] w fun e b=>e=.returned (.tuple #[.string (aU zo2),.int .i64 0])∧Below w.heap.size w b:=by
 have h:=MW (c:=c) (d:=d) X 1 (by unfold Ar;decide);rw [kt2 hi a,aeW] at h
 exact h
theorem agm (X:MX w A B xs its)(hi:its=EU.items)(a:aj xs=EU.nodes):Calls Tryz.prog 19 #[.agg #[.slice A xs.length c,.slice B its.length d],.int .i64 0] w fun e b=>e=.returned (.tuple #[.string (aU zo3),.int .i64 0])∧Below w.heap.size w b:=by
 have h:=MW (c:=c) (d:=d) X 0 (by unfold Ar;decide);rw [kt2 hi a,aeX] at h
 exact h
theorem agl (X:MX w A B xs its)(hi:its=EU.items)(a:aj xs=EU.nodes):Calls Tryz.prog 8 #[.agg #[.slice A xs.length c,.slice B its.length d],.int .i64 2,.int .i64 11] w fun e b=>e=.returned (.tuple #[.string (aU zo4),.int .i64 0])∧Below w.heap.size w b:=by
 have h:=ab0 (c:=c) (d:=d) X 2 11 (by unfold Ar;decide) (by unfold Ar;decide);rw [kt2 hi a,aeY] at h
 exact h
theorem agq (b:Env w)(f:Pow w):Calls Tryz.prog 17 #[.string (aU zp1)] w fun e a=>e=.returned (.tuple #[.string (aU zo1),.int .i64 0,.int .i64 0])∧Below w.heap.size w a:=by
 have h:=V5 (X:=0) (E:=0) Yc agL b f;rw [aeV] at h
 exact h
theorem agv (b:Env w):Calls Tryz.prog 20 #[.string (aU zp3),.string (aU zp4)] w fun e a=>e=.returned (.tuple #[.bool true,.int .i64 0])∧Below w.heap.size w a:=by
 have h:=acy (X:=0) (Y:=0) (E:=0) (F:=0) Yh Yk agM agN ⟨by decide +kernel,by decide +kernel⟩ ⟨by decide +kernel,by decide +kernel⟩ b;rw [aeZ] at h
 exact h
theorem afg (S:Env W)(V:Pow W):Calls Tryz.prog 6 #[] W fun e Z=>e=.returned (.bool true)∧Below W.heap.size W Z:=by
 have C:=O S;have R:=O V;clear S V;go_in
 go_wp2_with fail;refine (agq C.o R.o).mono ?_;rintro e w1⟨rfl,t⟩;have h:=O t;clear t;go_wp2_with fail;refine (Ye _ (C.o.below h.o)).mono ?_;rintro e b⟨u,A,B,c,d,xs,rfl,k,I⟩;obtain⟨its,a⟩:∃ its,its=EU.items:=⟨_,rfl⟩;rw [← a] at I ⊢
 have f:=O (h.o.trans (u.mono h.o.size));have D:=O (kx2 (C.o.below f.o) (R.o.on f.o) a k I);have E:=O k;have g:=O a;have N:=O fun q (r:Below b.heap.size b q)=>agn (c:=c) (d:=d) (D.o.below r) g.o E.o
 have M:=O fun q (r:Below b.heap.size b q)=>agm (c:=c) (d:=d) (D.o.below r) g.o E.o
 have P:=O fun q (r:Below b.heap.size b q)=>agl (c:=c) (d:=d) (D.o.below r) g.o E.o
 obtain⟨n,U⟩:∃ n,n=xs.length:=⟨_,rfl⟩;obtain⟨m,T⟩:∃ m,m=its.length:=⟨_,rfl⟩;rw [← U,← T] at N M P ⊢
 have Q:=O (aZ.new b 25 #[.slice A n c,.slice B m d]);have H:=O ((Below.refl b.heap.size b).alloc (aiv _) (.cells #[.slice A n c,.slice B m d] 25));clear u k I a U T D E g;go_wp2_with fail;refine (N.o _ H.o).mono ?_;rintro e X⟨rfl,i⟩;have K:=O (H.o.trans (i.mono H.o.size));have F:=O (Q.o.below i Q.o.lt);have J:X.cell? ⟨b.heap.size,0,none⟩=some (.slice A n c):=F.o.cell 0;have c1:X.cell? ⟨b.heap.size,1,none⟩=some (.slice B m d):=F.o.cell 1;clear i;go_wp2_with fail;refine (M.o _ K.o).mono ?_;rintro e Y⟨rfl,j⟩;have G:=O (K.o.trans (j.mono K.o.size));have l:=O (F.o.below j F.o.lt);clear J c1;have J:Y.cell? ⟨b.heap.size,0,none⟩=some (.slice A n c):=l.o.cell 0;have c1:Y.cell? ⟨b.heap.size,1,none⟩=some (.slice B m d):=l.o.cell 1;clear j;go_wp2_with fail;refine (P.o _ G.o).mono ?_;rintro e w5⟨rfl,x⟩;have L:=O (f.o.trans ((G.o.trans (x.mono G.o.size)).mono f.o.size));clear x J c1;go_wp2_with fail;refine (agv (C.o.below L.o)).mono ?_;rintro e w6⟨rfl,y⟩;have cZ:=O (L.o.trans (y.mono L.o.size));clear y;go_upto_region 9 with (fail)
 go_wp2_with fail
 all_goals first
  | (go_ret;exact⟨rfl,cZ.o⟩)
  | (exfalso;simp_all [zo1,zo2,zo3,zo4])
end
end
section
open Go.ChangeShapes Go.WideShapes Go.ChangeAt Go.RowKit Go.MapKept Go.ChangeMaps Mist
theorem TD:(Rows.laid_internal_strconv_uint64pow10:DataW Unit)=Lib.tabData IntKind.u64 Lib.pow10Tab:=by kernel_rfl
theorem aa' {l : List (String × DataW Unit)} {w : World} (h : laidMet Tryz.prog l w) (a : ("internal/strconv.uint64pow10", Rows.laid_internal_strconv_uint64pow10) ∈ l) : Pow w := by
 rw [TD] at a
 exact Lib.tabBelow_of_tabIs (AY (g:=2) (t:=222) (e:=197) (n:=20) (by kernel_rfl) (by kernel_rfl) (by kernel_rfl) (by kernel_rfl) (by kernel_rfl) (by kernel_rfl) h a)
end
