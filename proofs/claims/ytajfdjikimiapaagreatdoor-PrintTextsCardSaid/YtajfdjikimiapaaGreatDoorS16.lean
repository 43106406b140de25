/-
  A part of the proof.
-/
import Derived.Test.YtajfdjikimiapaaGreatDoorS15
set_option linter.all false
set_option maxRecDepth 100000
set_option maxHeartbeats 4000000
namespace Mist
abbrev sN:=List (Bs × Nat × Bs)
structure Gs where
 left:Bs
 ns:List Nd
def Gs.nx (s:Gs):Nat:=(s.left.headD 0).toNat
def Gs.tl (s:Gs):Gs:=⟨s.left.tail,s.ns⟩
def Gs.put (s:Gs)(n:Nd):Gs:=⟨s.left,s.ns ++ [n]⟩
def Gs.id (s:Gs):Int:=(s.ns.length:Int)
structure Gr where
 pc:sN
 ix:Int
 st:Gs
structure Gl where
 pc:sN
 ix:List Int
 st:Gs
def aed:List Bs:=[[32],[32,32],[10],[32,35,32,97,59,32,40,10],[32],[32,10,32]]
def kM (wild:Bool)(s:Gs):Bs:=if wild=true then sg aed (s.nx % 6) else [32]
def kN (wild:Bool)(s:Gs):Gs:=if wild=true then s.tl else s
def adx:List Bs:=[[97],[98],[99,50],[115,111],[105,102,102],[116,114,101,101],[120],[108,101,116,115]]
def r_ (b:Nat):Bs:=sg adx (b % 8)
def sN.on (g:Bs):sN→sN
 | []=>[]
 | (h,k,t) :: r=>(g ++ h,k,t) :: r
def yR (t:Bs):Bs × Nat × Bs:=([],4,t)
def abT (n:Int):sN:=if n < 0 then [([],4,[45]),([],2,Go.Lib.itoa (-n))] else [([],2,Go.Lib.itoa n)]
def QF (wild:Bool)(I:sN)(s:Gs):sN :=
 if wild=true∧s.nx % 4=0 then yR [40] :: yR [40] :: I ++ [(kM wild s.tl,4,[41]),yR [41]] else yR [40] :: I ++ [yR [41]]
def QG (wild:Bool)(s:Gs):Gs:=if wild=true then (if s.nx % 4=0 then kN wild s.tl else s.tl) else s
def mY (I:sN)(s:Gs)(n:Nd):Gr:=⟨I,s.id,s.put n⟩
def abR (b:Nat)(s:Gs):Gr :=
 if b < 20 then mY (abT ((b * 7:Nat):Int)) s ⟨1,[],((b * 7:Nat):Int),[],0⟩
 else if b < 30 then mY [([],3,if b % 2=0 then [102,97,108,115,101] else [116,114,117,101])] s ⟨2,[],((b % 2:Nat):Int),[],0⟩
 else mY [([],1,r_ b)] s ⟨3,r_ b,0,[],0⟩
def agK:List Bs:=[[43],[45],[42],[47],[37],[61,61],[33,61],[60],[60,61],[62],[62,61],[97,110,100],[111,114]]
def opK (k:Nat):Nat:=if k < 11 then 4 else 3
section
variable (wild:Bool) (E:Gs→Gr)
def Kt:Nat→Gl→Gl
 | 0,r=>r
 | m+1,r =>
  if r.ix=[] then
   let a:=E r.st
   Kt m ⟨r.pc ++ a.pc,r.ix ++ [a.ix],a.st⟩
  else
   let a:=E (kN wild r.st)
   Kt m ⟨r.pc ++ (yR [44] :: sN.on (kM wild r.st) a.pc),r.ix ++ [a.ix],a.st⟩
def agz (b:Nat)(s:Gs):Gr :=
 let a:=E s
 let I:=(if b % 2=0 then ([],3,[110,111,116]) else yR [45]) :: sN.on (kM wild a.st) a.pc
 let s1:=kN wild a.st
 mY (QF wild I s1) (QG wild s1) ⟨if b % 2=0 then 5 else 4,[],0,[a.ix],0⟩
def afG (b:Nat)(s:Gs):Gr :=
 let a:=E s
 let c:=E a.st
 let s1:=kN wild c.st
 let s2:=kN wild s1
 let I:=a.pc ++ (kM wild c.st,opK (b % 13),sg agK (b % 13)) :: sN.on (kM wild s1) c.pc
 mY (QF wild I s2) (QG wild s2) ⟨6+b % 13,[],0,[a.ix,c.ix],0⟩
def opG (b:Nat)(s:Gs):Gr:=if b < 75 then agz wild E b s else afG wild E b s
def ifG (s:Gs):Gr :=
 let a:=E s
 let c:=E a.st
 let d:=E c.st
 let s1:=kN wild d.st
 let s2:=kN wild s1
 let s3:=kN wild s2
 let s4:=kN wild s3
 let s5:=kN wild s4
 let I:=([],3,[105,102]) :: (sN.on (kM wild d.st) a.pc ++ (kM wild s1,3,[116,104,101,110]) :: (sN.on (kM wild s2) c.pc ++ (kM wild s3,3,[101,108,115,101]) :: sN.on (kM wild s4) d.pc))
 mY (QF wild I s5) (QG wild s5) ⟨19,[],0,[a.ix,c.ix,d.ix],0⟩
def agw (x:Bs)(s:Gs):Gr :=
 let a:=E s
 let c:=E a.st
 let s1:=kN wild c.st
 let s2:=kN wild s1
 let s3:=kN wild s2
 let s4:=kN wild s3
 let I:=([],3,[108,101,116]) :: (kM wild c.st,1,x) :: (kM wild s1,4,[61]) :: (a.pc ++ (kM wild s2,3,[105,110]) :: sN.on (kM wild s3) c.pc)
 mY (QF wild I s4) (QG wild s4) ⟨20,x,0,[a.ix,c.ix],0⟩
def ad3 (x:Bs)(s:Gs):Gr :=
 let r:=Kt wild E (s.nx % 4) ⟨[],[],s.tl⟩
 mY (([],1,x) :: yR [40] :: (r.pc ++ [(kM wild r.st,4,[41])])) (kN wild r.st) ⟨21,x,0,r.ix,0⟩
def acJ (x:Bs)(s:Gs):Gr :=
 let a:=E s
 mY (yR [40] :: (a.pc ++ [yR [41],(kM wild a.st,4,[46]),([],1,x)])) (kN wild a.st) ⟨22,x,0,[a.ix],0⟩
def ac8 (s:Gs):Gr :=
 let a:=E s
 let c:=E a.st
 mY (yR [40] :: (a.pc ++ yR [41] :: yR [91] :: (c.pc ++ [(kM wild c.st,4,[93])]))) (kN wild c.st) ⟨23,[],0,[a.ix,c.ix],0⟩
def acA (s:Gs):Gr :=
 let r:=Kt wild E (1+s.nx % 4) ⟨[],[],s.tl⟩
 mY (yR [91] :: (sN.on (kM wild r.st) r.pc ++ [yR [93]])) (kN wild r.st) ⟨26,[],0,r.ix,0⟩
def abX:Nat→Gl→Gl
 | 0,r=>r
 | m+1,r =>
  let s0:=if r.ix=[] then r.st else kN wild r.st
  let a:=E s0.tl
  let I:sN:=([],1,r_ s0.nx) :: yR [58] :: a.pc
  abX m ⟨r.pc ++ (if r.ix=[] then I else (kM wild r.st,4,[44]) :: I),r.ix ++ [a.st.id],a.st.put ⟨25,r_ s0.nx,0,[a.ix],0⟩⟩
def agP (x:Bs)(b:Nat)(s:Gs):Gr :=
 let r:=abX wild E (1+b % 3) ⟨[],[],s⟩
 mY (([],1,x) :: yR [123] :: (r.pc ++ [(kM wild r.st,4,[125])])) (kN wild r.st) ⟨24,x,0,r.ix,0⟩
def ad6 (b:Nat)(s:Gs):Gr :=
 let x:=r_ s.nx
 if b % 7=0 then ifG wild E s.tl else if b % 7=1 then agw wild E x s.tl else if b % 7=2 then ad3 wild E x s.tl else if b % 7=3 then acJ wild E x s.tl
 else if b % 7=4 then ac8 wild E s.tl else if b % 7=5 then acA wild E s.tl else agP wild E x b s.tl
end
def FD (wild:Bool):Nat→Gs→Gr
 | 0,s=>abR (s.nx % 60) s.tl
 | d+1,s=>if s.nx < 60 then abR s.nx s.tl else if s.nx < 150 then opG wild (FD wild d) s.nx s.tl else ad6 wild (FD wild d) s.nx s.tl
def XI (wild:Bool):Nat→Gs→Gr
 | 0,s =>
  if s.nx % 4=0 then mY [([],3,[105,110,116])] s.tl ⟨30,[],0,[],0⟩ else if s.nx % 4=1 then mY [([],3,[98,111,111,108])] s.tl ⟨31,[],0,[],0⟩
  else mY [([],1,r_ s.nx)] s.tl ⟨32,r_ s.nx,0,[],0⟩
 | d+1,s =>
  if s.nx % 4=0 then mY [([],3,[105,110,116])] s.tl ⟨30,[],0,[],0⟩ else if s.nx % 4=1 then mY [([],3,[98,111,111,108])] s.tl ⟨31,[],0,[],0⟩
  else if s.nx % 4=2 then mY [([],1,r_ s.nx)] s.tl ⟨32,r_ s.nx,0,[],0⟩
  else
   let a:=XI wild d s.tl
   let s1:=kN wild a.st.tl
   mY (yR [91] :: (a.pc ++ [(kM wild a.st.tl,4,[59]),([],2,Go.Lib.itoa ((1+a.st.nx % 6:Nat):Int)),yR [93]])) s1 ⟨33,[],((1+a.st.nx % 6:Nat):Int),[a.ix],0⟩
def Ic (wild:Bool):Nat→Gl→Gl
 | 0,r=>r
 | m+1,r =>
  let s0:=if r.ix=[] then r.st else kN wild r.st
  let g:=if r.ix=[] then [] else kM wild r.st
  let a:=XI wild 2 s0.tl
  let s1:=kN wild a.st
  let I:sN:=(g,1,r_ s0.nx) :: yR [58] :: sN.on (kM wild a.st) a.pc
  Ic wild m ⟨r.pc ++ (if r.ix=[] then I else yR [44] :: I),r.ix ++ [s1.id],s1.put ⟨34,r_ s0.nx,0,[a.ix],0⟩⟩
def Qp (n:Int)(s:Gs):Gr:=mY (abT n) s ⟨1,[],n,[],0⟩
def Yw:List Bs:=[[],[109,117,115,116],[109,97,121],[99,111,117,110,116],[98,111,117,110,100,115],[118,97,108,117,101,115],[119,104,121],[98,108,97,109,101],[108,111,111,107]]
def afF (wild:Bool)(q:Nat)(s:Gs):Gr :=
 let many:=if q=7 then 0 else if q=8 then 1+s.nx % 4 else 1
 let r:=Kt wild (FD wild 3) many ⟨[],[],if q=8 then s.tl else s⟩
 mY (([],3,[97,115,107]) :: (kM wild r.st,3,sg Yw q) :: sN.on [32] r.pc) (kN wild r.st) ⟨46,[],(q:Int),r.ix,0⟩
def aaj (wild:Bool)(x:Bs)(s:Gs):Gr :=
 let low:Int:=((s.nx % 30:Nat):Int) - 15
 let a:=Qp low s.tl
 let c:=Qp (low+((a.st.nx % 12:Nat):Int)) a.st.tl
 let s1:=kN wild c.st
 let s2:=kN wild s1
 mY (([],3,[99,104,111,111,115,101]) :: ([32],1,x) :: yR [58] :: (sN.on (kM wild c.st) a.pc ++ (kM wild s1,4,[46,46]) :: sN.on (kM wild s2) c.pc)) (kN wild s2) ⟨40,x,0,[a.ix,c.ix],0⟩
def afc (wild:Bool)(x:Bs)(s:Gs):Gr :=
 let r:=Ic wild (1+s.nx % 6) ⟨[],[],s.tl⟩
 mY (([],3,[116,121,112,101]) :: ([32],1,x) :: yR [61] :: yR [123] :: (r.pc ++ [yR [125]])) r.st ⟨41,x,0,r.ix,0⟩
def aff (s:Gs):Nat:=if 8 < s.nx % 12 then 0 else s.nx % 12
def afJ (wild:Bool)(x:Bs)(s:Gs):Gr :=
 let r:=Ic wild (s.nx % 5) ⟨[],[],s.tl⟩
 let t:=XI wild 2 r.st
 let n:=aff t.st
 let s1:=if 0 < n then kN wild t.st.tl else t.st.tl
 let u:sN:=if 0 < n then [([32],3,[117,112,116,111]),(kM wild t.st.tl,2,Go.Lib.itoa (n:Int))] else []
 let b:=FD wild 4 s1
 let s2:=kN wild b.st
 let s3:=kN wild s2
 mY (([],3,[102,117,110]) :: (kM wild b.st,1,x) :: yR [40] :: (r.pc ++ yR [41] :: (kM wild s2,4,[58]) :: (t.pc ++ (u ++ (kM wild s3,4,[61]) :: b.pc)))) (kN wild s3) ⟨42,x,(n:Int),r.ix ++ [t.ix,b.ix],0⟩
def XO (wild:Bool)(x:Bs)(s:Gs):Gr :=
 let a:=FD wild 4 s
 mY (([],3,[108,101,116]) :: ([32],1,x) :: yR [61] :: sN.on (kM wild a.st) a.pc) (kN wild a.st) ⟨43,x,0,[a.ix],0⟩
def X7 (wild:Bool)(x:Bs)(s:Gs):Gr :=
 let a:=FD wild 4 s
 mY (([],3,[111,98,115,101,114,118,101]) :: ([32],1,x) :: (kM wild a.st,4,[58]) :: a.pc) (kN wild a.st) ⟨44,x,0,[a.ix],0⟩
def YD (wild:Bool)(x:Bs)(s:Gs):Gr :=
 mY [([],3,[114,101,116,114,97,99,116]),(kM wild s,1,x)] (kN wild s) ⟨45,x,0,[],0⟩
def ac9 (wild:Bool)(s:Gs):Gr :=
 let b:=s.nx
 let x:=r_ s.tl.nx
 let s2:=s.tl.tl
 if b % 7=0 then aaj wild x s2 else if b % 7=1 then afc wild x s2 else if b % 7=2 then afJ wild x s2 else if b % 7=3 then XO wild x s2
 else if b % 7=4 then X7 wild x s2 else if b % 7=5 then YD wild x s2 else afF wild (1+s2.nx % 8) s2.tl
def adu (s:Gs):Bs:=if s.nx % 7=6∧s.tl.tl.nx % 8=6 then [32] else []
def aeJ (wild:Bool)(s:Gs):Gr :=
 let a:=ac9 wild s
 ⟨a.pc ++ [(adu s ++ kM wild a.st,4,[59])],a.ix,kN wild a.st⟩
def abI (wild:Bool):Nat→Gl→Gl
 | 0,r=>r
 | m+1,r =>
  if r.st.left=[] then r
  else
   let a:=aeJ wild r.st
   abI wild m ⟨r.pc ++ (if r.ix=[] then a.pc else sN.on [10] a.pc),r.ix ++ [a.ix],a.st⟩
def grown (wild:Bool)(Qa:Bs):Gl:=abI wild 12 ⟨[],[],⟨Qa,[]⟩⟩
end Mist
namespace Mist
def NP (r:Bs):Prop:=r=[]∨∃ c r',r=c :: r'∧dQ c=false
def GH (r:Bs):Prop:=∃ c r',r=c :: r'∧(c=32∨c=10)
theorem GH.np {r:Bs}(h:GH r):NP r:=by
 obtain⟨c,a,rfl,rfl | rfl⟩:=h <;> exact .inr ⟨_,_,rfl,by decide⟩
def LV (g:Bs):Prop:=(∀ r,skip (g ++ r)=g.length+skip r)∧g.all jk=true
theorem LV.append {g h:Bs}(a:LV g)(b:LV h):LV (g ++ h) :=
 ⟨fun r=>by rw [List.append_assoc,a.1,b.1,aiA];omega,by rw [List.all_append,a.2,b.2];rfl⟩
structure acz (k:Nat) (t r:Bs):Prop where
 first:Mist.first (t ++ r)=(k,t)
 kind:k ≠ 0
 pos:0 < t.length
 skip:Mist.skip (t ++ r)=0
 valid:t.all jk=true
def He (t:Bs):Bool:=match t with
 | []=>false
 | b :: _=>!Bo b && !(b == 35)
def abZ (k:Nat)(t:Bs):Bool:=decide (0 < t.length) && eY (gt t 0) && t.all dQ && (first t == (k,t)) && (k != 0) && t.all jk && He t
def aaO (t:Bs):Bool:=decide (0 < t.length) && !eY (gt t 0) && bU (gt t 0) && t.all bU && iB t && (first t == (2,t)) && t.all jk && He t
def abw:sN→Bs→Prop
 | [],_=>True
 | (g,k,t) :: I,r=>LV g∧acz k t (oN I ++ r)∧abw I r
def PI (I:sN):Prop:=∀ r,NP r→abw I r
def SI (I:sN):Prop:=∃ k t R,I=([],k,t) :: R∧∃ c t',t=c :: t'∧c ≠ 61∧c ≠ 46
structure EI (I:sN):Prop where
 good:PI I
 start:SI I
theorem SI.text {I:sN}(h:SI I)(g:Bs):oN (sN.on g I)=g ++ oN I:=by
 obtain⟨k,t,R,rfl,_⟩:=h
 show (g ++ []) ++ (t ++ oN R)=g ++ ([] ++ (t ++ oN R))
 simp
theorem EI.on {I:sN}(h:EI I){g:Bs}(a:LV g):PI (sN.on g I):=by
 intro r b;have h1:=h.good r b;obtain⟨k,t,R,rfl,_⟩:=h.start;obtain⟨_,h2,h3⟩:=h1;exact⟨by show LV (g ++ []);rw [List.append_nil];exact a,h2,h3⟩
theorem SI.ne {I:sN}(h:SI I)(g:Bs)(r:Bs):∃ c a,oN I ++ r=c :: a∧c ≠ 61∧c ≠ 46:=by
 obtain⟨k,t,R,rfl,c,b,rfl,h1,h2⟩:=h;exact⟨c,_,rfl,h1,h2⟩
end Mist
namespace Mist
theorem Po (p:UInt8→Bool)(s:Bs)(h:s.take (bQ p s)=s):s.all p=true:=by
 unfold bQ at h
 rw [← List.prefix_iff_eq_take.1 (List.takeWhile_prefix p)] at h
 rw [← h];exact List.all_takeWhile
theorem Em (p:UInt8→Bool)(s:Bs)(h:s.all p=true):bQ p s=s.length:=by
 unfold bQ
 induction s with
 | nil=>rfl
 | cons c t a =>
  rw [List.all_cons,aiE] at h
  rw [List.takeWhile_cons_of_pos h.1,List.length_cons,a h.2,List.length_cons]
theorem DV {c:UInt8}(h:dQ c=true):jk c=true:=by
 have:∀ n:Fin 256,dQ (UInt8.ofNat n.val)=true→jk (UInt8.ofNat n.val)=true:=by decide +kernel
 have h2:=this ⟨c.toNat,c.toNat_lt⟩;rw [show UInt8.ofNat c.toNat=c by simp] at h2
 exact h2 h
theorem FY {c:UInt8}(h:dQ c=true):(!Bo c && !(c == 35))=true:=by
 have:∀ n:Fin 256,dQ (UInt8.ofNat n.val)=true→(!Bo (UInt8.ofNat n.val) && !(UInt8.ofNat n.val == 35))=true:=by decide +kernel
 have h2:=this ⟨c.toNat,c.toNat_lt⟩;rw [show UInt8.ofNat c.toNat=c by simp] at h2
 exact h2 h
theorem vF {c:UInt8}(h:bU c=true):dQ c=true∧eY c=false:=by
 have:∀ n:Fin 256,bU (UInt8.ofNat n.val)=true→dQ (UInt8.ofNat n.val)=true∧eY (UInt8.ofNat n.val)=false:=by decide +kernel
 have h2:=this ⟨c.toNat,c.toNat_lt⟩;rw [show UInt8.ofNat c.toNat=c by simp] at h2
 exact h2 h
theorem S_ {x:Bs}(h:isName x=true):abZ 1 x=true∧x.length≤12:=by
 have d:kind x=1:=by simpa [isName] using h
 unfold kind at d
 split at d
 ·rename_i e
  have k:x.length ≠ 0:=by
   intro k;rw [first,if_pos k] at d;cases d
  have a:=d;unfold first at a
  rw [if_neg k] at a
  by_cases o:eY (gt x 0)=true
  ·rw [if_pos o] at a
   by_cases b:hasB keywords (x.take (bQ dQ x))=true
   ·rw [if_pos b] at a;cases a
   ·rw [if_neg b] at a
    by_cases r:bQ dQ x≤12
    ·have u:=lW x k o b r;have C:x.take (bQ dQ x)=x:=by rw [u] at e;exact e
     have m:=Po dQ x C;have D:bQ dQ x=x.length:=Em dQ x m
     refine⟨?_,by rw [← D];exact r⟩
     unfold abZ
     have G:He x=true:=by
      cases x with
      | nil=>simp at k
      | cons c t=>exact FY (aiD.1 m c (List.mem_cons_self ..))
     have hv:x.all jk=true:=aiD.2 fun c F=>DV (aiD.1 m c F)
     rw [o,m,hv,G,u,C];simp;omega
    ·rw [if_neg r] at a;cases a
  ·rw [if_neg o] at a
   by_cases hd:bU (gt x 0)=true
   ·rw [if_pos hd] at a
    split at a <;> cases a
   ·rw [if_neg hd] at a
    split at a <;> cases a
 ·cases d
theorem Wx {s:Bs}(h0:0 < s.length)(a:s.all bU=true)(d:iB s=true):aaO s=true:=by
 have o:gt s 0 ∈ s:=by
  cases s with
  | nil=>simp at h0
  | cons c t=>exact List.mem_cons_self ..
 have hd:=aiD.1 a _ o;have k:s.take (bQ bU s)=s:=by rw [Em bU s a,List.take_length]
 have e:=(vF hd).2;have b:=l6 s (by omega) (by rw [e];decide) hd (by rw [k];exact d);rw [k] at b
 have r:He s=true:=by
  cases s with
  | nil=>simp at h0
  | cons c t=>exact FY (vF (aiD.1 a c (List.mem_cons_self ..))).1
 have hv:s.all jk=true:=aiD.2 fun c m=>DV (vF (aiD.1 a c m)).1
 unfold aaO;rw [e,hd,a,d,b,hv,r];simp;exact h0
def abU (s:Bs):Bool:=decide (0 < s.length) && s.all bU && iB s
theorem SK:∀ a b:Fin 100,(abU (Go.Lib.itoa ((100 * a.val+b.val:Nat):Int)) && numOf (Go.Lib.itoa ((100 * a.val+b.val:Nat):Int)) == 100 * a.val+b.val)=true:=by decide +kernel
theorem XA {n:Nat}(h:n < 10000):aaO (Go.Lib.itoa (n:Int))=true∧numOf (Go.Lib.itoa (n:Int))=n∧(Go.Lib.itoa (n:Int)).length≤4:=by
 have:=SK ⟨n / 100,by omega⟩ ⟨n % 100,by omega⟩
 simp only at this
 rw [show 100 * (n / 100)+n % 100=n by omega] at this
 unfold abU at this
 simp only [aiE,decide_eq_true_eq,beq_iff_eq] at this
 obtain⟨⟨⟨h1,h2⟩,h3⟩,h4⟩:=this
 refine⟨Wx h1 h2 h3,h4,?_⟩
 unfold iB at h3
 simp only [aiE,decide_eq_true_eq] at h3
 exact h3.1
theorem SH {n:Int}(h0:0≤n)(h:n < 10000):aaO (Go.Lib.itoa n)=true∧(numOf (Go.Lib.itoa n):Int)=n∧(Go.Lib.itoa n).length≤4:=by
 obtain⟨m,rfl⟩:=Int.eq_ofNat_of_zero_le h0;obtain⟨a,b,c⟩:=XA (n:=m) (by omega);exact⟨a,by rw [b],c⟩
theorem EL {k:Nat}{t:Bs}(h:first t=(k,t)):kind t=k:=by
 unfold kind;rw [h];simp
theorem acz.own {k:Nat}{t:Bs}(h:acz k t []):Mist.kind t=k:=EL (by have:=h.first;rwa [List.append_nil] at this)
structure NmZ (n:Nd):Prop where
 Qn:n.kind=33→1≤n.n∧n.n≤6
 fn:n.kind=42→0≤n.n∧n.n≤8
end Mist
namespace Mist
theorem ZW.cases {T:Tr}{i:Nat}(h:ZW T i):(nd T i).kind < 47∧0 < (nd T i).kind∧¬ (27≤(nd T i).kind∧(nd T i).kind < 30)∧¬ (35≤(nd T i).kind∧(nd T i).kind < 40):=by
 have a:=h.kind;simp [eZ,gF,dB] at a
 omega
theorem ZW.nm {T:Tr}{i:Nat}(h:ZW T i){k:Nat}(a:(nd T i).kind=k)(b:jN k=true):isName (nd T i).text=true:=by
 rw [← h.named,a,b]
theorem ZW.len {T:Tr}{i:Nat}(h:ZW T i){k m:Nat}(a:(nd T i).kind=k)(b:∀ n:Nd,n.kind=k→lD n=true→n.kids.length=m):(nd T i).kids.length=m:=b _ a h.many
theorem many1 {k:Nat}(h:k ∈ [4,5,22,25,33,34,43,44])(n:Nd)(e:n.kind=k)(a:lD n=true):n.kids.length=1:=by
 simp at h
 rcases h with rfl | rfl | rfl | rfl | rfl | rfl | rfl | rfl <;> simpa [lD,e] using a
theorem qd {k:Nat}(h:6≤k∧k≤18∨k=20∨k=23∨k=40)(n:Nd)(e:n.kind=k)(a:lD n=true):n.kids.length=2:=by
 rcases (by omega:k=6∨k=7∨k=8∨k=9∨k=10∨k=11∨k=12∨k=13∨k=14∨k=15∨k=16∨k=17∨k=18∨k=20∨k=23∨k=40) with rfl | rfl | rfl | rfl | rfl | rfl | rfl | rfl | rfl | rfl | rfl | rfl | rfl | rfl | rfl | rfl <;> simpa [lD,e] using a
theorem XU (n:Nd)(e:n.kind=19)(a:lD n=true):n.kids.length=3:=by simpa [lD,e] using a
theorem Ol (n:Nd)(e:n.kind=42)(a:lD n=true):2≤n.kids.length:=by simpa [lD,e] using a
theorem abS {k:Nat}(h:k=24∨k=26∨k=41)(n:Nd)(e:n.kind=k)(a:lD n=true):1≤n.kids.length:=by
 rcases h with rfl | rfl | rfl <;> simpa [lD,e] using a
theorem aaN {n:Nd}(e:n.kind=1)(h:kG n=true):-9999≤n.n∧n.n≤9999:=by simpa [kG,e,within] using h
theorem X4 {n:Nd}(e:n.kind=46)(h:kG n=true):1≤n.n∧n.n≤8:=by simpa [kG,e,within] using h
section
variable {T:Tr} {i:Nat} {B:Nat→List Pz}
end
end Mist
set_option linter.all false
namespace Mist
structure GD (T:Tr):Prop where
 right:∀ i,i < T.nodes.length→gV T i=true
 fo:Fo T.nodes 0 T.nodes.length T.items
 num:∀ i,i < T.nodes.length→NmZ (nd T i)
theorem GD.kid {T:Tr}(h:GD T){i j:Nat}(hi:i < T.nodes.length)(a:j < (nd T i).kids.length):∃ q:Nat,(nd T i).kids[j]? = some (q:Int)∧q < i:=by
 obtain⟨n,m,e,_,b⟩:=h.fo.each i (aix _) hi;have en:=jX e;rw [en] at a ⊢
 have h1:=b.ids n.kids[j] (List.getElem_mem a);exact⟨n.kids[j].toNat,by rw [aip a];congr 1;omega,by omega⟩
end Mist
namespace Go.Proofs.YtajfdjikimiapaaGreatDoor
section
open Go.RowKit Mist
section
variable {S:Sz} {B g n c:Nat} {w W:World} {A Bi:Option Addr} {iv pv:Value} {ps l:List Pz} {xs:List NV} {its:List Int}
theorem GD.kx (X:CX w B A Bi n xs its)(b:GD ⟨aj xs,its⟩){i:Nat}{x:NV}(a:xs[i]? = some x){f:Nat}(r:i≤f):KX w B g A n c iv xs its f i x :=
 ⟨a,fun j k=>by
  have hi:i < xs.length:=(aiq.1 a).1;have m:(⟨aj xs,its⟩:Tr).nodes.length=xs.length:=by simp [aj]
  have e:=aY its a;obtain⟨q,d,o⟩:=b.kid (i:=i) (j:=j) (by rw [m];exact hi) (by rw [e];exact k);rw [e] at d
  obtain⟨y,hy⟩:=iG (xs:=xs) (i:=q) (by omega);exact⟨q,y,d,hy,by omega⟩⟩
theorem WB (X:CX w B A Bi n xs its)(d:GD ⟨aj xs,its⟩):∀ f i,i+1 < f→i < n→eZ (nd (⟨aj xs,its⟩:Tr) i).kind=true→((nd (⟨aj xs,its⟩:Tr) i).kind=1→0≤(nd (⟨aj xs,its⟩:Tr) i).n)→XC w B g A n c iv ⟨aj xs,its⟩ f i:=by
 intro f
 induction f using Nat.strongRecOn with
 | _ f ih =>
  intro i hif D M Q;have Z:(⟨aj xs,its⟩:Tr).nodes.length=n:=by rw [← X.len];simp [aj]
  obtain⟨f,rfl⟩:∃ f',f=f'+1:=⟨f - 1,by omega⟩;obtain⟨x,hx⟩:=iG (xs:=xs) (i:=i) (by rw [X.len];exact D);have m:=aY its hx;have Y:=U5 (d.right i (by rw [Z];exact D));have K:KX w B g A n c iv xs its f i x:=GD.kx X d hx (by omega);have b:0 < f:=by omega
  have kid:∀ j q,x.1.kids[j]? = some ((q:Nat):Int)→q < i∧q < n∧jL x.1 j (nd (⟨aj xs,its⟩:Tr) q).kind=true∧((nd (⟨aj xs,its⟩:Tr) q).kind=1→(nd (⟨aj xs,its⟩:Tr) q).n < 0→x.1.kind=40):=by
   intro j q e;have N:j < x.1.kids.length:=(aiq.1 e).1;obtain⟨q',e1,e2⟩:=d.kid (i:=i) (j:=j) (by rw [Z];exact D) (by rw [m];exact N);rw [m,e] at e1
   injection e1 with e1
   have:q=q':=by omega
   subst this;have h1:=Y.kid j (by rw [m];exact N);have h2:=Y.neg j (by rw [m];exact N);rw [m] at h1 h2
   rw [ait,e] at h1 h2
   exact⟨e2,by omega,h1,h2⟩
  have E:(x.1.kind ≠ 24∧x.1.kind ≠ 41∧x.1.kind ≠ 34∧x.1.kind ≠ 33∧x.1.kind ≠ 40∧x.1.kind ≠ 42)→∀ j,j < x.1.kids.length→KE w B g A n c iv xs its f x j:=by
   intro P j N q e;obtain⟨h1,h2,h3,h4⟩:=kid j q e
   have he:eZ (nd (⟨aj xs,its⟩:Tr) q).kind=true:=by
    unfold jL at h3
    rwa [if_neg P.1,if_neg P.2.1,if_neg (by omega),if_neg P.2.2.2.2.1,if_neg P.2.2.2.2.2] at h3
   exact ih f (by omega) q (by omega) h2 he (fun k=>by
    rcases Int.lt_or_le (nd (⟨aj xs,its⟩:Tr) q).n 0 with h5 | h5
    ·exact absurd (h4 k h5) P.2.2.2.2.1
    ·exact h5)
  have eb:ah ⟨aj xs,its⟩ (f+1) i=aW ⟨aj xs,its⟩ (ah ⟨aj xs,its⟩ f) i:=rfl;intro S W pv ps H a;rw [eb] at a ⊢
  rw [m] at M Q
  have o:=Y.many;have pQ:=Y.num;rw [m] at o pQ
  simp [eZ] at M
  by_cases R:x.1.kind=1
  ·have h0:=Q R;have h1:=aaN R pQ;have en:=uq (T:=⟨aj xs,its⟩) (B:=ah ⟨aj xs,its⟩ f) (i:=i) (by rw [m];exact R);rw [m] at en
   have e2:gI x.1.n (i:Int)=[tz (Go.Lib.itoa x.1.n) (i:Int)]:=by unfold gI;rw [if_neg (by omega)]
   rw [e2] at en
   rw [en] at a ⊢
   exact WH H X K R b (by omega) (by omega) a
  by_cases k2:x.1.kind=2
  ·exact Rz H X K k2 b a
  by_cases k3:x.1.kind=3
  ·exact RB H X K k3 b a
  by_cases k4:x.1.kind=4
  ·exact WE H X K k4 b (many1 (by decide) _ k4 o) (E (by omega)) a
  by_cases k5:x.1.kind=5
  ·exact WG H X K k5 b (many1 (by decide) _ k5 o) (E (by omega)) a
  by_cases F:x.1.kind=19
  ·exact aan H X K F b (XU _ F o) (E (by omega)) a
  by_cases G:x.1.kind=20
  ·exact WC H X K G b (qd (by omega) _ G o) (E (by omega)) a
  refine RG H X K ⟨R,k2,k3,k4,k5,F,G⟩ b (fun S W pv ps b2 b3 h2 h3 H a=>?_) a;by_cases k21:x.1.kind=21
  ·exact TT H X K k21 h2 h3 b (E (by omega)) a
  by_cases U:x.1.kind=22
  ·exact OE H X K U h2 h3 b (many1 (by decide) _ U o) (E (by omega)) a
  by_cases V:x.1.kind=23
  ·exact OG H X K V h2 h3 b (qd (by omega) _ V o) (E (by omega)) a
  by_cases k26:x.1.kind=26
  ·exact OD H X K k26 h2 h3 b (E (by omega)) a
  by_cases I:x.1.kind=24
  ·refine YC H X K I h2 h3 b (abS (.inl rfl) _ I o) (fun j q N e=>?_) a;obtain⟨h1,t,u,_⟩:=kid j q e
   have hq:(nd (⟨aj xs,its⟩:Tr) q).kind=25:=by
    unfold jL at u
    rw [if_pos I] at u
    simpa using u
   obtain⟨f2,rfl⟩:∃ f',f=f'+1:=⟨f - 1,by omega⟩;obtain⟨y,hy⟩:=iG (xs:=xs) (i:=q) (by rw [X.len];exact t);have J:=aY its hy;have C:=U5 (d.right q (by rw [Z];exact t));have hlq:=C.len hq (many1 (by decide));rw [J] at hq hlq
   intro S W pv ps H a;rw [show ah ⟨aj xs,its⟩ (f2+1) q=aW ⟨aj xs,its⟩ (ah ⟨aj xs,its⟩ f2) q from rfl] at a ⊢
   refine aaq H X (GD.kx X d hy (by omega)) hq (by omega) (fun r er=>?_) a;obtain⟨r',f1,f3⟩:=d.kid (i:=q) (j:=0) (by rw [Z];exact t) (by rw [J];omega);rw [J,er] at f1
   injection f1 with f1
   have hrr:r=r':=by omega
   subst hrr;have L:=C.kid 0 (by rw [J];omega);have g2:=C.neg 0 (by rw [J];omega);rw [J,ait,er] at L g2
   have L:jL y.1 0 (nd (⟨aj xs,its⟩:Tr) r).kind=true:=L;unfold jL at L
   rw [if_neg (by omega),if_neg (by omega),if_neg (by omega),if_neg (by omega),if_neg (by omega)] at L
   exact ih f2 (by omega) r (by omega) (by omega) L (fun k=>by
    rcases Int.lt_or_le (nd (⟨aj xs,its⟩:Tr) r).n 0 with h5 | h5
    ·have:=g2 k h5;omega
    ·exact h5)
  ·exact abe H X K (by omega) h2 h3 b (qd (by omega) _ rfl o) (E (by omega)) a
end
end
set_option linter.all false
section
open Go.RowKit Mist
attribute [local go_sem] au aN aV aM aG
abbrev tS (h g:Nat) (cs:Array Value) (S:Sz):Sz:=(h+1,39,cs) :: (h,56,#[.pointer (some ⟨g,0,none⟩)]) :: S
section
variable {S:Sz} {B g n c f i j q b2 b3 b4 b6 h:Nat} {cs:Array Value} {w W:World} {A Bi:Option Addr} {nv iv pv:Value} {ps l:List Pz} {xs:List NV} {its:List Int} {x y:NV}
structure NdZ (W:World) (g n c i:Nat) (A:Option Addr) (x:NV) (b o:Nat) (Ka:Option Addr) (kc:Nat):Prop where
 a:A=some ⟨b,o,none⟩
 lt:b < W.heap.size
 gl:g < W.heap.size
 c0:W.cell? ⟨g,0,none⟩=some (.slice (some ⟨b,o,none⟩) n c)
 k0:W.cell? ⟨b,o+i * 5,none⟩=some (.int .u8 (x.1.kind:Nat))
 k1:W.cell? ⟨b,o+i * 5+1,none⟩=some (.string (aU x.1.text))
 k2:W.cell? ⟨b,o+i * 5+2,none⟩=some (.int .i64 x.1.n)
 k3:W.cell? ⟨b,o+i * 5+3,none⟩=some (.slice Ka x.1.kids.length kc)
 k4:W.cell? ⟨b,o+i * 5+4,none⟩=some (.int .i64 x.1.at_)
 x2:x.2=.slice Ka x.1.kids.length kc
 ki:IntsIn W Ka x.1.kids
 il:i < n
theorem CX.node (X:CX w B A Bi n xs its)(H:PZ S B g w W (.slice A n c) iv pv ps)(d:xs[i]? = some x):∃ b o k kc,NdZ W g n c i A x b o k kc:=by
 have hi:i < n:=by rw [← X.len];exact (aiq.1 d).1
 obtain⟨b,o,r,a⟩:=(X.at_ H).nodes (by have:=X.len;omega);obtain⟨k,kc,e,t,m⟩:=a.kid d;exact⟨b,o,k,kc,r,a.lt,H.blk.lt,by rw [← r];exact H.blk.cell 0,a.c0 i x d,a.c1 i x d,a.c2 i x d,by rw [← e];exact a.c3 i x d,a.c4 i x d,e,m,hi⟩
theorem tsH (cs:Array Value)(H:Hid (PZ S B g w W nv iv pv ps)):Hid (PZ (tS W.heap.size g cs S) B g w ((W.alloc (.cells #[.pointer (some ⟨g,0,none⟩)] 56)).alloc (.cells cs 39)) nv iv pv ps):=by
 have a:(W.alloc (.cells #[.pointer (some ⟨g,0,none⟩)] 56)).heap.size=W.heap.size+1:=by simp
 have h3:=(H.o.box (T:=56) (cs:=#[.pointer (some ⟨g,0,none⟩)]) (by decide)).box (T:=39) (cs:=cs) (by decide);rw [a] at h3
 exact O h3
theorem rT (H:Hid (PZ (tS h g cs S) B g w W nv iv pv ps)):W.cell? ⟨h,0,none⟩=some (.pointer (some ⟨g,0,none⟩))∧W.cell? ⟨h+1,0,none⟩=cs[0]? ∧ W.cell? ⟨h+1,1,none⟩=cs[1]? ∧ W.cell? ⟨h+1,2,none⟩=cs[2]? ∧ W.cell? ⟨h+1,3,none⟩=cs[3]? :=
 ⟨(H.o.kp _ (List.mem_cons_of_mem _ (List.mem_cons_self ..))).1.cell 0,(H.o.kp _ (List.mem_cons_self ..)).1.cell 0,(H.o.kp _ (List.mem_cons_self ..)).1.cell 1,(H.o.kp _ (List.mem_cons_self ..)).1.cell 2,(H.o.kp _ (List.mem_cons_self ..)).1.cell 3⟩
theorem kk1 (H:Hid (PZ S B g w W (.slice A n c) iv pv ps))(X:CX w B A Bi n xs its)(G:xs[i]? = some x)(h4:(b4,56,#[.pointer (some ⟨g,0,none⟩)]) ∈ S)(h6:(b6,39,j_ x) ∈ S)
  (t:x.1.kids[0]? = some ((q:Nat):Int)) (F:MC 37 w B g A n c iv ⟨aj xs,its⟩ f q) (D:ps.length+(ah ⟨aj xs,its⟩ f q).length≤1000000) :
  Calls Tryz.prog 80 #[.pointer (some ⟨b4,0,none⟩),.pointer (some ⟨b6,0,none⟩)] W (kS S B g w (.slice A n c) iv (gH ps (ah ⟨aj xs,its⟩ f q))):=by
 have c4:=(H.o.kp _ h4).1.cell 0;obtain⟨Q,kc,k,r,d⟩:=X.kids H.o G;have L:0 < x.1.kids.length:=(aiq.1 t).1;have C:W.cell? ⟨b6,3,none⟩=some x.2:=(H.o.kp _ h6).1.cell 3;obtain⟨kb,N,a,M,b⟩:=d.ex (by omega);have kq:W.cell? ⟨kb,N,none⟩=some (.int .i64 (q:Int)):=b 0 _ t;rw [k,a] at C
 simp only at c4
 generalize x.1.kids.length=m at *
 have U:(0:Int) < (m:Int):=by omega
 have I:=O F;have J:=O D;clear D F X d k r b G t a;go_in
 go_still_tail 5,(by kernel_rfl)
 change wpList _ _ _ _ _ W.drew
 have u:=O H.o.drew
 generalize W.drew=w1 at u ⊢
 clear H c4 C kq;go_wp2_with fail;refine (I.o S _ pv ps u J.o).mono ?_;rintro e R⟨P,rfl,K⟩;go_wp2_with fail;go_end0
 exact⟨P,rfl,K⟩
theorem XJ (H:Hid (PZ S B g w W (.slice A n c) iv pv ps))(X:CX w B A Bi n xs its)(a:xs[i]? = some x)(t:x.1.kind=30)
  (C:ps.length+(aW ⟨aj xs,its⟩ (ah ⟨aj xs,its⟩ f) i).length≤1000000) :
  Calls Tryz.prog 37 #[.pointer (some ⟨g,0,none⟩),.int .i64 i] W (kS S B g w (.slice A n c) iv (gH ps (aW ⟨aj xs,its⟩ (ah ⟨aj xs,its⟩ f) i))):=by
 have en:=xM (T:=⟨aj xs,its⟩) (B:=ah ⟨aj xs,its⟩ f) (i:=i) (by rw [aY its a];exact t)
 try rw [aY its a] at en
 rw [en] at C ⊢
 clear en;obtain⟨b,o,G,kc,N⟩:=X.node H.o a;obtain⟨m,k⟩:∃ m,m=x.1.kids.length:=⟨_,rfl⟩;obtain⟨M,r,P,K,k0,Q,R,I,U,d,u,hi⟩:=N;rw [t] at k0
 rw [← k] at I
 have k0:W.cell? ⟨b,o+i * 5,none⟩=some (.int .u8 30):=k0;have Z:=O (show j_ x=#[.int .u8 30,.string (aU x.1.text),.int .i64 x.1.n,.slice G m kc,.int .i64 x.1.at_] from by unfold j_;rw [t,d,k];rfl);have V:(0:Int)≤(i:Int):=by omega
 have Y:(i:Int) < (n:Int):=by omega
 have F:=tsH #[.int .u8 30,.string (aU x.1.text),.int .i64 x.1.n,.slice G m kc,.int .i64 x.1.at_] H;have J:=O C;have HX:=O X;have ZV:=O a;have HM:=O k;subst M;clear C X a k d u H;go_in
 go_wp2_with fail;refine (yQ F [105,110,116] (i:Int) (by have:=J.o;simp [ak] at this;omega)).mono ?_;rintro e w1⟨vP,rfl,D⟩;clear K k0 Q R I U r P V Y F;obtain⟨c2,L,fC,fD,iQ⟩:=rT D;go_wp2_with fail;go_end0
 exact⟨_,rfl,O (by have h:=D.o.tl.tl;simpa [List.append_assoc] using h)⟩
theorem SN (H:Hid (PZ S B g w W (.slice A n c) iv pv ps))(X:CX w B A Bi n xs its)(a:xs[i]? = some x)(t:x.1.kind=31)
  (C:ps.length+(aW ⟨aj xs,its⟩ (ah ⟨aj xs,its⟩ f) i).length≤1000000) :
  Calls Tryz.prog 37 #[.pointer (some ⟨g,0,none⟩),.int .i64 i] W (kS S B g w (.slice A n c) iv (gH ps (aW ⟨aj xs,its⟩ (ah ⟨aj xs,its⟩ f) i))):=by
 have en:=xO (T:=⟨aj xs,its⟩) (B:=ah ⟨aj xs,its⟩ f) (i:=i) (by rw [aY its a];exact t)
 try rw [aY its a] at en
 rw [en] at C ⊢
 clear en;obtain⟨b,o,G,kc,N⟩:=X.node H.o a;obtain⟨m,k⟩:∃ m,m=x.1.kids.length:=⟨_,rfl⟩;obtain⟨M,r,P,K,k0,Q,R,I,U,d,u,hi⟩:=N;rw [t] at k0
 rw [← k] at I
 have k0:W.cell? ⟨b,o+i * 5,none⟩=some (.int .u8 31):=k0;have Z:=O (show j_ x=#[.int .u8 31,.string (aU x.1.text),.int .i64 x.1.n,.slice G m kc,.int .i64 x.1.at_] from by unfold j_;rw [t,d,k];rfl);have V:(0:Int)≤(i:Int):=by omega
 have Y:(i:Int) < (n:Int):=by omega
 have F:=tsH #[.int .u8 31,.string (aU x.1.text),.int .i64 x.1.n,.slice G m kc,.int .i64 x.1.at_] H;have J:=O C;have HX:=O X;have ZV:=O a;have HM:=O k;subst M;clear C X a k d u H;go_in
 go_wp2_with fail;refine (yQ F [98,111,111,108] (i:Int) (by have:=J.o;simp [ak] at this;omega)).mono ?_;rintro e w1⟨vP,rfl,D⟩;clear K k0 Q R I U r P V Y F;obtain⟨c2,L,fC,fD,iQ⟩:=rT D;go_wp2_with fail;go_end0
 exact⟨_,rfl,O (by have h:=D.o.tl.tl;simpa [List.append_assoc] using h)⟩
theorem Oh (H:Hid (PZ S B g w W (.slice A n c) iv pv ps))(X:CX w B A Bi n xs its)(a:xs[i]? = some x)(t:x.1.kind=32)
  (C:ps.length+(aW ⟨aj xs,its⟩ (ah ⟨aj xs,its⟩ f) i).length≤1000000) :
  Calls Tryz.prog 37 #[.pointer (some ⟨g,0,none⟩),.int .i64 i] W (kS S B g w (.slice A n c) iv (gH ps (aW ⟨aj xs,its⟩ (ah ⟨aj xs,its⟩ f) i))):=by
 have en:=xP (T:=⟨aj xs,its⟩) (B:=ah ⟨aj xs,its⟩ f) (i:=i) (by rw [aY its a];exact t)
 try rw [aY its a] at en
 rw [en] at C ⊢
 clear en;obtain⟨b,o,G,kc,N⟩:=X.node H.o a;obtain⟨m,k⟩:∃ m,m=x.1.kids.length:=⟨_,rfl⟩;obtain⟨M,r,P,K,k0,Q,R,I,U,d,u,hi⟩:=N;rw [t] at k0
 rw [← k] at I
 have k0:W.cell? ⟨b,o+i * 5,none⟩=some (.int .u8 32):=k0;have Z:=O (show j_ x=#[.int .u8 32,.string (aU x.1.text),.int .i64 x.1.n,.slice G m kc,.int .i64 x.1.at_] from by unfold j_;rw [t,d,k];rfl);have V:(0:Int)≤(i:Int):=by omega
 have Y:(i:Int) < (n:Int):=by omega
 have F:=tsH #[.int .u8 32,.string (aU x.1.text),.int .i64 x.1.n,.slice G m kc,.int .i64 x.1.at_] H;have J:=O C;have HX:=O X;have ZV:=O a;have HM:=O k;subst M;clear C X a k d u H;go_in
 go_wp2_with fail;refine (yQ F x.1.text (i:Int) (by have:=J.o;simp [ak] at this;omega)).mono ?_;rintro e w1⟨vP,rfl,D⟩;clear K k0 Q R I U r P V Y F;obtain⟨c2,L,fC,fD,iQ⟩:=rT D;go_wp2_with fail;go_end0
 exact⟨_,rfl,O (by have h:=D.o.tl.tl;simpa [List.append_assoc] using h)⟩
theorem SQ (H:Hid (PZ S B g w W (.slice A n c) iv pv ps))(X:CX w B A Bi n xs its)(t:xs[i]? = some x)(hk:x.1.kind=33)(hq:x.1.kids[0]? = some ((q:Nat):Int))(n0:-1000000≤x.1.n)(n1:x.1.n≤1000000)(F:MC 37 w B g A n c iv ⟨aj xs,its⟩ f q)
  (K:ps.length+(aW ⟨aj xs,its⟩ (ah ⟨aj xs,its⟩ f) i).length≤1000000) :
  Calls Tryz.prog 37 #[.pointer (some ⟨g,0,none⟩),.int .i64 i] W (kS S B g w (.slice A n c) iv (gH ps (aW ⟨aj xs,its⟩ (ah ⟨aj xs,its⟩ f) i))):=by
 have en:=xQ (T:=⟨aj xs,its⟩) (B:=ah ⟨aj xs,its⟩ f) (i:=i) (by rw [aY its t];exact hk)
 try rw [aY its t] at en
 rw [en] at K ⊢
 clear en;obtain⟨b,o,Y,kc,hZ⟩:=X.node H.o t;obtain⟨m,L⟩:∃ m,m=x.1.kids.length:=⟨_,rfl⟩;obtain⟨hA,Z,hg,c0,k0,k1,k2,k3,k4,D,hki,hi⟩:=hZ;rw [hk] at k0
 rw [← L] at k3
 have k0:W.cell? ⟨b,o+i * 5,none⟩=some (.int .u8 33):=k0;have EB:=O (show j_ x=#[.int .u8 33,.string (aU x.1.text),.int .i64 x.1.n,.slice Y m kc,.int .i64 x.1.at_] from by unfold j_;rw [hk,D,L];rfl);have y0:(0:Int)≤(i:Int):=by omega
 have y1:(i:Int) < (n:Int):=by omega
 have HS:=tsH #[.int .u8 33,.string (aU x.1.text),.int .i64 x.1.n,.slice Y m kc,.int .i64 x.1.at_] H;have ek:bM ⟨aj xs,its⟩ (ah ⟨aj xs,its⟩ f) i 0=ah ⟨aj xs,its⟩ f q:=kW (by rw [aY its t];omega) (by rw [aY its t];exact hq);rw [ek] at K ⊢
 clear ek;have u:=O K;have I:=O X;have ZV:=O t;have HM:=O L;have HF:=O F;have R:=O hq;have U:=O n0;have V:=O n1;subst hA;clear K X t L D hki H F hq n0 n1;go_in
 go_wp2_with fail;refine (yQ HS [91] (i:Int) (by have:=u.o;simp [ak] at this;omega)).mono ?_;rintro e w1⟨vP,rfl,M⟩;clear c0 k0 k1 k2 k3 k4 Z hg y0 y1 HS;obtain⟨c2,a,d,k,r⟩:=rT M;go_wp2_with fail;refine (in2 M 80 #[.pointer (some ⟨W.heap.size,0,none⟩),.pointer (some ⟨W.heap.size+1,0,none⟩)] (ah ⟨aj xs,its⟩ f q) (by simp) (by have:=u.o;simp [ak] at this ⊢;omega) (fun W'=>by kernel_rfl) (fun W' pv' H'=>kk1 H' I.o ZV.o (List.mem_cons_of_mem _ (List.mem_cons_self ..)) (by rw [EB.o];exact List.mem_cons_self ..) R.o HF.o (by have:=u.o;rw [dR];simp [ak] at this ⊢;omega))).mono ?_;rintro e w2⟨l8,rfl,N⟩;clear c2 a d k r M;obtain⟨c2,a,d,k,r⟩:=rT N;go_wp2_with fail;refine (uO N [59] (-1) (by simp) (by have:=u.o;simp [ak] at this ⊢;omega)).mono ?_;rintro e w3⟨sw,rfl,G⟩;clear c2 a d k r N;obtain⟨c2,a,d,k,r⟩:=rT G;have Q:=O fun (W2:World) (J:Below w3.heap.size w3 W2)=>vH I.o.pow (G.o.IU.mono I.o.b) (Nat.le_trans I.o.b G.o.lw) U.o V.o J
 go_upto_region 6 with (fail)
 go_region_held3 (fun w'=>w'.cell? ⟨W.heap.size,0,none⟩=some (.pointer (some ⟨g,0,none⟩))∧w'.cell? ⟨W.heap.size+1,2,none⟩=some (.int .i64 x.1.n)) (first | go_keep|(go_split_ands;refine⟨?_,?_⟩ <;> assumption))
  ((first
    | (go_at_call 73
       refine (Q.o _ (by (repeat (first|(with_reducible exact Below.refl _ _)|(with_reducible refine Below.drew ?_)));done)).mono ?_;rintro e wA⟨rfl,J⟩;have C:=O (G.o.below J);clear c2 a d k r J;obtain⟨c2,a,d,k,r⟩:=rT C)
    | (go_at_call 54
       refine (EO (S:=tS W.heap.size g #[.int .u8 33,.string (aU x.1.text),.int .i64 x.1.n,.slice Y m kc,.int .i64 x.1.at_] S) (by first | exact C | exact O C.o.drew | exact O C.o.drew.drew | exact O (C.o.drewN _)) (Go.Lib.itoa x.1.n) (-1) (by simp) (by have:=u.o;simp [ak] at this ⊢;omega)).mono ?_;rintro e w4⟨B_,rfl,P⟩;clear c2 a d k r;obtain⟨c2,a,d,k,r⟩:=rT P)))
 all_goals
  go_wp2_with fail;refine (uO P [93] (-1) (by simp) (by have:=u.o;simp [ak] at this ⊢;omega)).mono ?_;rintro e w5⟨pv5,rfl,H5⟩;clear c2 a d k r P;obtain⟨c2,a,d,k,r⟩:=rT H5;go_wp2_with fail;go_end0
  exact⟨_,rfl,O (by have h:=H5.o.tl.tl;simpa [List.append_assoc] using h)⟩
theorem aa9 (H:Hid (PZ S B g w W (.slice A n c) iv pv ps))(X:CX w B A Bi n xs its)(d:xs[i]? = some x)(hk:x.1.kind=34)(L:x.1.kids[0]? = some ((q:Nat):Int))(F:MC 37 w B g A n c iv ⟨aj xs,its⟩ f q)
  (K:ps.length+(aW ⟨aj xs,its⟩ (ah ⟨aj xs,its⟩ f) i).length≤1000000) :
  Calls Tryz.prog 59 #[.pointer (some ⟨g,0,none⟩),.int .i64 i] W (kS S B g w (.slice A n c) iv (gH ps (aW ⟨aj xs,its⟩ (ah ⟨aj xs,its⟩ f) i))):=by
 have en:=xR (T:=⟨aj xs,its⟩) (B:=ah ⟨aj xs,its⟩ f) (i:=i) (by rw [aY its d];exact hk);have Z:bM ⟨aj xs,its⟩ (ah ⟨aj xs,its⟩ f) i 0=ah ⟨aj xs,its⟩ f q:=kW (by rw [aY its d];omega) (by rw [aY its d];exact L);rw [aY its d,Z] at en
 rw [en] at K ⊢
 obtain⟨b,o,Ka,kc,G⟩:=X.node H.o d;obtain⟨C,r,hg,Y,k0,M,N,P,Q,k,a,hi⟩:=G;have y0:(0:Int)≤(i:Int):=by omega
 have y1:(i:Int) < (n:Int):=by omega
 have u:=O K;have HX:=O X;have ZV:=O d;have V:=O L;have HF:=O F;have HA:=O C;rw [C];clear K X d L F k a en Z k0 N P Q;go_in
 go_wp2_with fail;refine (yQ H x.1.text (i:Int) (by have:=u.o;simp [ak] at this;omega)).mono ?_;rintro e w2⟨l8,rfl,R⟩;clear Y M r hg;go_wp2_with fail;refine (uO R [58] (-1) (by simp) (by have:=u.o;simp [ak] at this ⊢;omega)).mono ?_;rintro e w3⟨sw,rfl,U⟩;clear R H;obtain⟨b',o',Kb,kc',G⟩:=HX.o.node U.o ZV.o;obtain⟨D,r,hg,Y,k0,M,N,P,Q,k,a,I⟩:=G;have J:0 < x.1.kids.length:=(aiq.1 V.o).1;obtain⟨kb,ko,m,hkb,t⟩:=a.ex J;have kq:w3.cell? ⟨kb,ko,none⟩=some (.int .i64 (q:Int)):=t 0 _ V.o;rw [m] at P
 have y3:(0:Int) < ((x.1.kids.length:Nat):Int):=by omega
 clear k0 M N Q k a t m D C I;go_wp2_with fail;refine (HF.o S _ sw _ U (by have:=u.o;rw [dR];simp [ak] at this ⊢;omega)).mono ?_;rintro e w4⟨B_,rfl,H4⟩;go_wp2_with fail;go_end0
 exact⟨B_,rfl,O (by have h:=H4.o;rw [qO ps _ _ (by simp)] at h;rw [← HA.o];exact h)⟩
end
theorem Km {B g n c:Nat}{w:World}{A Bi:Option Addr}{iv:Value}{xs:List NV}{its:List Int}(X:CX w B A Bi n xs its)(d:GD ⟨aj xs,its⟩):∀ f i,i+1 < f→i < n→gF (nd (⟨aj xs,its⟩:Tr) i).kind=true→MC 37 w B g A n c iv ⟨aj xs,its⟩ f i:=by
 intro f
 induction f with
 | zero=>intro i h;omega
 | succ f G =>
  intro i F a D;have r:(⟨aj xs,its⟩:Tr).nodes.length=n:=by rw [← X.len];simp [aj]
  obtain⟨x,m⟩:=iG (xs:=xs) (i:=i) (by rw [X.len];exact a);have b:=aY its m;have C:=U5 (d.right i (by rw [r];exact a));have u:=d.num i (by rw [r];exact a);rw [b] at u
  intro S W pv ps H e;rw [show ah ⟨aj xs,its⟩ (f+1) i=aW ⟨aj xs,its⟩ (ah ⟨aj xs,its⟩ f) i from rfl] at e ⊢
  rw [b] at D
  simp [gF] at D
  rcases (by omega:x.1.kind=30∨x.1.kind=31∨x.1.kind=32∨x.1.kind=33) with k | k | k | k
  ·exact XJ H X m k e
  ·exact SN H X m k e
  ·exact Oh H X m k e
  ·have t:=C.len (k:=33) (by rw [b];exact k) (many1 (by decide));rw [b] at t
   obtain⟨q,o,I⟩:=d.kid (i:=i) (j:=0) (by rw [r];exact a) (by rw [b];omega);rw [b] at o
   have h1:=C.kid 0 (by rw [b];omega);rw [b,ait,o] at h1
   have h1:jL x.1 0 (nd (⟨aj xs,its⟩:Tr) q).kind=true:=h1;unfold jL at h1
   rw [if_neg (by omega),if_neg (by omega),if_pos (by omega)] at h1
   have:=u.Qn k
   exact SQ H X m k o (by omega) (by omega) (G q (by omega) (by omega) h1) e
theorem FX {B g n c:Nat}{w:World}{A Bi:Option Addr}{iv:Value}{xs:List NV}{its:List Int}(X:CX w B A Bi n xs its)(b:GD ⟨aj xs,its⟩)(f i:Nat)(D:i+1 < f)(a:i < n)(m:(nd (⟨aj xs,its⟩:Tr) i).kind=34):MC 59 w B g A n c iv ⟨aj xs,its⟩ f i:=by
 obtain⟨f,rfl⟩:∃ C,f=C+1:=⟨f - 1,by omega⟩;have t:(⟨aj xs,its⟩:Tr).nodes.length=n:=by rw [← X.len];simp [aj]
 obtain⟨x,u⟩:=iG (xs:=xs) (i:=i) (by rw [X.len];exact a);have d:=aY its u;have o:=U5 (b.right i (by rw [t];exact a));intro S W pv ps H r;rw [show ah ⟨aj xs,its⟩ (f+1) i=aW ⟨aj xs,its⟩ (ah ⟨aj xs,its⟩ f) i from rfl] at r ⊢
 have k:=o.len m (many1 (by decide));rw [d] at m k
 obtain⟨q,e,F⟩:=b.kid (i:=i) (j:=0) (by rw [t];exact a) (by rw [d];omega);rw [d] at e
 have h1:=o.kid 0 (by rw [d];omega);rw [d,ait,e] at h1
 have h1:jL x.1 0 (nd (⟨aj xs,its⟩:Tr) q).kind=true:=h1;unfold jL at h1
 rw [if_neg (by omega),if_neg (by omega),if_pos (by omega)] at h1
 exact aa9 H X u m e (Km X b f q (by omega) (by omega) h1) r
end
set_option linter.all false
section
open Go.RowKit Mist
attribute [local go_sem] au aN aV aM aG
section
variable {S:Sz} {B g n c f i:Nat} {w W:World} {A Bi:Option Addr} {nv iv pv:Value} {ps l:List Pz} {xs:List NV} {its:List Int} {x y:NV}
theorem aaS (H:Hid (PZ S B g w W (.slice A n c) iv pv ps))(X:CX w B A Bi n xs its)(J:xs[i]? = some x)(C:-1000000≤x.1.n)(D:x.1.n≤1000000)(I:0≤x.1.n)(hb:ps.length+2≤1000000) :
  Calls Tryz.prog 56 #[.pointer (some ⟨g,0,none⟩),.int .i64 i,.bool false] W (kS S B g w (.slice A n c) iv (gH ps (gI x.1.n (i:Int)))):=by
 have G:=O (show gI x.1.n (i:Int)=[tz (Go.Lib.itoa x.1.n) (i:Int)] from by unfold gI;rw [if_neg (by omega)]);rw [G.o];obtain⟨b,o,Ka,kc,k,r,V,U,k0,Y,K,Z,k4,u,t,hi⟩:=X.node H.o J;have y0:(0:Int)≤(i:Int):=by omega
 have y1:(i:Int) < (n:Int):=by omega
 have d:=O X;have M:=O k;rw [k];obtain⟨N,m⟩:∃ N,N=x.1.n:=⟨_,rfl⟩;rw [← m] at K C D I ⊢
 have Q:=O C;have R:=O D;have P:=O m;have z1:¬ N < 0:=by omega
 clear X J u t k k0 Y Z k4 C D m I G;go_in
 go_wp2_with fail;refine (vH d.o.pow (H.o.IU.mono d.o.b) (Nat.le_trans d.o.b H.o.lw) (N:=N) Q.o R.o (Below.refl _ _)).mono ?_;rintro e w2⟨rfl,a⟩;have F:=O (H.o.below a);clear a U K r V;go_wp2_with fail;refine (yQ F (Go.Lib.itoa N) (i:Int) (by omega)).mono ?_;rintro e w3⟨sw,rfl,L⟩;clear F;go_wp2_with fail;go_end0
 exact⟨_,rfl,O (by rw [← M.o];exact L.o)⟩
theorem aaR (H:Hid (PZ S B g w W (.slice A n c) iv pv ps))(X:CX w B A Bi n xs its)(V:xs[i]? = some x)(K:-1000000≤x.1.n)(L:x.1.n≤1000000)(U:0≤x.1.n)(hb:ps.length+2≤1000000) :
  Calls Tryz.prog 56 #[.pointer (some ⟨g,0,none⟩),.int .i64 i,.bool true] W (kS S B g w (.slice A n c) iv (ps ++ aH false (gI x.1.n (i:Int)))):=by
 have R:=O (show gI x.1.n (i:Int)=[tz (Go.Lib.itoa x.1.n) (i:Int)] from by unfold gI;rw [if_neg (by omega)]);rw [R.o];obtain⟨b,o,Ka,kc,u,G,hg,c0,k0,k1,Y,k3,k4,J,I,hi⟩:=X.node H.o V;have y0:(0:Int)≤(i:Int):=by omega
 have y1:(i:Int) < (n:Int):=by omega
 have r:=O X;have HA:=O u;rw [u];obtain⟨N,D⟩:∃ N,N=x.1.n:=⟨_,rfl⟩;rw [← D] at Y K L U ⊢
 have N0:=O K;have N1:=O L;have HNX:=O D;have z1:¬ N < 0:=by omega
 clear X V J I u k0 k1 k3 k4 K L D U R;go_in
 go_wp2_with fail;refine (vH r.o.pow (H.o.IU.mono r.o.b) (Nat.le_trans r.o.b H.o.lw) (N:=N) N0.o N1.o (Below.refl _ _)).mono ?_;rintro e w2⟨rfl,k⟩;have P:=O (H.o.below k);clear k c0 Y G hg;go_wp2_with fail;refine (yQ P (Go.Lib.itoa N) (i:Int) (by omega)).mono ?_;rintro e w3⟨sw,rfl,m⟩;clear P;obtain⟨M,C⟩:∃ M,M=(gH ps [tz (Go.Lib.itoa N) (i:Int)]).length:=⟨_,rfl⟩;have d:M=ps.length+1:=by rw [C,dR];simp
 obtain⟨Z,t,a⟩:=dh m.o.own;have d2:w3.cell? ⟨g,2,none⟩=some (.slice Z M t):=by rw [C,← a];exact m.o.blk.cell 2
 obtain⟨Q,hQ⟩:∃ Q,Q=ps.length:=⟨_,rfl⟩;rw [← hQ] at d hb
 have HQ:=O hQ;have w1:wrap64 ((M:Int) - 1)=(Q:Int):=by unfold wrap64;omega
 have F:Q≤1000000:=by omega
 clear C a hQ d;go_wp2_with fail;refine (cl1 m Q F).mono ?_;rintro e w4⟨B_,rfl,H4⟩;clear d2;go_wp2_with fail;go_end0
 exact⟨_,rfl,O (by have h:=H4.o;rw [HQ.o,uo] at h;rw [← HA.o];exact h)⟩
theorem aaQ (H:Hid (PZ S B g w W (.slice A n c) iv pv ps))(X:CX w B A Bi n xs its)(K:xs[i]? = some x)(F:-1000000≤x.1.n)(G:x.1.n≤1000000)(k:x.1.n < 0)(hb:ps.length+2≤1000000) :
  Calls Tryz.prog 56 #[.pointer (some ⟨g,0,none⟩),.int .i64 i,.bool false] W (kS S B g w (.slice A n c) iv (gH ps (gI x.1.n (i:Int)))):=by
 have J:=O (show gI x.1.n (i:Int)=[tz [45] (i:Int),tz (Go.Lib.itoa (-x.1.n)) (-1)] from by unfold gI;rw [if_pos k]);rw [J.o];obtain⟨b,o,Ka,kc,r,u,Y,V,k0,Z,L,k3,k4,D,C,hi⟩:=X.node H.o K;have y0:(0:Int)≤(i:Int):=by omega
 have y1:(i:Int) < (n:Int):=by omega
 have m:=O X;have P:=O r;rw [r];obtain⟨N,t⟩:∃ N,N=x.1.n:=⟨_,rfl⟩;rw [← t] at L F G k ⊢
 have R:=O F;have U:=O G;have Q:=O t;have z0:¬ (0:Int)≤N:=by omega
 have z1:N < 0:=k;have wn:wrap64 (-N)=-N:=by unfold wrap64;omega
 clear X K D C r k0 Z k3 k4 F G t k J;go_in
 go_wp2_with fail;refine (yQ H [45] (i:Int) (by omega)).mono ?_;rintro e w1⟨vP,rfl,d⟩;clear V L u Y;go_wp2_with fail;refine (vH m.o.pow (d.o.IU.mono m.o.b) (Nat.le_trans m.o.b d.o.lw) (N:=-N) (by have:=U.o;omega) (by have:=R.o;omega) (Below.refl _ _)).mono ?_;rintro e w2⟨rfl,a⟩;have I:=O (d.o.below a);clear a d;go_wp2_with fail;refine (uO I (Go.Lib.itoa (-N)) (-1) (by simp) (by simp;omega)).mono ?_;rintro e w3⟨sw,rfl,M⟩;clear I;go_wp2_with fail;go_end0
 exact⟨_,rfl,O (by rw [← P.o];exact M.o)⟩
theorem aaP (H:Hid (PZ S B g w W (.slice A n c) iv pv ps))(X:CX w B A Bi n xs its)(hx:xs[i]? = some x)(U:-1000000≤x.1.n)(V:x.1.n≤1000000)(t:x.1.n < 0)(hb:ps.length+2≤1000000) :
  Calls Tryz.prog 56 #[.pointer (some ⟨g,0,none⟩),.int .i64 i,.bool true] W (kS S B g w (.slice A n c) iv (ps ++ aH false (gI x.1.n (i:Int)))):=by
 have Z:=O (show gI x.1.n (i:Int)=[tz [45] (i:Int),tz (Go.Lib.itoa (-x.1.n)) (-1)] from by unfold gI;rw [if_pos t]);rw [Z.o];obtain⟨b,o,Ka,kc,F,L,hg,c0,k0,k1,k2,k3,k4,R,P,hi⟩:=X.node H.o hx;have y0:(0:Int)≤(i:Int):=by omega
 have y1:(i:Int) < (n:Int):=by omega
 have C:=O X;have HA:=O F;rw [F];obtain⟨N,J⟩:∃ N,N=x.1.n:=⟨_,rfl⟩;rw [← J] at k2 U V t ⊢
 have N0:=O U;have N1:=O V;have HNX:=O J;have z0:¬ (0:Int)≤N:=by omega
 have z1:N < 0:=t;have wn:wrap64 (-N)=-N:=by unfold wrap64;omega
 clear X hx R P F k0 k1 k3 k4 U V J t Z;go_in
 go_wp2_with fail;refine (yQ H [45] (i:Int) (by omega)).mono ?_;rintro e w1⟨vP,rfl,m⟩;clear c0 k2 L hg;go_wp2_with fail;refine (vH C.o.pow (m.o.IU.mono C.o.b) (Nat.le_trans C.o.b m.o.lw) (N:=-N) (by have:=N1.o;omega) (by have:=N0.o;omega) (Below.refl _ _)).mono ?_;rintro e w2⟨rfl,k⟩;have Y:=O (m.o.below k);clear k m;go_wp2_with fail;refine (uO Y (Go.Lib.itoa (-N)) (-1) (by simp) (by simp;omega)).mono ?_;rintro e w3⟨sw,rfl,u⟩;clear Y;obtain⟨M,G⟩:∃ M,M=(gH ps ([tz [45] (i:Int)] ++ [tz (Go.Lib.itoa (-N)) (-1)])).length:=⟨_,rfl⟩;have d:M=ps.length+2:=by rw [G,dR];simp
 obtain⟨A1,D,a⟩:=dh u.o.own;have d2:w3.cell? ⟨g,2,none⟩=some (.slice A1 M D):=by rw [G,← a];exact u.o.blk.cell 2
 obtain⟨Q,hQ⟩:∃ Q,Q=ps.length:=⟨_,rfl⟩;rw [← hQ] at d hb
 have HQ:=O hQ;obtain⟨r,I⟩:∃ r,r=Q+1:=⟨_,rfl⟩;have w1:wrap64 ((M:Int) - 1)=(r:Int):=by unfold wrap64;omega
 have w2:wrap64 ((r:Int) - 1)=(Q:Int):=by unfold wrap64;omega
 clear I;have K:Q≤1000000:=by omega
 clear G a hQ d;go_wp2_with fail;refine (cl1 u Q K).mono ?_;rintro e w4⟨B_,rfl,H4⟩;clear d2;go_wp2_with fail;go_end0
 exact⟨_,rfl,O (by have h:=H4.o;rw [HQ.o,uo] at h;rw [← HA.o];exact h)⟩
theorem X6 (H:Hid (PZ S B g w W (.slice A n c) iv pv ps))(X:CX w B A Bi n xs its)(b:xs[i]? = some x)(d:-1000000≤x.1.n)(e:x.1.n≤1000000)(a:ps.length+2≤1000000) :
  Calls Tryz.prog 56 #[.pointer (some ⟨g,0,none⟩),.int .i64 i,.bool false] W (kS S B g w (.slice A n c) iv (gH ps (gI x.1.n (i:Int)))):=by
 rcases Int.lt_or_le x.1.n 0 with h | h
 ·exact aaQ H X b d e h a
 ·exact aaS H X b d e h a
theorem Td (H:Hid (PZ S B g w W (.slice A n c) iv pv ps))(X:CX w B A Bi n xs its)(b:xs[i]? = some x)(d:-1000000≤x.1.n)(e:x.1.n≤1000000)(a:ps.length+2≤1000000) :
  Calls Tryz.prog 56 #[.pointer (some ⟨g,0,none⟩),.int .i64 i,.bool true] W (kS S B g w (.slice A n c) iv (ps ++ aH false (gI x.1.n (i:Int)))):=by
 rcases Int.lt_or_le x.1.n 0 with h | h
 ·exact aaP H X b d e h a
 ·exact aaR H X b d e h a
end
end
