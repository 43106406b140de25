/-
  A part of the proof.
-/
import Derived.Test.YtflnfhhgamldhaaGreatDoorS05
import Derived.Test.YtflnfhhgamldhaaGreatDoorS18
set_option linter.all false
set_option maxRecDepth 100000
set_option maxHeartbeats 4000000
namespace Mist
abbrev uw:=List (Bs × Nat × Bs)
structure Gs where
 left:Bs
 ns:List Nd
def Gs.nx (s:Gs):Nat:=(s.left.headD 0).toNat
def Gs.tl (s:Gs):Gs:=⟨s.left.tail,s.ns⟩
def Gs.put (s:Gs)(n:Nd):Gs:=⟨s.left,s.ns ++ [n]⟩
def Gs.id (s:Gs):Int:=(s.ns.length:Int)
structure Gr where
 pc:uw
 ix:Int
 st:Gs
structure Gl where
 pc:uw
 ix:List Int
 st:Gs
def agh:List Bs:=[[32],[32,32],[10],[32,35,32,97,59,32,40,10],[32],[32,10,32]]
def lU (wild:Bool)(s:Gs):Bs:=if wild=true then sg agh (s.nx % 6) else [32]
def lW (wild:Bool)(s:Gs):Gs:=if wild=true then s.tl else s
def afC:List Bs:=[[97],[98],[99,50],[115,111],[105,102,102],[116,114,101,101],[120],[108,101,116,115]]
def tO (b:Nat):Bs:=sg afC (b % 8)
def uw.on (g:Bs):uw→uw
 | []=>[]
 | (h,k,t) :: r=>(g ++ h,k,t) :: r
def zF (t:Bs):Bs × Nat × Bs:=([],4,t)
def adT (n:Int):uw:=if n < 0 then [([],4,[45]),([],2,Go.Lib.itoa (-n))] else [([],2,Go.Lib.itoa n)]
def SH (wild:Bool)(I:uw)(s:Gs):uw :=
 if wild=true∧s.nx % 4=0 then zF [40] :: zF [40] :: I ++ [(lU wild s.tl,4,[41]),zF [41]] else zF [40] :: I ++ [zF [41]]
def SK (wild:Bool)(s:Gs):Gs:=if wild=true then (if s.nx % 4=0 then lW wild s.tl else s.tl) else s
def nY (I:uw)(s:Gs)(n:Nd):Gr:=⟨I,s.id,s.put n⟩
def adP (b:Nat)(s:Gs):Gr :=
 if b < 20 then nY (adT ((b * 7:Nat):Int)) s ⟨1,[],((b * 7:Nat):Int),[],0⟩
 else if b < 30 then nY [([],3,if b % 2=0 then [102,97,108,115,101] else [116,114,117,101])] s ⟨2,[],((b % 2:Nat):Int),[],0⟩
 else nY [([],1,tO b)] s ⟨3,tO b,0,[],0⟩
def aiY:List Bs:=[[43],[45],[42],[47],[37],[61,61],[33,61],[60],[60,61],[62],[62,61],[97,110,100],[111,114]]
def opK (k:Nat):Nat:=if k < 11 then 4 else 3
section
variable (wild:Bool) (E:Gs→Gr)
def Mg:Nat→Gl→Gl
 | 0,r=>r
 | m+1,r =>
  if r.ix=[] then
   let a:=E r.st
   Mg m ⟨r.pc ++ a.pc,r.ix ++ [a.ix],a.st⟩
  else
   let a:=E (lW wild r.st)
   Mg m ⟨r.pc ++ (zF [44] :: uw.on (lU wild r.st) a.pc),r.ix ++ [a.ix],a.st⟩
def aiO (b:Nat)(s:Gs):Gr :=
 let a:=E s
 let I:=(if b % 2=0 then ([],3,[110,111,116]) else zF [45]) :: uw.on (lU wild a.st) a.pc
 let s1:=lW wild a.st
 nY (SH wild I s1) (SK wild s1) ⟨if b % 2=0 then 5 else 4,[],0,[a.ix],0⟩
def ahF (b:Nat)(s:Gs):Gr :=
 let a:=E s
 let c:=E a.st
 let s1:=lW wild c.st
 let s2:=lW wild s1
 let I:=a.pc ++ (lU wild c.st,opK (b % 13),sg aiY (b % 13)) :: uw.on (lU wild s1) c.pc
 nY (SH wild I s2) (SK wild s2) ⟨6+b % 13,[],0,[a.ix,c.ix],0⟩
def opG (b:Nat)(s:Gs):Gr:=if b < 75 then aiO wild E b s else ahF wild E b s
def ifG (s:Gs):Gr :=
 let a:=E s
 let c:=E a.st
 let d:=E c.st
 let s1:=lW wild d.st
 let s2:=lW wild s1
 let s3:=lW wild s2
 let s4:=lW wild s3
 let s5:=lW wild s4
 let I:=([],3,[105,102]) :: (uw.on (lU wild d.st) a.pc ++ (lU wild s1,3,[116,104,101,110]) :: (uw.on (lU wild s2) c.pc ++ (lU wild s3,3,[101,108,115,101]) :: uw.on (lU wild s4) d.pc))
 nY (SH wild I s5) (SK wild s5) ⟨19,[],0,[a.ix,c.ix,d.ix],0⟩
def aiL (x:Bs)(s:Gs):Gr :=
 let a:=E s
 let c:=E a.st
 let s1:=lW wild c.st
 let s2:=lW wild s1
 let s3:=lW wild s2
 let s4:=lW wild s3
 let I:=([],3,[108,101,116]) :: (lU wild c.st,1,x) :: (lU wild s1,4,[61]) :: (a.pc ++ (lU wild s2,3,[105,110]) :: uw.on (lU wild s3) c.pc)
 nY (SH wild I s4) (SK wild s4) ⟨20,x,0,[a.ix,c.ix],0⟩
def af7 (x:Bs)(s:Gs):Gr :=
 let r:=Mg wild E (s.nx % 4) ⟨[],[],s.tl⟩
 nY (([],1,x) :: zF [40] :: (r.pc ++ [(lU wild r.st,4,[41])])) (lW wild r.st) ⟨21,x,0,r.ix,0⟩
def aeI (x:Bs)(s:Gs):Gr :=
 let a:=E s
 nY (zF [40] :: (a.pc ++ [zF [41],(lU wild a.st,4,[46]),([],1,x)])) (lW wild a.st) ⟨22,x,0,[a.ix],0⟩
def ae8 (s:Gs):Gr :=
 let a:=E s
 let c:=E a.st
 nY (zF [40] :: (a.pc ++ zF [41] :: zF [91] :: (c.pc ++ [(lU wild c.st,4,[93])]))) (lW wild c.st) ⟨23,[],0,[a.ix,c.ix],0⟩
def aey (s:Gs):Gr :=
 let r:=Mg wild E (1+s.nx % 4) ⟨[],[],s.tl⟩
 nY (zF [91] :: (uw.on (lU wild r.st) r.pc ++ [zF [93]])) (lW wild r.st) ⟨26,[],0,r.ix,0⟩
def adW:Nat→Gl→Gl
 | 0,r=>r
 | m+1,r =>
  let s0:=if r.ix=[] then r.st else lW wild r.st
  let a:=E s0.tl
  let I:uw:=([],1,tO s0.nx) :: zF [58] :: a.pc
  adW m ⟨r.pc ++ (if r.ix=[] then I else (lU wild r.st,4,[44]) :: I),r.ix ++ [a.st.id],a.st.put ⟨25,tO s0.nx,0,[a.ix],0⟩⟩
def ai6 (x:Bs)(b:Nat)(s:Gs):Gr :=
 let r:=adW wild E (1+b % 3) ⟨[],[],s⟩
 nY (([],1,x) :: zF [123] :: (r.pc ++ [(lU wild r.st,4,[125])])) (lW wild r.st) ⟨24,x,0,r.ix,0⟩
def af9 (b:Nat)(s:Gs):Gr :=
 let x:=tO s.nx
 if b % 7=0 then ifG wild E s.tl else if b % 7=1 then aiL wild E x s.tl else if b % 7=2 then af7 wild E x s.tl else if b % 7=3 then aeI wild E x s.tl
 else if b % 7=4 then ae8 wild E s.tl else if b % 7=5 then aey wild E s.tl else ai6 wild E x b s.tl
end
def GV (wild:Bool):Nat→Gs→Gr
 | 0,s=>adP (s.nx % 60) s.tl
 | d+1,s=>if s.nx < 60 then adP s.nx s.tl else if s.nx < 150 then opG wild (GV wild d) s.nx s.tl else af9 wild (GV wild d) s.nx s.tl
def ZL (wild:Bool):Nat→Gs→Gr
 | 0,s =>
  if s.nx % 4=0 then nY [([],3,[105,110,116])] s.tl ⟨30,[],0,[],0⟩ else if s.nx % 4=1 then nY [([],3,[98,111,111,108])] s.tl ⟨31,[],0,[],0⟩
  else nY [([],1,tO s.nx)] s.tl ⟨32,tO s.nx,0,[],0⟩
 | d+1,s =>
  if s.nx % 4=0 then nY [([],3,[105,110,116])] s.tl ⟨30,[],0,[],0⟩ else if s.nx % 4=1 then nY [([],3,[98,111,111,108])] s.tl ⟨31,[],0,[],0⟩
  else if s.nx % 4=2 then nY [([],1,tO s.nx)] s.tl ⟨32,tO s.nx,0,[],0⟩
  else
   let a:=ZL wild d s.tl
   let s1:=lW wild a.st.tl
   nY (zF [91] :: (a.pc ++ [(lU wild a.st.tl,4,[59]),([],2,Go.Lib.itoa ((1+a.st.nx % 6:Nat):Int)),zF [93]])) s1 ⟨33,[],((1+a.st.nx % 6:Nat):Int),[a.ix],0⟩
def JI (wild:Bool):Nat→Gl→Gl
 | 0,r=>r
 | m+1,r =>
  let s0:=if r.ix=[] then r.st else lW wild r.st
  let g:=if r.ix=[] then [] else lU wild r.st
  let a:=ZL wild 2 s0.tl
  let s1:=lW wild a.st
  let I:uw:=(g,1,tO s0.nx) :: zF [58] :: uw.on (lU wild a.st) a.pc
  JI wild m ⟨r.pc ++ (if r.ix=[] then I else zF [44] :: I),r.ix ++ [s1.id],s1.put ⟨34,tO s0.nx,0,[a.ix],0⟩⟩
def Sm (n:Int)(s:Gs):Gr:=nY (adT n) s ⟨1,[],n,[],0⟩
def aaQ:List Bs:=[[],[109,117,115,116],[109,97,121],[99,111,117,110,116],[98,111,117,110,100,115],[118,97,108,117,101,115],[119,104,121],[98,108,97,109,101],[108,111,111,107]]
def ahE (wild:Bool)(q:Nat)(s:Gs):Gr :=
 let many:=if q=7 then 0 else if q=8 then 1+s.nx % 4 else 1
 let r:=Mg wild (GV wild 3) many ⟨[],[],if q=8 then s.tl else s⟩
 nY (([],3,[97,115,107]) :: (lU wild r.st,3,sg aaQ q) :: uw.on [32] r.pc) (lW wild r.st) ⟨46,[],(q:Int),r.ix,0⟩
def abW (wild:Bool)(x:Bs)(s:Gs):Gr :=
 let low:Int:=((s.nx % 30:Nat):Int) - 15
 let a:=Sm low s.tl
 let c:=Sm (low+((a.st.nx % 12:Nat):Int)) a.st.tl
 let s1:=lW wild c.st
 let s2:=lW wild s1
 nY (([],3,[99,104,111,111,115,101]) :: ([32],1,x) :: zF [58] :: (uw.on (lU wild c.st) a.pc ++ (lU wild s1,4,[46,46]) :: uw.on (lU wild s2) c.pc)) (lW wild s2) ⟨40,x,0,[a.ix,c.ix],0⟩
def ahc (wild:Bool)(x:Bs)(s:Gs):Gr :=
 let r:=JI wild (1+s.nx % 6) ⟨[],[],s.tl⟩
 nY (([],3,[116,121,112,101]) :: ([32],1,x) :: zF [61] :: zF [123] :: (r.pc ++ [zF [125]])) r.st ⟨41,x,0,r.ix,0⟩
def ahd (s:Gs):Nat:=if 8 < s.nx % 12 then 0 else s.nx % 12
def ahJ (wild:Bool)(x:Bs)(s:Gs):Gr :=
 let r:=JI wild (s.nx % 5) ⟨[],[],s.tl⟩
 let t:=ZL wild 2 r.st
 let n:=ahd t.st
 let s1:=if 0 < n then lW wild t.st.tl else t.st.tl
 let u:uw:=if 0 < n then [([32],3,[117,112,116,111]),(lU wild t.st.tl,2,Go.Lib.itoa (n:Int))] else []
 let b:=GV wild 4 s1
 let s2:=lW wild b.st
 let s3:=lW wild s2
 nY (([],3,[102,117,110]) :: (lU wild b.st,1,x) :: zF [40] :: (r.pc ++ zF [41] :: (lU wild s2,4,[58]) :: (t.pc ++ (u ++ (lU wild s3,4,[61]) :: b.pc)))) (lW wild s3) ⟨42,x,(n:Int),r.ix ++ [t.ix,b.ix],0⟩
def ZW (wild:Bool)(x:Bs)(s:Gs):Gr :=
 let a:=GV wild 4 s
 nY (([],3,[108,101,116]) :: ([32],1,x) :: zF [61] :: uw.on (lU wild a.st) a.pc) (lW wild a.st) ⟨43,x,0,[a.ix],0⟩
def aai (wild:Bool)(x:Bs)(s:Gs):Gr :=
 let a:=GV wild 4 s
 nY (([],3,[111,98,115,101,114,118,101]) :: ([32],1,x) :: (lU wild a.st,4,[58]) :: a.pc) (lW wild a.st) ⟨44,x,0,[a.ix],0⟩
def aaX (wild:Bool)(x:Bs)(s:Gs):Gr :=
 nY [([],3,[114,101,116,114,97,99,116]),(lU wild s,1,x)] (lW wild s) ⟨45,x,0,[],0⟩
def ae9 (wild:Bool)(s:Gs):Gr :=
 let b:=s.nx
 let x:=tO s.tl.nx
 let s2:=s.tl.tl
 if b % 7=0 then abW wild x s2 else if b % 7=1 then ahc wild x s2 else if b % 7=2 then ahJ wild x s2 else if b % 7=3 then ZW wild x s2
 else if b % 7=4 then aai wild x s2 else if b % 7=5 then aaX wild x s2 else ahE wild (1+s2.nx % 8) s2.tl
def afB (s:Gs):Bs:=if s.nx % 7=6∧s.tl.tl.nx % 8=6 then [32] else []
def agI (wild:Bool)(s:Gs):Gr :=
 let a:=ae9 wild s
 ⟨a.pc ++ [(afB s ++ lU wild a.st,4,[59])],a.ix,lW wild a.st⟩
def adG (wild:Bool):Nat→Gl→Gl
 | 0,r=>r
 | m+1,r =>
  if r.st.left=[] then r
  else
   let a:=agI wild r.st
   adG wild m ⟨r.pc ++ (if r.ix=[] then a.pc else uw.on [10] a.pc),r.ix ++ [a.ix],a.st⟩
def grown (wild:Bool)(by_:Bs):Gl:=adG wild 12 ⟨[],[],⟨by_,[]⟩⟩
end Mist
namespace Mist
def NP (r:Bs):Prop:=r=[]∨∃ c r',r=c :: r'∧eG c=false
def GH (r:Bs):Prop:=∃ c r',r=c :: r'∧(c=32∨c=10)
theorem GH.np {r:Bs}(h:GH r):NP r:=by
 obtain⟨c,a,rfl,rfl | rfl⟩:=h <;> exact .inr ⟨_,_,rfl,by decide⟩
def Oh (g:Bs):Prop:=(∀ r,skip (g ++ r)=g.length+skip r)∧g.all jd=true
theorem Oh.append {g h:Bs}(a:Oh g)(b:Oh h):Oh (g ++ h) :=
 ⟨fun r=>by rw [List.append_assoc,a.1,b.1,ak5];omega,by rw [List.all_append,a.2,b.2];rfl⟩
structure aew (k:Nat) (t r:Bs):Prop where
 first:Mist.first (t ++ r)=(k,t)
 kind:k ≠ 0
 pos:0 < t.length
 skip:Mist.skip (t ++ r)=0
 valid:t.all jd=true
def Jm (t:Bs):Bool:=match t with
 | []=>false
 | b :: _=>!vQ b && !(b == 35)
def adY (k:Nat)(t:Bs):Bool:=decide (0 < t.length) && fZ (gt t 0) && t.all eG && (first t == (k,t)) && (k != 0) && t.all jd && Jm t
def acv (t:Bs):Bool:=decide (0 < t.length) && !fZ (gt t 0) && dw (gt t 0) && t.all dw && iP t && (first t == (2,t)) && t.all jd && Jm t
def adb:uw→Bs→Prop
 | [],_=>True
 | (g,k,t) :: I,r=>Oh g∧aew k t (qB I ++ r)∧adb I r
def PI (I:uw):Prop:=∀ r,NP r→adb I r
def SI (I:uw):Prop:=∃ k t R,I=([],k,t) :: R∧∃ c t',t=c :: t'∧c ≠ 61∧c ≠ 46
structure EI (I:uw):Prop where
 good:PI I
 start:SI I
theorem SI.text {I:uw}(h:SI I)(g:Bs):qB (uw.on g I)=g ++ qB I:=by
 obtain⟨k,t,R,rfl,_⟩:=h
 show (g ++ []) ++ (t ++ qB R)=g ++ ([] ++ (t ++ qB R))
 simp
theorem EI.on {I:uw}(h:EI I){g:Bs}(a:Oh g):PI (uw.on g I):=by
 intro r b;have h1:=h.good r b;obtain⟨k,t,R,rfl,_⟩:=h.start;obtain⟨_,h2,h3⟩:=h1;exact⟨by show Oh (g ++ []);rw [List.append_nil];exact a,h2,h3⟩
theorem SI.ne {I:uw}(h:SI I)(g:Bs)(r:Bs):∃ c a,qB I ++ r=c :: a∧c ≠ 61∧c ≠ 46:=by
 obtain⟨k,t,R,rfl,c,b,rfl,h1,h2⟩:=h;exact⟨c,_,rfl,h1,h2⟩
end Mist
namespace Mist
theorem Rn (p:UInt8→Bool)(s:Bs)(h:s.take (bY p s)=s):s.all p=true:=by
 unfold bY at h
 rw [← List.prefix_iff_eq_take.1 (List.takeWhile_prefix p)] at h
 rw [← h];exact List.all_takeWhile
theorem FK (p:UInt8→Bool)(s:Bs)(h:s.all p=true):bY p s=s.length:=by
 unfold bY
 induction s with
 | nil=>rfl
 | cons c t a =>
  rw [List.all_cons,ak9] at h
  rw [List.takeWhile_cons_of_pos h.1,List.length_cons,a h.2,List.length_cons]
theorem ET {c:UInt8}(h:eG c=true):jd c=true:=by
 have:∀ n:Fin 256,eG (UInt8.ofNat n.val)=true→jd (UInt8.ofNat n.val)=true:=by decide +kernel
 have h2:=this ⟨c.toNat,c.toNat_lt⟩;rw [show UInt8.ofNat c.toNat=c by simp] at h2
 exact h2 h
theorem Ic {c:UInt8}(h:eG c=true):(!vQ c && !(c == 35))=true:=by
 have:∀ n:Fin 256,eG (UInt8.ofNat n.val)=true→(!vQ (UInt8.ofNat n.val) && !(UInt8.ofNat n.val == 35))=true:=by decide +kernel
 have h2:=this ⟨c.toNat,c.toNat_lt⟩;rw [show UInt8.ofNat c.toNat=c by simp] at h2
 exact h2 h
theorem wJ {c:UInt8}(h:dw c=true):eG c=true∧fZ c=false:=by
 have:∀ n:Fin 256,dw (UInt8.ofNat n.val)=true→eG (UInt8.ofNat n.val)=true∧fZ (UInt8.ofNat n.val)=false:=by decide +kernel
 have h2:=this ⟨c.toNat,c.toNat_lt⟩;rw [show UInt8.ofNat c.toNat=c by simp] at h2
 exact h2 h
theorem U2 {x:Bs}(h:isName x=true):adY 1 x=true∧x.length≤12:=by
 have d:kind x=1:=by simpa [isName] using h
 unfold kind at d
 split at d
 ·rename_i e
  have k:x.length ≠ 0:=by
   intro k;rw [first,if_pos k] at d;cases d
  have a:=d;unfold first at a
  rw [if_neg k] at a
  by_cases o:fZ (gt x 0)=true
  ·rw [if_pos o] at a
   by_cases b:hasB keywords (x.take (bY eG x))=true
   ·rw [if_pos b] at a;cases a
   ·rw [if_neg b] at a
    by_cases r:bY eG x≤12
    ·have u:=lS x k o b r;have v:x.take (bY eG x)=x:=by rw [u] at e;exact e
     have m:=Rn eG x v;have C:bY eG x=x.length:=FK eG x m
     refine⟨?_,by rw [← C];exact r⟩
     unfold adY
     have F:Jm x=true:=by
      cases x with
      | nil=>simp at k
      | cons c t=>exact Ic (ak8.1 m c (List.mem_cons_self ..))
     have hv:x.all jd=true:=ak8.2 fun c D=>ET (ak8.1 m c D)
     rw [o,m,hv,F,u,v];simp;omega
    ·rw [if_neg r] at a;cases a
  ·rw [if_neg o] at a
   by_cases hd:dw (gt x 0)=true
   ·rw [if_pos hd] at a
    split at a <;> cases a
   ·rw [if_neg hd] at a
    split at a <;> cases a
 ·cases d
theorem YN {s:Bs}(h0:0 < s.length)(a:s.all dw=true)(d:iP s=true):acv s=true:=by
 have o:gt s 0 ∈ s:=by
  cases s with
  | nil=>simp at h0
  | cons c t=>exact List.mem_cons_self ..
 have hd:=ak8.1 a _ o;have k:s.take (bY dw s)=s:=by rw [FK dw s a,List.take_length]
 have e:=(wJ hd).2;have b:=mg s (by omega) (by rw [e];decide) hd (by rw [k];exact d);rw [k] at b
 have r:Jm s=true:=by
  cases s with
  | nil=>simp at h0
  | cons c t=>exact Ic (wJ (ak8.1 a c (List.mem_cons_self ..))).1
 have hv:s.all jd=true:=ak8.2 fun c m=>ET (wJ (ak8.1 a c m)).1
 unfold acv;rw [e,hd,a,d,b,hv,r];simp;exact h0
def adU (s:Bs):Bool:=decide (0 < s.length) && s.all dw && iP s
theorem UQ:∀ a b:Fin 100,(adU (Go.Lib.itoa ((100 * a.val+b.val:Nat):Int)) && numOf (Go.Lib.itoa ((100 * a.val+b.val:Nat):Int)) == 100 * a.val+b.val)=true:=by decide +kernel
theorem ZF {n:Nat}(h:n < 10000):acv (Go.Lib.itoa (n:Int))=true∧numOf (Go.Lib.itoa (n:Int))=n∧(Go.Lib.itoa (n:Int)).length≤4:=by
 have:=UQ ⟨n / 100,by omega⟩ ⟨n % 100,by omega⟩
 simp only at this
 rw [show 100 * (n / 100)+n % 100=n by omega] at this
 unfold adU at this
 simp only [ak9,decide_eq_true_eq,beq_iff_eq] at this
 obtain⟨⟨⟨h1,h2⟩,h3⟩,h4⟩:=this
 refine⟨YN h1 h2 h3,h4,?_⟩
 unfold iP at h3
 simp only [ak9,decide_eq_true_eq] at h3
 exact h3.1
theorem UO {n:Int}(h0:0≤n)(h:n < 10000):acv (Go.Lib.itoa n)=true∧(numOf (Go.Lib.itoa n):Int)=n∧(Go.Lib.itoa n).length≤4:=by
 obtain⟨m,rfl⟩:=Int.eq_ofNat_of_zero_le h0;obtain⟨a,b,c⟩:=ZF (n:=m) (by omega);exact⟨a,by rw [b],c⟩
theorem F8 {k:Nat}{t:Bs}(h:first t=(k,t)):kind t=k:=by
 unfold kind;rw [h];simp
theorem aew.own {k:Nat}{t:Bs}(h:aew k t []):Mist.kind t=k:=F8 (by have:=h.first;rwa [List.append_nil] at this)
structure NmZ (n:Nd):Prop where
 U1:n.kind=33→1≤n.n∧n.n≤6
 fn:n.kind=42→0≤n.n∧n.n≤8
end Mist
namespace Mist
theorem RtZ.cases {T:Tr}{i:Nat}(h:RtZ T i):(nd T i).kind < 47∧0 < (nd T i).kind∧¬ (27≤(nd T i).kind∧(nd T i).kind < 30)∧¬ (35≤(nd T i).kind∧(nd T i).kind < 40):=by
 have a:=h.kind;simp [ji,jf,fM] at a
 omega
theorem RtZ.nm {T:Tr}{i:Nat}(h:RtZ T i){k:Nat}(a:(nd T i).kind=k)(b:jB k=true):isName (nd T i).text=true:=by
 rw [← h.named,a,b]
theorem RtZ.len {T:Tr}{i:Nat}(h:RtZ T i){k m:Nat}(a:(nd T i).kind=k)(b:∀ n:Nd,n.kind=k→jv n=true→n.kids.length=m):(nd T i).kids.length=m:=b _ a h.many
theorem many1 {k:Nat}(h:k ∈ [4,5,22,25,33,34,43,44])(n:Nd)(e:n.kind=k)(a:jv n=true):n.kids.length=1:=by
 simp at h
 rcases h with rfl | rfl | rfl | rfl | rfl | rfl | rfl | rfl <;> simpa [jv,e] using a
theorem Bu {k:Nat}(h:6≤k∧k≤18∨k=20∨k=23∨k=40)(n:Nd)(e:n.kind=k)(a:jv n=true):n.kids.length=2:=by
 rcases (by omega:k=6∨k=7∨k=8∨k=9∨k=10∨k=11∨k=12∨k=13∨k=14∨k=15∨k=16∨k=17∨k=18∨k=20∨k=23∨k=40) with rfl | rfl | rfl | rfl | rfl | rfl | rfl | rfl | rfl | rfl | rfl | rfl | rfl | rfl | rfl | rfl <;> simpa [jv,e] using a
theorem adQ (n:Nd)(e:n.kind=19)(a:jv n=true):n.kids.length=3:=by simpa [jv,e] using a
theorem aac (n:Nd)(e:n.kind=42)(a:jv n=true):2≤n.kids.length:=by simpa [jv,e] using a
theorem adR {k:Nat}(h:k=24∨k=26∨k=41)(n:Nd)(e:n.kind=k)(a:jv n=true):1≤n.kids.length:=by
 rcases h with rfl | rfl | rfl <;> simpa [jv,e] using a
theorem afc {n:Nd}(e:n.kind=1)(h:gU n=true):-9999≤n.n∧n.n≤9999:=by simpa [gU,e,within] using h
theorem adS {n:Nd}(e:n.kind=46)(h:gU n=true):1≤n.n∧n.n≤8:=by simpa [gU,e,within] using h
section
variable {T:Tr} {i:Nat} {B:Nat→List Pz}
end
end Mist
set_option linter.all false
namespace Mist
structure O_ (T:Tr):Prop where
 right:∀ i,i < T.nodes.length→qH T i=true
 fo:Fo T.nodes 0 T.nodes.length T.items
 num:∀ i,i < T.nodes.length→NmZ (nd T i)
theorem O_.kid {T:Tr}(h:O_ T){i j:Nat}(hi:i < T.nodes.length)(a:j < (nd T i).kids.length):∃ q:Nat,(nd T i).kids[j]? = some (q:Int)∧q < i:=by
 obtain⟨n,m,e,_,b⟩:=h.fo.each i (ak2 _) hi;have en:=mE e;rw [en] at a ⊢
 have h1:=b.ids n.kids[j] (List.getElem_mem a);exact⟨n.kids[j].toNat,by rw [akU a];congr 1;omega,by omega⟩
end Mist
namespace Go.Proofs.YtflnfhhgamldhaaGreatDoor
section
open Go.RowKit Mist
section
variable {S:Sz} {B g n c:Nat} {w W:World} {A Bi:Option Addr} {iv pv:Value} {ps l:List Pz} {xs:List NV} {its:List Int}
theorem O_.kx (X:CX w B A Bi n xs its)(b:O_ ⟨aF xs,its⟩){i:Nat}{x:NV}(a:xs[i]? = some x){f:Nat}(r:i≤f):KX w B g A n c iv xs its f i x :=
 ⟨a,fun j k=>by
  have hi:i < xs.length:=(akV.1 a).1;have m:(⟨aF xs,its⟩:Tr).nodes.length=xs.length:=by simp [aF]
  have e:=bI its a;obtain⟨q,d,o⟩:=b.kid (i:=i) (j:=j) (by rw [m];exact hi) (by rw [e];exact k);rw [e] at d
  obtain⟨y,hy⟩:=lF (xs:=xs) (i:=q) (by omega);exact⟨q,y,d,hy,by omega⟩⟩
theorem YQ (X:CX w B A Bi n xs its)(d:O_ ⟨aF xs,its⟩):∀ f i,i+1 < f→i < n→ji (nd (⟨aF xs,its⟩:Tr) i).kind=true→((nd (⟨aF xs,its⟩:Tr) i).kind=1→0≤(nd (⟨aF xs,its⟩:Tr) i).n)→XC w B g A n c iv ⟨aF xs,its⟩ f i:=by
 intro f
 induction f using Nat.strongRecOn with
 | _ f ih =>
  intro i hif C L P;have Y:(⟨aF xs,its⟩:Tr).nodes.length=n:=by rw [← X.len];simp [aF]
  obtain⟨f,rfl⟩:∃ f',f=f'+1:=⟨f - 1,by omega⟩;obtain⟨x,hx⟩:=lF (xs:=xs) (i:=i) (by rw [X.len];exact C);have m:=bI its hx;have V:=rtZ (d.right i (by rw [Y];exact C));have K:KX w B g A n c iv xs its f i x:=O_.kx X d hx (by omega);have b:0 < f:=by omega
  have kid:∀ j q,x.1.kids[j]? = some ((q:Nat):Int)→q < i∧q < n∧jY x.1 j (nd (⟨aF xs,its⟩:Tr) q).kind=true∧((nd (⟨aF xs,its⟩:Tr) q).kind=1→(nd (⟨aF xs,its⟩:Tr) q).n < 0→x.1.kind=40):=by
   intro j q e;have M:j < x.1.kids.length:=(akV.1 e).1;obtain⟨q',Z,e2⟩:=d.kid (i:=i) (j:=j) (by rw [Y];exact C) (by rw [m];exact M);rw [m,e] at Z
   injection Z with Z
   have:q=q':=by omega
   subst this;have h1:=V.kid j (by rw [m];exact M);have h2:=V.neg j (by rw [m];exact M);rw [m] at h1 h2
   rw [akY,e] at h1 h2
   exact⟨e2,by omega,h1,h2⟩
  have E:(x.1.kind ≠ 24∧x.1.kind ≠ 41∧x.1.kind ≠ 34∧x.1.kind ≠ 33∧x.1.kind ≠ 40∧x.1.kind ≠ 42)→∀ j,j < x.1.kids.length→KE w B g A n c iv xs its f x j:=by
   intro N j M q e;obtain⟨h1,h2,h3,h4⟩:=kid j q e
   have he:ji (nd (⟨aF xs,its⟩:Tr) q).kind=true:=by
    unfold jY at h3
    rwa [if_neg N.1,if_neg N.2.1,if_neg (by omega),if_neg N.2.2.2.2.1,if_neg N.2.2.2.2.2] at h3
   exact ih f (by omega) q (by omega) h2 he (fun k=>by
    rcases Int.lt_or_le (nd (⟨aF xs,its⟩:Tr) q).n 0 with h5 | h5
    ·exact absurd (h4 k h5) N.2.2.2.2.1
    ·exact h5)
  have eb:aQ ⟨aF xs,its⟩ (f+1) i=cZ ⟨aF xs,its⟩ (aQ ⟨aF xs,its⟩ f) i:=rfl;intro S W pv ps H a;rw [eb] at a ⊢
  rw [m] at L P
  have o:=V.many;have yB:=V.num;rw [m] at o yB
  simp [ji] at L
  by_cases Q:x.1.kind=1
  ·have h0:=P Q;have h1:=afc Q yB;have en:=yM (T:=⟨aF xs,its⟩) (B:=aQ ⟨aF xs,its⟩ f) (i:=i) (by rw [m];exact Q);rw [m] at en
   have e2:nL x.1.n (i:Int)=[tz (Go.Lib.itoa x.1.n) (i:Int)]:=by unfold nL;rw [if_neg (by omega)]
   rw [e2] at en
   rw [en] at a ⊢
   exact YU H X K Q b (by omega) (by omega) a
  by_cases k2:x.1.kind=2
  ·exact Uc H X K k2 b a
  by_cases k3:x.1.kind=3
  ·exact Ud H X K k3 b a
  by_cases k4:x.1.kind=4
  ·exact YS H X K k4 b (many1 (by decide) _ k4 o) (E (by omega)) a
  by_cases k5:x.1.kind=5
  ·exact YT H X K k5 b (many1 (by decide) _ k5 o) (E (by omega)) a
  by_cases D:x.1.kind=19
  ·exact abZ H X K D b (adQ _ D o) (E (by omega)) a
  by_cases F:x.1.kind=20
  ·exact YR H X K F b (Bu (by omega) _ F o) (E (by omega)) a
  refine Ue H X K ⟨Q,k2,k3,k4,k5,D,F⟩ b (fun S W pv ps b2 b3 h2 h3 H a=>?_) a;by_cases k21:x.1.kind=21
  ·exact VQ H X K k21 h2 h3 b (E (by omega)) a
  by_cases R:x.1.kind=22
  ·exact QJ H X K R h2 h3 b (many1 (by decide) _ R o) (E (by omega)) a
  by_cases U:x.1.kind=23
  ·exact QK H X K U h2 h3 b (Bu (by omega) _ U o) (E (by omega)) a
  by_cases k26:x.1.kind=26
  ·exact QH H X K k26 h2 h3 b (E (by omega)) a
  by_cases G:x.1.kind=24
  ·refine aaW H X K G h2 h3 b (adR (.inl rfl) _ G o) (fun j q M e=>?_) a;obtain⟨h1,t,u,_⟩:=kid j q e
   have hq:(nd (⟨aF xs,its⟩:Tr) q).kind=25:=by
    unfold jY at u
    rw [if_pos G] at u
    simpa using u
   obtain⟨f2,rfl⟩:∃ f',f=f'+1:=⟨f - 1,by omega⟩;obtain⟨y,hy⟩:=lF (xs:=xs) (i:=q) (by rw [X.len];exact t);have I:=bI its hy;have v:=rtZ (d.right q (by rw [Y];exact t));have hlq:=v.len hq (many1 (by decide));rw [I] at hq hlq
   intro S W pv ps H a;rw [show aQ ⟨aF xs,its⟩ (f2+1) q=cZ ⟨aF xs,its⟩ (aQ ⟨aF xs,its⟩ f2) q from rfl] at a ⊢
   refine ab1 H X (O_.kx X d hy (by omega)) hq (by omega) (fun r er=>?_) a;obtain⟨r',f1,f3⟩:=d.kid (i:=q) (j:=0) (by rw [Y];exact t) (by rw [I];omega);rw [I,er] at f1
   injection f1 with f1
   have hrr:r=r':=by omega
   subst hrr;have J:=v.kid 0 (by rw [I];omega);have g2:=v.neg 0 (by rw [I];omega);rw [I,akY,er] at J g2
   have J:jY y.1 0 (nd (⟨aF xs,its⟩:Tr) r).kind=true:=J;unfold jY at J
   rw [if_neg (by omega),if_neg (by omega),if_neg (by omega),if_neg (by omega),if_neg (by omega)] at J
   exact ih f2 (by omega) r (by omega) (by omega) J (fun k=>by
    rcases Int.lt_or_le (nd (⟨aF xs,its⟩:Tr) r).n 0 with h5 | h5
    ·have:=g2 k h5;omega
    ·exact h5)
  ·exact ac2 H X K (by omega) h2 h3 b (Bu (by omega) _ rfl o) (E (by omega)) a
end
end
set_option linter.all false
section
open Go.RowKit Mist
attribute [local go_sem] ah aM aV au ak
abbrev tS (h g:Nat) (cs:Array Value) (S:Sz):Sz:=(h+1,50,cs) :: (h,58,#[.pointer (some ⟨g,0,none⟩)]) :: S
section
variable {S:Sz} {B g n c f i j q b2 b3 b4 b6 h:Nat} {cs:Array Value} {w W:World} {A Bi:Option Addr} {nv iv pv:Value} {ps l:List Pz} {xs:List NV} {its:List Int} {x y:NV}
structure NdZ (W:World) (g n c i:Nat) (A:Option Addr) (x:NV) (b o:Nat) (Ka:Option Addr) (kc:Nat):Prop where
 a:A=some ⟨b,o,none⟩
 lt:b < W.heap.size
 gl:g < W.heap.size
 c0:W.cell? ⟨g,0,none⟩=some (.slice (some ⟨b,o,none⟩) n c)
 k0:W.cell? ⟨b,o+i * 5,none⟩=some (.int .u8 (x.1.kind:Nat))
 k1:W.cell? ⟨b,o+i * 5+1,none⟩=some (.string (aH x.1.text))
 k2:W.cell? ⟨b,o+i * 5+2,none⟩=some (.int .i64 x.1.n)
 k3:W.cell? ⟨b,o+i * 5+3,none⟩=some (.slice Ka x.1.kids.length kc)
 k4:W.cell? ⟨b,o+i * 5+4,none⟩=some (.int .i64 x.1.at_)
 x2:x.2=.slice Ka x.1.kids.length kc
 ki:IntsIn W Ka x.1.kids
 il:i < n
theorem CX.node (X:CX w B A Bi n xs its)(H:PZ S B g w W (.slice A n c) iv pv ps)(d:xs[i]? = some x):∃ b o k kc,NdZ W g n c i A x b o k kc:=by
 have hi:i < n:=by rw [← X.len];exact (akV.1 d).1
 obtain⟨b,o,r,a⟩:=(X.at_ H).nodes (by have:=X.len;omega);obtain⟨k,kc,e,t,m⟩:=a.kid d;exact⟨b,o,k,kc,r,a.lt,H.blk.lt,by rw [← r];exact H.blk.cell 0,a.c0 i x d,a.c1 i x d,a.c2 i x d,by rw [← e];exact a.c3 i x d,a.c4 i x d,e,m,hi⟩
theorem tsH (cs:Array Value)(H:Hid (PZ S B g w W nv iv pv ps)):Hid (PZ (tS W.heap.size g cs S) B g w ((W.alloc (.cells #[.pointer (some ⟨g,0,none⟩)] 58)).alloc (.cells cs 50)) nv iv pv ps):=by
 have a:(W.alloc (.cells #[.pointer (some ⟨g,0,none⟩)] 58)).heap.size=W.heap.size+1:=by simp
 have h3:=(H.o.box (T:=58) (cs:=#[.pointer (some ⟨g,0,none⟩)]) (by decide)).box (T:=50) (cs:=cs) (by decide);rw [a] at h3
 exact O h3
theorem sZ (H:Hid (PZ (tS h g cs S) B g w W nv iv pv ps)):W.cell? ⟨h,0,none⟩=some (.pointer (some ⟨g,0,none⟩))∧W.cell? ⟨h+1,0,none⟩=cs[0]? ∧ W.cell? ⟨h+1,1,none⟩=cs[1]? ∧ W.cell? ⟨h+1,2,none⟩=cs[2]? ∧ W.cell? ⟨h+1,3,none⟩=cs[3]? :=
 ⟨(H.o.kp _ (List.mem_cons_of_mem _ (List.mem_cons_self ..))).1.cell 0,(H.o.kp _ (List.mem_cons_self ..)).1.cell 0,(H.o.kp _ (List.mem_cons_self ..)).1.cell 1,(H.o.kp _ (List.mem_cons_self ..)).1.cell 2,(H.o.kp _ (List.mem_cons_self ..)).1.cell 3⟩
theorem kk1 (H:Hid (PZ S B g w W (.slice A n c) iv pv ps))(X:CX w B A Bi n xs its)(D:xs[i]? = some x)(h4:(b4,58,#[.pointer (some ⟨g,0,none⟩)]) ∈ S)(h6:(b6,50,lg x) ∈ S)
  (t:x.1.kids[0]? = some ((q:Nat):Int)) (F:MC 97 w B g A n c iv ⟨aF xs,its⟩ f q) (C:ps.length+(aQ ⟨aF xs,its⟩ f q).length≤1000000) :
  Calls Tryz.prog 138 #[.pointer (some ⟨b4,0,none⟩),.pointer (some ⟨b6,0,none⟩)] W (l7 S B g w (.slice A n c) iv (iG ps (aQ ⟨aF xs,its⟩ f q))):=by
 have c4:=(H.o.kp _ h4).1.cell 0;obtain⟨P,kc,k,r,d⟩:=X.kids H.o D;have K:0 < x.1.kids.length:=(akV.1 t).1;have v:W.cell? ⟨b6,3,none⟩=some x.2:=(H.o.kp _ h6).1.cell 3;obtain⟨kb,M,a,L,b⟩:=d.ex (by omega);have kq:W.cell? ⟨kb,M,none⟩=some (.int .i64 (q:Int)):=b 0 _ t;rw [k,a] at v
 simp only at c4
 generalize x.1.kids.length=m at *
 have R:(0:Int) < (m:Int):=by omega
 have G:=O F;have I:=O C;clear C F X d k r b D t a;go_in
 go_still_tail 5,(by kernel_rfl)
 change wpList _ _ _ _ _ W.drew
 have u:=O H.o.drew
 generalize W.drew=w1 at u ⊢
 clear H c4 v kq;go_wp2_with fail;refine (G.o S _ pv ps u I.o).mono ?_;rintro e Q⟨N,rfl,J⟩;go_wp2_with fail;go_end0
 exact⟨N,rfl,J⟩
theorem ZM (H:Hid (PZ S B g w W (.slice A n c) iv pv ps))(X:CX w B A Bi n xs its)(a:xs[i]? = some x)(t:x.1.kind=30)
  (v:ps.length+(cZ ⟨aF xs,its⟩ (aQ ⟨aF xs,its⟩ f) i).length≤1000000) :
  Calls Tryz.prog 97 #[.pointer (some ⟨g,0,none⟩),.int .i64 i] W (l7 S B g w (.slice A n c) iv (iG ps (cZ ⟨aF xs,its⟩ (aQ ⟨aF xs,its⟩ f) i))):=by
 have en:=Eu (T:=⟨aF xs,its⟩) (B:=aQ ⟨aF xs,its⟩ f) (i:=i) (by rw [bI its a];exact t)
 try rw [bI its a] at en
 rw [en] at v ⊢
 clear en;obtain⟨b,o,F,kc,M⟩:=X.node H.o a;obtain⟨m,k⟩:∃ m,m=x.1.kids.length:=⟨_,rfl⟩;obtain⟨L,r,N,J,k0,P,Q,G,R,d,u,hi⟩:=M;rw [t] at k0
 rw [← k] at G
 have k0:W.cell? ⟨b,o+i * 5,none⟩=some (.int .u8 30):=k0;have Y:=O (show lg x=#[.int .u8 30,.string (aH x.1.text),.int .i64 x.1.n,.slice F m kc,.int .i64 x.1.at_] from by unfold lg;rw [t,d,k];rfl);have U:(0:Int)≤(i:Int):=by omega
 have V:(i:Int) < (n:Int):=by omega
 have D:=tsH #[.int .u8 30,.string (aH x.1.text),.int .i64 x.1.n,.slice F m kc,.int .i64 x.1.at_] H;have I:=O v;have HX:=O X;have Rz:=O a;have Z:=O k;subst L;clear v X a k d u H;go_in
 go_wp2_with fail;refine (zC D [105,110,116] (i:Int) (by have:=I.o;simp [aj] at this;omega)).mono ?_;rintro e w1⟨wP,rfl,C⟩;clear J k0 P Q G R r N U V D;obtain⟨c2,K,gF,gG,jJ⟩:=sZ C;go_wp2_with fail;go_end0
 exact⟨_,rfl,O (by have h:=C.o.tl.tl;simpa [List.append_assoc] using h)⟩
theorem UU (H:Hid (PZ S B g w W (.slice A n c) iv pv ps))(X:CX w B A Bi n xs its)(a:xs[i]? = some x)(t:x.1.kind=31)
  (v:ps.length+(cZ ⟨aF xs,its⟩ (aQ ⟨aF xs,its⟩ f) i).length≤1000000) :
  Calls Tryz.prog 97 #[.pointer (some ⟨g,0,none⟩),.int .i64 i] W (l7 S B g w (.slice A n c) iv (iG ps (cZ ⟨aF xs,its⟩ (aQ ⟨aF xs,its⟩ f) i))):=by
 have en:=Ev (T:=⟨aF xs,its⟩) (B:=aQ ⟨aF xs,its⟩ f) (i:=i) (by rw [bI its a];exact t)
 try rw [bI its a] at en
 rw [en] at v ⊢
 clear en;obtain⟨b,o,F,kc,M⟩:=X.node H.o a;obtain⟨m,k⟩:∃ m,m=x.1.kids.length:=⟨_,rfl⟩;obtain⟨L,r,N,J,k0,P,Q,G,R,d,u,hi⟩:=M;rw [t] at k0
 rw [← k] at G
 have k0:W.cell? ⟨b,o+i * 5,none⟩=some (.int .u8 31):=k0;have Y:=O (show lg x=#[.int .u8 31,.string (aH x.1.text),.int .i64 x.1.n,.slice F m kc,.int .i64 x.1.at_] from by unfold lg;rw [t,d,k];rfl);have U:(0:Int)≤(i:Int):=by omega
 have V:(i:Int) < (n:Int):=by omega
 have D:=tsH #[.int .u8 31,.string (aH x.1.text),.int .i64 x.1.n,.slice F m kc,.int .i64 x.1.at_] H;have I:=O v;have HX:=O X;have Rz:=O a;have Z:=O k;subst L;clear v X a k d u H;go_in
 go_wp2_with fail;refine (zC D [98,111,111,108] (i:Int) (by have:=I.o;simp [aj] at this;omega)).mono ?_;rintro e w1⟨wP,rfl,C⟩;clear J k0 P Q G R r N U V D;obtain⟨c2,K,gF,gG,jJ⟩:=sZ C;go_wp2_with fail;go_end0
 exact⟨_,rfl,O (by have h:=C.o.tl.tl;simpa [List.append_assoc] using h)⟩
theorem Qg (H:Hid (PZ S B g w W (.slice A n c) iv pv ps))(X:CX w B A Bi n xs its)(a:xs[i]? = some x)(t:x.1.kind=32)
  (v:ps.length+(cZ ⟨aF xs,its⟩ (aQ ⟨aF xs,its⟩ f) i).length≤1000000) :
  Calls Tryz.prog 97 #[.pointer (some ⟨g,0,none⟩),.int .i64 i] W (l7 S B g w (.slice A n c) iv (iG ps (cZ ⟨aF xs,its⟩ (aQ ⟨aF xs,its⟩ f) i))):=by
 have en:=Ew (T:=⟨aF xs,its⟩) (B:=aQ ⟨aF xs,its⟩ f) (i:=i) (by rw [bI its a];exact t)
 try rw [bI its a] at en
 rw [en] at v ⊢
 clear en;obtain⟨b,o,F,kc,M⟩:=X.node H.o a;obtain⟨m,k⟩:∃ m,m=x.1.kids.length:=⟨_,rfl⟩;obtain⟨L,r,N,J,k0,P,Q,G,R,d,u,hi⟩:=M;rw [t] at k0
 rw [← k] at G
 have k0:W.cell? ⟨b,o+i * 5,none⟩=some (.int .u8 32):=k0;have Y:=O (show lg x=#[.int .u8 32,.string (aH x.1.text),.int .i64 x.1.n,.slice F m kc,.int .i64 x.1.at_] from by unfold lg;rw [t,d,k];rfl);have U:(0:Int)≤(i:Int):=by omega
 have V:(i:Int) < (n:Int):=by omega
 have D:=tsH #[.int .u8 32,.string (aH x.1.text),.int .i64 x.1.n,.slice F m kc,.int .i64 x.1.at_] H;have I:=O v;have HX:=O X;have Rz:=O a;have Z:=O k;subst L;clear v X a k d u H;go_in
 go_wp2_with fail;refine (zC D x.1.text (i:Int) (by have:=I.o;simp [aj] at this;omega)).mono ?_;rintro e w1⟨wP,rfl,C⟩;clear J k0 P Q G R r N U V D;obtain⟨c2,K,gF,gG,jJ⟩:=sZ C;go_wp2_with fail;go_end0
 exact⟨_,rfl,O (by have h:=C.o.tl.tl;simpa [List.append_assoc] using h)⟩
theorem UW (H:Hid (PZ S B g w W (.slice A n c) iv pv ps))(X:CX w B A Bi n xs its)(t:xs[i]? = some x)(Z:x.1.kind=33)(hq:x.1.kids[0]? = some ((q:Nat):Int))(n0:-1000000≤x.1.n)(n1:x.1.n≤1000000)(F:MC 97 w B g A n c iv ⟨aF xs,its⟩ f q)
  (J:ps.length+(cZ ⟨aF xs,its⟩ (aQ ⟨aF xs,its⟩ f) i).length≤1000000) :
  Calls Tryz.prog 97 #[.pointer (some ⟨g,0,none⟩),.int .i64 i] W (l7 S B g w (.slice A n c) iv (iG ps (cZ ⟨aF xs,its⟩ (aQ ⟨aF xs,its⟩ f) i))):=by
 have en:=Ey (T:=⟨aF xs,its⟩) (B:=aQ ⟨aF xs,its⟩ f) (i:=i) (by rw [bI its t];exact Z)
 try rw [bI its t] at en
 rw [en] at J ⊢
 clear en;obtain⟨b,o,V,kc,hZ⟩:=X.node H.o t;obtain⟨m,K⟩:∃ m,m=x.1.kids.length:=⟨_,rfl⟩;obtain⟨hA,Y,hg,c0,k0,k1,k2,k3,k4,C,hki,hi⟩:=hZ;rw [Z] at k0
 rw [← K] at k3
 have k0:W.cell? ⟨b,o+i * 5,none⟩=some (.int .u8 33):=k0;have EB:=O (show lg x=#[.int .u8 33,.string (aH x.1.text),.int .i64 x.1.n,.slice V m kc,.int .i64 x.1.at_] from by unfold lg;rw [Z,C,K];rfl);have y0:(0:Int)≤(i:Int):=by omega
 have y1:(i:Int) < (n:Int):=by omega
 have HS:=tsH #[.int .u8 33,.string (aH x.1.text),.int .i64 x.1.n,.slice V m kc,.int .i64 x.1.at_] H;have ek:eO ⟨aF xs,its⟩ (aQ ⟨aF xs,its⟩ f) i 0=aQ ⟨aF xs,its⟩ f q:=mh (by rw [bI its t];omega) (by rw [bI its t];exact hq);rw [ek] at J ⊢
 clear ek;have u:=O J;have G:=O X;have Rz:=O t;have HM:=O K;have HF:=O F;have Q:=O hq;have R:=O n0;have U:=O n1;subst hA;clear J X t K C hki H F hq n0 n1;go_in
 go_wp2_with fail;refine (zC HS [91] (i:Int) (by have:=u.o;simp [aj] at this;omega)).mono ?_;rintro e w1⟨wP,rfl,L⟩;clear c0 k0 k1 k2 k3 k4 Y hg y0 y1 HS;obtain⟨c2,a,d,k,r⟩:=sZ L;go_wp2_with fail;refine (in2 L 138 #[.pointer (some ⟨W.heap.size,0,none⟩),.pointer (some ⟨W.heap.size+1,0,none⟩)] (aQ ⟨aF xs,its⟩ f q) (by simp) (by have:=u.o;simp [aj] at this ⊢;omega) (fun W'=>by kernel_rfl) (fun W' pv' H'=>kk1 H' G.o Rz.o (List.mem_cons_of_mem _ (List.mem_cons_self ..)) (by rw [EB.o];exact List.mem_cons_self ..) Q.o HF.o (by have:=u.o;rw [eU];simp [aj] at this ⊢;omega))).mono ?_;rintro e w2⟨mZ,rfl,M⟩;clear c2 a d k r L;obtain⟨c2,a,d,k,r⟩:=sZ M;go_wp2_with fail;refine (vR M [59] (-1) (by simp) (by have:=u.o;simp [aj] at this ⊢;omega)).mono ?_;rintro e w3⟨tX,rfl,D⟩;clear c2 a d k r M;obtain⟨c2,a,d,k,r⟩:=sZ D;have P:=O fun (W2:World) (I:Below w3.heap.size w3 W2)=>wL G.o.pow (D.o.Ki.mono G.o.b) (Nat.le_trans G.o.b D.o.lw) R.o U.o I
 go_upto_region 6 with (fail)
 go_region_held3 (fun w'=>w'.cell? ⟨W.heap.size,0,none⟩=some (.pointer (some ⟨g,0,none⟩))∧w'.cell? ⟨W.heap.size+1,2,none⟩=some (.int .i64 x.1.n)) (first | go_keep|(go_split_ands;refine⟨?_,?_⟩ <;> assumption))
  ((first
    | (go_at_call 93
       refine (P.o _ (by (repeat (first|(with_reducible exact Below.refl _ _)|(with_reducible refine Below.drew ?_)));done)).mono ?_;rintro e wA⟨rfl,I⟩;have v:=O (D.o.below I);clear c2 a d k r I;obtain⟨c2,a,d,k,r⟩:=sZ v)
    | (go_at_call 52
       refine (Gf (S:=tS W.heap.size g #[.int .u8 33,.string (aH x.1.text),.int .i64 x.1.n,.slice V m kc,.int .i64 x.1.at_] S) (by first | exact v | exact O v.o.drew | exact O v.o.drew.drew | exact O (v.o.drewN _)) (Go.Lib.itoa x.1.n) (-1) (by simp) (by have:=u.o;simp [aj] at this ⊢;omega)).mono ?_;rintro e w4⟨Cw,rfl,N⟩;clear c2 a d k r;obtain⟨c2,a,d,k,r⟩:=sZ N)))
 all_goals
  go_wp2_with fail;refine (vR N [93] (-1) (by simp) (by have:=u.o;simp [aj] at this ⊢;omega)).mono ?_;rintro e w5⟨pv5,rfl,H5⟩;clear c2 a d k r N;obtain⟨c2,a,d,k,r⟩:=sZ H5;go_wp2_with fail;go_end0
  exact⟨_,rfl,O (by have h:=H5.o.tl.tl;simpa [List.append_assoc] using h)⟩
theorem acU (H:Hid (PZ S B g w W (.slice A n c) iv pv ps))(X:CX w B A Bi n xs its)(d:xs[i]? = some x)(hk:x.1.kind=34)(K:x.1.kids[0]? = some ((q:Nat):Int))(F:MC 97 w B g A n c iv ⟨aF xs,its⟩ f q)
  (J:ps.length+(cZ ⟨aF xs,its⟩ (aQ ⟨aF xs,its⟩ f) i).length≤1000000) :
  Calls Tryz.prog 57 #[.pointer (some ⟨g,0,none⟩),.int .i64 i] W (l7 S B g w (.slice A n c) iv (iG ps (cZ ⟨aF xs,its⟩ (aQ ⟨aF xs,its⟩ f) i))):=by
 have en:=Ez (T:=⟨aF xs,its⟩) (B:=aQ ⟨aF xs,its⟩ f) (i:=i) (by rw [bI its d];exact hk);have Y:eO ⟨aF xs,its⟩ (aQ ⟨aF xs,its⟩ f) i 0=aQ ⟨aF xs,its⟩ f q:=mh (by rw [bI its d];omega) (by rw [bI its d];exact K);rw [bI its d,Y] at en
 rw [en] at J ⊢
 obtain⟨b,o,Ka,kc,D⟩:=X.node H.o d;obtain⟨v,r,Z,V,k0,L,M,N,P,k,a,hi⟩:=D;have y0:(0:Int)≤(i:Int):=by omega
 have y1:(i:Int) < (n:Int):=by omega
 have u:=O J;have HX:=O X;have Rz:=O d;have U:=O K;have HF:=O F;have HA:=O v;rw [v];clear J X d K F k a en Y k0 M N P;go_in
 go_wp2_with fail;refine (zC H x.1.text (i:Int) (by have:=u.o;simp [aj] at this;omega)).mono ?_;rintro e w2⟨mZ,rfl,Q⟩;clear V L r Z;go_wp2_with fail;refine (vR Q [58] (-1) (by simp) (by have:=u.o;simp [aj] at this ⊢;omega)).mono ?_;rintro e w3⟨tX,rfl,R⟩;clear Q H;obtain⟨b',o',Kb,kc',D⟩:=HX.o.node R.o Rz.o;obtain⟨C,r,Z,V,k0,L,M,N,P,k,a,G⟩:=D;have I:0 < x.1.kids.length:=(akV.1 U.o).1;obtain⟨kb,ko,m,hkb,t⟩:=a.ex I;have kq:w3.cell? ⟨kb,ko,none⟩=some (.int .i64 (q:Int)):=t 0 _ U.o;rw [m] at N
 have y3:(0:Int) < ((x.1.kids.length:Nat):Int):=by omega
 clear k0 L M P k a t m C v G;go_wp2_with fail;refine (HF.o S _ tX _ R (by have:=u.o;rw [eU];simp [aj] at this ⊢;omega)).mono ?_;rintro e w4⟨Cw,rfl,H4⟩;go_wp2_with fail;go_end0
 exact⟨Cw,rfl,O (by have h:=H4.o;rw [sD ps _ _ (by simp)] at h;rw [← HA.o];exact h)⟩
end
theorem Ma {B g n c:Nat}{w:World}{A Bi:Option Addr}{iv:Value}{xs:List NV}{its:List Int}(X:CX w B A Bi n xs its)(d:O_ ⟨aF xs,its⟩):∀ f i,i+1 < f→i < n→jf (nd (⟨aF xs,its⟩:Tr) i).kind=true→MC 97 w B g A n c iv ⟨aF xs,its⟩ f i:=by
 intro f
 induction f with
 | zero=>intro i h;omega
 | succ f F =>
  intro i D a C;have r:(⟨aF xs,its⟩:Tr).nodes.length=n:=by rw [← X.len];simp [aF]
  obtain⟨x,m⟩:=lF (xs:=xs) (i:=i) (by rw [X.len];exact a);have b:=bI its m;have v:=rtZ (d.right i (by rw [r];exact a));have u:=d.num i (by rw [r];exact a);rw [b] at u
  intro S W pv ps H e;rw [show aQ ⟨aF xs,its⟩ (f+1) i=cZ ⟨aF xs,its⟩ (aQ ⟨aF xs,its⟩ f) i from rfl] at e ⊢
  rw [b] at C
  simp [jf] at C
  rcases (by omega:x.1.kind=30∨x.1.kind=31∨x.1.kind=32∨x.1.kind=33) with k | k | k | k
  ·exact ZM H X m k e
  ·exact UU H X m k e
  ·exact Qg H X m k e
  ·have t:=v.len (k:=33) (by rw [b];exact k) (many1 (by decide));rw [b] at t
   obtain⟨q,o,G⟩:=d.kid (i:=i) (j:=0) (by rw [r];exact a) (by rw [b];omega);rw [b] at o
   have h1:=v.kid 0 (by rw [b];omega);rw [b,akY,o] at h1
   have h1:jY x.1 0 (nd (⟨aF xs,its⟩:Tr) q).kind=true:=h1;unfold jY at h1
   rw [if_neg (by omega),if_neg (by omega),if_pos (by omega)] at h1
   have:=u.U1 k
   exact UW H X m k o (by omega) (by omega) (F q (by omega) (by omega) h1) e
theorem H_ {B g n c:Nat}{w:World}{A Bi:Option Addr}{iv:Value}{xs:List NV}{its:List Int}(X:CX w B A Bi n xs its)(b:O_ ⟨aF xs,its⟩)(f i:Nat)(C:i+1 < f)(a:i < n)(m:(nd (⟨aF xs,its⟩:Tr) i).kind=34):MC 57 w B g A n c iv ⟨aF xs,its⟩ f i:=by
 obtain⟨f,rfl⟩:∃ v,f=v+1:=⟨f - 1,by omega⟩;have t:(⟨aF xs,its⟩:Tr).nodes.length=n:=by rw [← X.len];simp [aF]
 obtain⟨x,u⟩:=lF (xs:=xs) (i:=i) (by rw [X.len];exact a);have d:=bI its u;have o:=rtZ (b.right i (by rw [t];exact a));intro S W pv ps H r;rw [show aQ ⟨aF xs,its⟩ (f+1) i=cZ ⟨aF xs,its⟩ (aQ ⟨aF xs,its⟩ f) i from rfl] at r ⊢
 have k:=o.len m (many1 (by decide));rw [d] at m k
 obtain⟨q,e,D⟩:=b.kid (i:=i) (j:=0) (by rw [t];exact a) (by rw [d];omega);rw [d] at e
 have h1:=o.kid 0 (by rw [d];omega);rw [d,akY,e] at h1
 have h1:jY x.1 0 (nd (⟨aF xs,its⟩:Tr) q).kind=true:=h1;unfold jY at h1
 rw [if_neg (by omega),if_neg (by omega),if_pos (by omega)] at h1
 exact acU H X u m e (Ma X b f q (by omega) (by omega) h1) r
end
set_option linter.all false
section
open Go.RowKit Mist
attribute [local go_sem] ah aM aV au ak
section
variable {S:Sz} {B g n c f i:Nat} {w W:World} {A Bi:Option Addr} {nv iv pv:Value} {ps l:List Pz} {xs:List NV} {its:List Int} {x y:NV}
theorem acA (H:Hid (PZ S B g w W (.slice A n c) iv pv ps))(X:CX w B A Bi n xs its)(I:xs[i]? = some x)(v:-1000000≤x.1.n)(C:x.1.n≤1000000)(G:0≤x.1.n)(hb:ps.length+2≤1000000) :
  Calls Tryz.prog 54 #[.pointer (some ⟨g,0,none⟩),.int .i64 i,.bool false] W (l7 S B g w (.slice A n c) iv (iG ps (nL x.1.n (i:Int)))):=by
 have F:=O (show nL x.1.n (i:Int)=[tz (Go.Lib.itoa x.1.n) (i:Int)] from by unfold nL;rw [if_neg (by omega)]);rw [F.o];obtain⟨b,o,Ka,kc,k,r,U,R,k0,V,J,Y,Z,u,t,hi⟩:=X.node H.o I;have y0:(0:Int)≤(i:Int):=by omega
 have y1:(i:Int) < (n:Int):=by omega
 have d:=O X;have L:=O k;rw [k];obtain⟨N,m⟩:∃ N,N=x.1.n:=⟨_,rfl⟩;rw [← m] at J v C G ⊢
 have P:=O v;have Q:=O C;have M:=O m;have z1:¬ N < 0:=by omega
 clear X I u t k k0 V Y Z v C m G F;go_in
 go_wp2_with fail;refine (wL d.o.pow (H.o.Ki.mono d.o.b) (Nat.le_trans d.o.b H.o.lw) (N:=N) P.o Q.o (Below.refl _ _)).mono ?_;rintro e w2⟨rfl,a⟩;have D:=O (H.o.below a);clear a R J r U;go_wp2_with fail;refine (zC D (Go.Lib.itoa N) (i:Int) (by omega)).mono ?_;rintro e w3⟨tX,rfl,K⟩;clear D;go_wp2_with fail;go_end0
 exact⟨_,rfl,O (by rw [← L.o];exact K.o)⟩
theorem acz (H:Hid (PZ S B g w W (.slice A n c) iv pv ps))(X:CX w B A Bi n xs its)(U:xs[i]? = some x)(J:-1000000≤x.1.n)(K:x.1.n≤1000000)(R:0≤x.1.n)(hb:ps.length+2≤1000000) :
  Calls Tryz.prog 54 #[.pointer (some ⟨g,0,none⟩),.int .i64 i,.bool true] W (l7 S B g w (.slice A n c) iv (ps ++ dI false (nL x.1.n (i:Int)))):=by
 have P:=O (show nL x.1.n (i:Int)=[tz (Go.Lib.itoa x.1.n) (i:Int)] from by unfold nL;rw [if_neg (by omega)]);rw [P.o];obtain⟨b,o,Ka,kc,u,F,hg,c0,k0,k1,V,k3,k4,I,G,hi⟩:=X.node H.o U;have y0:(0:Int)≤(i:Int):=by omega
 have y1:(i:Int) < (n:Int):=by omega
 have r:=O X;have HA:=O u;rw [u];obtain⟨N,C⟩:∃ N,N=x.1.n:=⟨_,rfl⟩;rw [← C] at V J K R ⊢
 have N0:=O J;have N1:=O K;have HNX:=O C;have z1:¬ N < 0:=by omega
 clear X U I G u k0 k1 k3 k4 J K C R P;go_in
 go_wp2_with fail;refine (wL r.o.pow (H.o.Ki.mono r.o.b) (Nat.le_trans r.o.b H.o.lw) (N:=N) N0.o N1.o (Below.refl _ _)).mono ?_;rintro e w2⟨rfl,k⟩;have L:=O (H.o.below k);clear k c0 V F hg;go_wp2_with fail;refine (zC L (Go.Lib.itoa N) (i:Int) (by omega)).mono ?_;rintro e w3⟨tX,rfl,m⟩;clear L;obtain⟨M,v⟩:∃ M,M=(iG ps [tz (Go.Lib.itoa N) (i:Int)]).length:=⟨_,rfl⟩;have d:M=ps.length+1:=by rw [v,eU];simp
 obtain⟨Y,t,a⟩:=d_ m.o.own;have d2:w3.cell? ⟨g,2,none⟩=some (.slice Y M t):=by rw [v,← a];exact m.o.blk.cell 2
 obtain⟨Q,hQ⟩:∃ Q,Q=ps.length:=⟨_,rfl⟩;rw [← hQ] at d hb
 have HQ:=O hQ;have w1:wrap64 ((M:Int) - 1)=(Q:Int):=by unfold wrap64;omega
 have D:Q≤1000000:=by omega
 clear v a hQ d;go_wp2_with fail;refine (cl1 m Q D).mono ?_;rintro e w4⟨Cw,rfl,Z⟩;clear d2;go_wp2_with fail;go_end0
 exact⟨_,rfl,O (by have h:=Z.o;rw [HQ.o,vv] at h;rw [← HA.o];exact h)⟩
theorem acy (H:Hid (PZ S B g w W (.slice A n c) iv pv ps))(X:CX w B A Bi n xs its)(J:xs[i]? = some x)(D:-1000000≤x.1.n)(F:x.1.n≤1000000)(k:x.1.n < 0)(hb:ps.length+2≤1000000) :
  Calls Tryz.prog 54 #[.pointer (some ⟨g,0,none⟩),.int .i64 i,.bool false] W (l7 S B g w (.slice A n c) iv (iG ps (nL x.1.n (i:Int)))):=by
 have I:=O (show nL x.1.n (i:Int)=[tz [45] (i:Int),tz (Go.Lib.itoa (-x.1.n)) (-1)] from by unfold nL;rw [if_pos k]);rw [I.o];obtain⟨b,o,Ka,kc,r,u,V,U,k0,Y,K,Z,k4,C,v,hi⟩:=X.node H.o J;have y0:(0:Int)≤(i:Int):=by omega
 have y1:(i:Int) < (n:Int):=by omega
 have m:=O X;have M:=O r;rw [r];obtain⟨N,t⟩:∃ N,N=x.1.n:=⟨_,rfl⟩;rw [← t] at K D F k ⊢
 have Q:=O D;have R:=O F;have P:=O t;have z0:¬ (0:Int)≤N:=by omega
 have z1:N < 0:=k;have wn:wrap64 (-N)=-N:=by unfold wrap64;omega
 clear X J C v r k0 Y Z k4 D F t k I;go_in
 go_wp2_with fail;refine (zC H [45] (i:Int) (by omega)).mono ?_;rintro e w1⟨wP,rfl,d⟩;clear U K u V;go_wp2_with fail;refine (wL m.o.pow (d.o.Ki.mono m.o.b) (Nat.le_trans m.o.b d.o.lw) (N:=-N) (by have:=R.o;omega) (by have:=Q.o;omega) (Below.refl _ _)).mono ?_;rintro e w2⟨rfl,a⟩;have G:=O (d.o.below a);clear a d;go_wp2_with fail;refine (vR G (Go.Lib.itoa (-N)) (-1) (by simp) (by simp;omega)).mono ?_;rintro e w3⟨tX,rfl,L⟩;clear G;go_wp2_with fail;go_end0
 exact⟨_,rfl,O (by rw [← M.o];exact L.o)⟩
theorem acw (H:Hid (PZ S B g w W (.slice A n c) iv pv ps))(X:CX w B A Bi n xs its)(Z:xs[i]? = some x)(R:-1000000≤x.1.n)(U:x.1.n≤1000000)(t:x.1.n < 0)(hb:ps.length+2≤1000000) :
  Calls Tryz.prog 54 #[.pointer (some ⟨g,0,none⟩),.int .i64 i,.bool true] W (l7 S B g w (.slice A n c) iv (ps ++ dI false (nL x.1.n (i:Int)))):=by
 have Y:=O (show nL x.1.n (i:Int)=[tz [45] (i:Int),tz (Go.Lib.itoa (-x.1.n)) (-1)] from by unfold nL;rw [if_pos t]);rw [Y.o];obtain⟨b,o,Ka,kc,D,K,hg,c0,k0,k1,k2,k3,k4,P,L,hi⟩:=X.node H.o Z;have y0:(0:Int)≤(i:Int):=by omega
 have y1:(i:Int) < (n:Int):=by omega
 have v:=O X;have HA:=O D;rw [D];obtain⟨N,I⟩:∃ N,N=x.1.n:=⟨_,rfl⟩;rw [← I] at k2 R U t ⊢
 have N0:=O R;have N1:=O U;have HNX:=O I;have z0:¬ (0:Int)≤N:=by omega
 have z1:N < 0:=t;have wn:wrap64 (-N)=-N:=by unfold wrap64;omega
 clear X Z P L D k0 k1 k3 k4 R U I t Y;go_in
 go_wp2_with fail;refine (zC H [45] (i:Int) (by omega)).mono ?_;rintro e w1⟨wP,rfl,m⟩;clear c0 k2 K hg;go_wp2_with fail;refine (wL v.o.pow (m.o.Ki.mono v.o.b) (Nat.le_trans v.o.b m.o.lw) (N:=-N) (by have:=N1.o;omega) (by have:=N0.o;omega) (Below.refl _ _)).mono ?_;rintro e w2⟨rfl,k⟩;have V:=O (m.o.below k);clear k m;go_wp2_with fail;refine (vR V (Go.Lib.itoa (-N)) (-1) (by simp) (by simp;omega)).mono ?_;rintro e w3⟨tX,rfl,u⟩;clear V;obtain⟨M,F⟩:∃ M,M=(iG ps ([tz [45] (i:Int)] ++ [tz (Go.Lib.itoa (-N)) (-1)])).length:=⟨_,rfl⟩;have d:M=ps.length+2:=by rw [F,eU];simp
 obtain⟨A1,C,a⟩:=d_ u.o.own;have d2:w3.cell? ⟨g,2,none⟩=some (.slice A1 M C):=by rw [F,← a];exact u.o.blk.cell 2
 obtain⟨Q,hQ⟩:∃ Q,Q=ps.length:=⟨_,rfl⟩;rw [← hQ] at d hb
 have HQ:=O hQ;obtain⟨r,G⟩:∃ r,r=Q+1:=⟨_,rfl⟩;have w1:wrap64 ((M:Int) - 1)=(r:Int):=by unfold wrap64;omega
 have w2:wrap64 ((r:Int) - 1)=(Q:Int):=by unfold wrap64;omega
 clear G;have J:Q≤1000000:=by omega
 clear F a hQ d;go_wp2_with fail;refine (cl1 u Q J).mono ?_;rintro e w4⟨Cw,rfl,H4⟩;clear d2;go_wp2_with fail;go_end0
 exact⟨_,rfl,O (by have h:=H4.o;rw [HQ.o,vv] at h;rw [← HA.o];exact h)⟩
theorem aag (H:Hid (PZ S B g w W (.slice A n c) iv pv ps))(X:CX w B A Bi n xs its)(b:xs[i]? = some x)(d:-1000000≤x.1.n)(e:x.1.n≤1000000)(a:ps.length+2≤1000000) :
  Calls Tryz.prog 54 #[.pointer (some ⟨g,0,none⟩),.int .i64 i,.bool false] W (l7 S B g w (.slice A n c) iv (iG ps (nL x.1.n (i:Int)))):=by
 rcases Int.lt_or_le x.1.n 0 with h | h
 ·exact acy H X b d e h a
 ·exact acA H X b d e h a
theorem U6 (H:Hid (PZ S B g w W (.slice A n c) iv pv ps))(X:CX w B A Bi n xs its)(b:xs[i]? = some x)(d:-1000000≤x.1.n)(e:x.1.n≤1000000)(a:ps.length+2≤1000000) :
  Calls Tryz.prog 54 #[.pointer (some ⟨g,0,none⟩),.int .i64 i,.bool true] W (l7 S B g w (.slice A n c) iv (ps ++ dI false (nL x.1.n (i:Int)))):=by
 rcases Int.lt_or_le x.1.n 0 with h | h
 ·exact acw H X b d e h a
 ·exact acz H X b d e h a
end
end
