/-
  A part of the proof.
-/
import Derived.Test.YthepmkjggfijoaaGreatDoorSA
import Derived.Test.YthepmkjggfijoaaGreatDoorS02
set_option linter.all false
set_option maxRecDepth 100000
namespace Mist
structure RS where
 k:Nat
 bad:Bool
 ns:List Nd
def j_ (x:Bs):Int:=((numberOf x).1:Int)
def RS.dR (s:RS):RS:=⟨s.k+1,s.bad,s.ns⟩
def RS.fail (s:RS):RS:=⟨s.k,true,s.ns⟩
def RS.put (n:Nd)(s:RS):List Int × RS:=([(s.ns.length:Int)],⟨s.k,s.bad,s.ns ++ [n]⟩)
def gY:Option (List Int × RS)→(List Int→RS→Option (List Int × RS))→Option (List Int × RS)
 | none,_=>none
 | some (a,s),f=>f a s
section
variable (l:List Tok)
def RS.next (s:RS):Bs:=if s.bad then [] else tx l s.k
def RS.kind (s:RS):Nat:=if s.bad then 0 else (tg l s.k).kind
def RS.place (s:RS):Int:=(tg l s.k).at_
def RS.take (t:Bs)(s:RS):RS:=if s.next l=t then s.dR else s.fail
def RS.word (c:Nat)(s:RS):Bs × RS:=if s.kind l=c then (s.next l,s.dR) else ([],s.fail)
def aK:Nat→Job→RS→Option (List Int × RS)
 | 0,_,_=>none
 | n+1,.expr,s =>
  if s.next l=[105,102] then
   gY (aK n .expr s.dR) fun a s1=>gY (aK n .expr (s1.take l [116,104,101,110])) fun b s2=>gY (aK n .expr (s2.take l [101,108,115,101])) fun c s3 =>
    some (s3.put ⟨19,[],0,[hd a,hd b,hd c],s.place l⟩)
  else if s.next l=[108,101,116] then
   gY (aK n .expr ((s.dR.word l 1).2.take l [61])) fun a s1=>gY (aK n .expr (s1.take l [105,110])) fun b s2=>some (s2.put ⟨20,(s.dR.word l 1).1,0,[hd a,hd b],s.place l⟩)
  else aK n (.lv .or) s
 | n+1,.lv .not,s =>
  if s.next l=[110,111,116] then gY (aK n (.lv .not) s.dR) fun a s1=>some (s1.put ⟨5,[],0,[hd a],s.place l⟩)
  else aK n (.lv .cmp) s
 | n+1,.lv .unary,s =>
  if s.next l=[45] then gY (aK n (.lv .unary) s.dR) fun a s1=>some (s1.put ⟨4,[],0,[hd a],s.place l⟩)
  else aK n .post s
 | n+1,.lv v,s=>gY (aK n (.lv v.below) s) fun a s1=>aK n (.tail v (hd a)) s1
 | n+1,.tail v a,s =>
  if fB v (s.next l)=0 then some ([a],s)
  else gY (aK n (.lv v.below) s.dR) fun b s1=>gY (some (s1.put ⟨fB v (s.next l),[],0,[a,hd b],s.place l⟩)) fun c s2 =>
   if v=.cmp then some ([hd c],s2) else aK n (.tail v (hd c)) s2
 | n+1,.post,s=>gY (aK n .atom s) fun a s1=>aK n (.iq (hd a)) s1
 | n+1,.iq a,s =>
  if s.next l=[46] then gY (some ((s.dR.word l 1).2.put ⟨22,(s.dR.word l 1).1,0,[a],s.place l⟩)) fun c s1=>aK n (.iq (hd c)) s1
  else if s.next l=[91] then
   gY (aK n .expr s.dR) fun b s1=>gY (some ((s1.take l [93]).put ⟨23,[],0,[a,hd b],s.place l⟩)) fun c s2=>aK n (.iq (hd c)) s2
  else some ([a],s)
 | n+1,.atom,s =>
  if s.kind l=2 then some ((s.word l 2).2.put ⟨1,[],j_ (s.word l 2).1,[],s.place l⟩)
  else if s.next l=[116,114,117,101] then some (s.dR.put ⟨2,[],1,[],s.place l⟩)
  else if s.next l=[102,97,108,115,101] then some (s.dR.put ⟨2,[],0,[],s.place l⟩)
  else if s.next l=[40] then gY (aK n .expr s.dR) fun a s1=>some ([hd a],s1.take l [41])
  else if s.next l=[91] then gY (aK n (.list .expr) s.dR) fun as s1=>some ((s1.take l [93]).put ⟨26,[],0,as,s.place l⟩)
  else if (s.word l 1).2.next l=[40] then
   if (s.word l 1).2.dR.next l=[41] then some (((s.word l 1).2.dR.take l [41]).put ⟨21,(s.word l 1).1,0,[],s.place l⟩)
   else gY (aK n (.list .expr) (s.word l 1).2.dR) fun as s1=>some ((s1.take l [41]).put ⟨21,(s.word l 1).1,0,as,s.place l⟩)
  else if (s.word l 1).2.next l=[123] then
   gY (aK n (.list .put) (s.word l 1).2.dR) fun as s1=>some ((s1.take l [125]).put ⟨24,(s.word l 1).1,0,as,s.place l⟩)
  else some ((s.word l 1).2.put ⟨3,(s.word l 1).1,0,[],s.place l⟩)
 | n+1,.put,s=>gY (aK n .expr ((s.word l 1).2.take l [58])) fun a s1=>some (s1.put ⟨25,(s.word l 1).1,0,[hd a],s.place l⟩)
 | n+1,.param,s=>gY (aK n .typ ((s.word l 1).2.take l [58])) fun a s1=>some (s1.put ⟨34,(s.word l 1).1,0,[hd a],s.place l⟩)
 | n+1,.typ,s =>
  if s.next l=[105,110,116] then some (s.dR.put ⟨30,[],0,[],s.place l⟩)
  else if s.next l=[98,111,111,108] then some (s.dR.put ⟨31,[],0,[],s.place l⟩)
  else if s.next l=[91] then
   gY (aK n .typ s.dR) fun a s1=>some ((((s1.take l [59]).word l 2).2.take l [93]).put ⟨33,[],j_ ((s1.take l [59]).word l 2).1,[hd a],s.place l⟩)
  else some ((s.word l 1).2.put ⟨32,(s.word l 1).1,0,[],s.place l⟩)
 | n+1,.list e,s=>gY (aK n e.job s) fun a s1=>aK n (.eu e [hd a]) s1
 | n+1,.eu e acc,s =>
  if s.next l=[44] then gY (aK n e.job s.dR) fun a s1=>aK n (.eu e (acc ++ [hd a])) s1
  else some (acc,s)
end
def au (k M:Nat)(q:Option (List Int × RS)):Prop:=∃ as ns,q=some (as,⟨k,true,ns⟩)∧ns.length≤M
section
variable {l:List Tok} {k M M1:Nat} {ns:List Nd}
theorem au.put (n:Nd)(h:ns.length < M):au k M (some (RS.put n ⟨k,true,ns⟩)):=⟨_,_,rfl,by simp;omega⟩
theorem au.give (as:List Int)(h:ns.length≤M):au k M (some (as,⟨k,true,ns⟩)):=⟨_,_,rfl,h⟩
theorem au.gY {q:Option (List Int × RS)}{g:List Int→RS→Option (List Int × RS)}(h:au k M1 q)(a:∀ as ns,ns.length≤M1→au k M (g as ⟨k,true,ns⟩)):au k M (Mist.gY q g):=by
 obtain⟨as,ns,rfl,b⟩:=h;exact a as ns b
theorem au.mono {q:Option (List Int × RS)}(h:au k M1 q)(b:M1≤M):au k M q:=by
 obtain⟨as,ns,e,a⟩:=h;exact⟨as,ns,e,by omega⟩
theorem Ii (v:Lv):fB v []=0:=by cases v <;> rfl
def eG (M:Nat)(r:Option j6)(q:Option (List Int × RS)):Prop :=
 (∀ as k ns,r=some (.ok as k ns)→q=some (as,⟨k,false,ns⟩))∧∀ k,r=some (.bad k)→au k M q
theorem eG.add (n:Nd):eG M (Mist.add n k ns) (some (RS.put n ⟨k,false,ns⟩)) :=
 ⟨fun as f d e=>(by injection e with e;injection e with a b c;subst a;subst b;subst c;rfl),fun k e=>(by injection e with e;cases e)⟩
theorem eG.give (as:List Int):eG M (some (.ok as k ns)) (some (as,⟨k,false,ns⟩)) :=
 ⟨fun as f d e=>(by injection e with e;injection e with a b c;subst a;subst b;subst c;rfl),fun k e=>(by injection e with e;cases e)⟩
theorem eG.thn {r:Option j6}{q:Option (List Int × RS)}{f:List Int→Nat→List Nd→Option j6}{g:List Int→RS→Option (List Int × RS)}(h:eG M1 r q)
  (a:∀ as k ns,r=some (.ok as k ns)→eG M (f as k ns) (g as ⟨k,false,ns⟩)) (b:∀ as k ns,ns.length≤M1→au k M (g as ⟨k,true,ns⟩)):eG M (Mist.thn r f) (Mist.gY q g):=by
 cases r with
 | none=>exact⟨fun _ _ _ e=>(by cases e),fun _ e=>(by cases e)⟩
 | some x =>
  cases x with
  | ok as k ns=>rw [h.1 as k ns rfl];exact a as k ns rfl
  | bad k =>
   obtain⟨as,ns,rfl,c⟩:=h.2 k rfl;exact⟨fun _ _ _ e=>(by injection e with e;cases e),fun d e=>by injection e with e;injection e with e;subst e;exact b as k ns c⟩
theorem eG.need {t:Bs}{f:Option j6}{q:Option (List Int × RS)}(h:tx l k=t→RS.take l t ⟨k,false,ns⟩=⟨k+1,false,ns⟩→eG M f q)(b:RS.take l t ⟨k,false,ns⟩=⟨k,true,ns⟩→au k M q):eG M (Mist.need l t k f) q:=by
 unfold Mist.need;by_cases e:tx l k=t
 ·rw [if_pos e];exact h e (if_pos e)
 ·rw [if_neg e];exact⟨fun _ _ _ e=>(by injection e with e;cases e),fun c a=>by injection a with a;injection a with a;subst a;exact b (if_neg e)⟩
theorem eG.bI {c:Nat}{f:Option j6}{q:Option (List Int × RS)}(h:(tg l k).kind=c→RS.word l c ⟨k,false,ns⟩=(tx l k,⟨k+1,false,ns⟩)→eG M f q)(b:RS.word l c ⟨k,false,ns⟩=([],⟨k,true,ns⟩)→au k M q) :
  eG M (Mist.bI l c k f) q:=by
 unfold Mist.bI;by_cases e:(tg l k).kind=c
 ·rw [if_pos e];exact h e (if_pos e)
 ·rw [if_neg e];exact⟨fun _ _ _ e=>(by injection e with e;cases e),fun d a=>by injection a with a;injection a with a;subst a;exact b (if_neg e)⟩
theorem eG.mono {r:Option j6}{q:Option (List Int × RS)}(h:eG M1 r q)(a:M1≤M):eG M r q:=⟨h.1,fun k e=>(h.2 k e).mono a⟩
variable {en:Int}
theorem aW {m:Nat}{j:Job}{as:List Int}{d:Nat}{b:List Nd}(e:run l en m j k ns=some (.ok as d b))(f:k≤l.length)(g:Wf ns)(hi:Ids j.args ns.length)(c:∀ e a,j=.eu e a→a ≠ []):Goes l k (k+j.reads) ns as d b :=
 ((IX m j k ns f g hi c).2 _ e).1 as d b rfl
end
end Mist
namespace Mist
section
variable {l:List Tok} {en:Int}
theorem xY {k:Nat}{ns:List Nd}(b:k≤l.length)(a:Wf ns):dX True l k (k+1) ns (sN l en k ns):=by
 unfold sN;split
 ·rename_i e
  have h1:=aP e (by simp);exact dX.bI (by simp) (by omega) fun g=>dX.add _ (by omega) (by omega) (by omega) (bQ _) a (Ids.nil _)
 ·exact dX.bI (by simp) b fun g=>dX.add _ (by omega) (by omega) (by omega) (bQ _) a (Ids.nil _)
theorem qA {m:Nat}{j:Job}{k:Nat}{ns:List Nd}(c:k≤l.length)(d:Wf ns)(hi:Ids j.args ns.length)(b:∀ e a,j=.eu e a→a ≠ []):dX (13 * (l.length - k)+j.rank < m) l k (k+j.reads) ns (run l en m j k ns):=IX m j k ns c d hi b
theorem Cb {n k k0:Nat}{ps:List Int}{t u:Int}{a:Nat}{ns ns0:List Nd}(c:a≤l.length)(h0:k+1≤a)(r:ns.length+k0+1≤ns0.length+a)(d:∃ t,ns=ns0 ++ t)(e:Wf ns)(hi:Ids (ps ++ [t]) ns.length) :
  dX (13 * (l.length - a)+12 < n) l k0 (k+1) ns0 (kU l en n k ps t u a ns):=by
 unfold kU;refine dX.need (by simp) c fun g=>?_
 refine (qA (m:=n) (j:=.expr) (by omega) e (Ids.nil _) (by simp)).thn (fun h=>by simp only [Job.rank];omega) fun b v o q=>?_
 have f:=q.lo;have w:=q.few;have i:=q.len;simp only [Job.reads] at f
 exact dX.add _ (by omega) q.le (by omega) (dK d q.more) q.wf ((hi.mono i).app (Ids.cons q.hd (Ids.nil _)))
theorem Cc {n k k0:Nat}{ps:List Int}{a:Nat}{ns ns0:List Nd}(f:a≤l.length)(h0:k+1≤a)(w:ns.length+k0+1≤ns0.length+a)(c:∃ t,ns=ns0 ++ t)(i:Wf ns)(hi:Ids ps ns.length) :
  dX (13 * (l.length - a)+12 < n) l k0 (k+1) ns0 (mg l en n k ps a ns):=by
 unfold mg;refine dX.need (by simp) f fun g=>dX.need (by simp) (by omega) fun u=>?_
 refine (qA (m:=n) (j:=.typ) (by omega) i (Ids.nil _) (by simp)).thn (fun h=>by simp only [Job.rank];omega) fun b x r q=>?_
 have o:=q.lo;have y:=q.few;have d:=q.len;simp only [Job.reads] at o
 split
 ·rename_i e
  have h1:=aP e (by simp);split
  ·exact dX.bad (by omega)
  ·refine dX.bI (by simp) (by omega) fun v=>?_
   exact (Cb (by omega) (by omega) (by omega) (dK c q.more) q.wf ((hi.mono d).app (Ids.cons q.hd (Ids.nil _)))).imp (fun h=>by omega)
 ·exact (Cb q.le (by omega) (by omega) (dK c q.more) q.wf ((hi.mono d).app (Ids.cons q.hd (Ids.nil _)))).imp (fun h=>by omega)
theorem Aw {k:Nat}(h:¬ gy (tx l k)=0):k < l.length:=by
 rcases Nat.lt_or_ge k l.length with h1 | h1
 ·exact h1
 ·exfalso;apply h
  have:tx l k=[]:=by unfold tx;rw [nS l k h1]
  rw [this];rfl
theorem uW {n k:Nat}{ns:List Nd}(w:k≤l.length)(d:Wf ns):dX (13 * (l.length - k)+12 < n) l k (k+1) ns (item l en n k ns):=by
 unfold item;split
 case isFalse=>exact dX.bad w
 rename_i e
 have h1:=fA e (by simp);split
 case h_2=>exact dX.bad w
 rename_i B _
 cases B with
 | choose =>
  unfold gI;refine dX.bI (by simp) (by omega) fun g=>dX.need (by simp) (by omega) fun i=>?_
  refine (xY (by omega) d).thn (fun _=>trivial) fun a u o q=>dX.need (by simp) q.le fun y=>?_
  have c:=q.lo;have f:=q.few;refine (xY (by omega) q.wf).thn (fun _=>trivial) fun b F C r=>?_
  have r1:=r.lo;have r2:=r.few;have G:=r.len;have E:=q.hd;exact dX.add _ (by omega) r.le (by omega) (dK q.more r.more) r.wf (Ids.cons (by omega) (Ids.cons r.hd (Ids.nil _)))
 | record =>
  unfold gI;refine dX.bI (by simp) (by omega) fun g=>dX.need (by simp) (by omega) fun i=>dX.need (by simp) (by omega) fun y=>?_
  refine (qA (m:=n) (j:=.list .param) (by omega) d (Ids.nil _) (by simp)).thn (fun h=>by simp only [Job.rank];omega) fun as u o q=>dX.need (by simp) q.le fun D=>?_
  have c:=q.lo;have f:=q.few;simp only [Job.reads] at c
  exact dX.add _ (by omega) (by omega) (by omega) q.more q.wf q.ids
 | zu =>
  unfold gI;refine dX.bI (by simp) (by omega) fun g=>dX.need (by simp) (by omega) fun i=>?_
  split
  ·exact (Cc (by omega) (by omega) (by omega) (bQ _) d (Ids.nil _)).imp (fun h=>by omega)
  ·refine (qA (m:=n) (j:=.list .param) (by omega) d (Ids.nil _) (by simp)).thn (fun h=>by simp only [Job.rank];omega) fun as u o q=>?_
   have c:=q.lo;have f:=q.few;simp only [Job.reads] at c
   exact (Cc q.le (by omega) (by omega) q.more q.wf q.ids).imp (fun h=>by omega)
 | yB =>
  unfold gI;refine dX.bI (by simp) (by omega) fun g=>dX.need (by simp) (by omega) fun i=>?_
  refine (qA (m:=n) (j:=.expr) (by omega) d (Ids.nil _) (by simp)).thn (fun h=>by simp only [Job.rank];omega) fun b x v q=>?_
  have c:=q.lo;have f:=q.few;simp only [Job.reads] at c
  exact dX.add _ (by omega) q.le (by omega) q.more q.wf (Ids.cons q.hd (Ids.nil _))
 | observe =>
  unfold gI;refine dX.bI (by simp) (by omega) fun g=>dX.need (by simp) (by omega) fun i=>?_
  refine (qA (m:=n) (j:=.expr) (by omega) d (Ids.nil _) (by simp)).thn (fun h=>by simp only [Job.rank];omega) fun b x v q=>?_
  have c:=q.lo;have f:=q.few;simp only [Job.reads] at c
  exact dX.add _ (by omega) q.le (by omega) q.more q.wf (Ids.cons q.hd (Ids.nil _))
 | kW =>
  unfold gI;exact dX.bI (by simp) (by omega) fun g=>dX.add _ (by omega) (by omega) (by omega) (bQ _) d (Ids.nil _)
 | ask =>
  show dX _ l k (k+1) ns (wT l en n k ns)
  unfold wT;split
  ·exact dX.bad (by omega)
  ·rename_i A
   have h2:=Aw A;split
   ·exact dX.add _ (by omega) (by omega) (by omega) (bQ _) d (Ids.nil _)
   ·split
    ·refine (qA (m:=n) (j:=.list .expr) (by omega) d (Ids.nil _) (by simp)).thn (fun h=>by simp only [Job.rank];omega) fun as u o q=>?_
     have c:=q.lo;have f:=q.few;simp only [Job.reads] at c
     exact dX.add _ (by omega) q.le (by omega) q.more q.wf q.ids
    ·refine (qA (m:=n) (j:=.expr) (by omega) d (Ids.nil _) (by simp)).thn (fun h=>by simp only [Job.rank];omega) fun b x v q=>?_
     have c:=q.lo;have f:=q.few;simp only [Job.reads] at c
     exact dX.add _ (by omega) q.le (by omega) q.more q.wf (Ids.cons q.hd (Ids.nil _))
theorem u6 {n k b:Nat}{ns a:List Nd}{as:List Int}(c:k≤l.length)(d:Wf ns)(e:item l en n k ns=some (.ok as b a)):Goes l k (k+1) ns as b a:=((uW c d).2 _ e).1 as b a rfl
end
section
variable (l:List Tok)
def rz (s:RS):List Int × RS :=
 if s.next l=[45] then (s.dR.word l 2).2.put ⟨1,[],-j_ (s.dR.word l 2).1,[],s.place l⟩
 else (s.word l 2).2.put ⟨1,[],j_ (s.word l 2).1,[],s.place l⟩
def rup (s:RS):Int × RS :=
 if s.next l=[117,112,116,111] then
  if s.dR.next l=[48] then (j_ (s.dR.fail.word l 2).1,(s.dR.fail.word l 2).2)
  else (j_ (s.dR.word l 2).1,(s.dR.word l 2).2)
 else (0,s)
def iW (n:Nat)(x:Bs)(at_:Int)(ps:List Int)(s:RS):Option (List Int × RS) :=
 gY (aK l n .typ ((s.take l [41]).take l [58])) fun t s1=>gY (aK l n .expr ((rup l s1).2.take l [61])) fun b s2=>some (s2.put ⟨42,x,(rup l s1).1,ps ++ [hd t] ++ [hd b],at_⟩)
def JF (n:Nat)(at_:Int)(s:RS):Option (List Int × RS) :=
 if gy (s.next l)=0 then some ([0],s.fail)
 else if gy (s.next l)=7 then some (s.dR.put ⟨46,[],7,[],at_⟩)
 else if gy (s.next l)=8 then gY (aK l n (.list .expr) s.dR) fun as s1=>some (s1.put ⟨46,[],8,as,at_⟩)
 else gY (aK l n .expr s.dR) fun a s1=>some (s1.put ⟨46,[],(gy (s.next l):Nat),[hd a],at_⟩)
def d9 (n:Nat)(at_:Int)(x:Bs):It→RS→Option (List Int × RS)
 | .choose,s=>gY (some (rz l (s.take l [58]))) fun a s1=>gY (some (rz l (s1.take l [46,46]))) fun b s2=>some (s2.put ⟨40,x,0,[hd a,hd b],at_⟩)
 | .record,s=>gY (aK l n (.list .param) ((s.take l [61]).take l [123])) fun as s1=>some ((s1.take l [125]).put ⟨41,x,0,as,at_⟩)
 | .zu,s=>if (s.take l [40]).next l=[41] then iW l n x at_ [] (s.take l [40]) else gY (aK l n (.list .param) (s.take l [40])) fun ps s1=>iW l n x at_ ps s1
 | .yB,s=>gY (aK l n .expr (s.take l [61])) fun a s1=>some (s1.put ⟨43,x,0,[hd a],at_⟩)
 | .observe,s=>gY (aK l n .expr (s.take l [58])) fun a s1=>some (s1.put ⟨44,x,0,[hd a],at_⟩)
 | .kW,s=>some (s.put ⟨45,x,0,[],at_⟩)
 | .ask,_=>none
def C9 (n:Nat)(s:RS):Option (List Int × RS) :=
 if s.kind l=3 then
  match Hr (s.next l) with
  | some .ask=>JF l n (s.place l) s.dR
  | some i=>d9 l n (s.place l) (s.dR.word l 1).1 i (s.dR.word l 1).2
  | none=>some ([0],s.fail)
 else some ([0],s.fail)
def nM (n:Nat):Nat→RS→List Int→Option (List Int × RS)
 | 0,_,_=>none
 | m+1,s,its =>
  if s.bad=false∧s.k < l.length then gY (C9 l n s) fun a s1=>nM n m (s1.take l [59]) (its ++ [hd a])
  else some (its,s)
end
section
variable {l:List Tok} {en:Int} {k M:Nat} {ns:List Nd}
theorem eG.bad {q:Option (List Int × RS)}(h:au k M q):eG M (some (.bad k)) q :=
 ⟨fun _ _ _ e=>(by injection e with e;cases e),fun a e=>by injection e with e;injection e with e;subst e;exact h⟩
section
variable (hK:∀ t ∈ l,Mist.kind t.text=t.kind)
include hK
end
end
end Mist
namespace Mist
def dB (ns:List Nd)(c:Int):Nat × Bool:=((ns.getD c.toNat default).kind,decide ((ns.getD c.toNat default).n < 0))
def ru (n:Nd)(i:Nat)(q:Nat × Bool):Bool:=mJ n i q.1 && !(q.1 == 1 && q.2 && !(n.kind == 40))
def oJ (n:Nd):Nat→List (Nat × Bool)→Bool
 | _,[]=>true
 | i,q :: r=>ru n i q && oJ n (i+1) r
def okB (n:Nd)(ki:List (Nat × Bool)):Bool :=
 (lq n.kind || n.kind == 25 || iH n.kind || n.kind == 34 || eP n.kind) && (ig n.kind == isName n.text) && (ig n.kind || n.text.isEmpty) && jC n && gu n && within n.at_ 0 2000 && oJ n 0 ki
def uP (ns:List Nd)(n:Nd):Prop:=okB n (n.kids.map (dB ns))=true
def jN (ns:List Nd):Prop:=∀ (i:Nat) n,ns[i]? = some n→uP ns n
inductive Fo (ns:List Nd):Nat→Nat→List Int→Prop
 | nil (a:Nat):Fo ns a a []
 | snoc {a m b:Nat} {as:List Int} {n:Nd} (h:Fo ns a m as) (k:Fo ns m b n.kids) (e:ns[b]? = some n):Fo ns a (b+1) (as ++ [(b:Int)])
theorem Fo.le {ns:List Nd}{a b:Nat}{as:List Int}(h:Fo ns a b as):a≤b:=by
 induction h with
 | nil=>exact aaJ _
 | snoc _ _ _ i j=>omega
theorem Fo.mono {ns:List Nd}{a b:Nat}{as:List Int}(h:Fo ns a b as)(t:List Nd):Fo (ns ++ t) a b as:=by
 induction h with
 | nil a=>exact .nil a
 | snoc _ _ e i j=>exact .snoc i j (by rw [List.getElem?_append_left (aaE.1 e).1];exact e)
theorem Fo.append {ns:List Nd}{a m b:Nat}{as c:List Int}(h:Fo ns a m as)(k:Fo ns m b c):Fo ns a b (as ++ c):=by
 induction k with
 | nil=>simpa using h
 | snoc f d e i j=>rw [← List.append_assoc];exact .snoc (i h) d e
theorem Fo.one {ns:List Nd}{a b:Nat}{n:Nd}(h:Fo ns a b n.kids)(e:ns[b]? = some n):Fo ns a (b+1) [(b:Int)]:=.snoc (.nil a) h e
theorem Fo.ids {ns:List Nd}{a b:Nat}{as:List Int}(h:Fo ns a b as):∀ c ∈ as,(a:Int)≤c∧c < (b:Int):=by
 induction h with
 | nil=>intro c d;cases d
 | snoc h k e i j =>
  intro c d;have h1:=h.le;have h2:=k.le;rcases List.mem_append.1 d with d | d
  ·have:=i c d;omega
  ·have:c=_:=List.mem_singleton.1 d
   omega
theorem Aa {ns:List Nd}{c:Int}(t:List Nd)(h0:0≤c)(h:c < (ns.length:Int)):dB (ns ++ t) c=dB ns c:=by
 unfold dB;have h1:c.toNat < ns.length:=by omega
 simp [aaH,List.getElem?_append_left h1]
theorem uP.mono {ns:List Nd}{n:Nd}(h:uP ns n)(b:Ids n.kids ns.length)(t:List Nd):uP (ns ++ t) n:=by
 unfold uP at h ⊢
 rw [← h]
 congr 1
 apply List.map_congr_left
 intro c a;exact Aa t (b c a).1 (b c a).2
theorem jN.add {ns:List Nd}{n:Nd}(h:jN ns)(e:Wf ns)(d:uP ns n)(b:Ids n.kids ns.length):jN (ns ++ [n]):=by
 intro i m hi;rcases Nat.lt_or_ge i ns.length with h1 | h1
 ·rw [List.getElem?_append_left h1] at hi
  refine (h i m hi).mono (fun c a=>?_) _
  have:=e i m hi c a
  omega
 ·rw [List.getElem?_append_right h1] at hi
  have h2:i - ns.length=0:=by
   rcases Nat.eq_zero_or_pos (i - ns.length) with h2 | h2
   ·exact h2
   ·rw [List.getElem?_eq_none (by simp;omega)] at hi;cases hi
  rw [h2] at hi
  have:n=m:=by simpa using hi
  subst this;exact d.mono b _
def pE (q:Nat × Bool):Bool:=lq q.1 && !(q.1 == 1 && q.2)
def El.p:El→Nat × Bool→Bool
 | .expr=>pE
 | .put=>fun q=>q.1 == 25
 | .param=>fun q=>q.1 == 34
def Job.p:Job→Nat × Bool→Bool
 | .put=>fun q=>q.1 == 25
 | .param=>fun q=>q.1 == 34
 | .typ=>fun q=>iH q.1
 | .list e=>e.p
 | .eu e _=>e.p
 | _=>pE
def Job.many:Job→Bool
 | .list _=>true
 | .eu _ _=>true
 | _=>false
structure Grown (lo:Nat) (ns0:List Nd) (p:Nat × Bool→Bool) (many:Bool) (as:List Int) (ns:List Nd):Prop where
 ok:jN ns
 wf:Wf ns
 more:∃ t,ns=ns0 ++ t
 fo:Fo ns lo ns.length as
 all:∀ a ∈ as,p (dB ns a)=true
 ne:as ≠ []
 one:many=false→as=[hd as]
def Seg (lo:Nat)(ns0:List Nd)(p:Nat × Bool→Bool)(many:Bool)(r:Option j6):Prop:=∀ as k ns,r=some (.ok as k ns)→Grown lo ns0 p many as ns
theorem Seg.bad {lo k:Nat}{ns0:List Nd}{p:Nat × Bool→Bool}{many:Bool}:Seg lo ns0 p many (some (.bad k)):=fun as k ns e=>by injection e with e;cases e
theorem Seg.none {lo:Nat}{ns0:List Nd}{p:Nat × Bool→Bool}{many:Bool}:Seg lo ns0 p many none:=fun as k ns e=>by cases e
theorem Seg.add {lo k:Nat}{ns0 ns:List Nd}{p:Nat × Bool→Bool}{many:Bool}(n:Nd)(j:jN ns)(d:Wf ns)(q:∃ t,ns=ns0 ++ t)(b:Fo ns lo ns.length n.kids)(r:uP ns n)(u:p (n.kind,decide (n.n < 0))=true):Seg lo ns0 p many (Mist.add n k ns):=by
 intro as w v e;injection e with e
 injection e with f g i
 subst f;subst g;subst i;have hi:Ids n.kids ns.length:=fun c m=>by have:=b.ids c m;omega
 have o:(ns ++ [n])[ns.length]? = some n:=by simp
 refine⟨j.add d r hi,d.add hi,dK q ⟨[n],rfl⟩,?_,fun a h=>?_,by simp,fun _=>rfl⟩
 ·rw [aaO,aaT];exact Fo.one (b.mono _) o
 ·have:a=_:=List.mem_singleton.1 h
  subst this;unfold dB
  simpa [aaH] using u
theorem Seg.give {lo k:Nat}{ns:List Nd}{p:Nat × Bool→Bool}{many:Bool}{as:List Int}(f:jN ns)(j:Wf ns)(g:Fo ns lo ns.length as)(i:∀ a ∈ as,p (dB ns a)=true)(h:as ≠ [])(h1:many=false→as=[hd as]):Seg lo ns p many (some (.ok as k ns)):=by
 intro as n m e;injection e with e
 injection e with b c d
 subst b;subst c;subst d;exact⟨f,j,bQ _,g,i,h,h1⟩
theorem Seg.need {l:List Tok}{t:Bs}{k lo:Nat}{ns0:List Nd}{p:Nat × Bool→Bool}{many:Bool}{f:Option j6}(h:tx l k=t→Seg lo ns0 p many f):Seg lo ns0 p many (Mist.need l t k f):=by
 unfold Mist.need;split
 ·rename_i e;exact h e
 ·exact Seg.bad
theorem Seg.bI {l:List Tok}{c k lo:Nat}{ns0:List Nd}{p:Nat × Bool→Bool}{many:Bool}{f:Option j6}(h:(tg l k).kind=c→Seg lo ns0 p many f):Seg lo ns0 p many (Mist.bI l c k f):=by
 unfold Mist.bI;split
 ·rename_i e;exact h e
 ·exact Seg.bad
theorem Seg.thn {lo a:Nat}{ns0 b:List Nd}{p p1:Nat × Bool→Bool}{many many1:Bool}{r:Option j6}{f:List Int→Nat→List Nd→Option j6}(h:Seg a b p1 many1 r)(c:∀ as k ns,r=some (.ok as k ns)→Grown a b p1 many1 as ns→Seg lo ns0 p many (f as k ns)):Seg lo ns0 p many (Mist.thn r f):=by
 cases r with
 | none=>exact Seg.none
 | some x =>
  cases x with
  | bad k=>exact Seg.bad
  | ok as k ns=>exact c as k ns rfl (h as k ns rfl)
theorem Seg.on {lo:Nat}{ns0 a:List Nd}{p:Nat × Bool→Bool}{many:Bool}{r:Option j6}(h:Seg lo a p many r)(b:∃ t,a=ns0 ++ t):Seg lo ns0 p many r:=fun as k ns e =>
 let g:=h as k ns e
 ⟨g.ok,g.wf,dK b g.more,g.fo,g.all,g.ne,g.one⟩
theorem Seg.imp {lo:Nat}{ns0:List Nd}{p q:Nat × Bool→Bool}{many:Bool}{r:Option j6}(h:Seg lo ns0 p many r)(c:∀ x,p x=true→q x=true):Seg lo ns0 q many r:=fun as k ns e =>
 let g:=h as k ns e
 ⟨g.ok,g.wf,g.more,g.fo,fun a b=>c _ (g.all a b),g.ne,g.one⟩
structure rF (l:List Tok):Prop where
 kind:∀ t ∈ l,Mist.kind t.text=t.kind
 at_:∀ t ∈ l,0≤t.at_∧t.at_≤2000
section
variable {l:List Tok} {en:Int} (hT:rF l)
include hT
omit hT in
theorem z_:isName []=false:=by decide
omit hT in
theorem jT {ns:List Nd}{n:Nd}{p:Nat × Bool→Bool}(h:∀ i q,p q=true→ru n i q=true):∀ (L:List Int) i,(∀ a ∈ L,p (dB ns a)=true)→oJ n i (L.map (dB ns))=true
 | [],_,_=>rfl
 | a :: r,i,ha=>by
  rw [List.map_cons,oJ,h i _ (ha a (List.mem_cons_self ..)),jT h r (i+1) (fun b c=>ha b (List.mem_cons_of_mem _ c))];rfl
def known (K:Nat):Bool:=lq K || K == 25 || iH K || K == 34 || eP K
omit hT in
theorem bq {K:Nat}(hK:ig K=false):(ig K == isName [])=true∧(ig K || ([]:Bs).isEmpty)=true:=by
 rw [z_,hK];exact⟨rfl,rfl⟩
omit hT in
omit hT in
theorem Ij {K:Nat}(h:6≤K∧K≤18):(K ≠ 24∧K ≠ 41∧K ≠ 34∧K ≠ 33∧K ≠ 40∧K ≠ 42)∧known K=true∧ig K=false∧(∀ a b:Int,jC ⟨K,[],0,[a,b],0⟩=true)∧(∀ as,gu ⟨K,[],0,as,0⟩=true)∧pE (K,decide ((0:Int) < 0))=true:=by
 have:K=6∨K=7∨K=8∨K=9∨K=10∨K=11∨K=12∨K=13∨K=14∨K=15∨K=16∨K=17∨K=18:=by omega
 rcases this with rfl | rfl | rfl | rfl | rfl | rfl | rfl | rfl | rfl | rfl | rfl | rfl | rfl <;> exact⟨by decide,by decide,by decide,fun _ _=>rfl,fun _=>rfl,by decide⟩
omit hT in
theorem Fo.more {ns c:List Nd}{a b:Nat}{as:List Int}(h:Fo ns a b as)(k:∃ t,c=ns ++ t):Fo c a b as:=by
 obtain⟨t,rfl⟩:=k;exact h.mono t
omit hT in
theorem jc {ns d:List Nd}{a b:Nat}{as:List Int}{p:Nat × Bool→Bool}(h:Fo ns a b as)(g:b≤ns.length)(f:∀ c ∈ as,p (dB ns c)=true)(k:∃ t,d=ns ++ t):∀ c ∈ as,p (dB d c)=true:=by
 obtain⟨t,rfl⟩:=k;intro c e
 have:=h.ids c e
 rw [Aa t (by omega) (by omega)];exact f c e
omit hT in
omit hT in
omit hT in
omit hT in
theorem Fo.nil_eq {ns:List Nd}{a b:Nat}{as:List Int}(h:Fo ns a b as)(e:as=[]):a=b:=by
 cases h with
 | nil=>rfl
 | snoc _ _ _=>simp at e
end
end Mist
namespace Mist
theorem Fo.each {ns:List Nd}{a b:Nat}{as:List Int}(h:Fo ns a b as):∀ i,a≤i→i < b→∃ n m,ns[i]? = some n∧a≤m∧Fo ns m i n.kids:=by
 induction h with
 | nil=>intro i h1 h2;omega
 | @snoc a m b as n h k e i j =>
  intro x h1 h2;rcases Nat.lt_or_ge x m with h3 | h3
  ·exact i x h1 h3
  ·rcases Nat.lt_or_ge x b with h4 | h4
   ·obtain⟨g,f,c,o,d⟩:=j x h3 h4;exact⟨g,f,c,by have:=h.le;omega,d⟩
   ·have:x=b:=by omega
    subst this;exact⟨n,m,e,h.le,k⟩
theorem Fo.inv {ns:List Nd}{a c:Nat}{f:List Int}(h:Fo ns a c f):∀ as x,f=as ++ [x]→∃ m b n,c=b+1∧x=(b:Int)∧Fo ns a m as∧Fo ns m b n.kids∧ns[b]? = some n:=by
 cases h with
 | nil=>intro as x e;simp at e
 | @snoc a m b as' n h k e =>
  intro as x g;obtain⟨rfl,d⟩:=List.append_inj' g rfl;injection d with d
  exact⟨m,b,n,rfl,d.symm,h,k,e⟩
theorem Fo.uniq {ns:List Nd}{a b:Nat}{as:List Int}(h:Fo ns a b as):∀ c,Fo ns c b as→a=c:=by
 induction h with
 | nil a=>intro c f;exact (f.nil_eq rfl).symm
 | @snoc a m b as n h k e i j =>
  intro c f;obtain⟨q,g,v,r,u,h1,o,d⟩:=f.inv as b rfl
  have:g=b:=by omega
  subst this;rw [e] at d
  injection d with d
  subst d
  have:=j q o
  subst this;exact i c h1
theorem Fo.apart {ns:List Nd}{a b:Nat}{as:List Int}(h:Fo ns a b as):∀ i n,a≤i→i < b→ns[i]? = some n→∀ c ∈ n.kids,c ∉ as:=by
 induction h with
 | nil=>intro i n h1 h2;omega
 | @snoc a m b as n h k e ih jh =>
  intro x u h1 h2 f c j g
  have q:c < (x:Int):=by
   obtain⟨v,r,d,h3,o⟩:=(Fo.snoc h k e).each x h1 h2;rw [f] at d;injection d with d;subst d
   exact (o.ids c j).2
  rcases List.mem_append.1 g with g | g
  ·have h4:=h.ids c g;rcases Nat.lt_or_ge x m with h3 | h3
   ·exact ih x u h1 h3 f c j g
   ·rcases Nat.lt_or_ge x b with h5 | h5
    ·obtain⟨v,r,d,h6,o⟩:=k.each x h3 h5;rw [f] at d;injection d with d;subst d
     have:=o.ids c j
     omega
    ·have:x=b:=by omega
     subst this;rw [e] at f;injection f with f;subst f
     have:=k.ids c j
     omega
  ·have:c=(b:Int):=List.mem_singleton.1 g
   omega
theorem Fo.parent {ns:List Nd}{a b:Nat}{as:List Int}(h:Fo ns a b as):∀ i,a≤i→i < b→(i:Int) ∈ as∨∃ j n,a≤j∧j < b∧ns[j]? = some n∧(i:Int) ∈ n.kids:=by
 induction h with
 | nil=>intro i h1 h2;omega
 | @snoc a m b as n h k e ih jh =>
  intro x h1 h2;have h9:=h.le;have h8:=k.le;rcases Nat.lt_or_ge x m with h3 | h3
  ·rcases ih x h1 h3 with h4 | ⟨j,o,c,f,d,g⟩
   ·exact .inl (List.mem_append_left _ h4)
   ·exact .inr ⟨j,o,c,by omega,d,g⟩
  ·rcases Nat.lt_or_ge x b with h5 | h5
   ·rcases jh x h3 h5 with h4 | ⟨j,o,c,f,d,g⟩
    ·exact .inr ⟨b,n,by omega,by omega,e,h4⟩
    ·exact .inr ⟨j,o,by omega,by omega,d,g⟩
   ·have:x=b:=by omega
    subst this;exact .inl (List.mem_append_right _ (List.mem_singleton.2 rfl))
theorem Fo.Ae {ns:List Nd}{n:Nat}{as:List Int}(h:Fo ns 0 n as){i j:Nat}{x y:Nd}(hi:i < n)(m:j < n)(a:ns[i]? = some x)(g:ns[j]? = some y){c:Int}(b:c ∈ x.kids)(hy:c ∈ y.kids):i=j:=by
 have d:∀ {i j:Nat} {x y:Nd},i < n→j < n→ns[i]? = some x→ns[j]? = some y→c ∈ x.kids→c ∈ y.kids→¬ i < j:=by
  intro i j x y hi m a g b hy o;obtain⟨w,v,e,_,r⟩:=h.each i (aaL _) hi;obtain⟨A,u,f,_,q⟩:=h.each j (aaL _) m;rw [a] at e;injection e with e;subst e
  rw [g] at f;injection f with f;subst f
  have h1:=r.ids c b;have h2:=q.ids c hy;rcases Nat.lt_or_ge i u with h3 | h3
  ·omega
  ·exact q.apart i x h3 o a c b hy
 rcases Nat.lt_trichotomy i j with h1 | h1 | h1
 ·exact absurd h1 (d hi m a g b hy)
 ·exact h1
 ·exact absurd h1 (d m hi g a hy b)
theorem Fo.len {ns:List Nd}{a b:Nat}{as:List Int}(h:Fo ns a b as):as.length+a≤b:=by
 induction h with
 | nil=>simp
 | snoc h k e i j=>have:=k.le;rw [aaO];simp;omega
def o7 (q:Nat→Bool)(out:List Int)(l:List Int)(b:Int):Option Int :=
 l.foldr (fun c (o:Option Int)=>o.bind fun a=>if a < 0∨c ≠ a∨(!q a.toNat)=true then none else some (a - out.getD a.toNat 0)) (some b)
theorem EB (out l:List Int)(b:Int):lT out l b=o7 (fun _=>true) out l b:=by
 unfold lT o7
 congr 1
 funext c o
 congr 1
 funext a
 by_cases h1:c=a <;> by_cases h2:a < 0 <;> simp [h1,h2]
theorem wM (t:Tr)(a:List Int):vH t a=o7 (fun i=>eP (nd t i).kind) a t.items ((t.nodes.length:Int) - 1):=rfl
theorem Ir (q:Nat→Bool)(out l:List Int)(c b:Int):o7 q out (l ++ [c]) b=if b < 0∨c ≠ b∨(!q b.toNat)=true then none else o7 q out l (b - out.getD b.toNat 0):=by
 have d:∀ l:List Int,l.foldr (fun c (o:Option Int)=>o.bind fun a=>if a < 0∨c ≠ a∨(!q a.toNat)=true then none else some (a - out.getD a.toNat 0)) none=none:=by
  intro l;induction l with
  | nil=>rfl
  | cons a r e=>rw [List.foldr_cons,e];rfl
 unfold o7;rw [List.foldr_append];simp only [List.foldr_cons,List.foldr_nil,Option.bind_some];split
 ·exact d l
 ·rfl
def uQ (ns:List Nd)(out:List Int)(k:Nat):Prop:=out.length=k∧∀ i,i < k→∃ n m,ns[i]? = some n∧m≤i∧out.getD i 0=(i:Int)+1 - m∧Fo ns m i n.kids
theorem Ip {q:Nat→Bool}{ns:List Nd}{out:List Int}{k:Nat}(o:uQ ns out k):∀ (r:List Int) (b a:Int),o7 q out r.reverse b=some a→b < (k:Int)→-1≤b→-1≤a∧a≤b∧Fo ns (a+1).toNat (b+1).toNat r.reverse∧∀ c ∈ r,q c.toNat=true
 | [],b,a,h,h1,h2=>by
  have:b=a:=aaP h
  subst this;exact⟨h2,Int.le_refl _,.nil _,fun c d=>nomatch d⟩
 | c :: r,b,a,h,h1,h2=>by
  rw [List.reverse_cons,Ir] at h
  split at h
  ·cases h
  ·rename_i d
   have B:0≤b:=by omega
   have f:c=b:=by
    apply Classical.byContradiction;intro e;exact d (.inr (.inl e))
   have D:q b.toNat=true:=by
    cases e:q b.toNat
    ·exact absurd (.inr (.inr (by simp [e]))) d
    ·rfl
   clear d;obtain⟨n,m,e,F,g,C⟩:=o.2 b.toNat (by omega);rw [g] at h
   obtain⟨y,E,j,A⟩:=Ip o r _ a h (by omega) (by omega)
   refine⟨y,by omega,?_,?_⟩
   ·rw [List.reverse_cons];have u:(b+1).toNat=b.toNat+1:=by omega
    have v:c=(b.toNat:Int):=by omega
    rw [u,v];refine .snoc (m:=m) ?_ C e;have w:(b - ((b.toNat:Int)+1 - (m:Int))+1).toNat=m:=by omega
    rw [w] at j
    exact j
   ·intro x i;rcases List.mem_cons.1 i with rfl | i
    ·rw [f];exact D
    ·exact A x i
theorem OX {q:Nat→Bool}{ns:List Nd}{out:List Int}{k:Nat}(x:uQ ns out k){a b:Nat}{as:List Int}(h:Fo ns a b as):b≤k→(∀ c ∈ as,q c.toNat=true)→o7 q out as ((b:Int) - 1)=some ((a:Int) - 1):=by
 induction h with
 | nil=>intro _ _;rfl
 | @snoc a m b as n h kf e ih jh =>
  intro y i;have h9:=h.le;have h8:=kf.le;rw [Ir];have o:((b+1:Nat):Int) - 1=(b:Int):=by omega
  rw [o,aaQ];have d:=i (b:Int) (List.mem_append_right _ (List.mem_singleton.2 rfl));rw [aaQ] at d
  rw [if_neg (by rintro (h1 | h1 | h1)
                 ·omega
                 ·exact h1 rfl
                 ·rw [d] at h1;cases h1)]
  obtain⟨A,j,f,w,g,v⟩:=x.2 b (by omega);rw [e] at f;injection f with f;subst f
  have:=v.uniq m kf
  subst this;rw [g];have r:(b:Int) - ((b:Int)+1 - (j:Int))=(j:Int) - 1:=by omega
  rw [r];exact ih (by omega) (fun c u=>i c (List.mem_append_left _ u))
theorem KT {ns:List Nd}{out:List Int}{k:Nat}(a:uQ ns out k){n:Nd}(e:ns[k]? = some n){m:Nat}(h:m≤k)(g:Fo ns m k n.kids):uQ ns (out ++ [(out.length:Int) - ((m:Int) - 1)]) (k+1):=by
 refine⟨by rw [aaO,a.1];rfl,fun i hi=>?_⟩
 rcases Nat.lt_or_ge i k with h1 | h1
 ·obtain⟨o,j,f,c,d,b⟩:=a.2 i h1
  refine⟨o,j,f,c,?_,b⟩
  rw [← d];simp [aaH,List.getElem?_append_left (show i < out.length by rw [a.1];exact h1)]
 ·have:i=k:=by omega
  subst this
  refine⟨n,m,e,h,?_,g⟩
  rw [a.1];simp [aaH,a.1]
  omega
theorem AB:∀ l:List Nd,l.foldl m_ none=none
 | []=>rfl
 | _ :: r=>AB r
theorem Dh {ns:List Nd}:∀ (j l1:List Nd) (out c:List Int),ns=l1 ++ j→uQ ns out l1.length→j.foldl m_ (some out)=some c→uQ ns c ns.length
 | [],l1,out,c,e,hs,h=>by
  have:out=c:=aaP h
  subst this;rw [e,List.append_nil];rw [e,List.append_nil] at hs;exact hs
 | n :: r,l1,out,c,e,hs,h=>by
  have en:ns[l1.length]? = some n:=by rw [e];simp
  rw [List.foldl_cons] at h
  unfold m_ at h
  rw [Option.bind_some,EB] at h
  rcases i:o7 (fun _=>true) out n.kids ((out.length:Int) - 1) with _ | a
  ·rw [i] at h;rw [Option.map_none] at h
   have:=AB r
   unfold m_ at this
   rw [this] at h;cases h
  ·rw [i] at h
   have d:=i;rw [← List.reverse_reverse n.kids] at d
   obtain⟨q,u,f,_⟩:=Ip hs n.kids.reverse _ a d (by rw [hs.1];omega) (by omega);rw [List.reverse_reverse,hs.1] at f
   have m:((l1.length:Int) - 1+1).toNat=l1.length:=by omega
   rw [m] at f
   have o:a=(((a+1).toNat:Nat):Int) - 1:=by omega
   have g:=f.le;have b:=KT hs en g f;rw [← o] at b
   exact Dh r (l1 ++ [n]) _ c (by rw [e];simp) (by rw [aaO];exact b) h
theorem PG {ns:List Nd}(a:∀ i,i < ns.length→∃ n m,ns[i]? = some n∧Fo ns m i n.kids):∀ (f l1:List Nd) (out:List Int),ns=l1 ++ f→uQ ns out l1.length→∃ j,f.foldl m_ (some out)=some j
 | [],l1,out,e,hs=>⟨out,rfl⟩
 | n :: r,l1,out,e,hs=>by
  have en:ns[l1.length]? = some n:=by rw [e];simp
  obtain⟨o,m,c,d⟩:=a l1.length (by rw [e];simp);rw [en] at c;injection c with c;subst c
  have h:=OX (q:=fun _=>true) hs d (aaJ _) (fun _ _=>rfl);rw [List.foldl_cons]
  have g:m_ (some out) n=some (out ++ [(out.length:Int) - ((m:Int) - 1)]):=by
   unfold m_;rw [Option.bind_some,EB,hs.1,h,Option.map_some]
  rw [g];have b:=KT hs en d.le d;exact PG a r (l1 ++ [n]) _ (by rw [e];simp) (by rw [aaO];exact b)
theorem Dj (ns:List Nd):uQ ns [] 0:=⟨rfl,fun i hi=>by omega⟩
structure qV (t:Tr):Prop where
 fo:Fo t.nodes 0 t.nodes.length t.items
 item:∀ c ∈ t.items,eP (nd t c.toNat).kind=true
theorem qV.sizes {t:Tr}(h:Fo t.nodes 0 t.nodes.length t.items):∃ a,oN t=some a∧uQ t.nodes a t.nodes.length:=by
 obtain⟨a,b⟩:=PG (ns:=t.nodes) (fun i hi=>by obtain⟨n,m,e,_,f⟩:=h.each i (aaL _) hi;exact⟨n,m,e,f⟩) t.nodes [] [] rfl (Dj _);exact⟨a,b,Dh t.nodes [] [] a rfl (Dj _) b⟩
theorem rR (t:Tr):kE t=true↔qV t∧∀ i,i < t.nodes.length→je t i=true:=by
 constructor
 ·intro h;unfold kE at h
  rcases a:oN t with _ | e
  ·rw [a] at h
   have h0:t.nodes.length=0:=by simpa using h
   have h1:t.nodes=[]:=List.eq_nil_of_length_eq_zero h0;unfold oN at a;rw [h1] at a;cases a
  ·rw [a] at h
   simp only [aaS,beq_iff_eq,aaR,List.mem_range] at h
   obtain⟨h1,h2⟩:=h;have d:uQ t.nodes e t.nodes.length:=Dh t.nodes [] [] e rfl (Dj _) a;rw [wM,← List.reverse_reverse t.items] at h2
   obtain⟨_,_,b,j⟩:=Ip d t.items.reverse _ _ h2 (by omega) (by omega);rw [List.reverse_reverse] at b
   have g:((t.nodes.length:Int) - 1+1).toNat=t.nodes.length:=by omega
   rw [g] at b
   exact⟨⟨b,fun c m=>j c (List.mem_reverse.2 m)⟩,h1⟩
 ·rintro⟨⟨f,hi⟩,n⟩
  obtain⟨e,a,d⟩:=qV.sizes f;unfold kE;rw [a];simp only [aaS,beq_iff_eq,aaR,List.mem_range]
  refine⟨n,?_⟩
  rw [wM,OX d f (aaJ _) hi];rfl
end Mist
