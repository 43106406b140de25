/-
  A part of the proof.
-/
import Derived.Deep.RegionHeld3
import Derived.Test.YtajfdjikimiapaaGreatDoorS06
set_option linter.all false
set_option maxRecDepth 100000
set_option maxHeartbeats 4000000
namespace Go.Proofs.YtajfdjikimiapaaGreatDoor
section
open Go.RowKit Mist
attribute [local go_sem] au aN aV aM aG
def aal:El→Nat
 | .expr=>202
 | .put=>247
 | .param=>198
def uQ:Lv→Nat
 | .or=>215
 | .and=>220
 | .not=>229
 | .cmp=>235
 | .sum=>239
 | .term=>242
 | .unary=>243
def pY:Job→Nat
 | .expr=>202
 | .lv v=>uQ v
 | .post=>244
 | .atom=>245
 | .put=>247
 | .param=>198
 | .typ=>199
 | _=>0
def nY (w:World)(ext:List NV):Prop:=∀ x ∈ ext,∀ b,x.2.ownBlock=some b→w.heap.size≤b
theorem nY.nil (w:World):nY w []:=fun x h=>by cases h
theorem nY.append {w:World}{a b:List NV}(h:nY w a)(k:nY w b):nY w (a ++ b):=fun x c=>by
 rcases List.mem_append.1 c with c | c
 ·exact h x c
 ·exact k x c
theorem nY.mono {w c:World}{a:List NV}(h:nY c a)(e:w.heap.size≤c.heap.size):nY w a:=fun x f b d=>Nat.le_trans e (h x f b d)
theorem nY.one {w:World}{n:Nd}{v:Value}(h:∀ b,v.ownBlock=some b→w.heap.size≤b):nY w [(n,v)]:=fun x c b a=>by
 rw [List.mem_singleton.1 c] at a;exact h b a
section
variable (g:Nat) (tv:Value) (l:List Tok) (en:Int) (iv:Value)
structure At (w:World) (xs:List NV) (nv:Value) (k:Nat) (ns:List Nd) (w':World) (ext:List NV) (l7:Value):Prop where
 ns:aj (xs ++ ext)=ns
 ps:PS g tv l en iv w' k (xs ++ ext) l7
 mv:Mv g nv.ownBlock w l7.ownBlock w'
 fresh:nY w ext
def bG (w:World)(xs:List NV)(nv:Value)(r:kF)(e:Ending)(w':World):Prop :=
 match r with
 | .ok ks k ns=>e=.returned (.int .i64 (hd ks))∧∃ ext l7,At g tv l en iv w xs nv k ns w' ext l7
 | .bad k=>e=aX l en k∧Below g w w'
def zY (w:World)(xs:List NV)(nv:Value)(r:kF)(e:Ending)(w':World):Prop :=
 match r with
 | .ok ks k ns=>∃ v ext l7,e=.returned v∧w'.ownsRow w.heap.size 3 1 v ks.length (intCells ks)∧At g tv l en iv w xs nv k ns w' ext l7∧∀ x ∈ ext,x.2.ownBlock=none∨x.2.ownBlock ≠ v.ownBlock
 | .bad k=>e=aX l en k∧Below g w w'
variable {g tv l en iv}
theorem bG.ok {w a:World}{xs ext:List NV}{nv l7:Value}{ks:List Int}{k:Nat}{ns:List Nd}{e:Ending}(c:e=.returned (.int .i64 (hd ks)))(b:At g tv l en iv w xs nv k ns a ext l7):bG g tv l en iv w xs nv (.ok ks k ns) e a:=⟨c,ext,l7,b⟩
theorem bG.bad {w a:World}{xs:List NV}{nv:Value}{k:Nat}{e:Ending}(c:e=aX l en k)(b:Below g w a):bG g tv l en iv w xs nv (.bad k) e a:=⟨c,b⟩
theorem zY.bad {w a:World}{xs:List NV}{nv:Value}{k:Nat}{e:Ending}(c:e=aX l en k)(b:Below g w a):zY g tv l en iv w xs nv (.bad k) e a:=⟨c,b⟩
variable (g tv l en iv)
def IC (m:Nat)(j:Job):Prop:=∀ (w:World) (k:Nat) (xs:List NV) (nv:Value) (r:kF),PS g tv l en iv w k xs nv→k≤l.length→xs.length≤k→Wf (aj xs)→run l en m j k (aj xs)=some r →
 Calls Tryz.prog (pY j) #[.pointer (some ⟨g,0,none⟩)] w (bG g tv l en iv w xs nv r)
def LC (m:Nat)(e:El):Prop:=∀ (w:World) (k:Nat) (xs:List NV) (nv:Value) (r:kF),PS g tv l en iv w k xs nv→k≤l.length→xs.length≤k→Wf (aj xs)→run l en m (.list e) k (aj xs)=some r →
 Calls Tryz.prog 197 #[.pointer (some ⟨g,0,none⟩),.func (.func (aal e)) #[] #[]] w (zY g tv l en iv w xs nv r)
variable {g tv l en iv}
theorem At.refl {w:World}{k:Nat}{xs:List NV}{nv:Value}(h:PS g tv l en iv w k xs nv):At g tv l en iv w xs nv k (aj xs) w [] nv :=
 ⟨by simp,by simpa using h,Mv.refl,nY.nil _⟩
theorem At.trans {w w1 w2:World}{xs ext a:List NV}{nv d b:Value}{i c:Nat}{f e:List Nd}(h:At g tv l en iv w xs nv i f w1 ext d)(h2:At g tv l en iv w1 (xs ++ ext) d c e w2 a b):At g tv l en iv w xs nv c e w2 (ext ++ a) b :=
 ⟨by rw [← List.append_assoc];exact h2.ns,by rw [← List.append_assoc];exact h2.ps,h.mv.trans h2.mv,h.fresh.append (h2.fresh.mono h.mv.size)⟩
theorem At.step {w w1 w2:World}{xs ext:List NV}{nv a:Value}{d c:Nat}{b:List Nd}(h:At g tv l en iv w xs nv d b w1 ext a)(p:PS g tv l en iv w2 c (xs ++ ext) a)(m:Mv g a.ownBlock w1 a.ownBlock w2):At g tv l en iv w xs nv c b w2 ext a :=
 ⟨h.ns,p,h.mv.trans m,h.fresh⟩
theorem At.add {w w1 w2:World}{xs ext:List NV}{nv e a:Value}{c:Nat}{d:List Nd}{n:Nd}{v:Value}(h:At g tv l en iv w xs nv c d w1 ext e)(p:PS g tv l en iv w2 c ((xs ++ ext) ++ [(n,v)]) a)(m:Mv g e.ownBlock w1 a.ownBlock w2)(f:∀ b,v.ownBlock=some b→w.heap.size≤b) :
  At g tv l en iv w xs nv c (d ++ [n]) w2 (ext ++ [(n,v)]) a :=
 ⟨by rw [← List.append_assoc,DI,h.ns];rfl,by rw [← List.append_assoc];exact p,h.mv.trans m,h.fresh.append (nY.one f)⟩
theorem At.low {w w1:World}{xs ext:List NV}{nv d:Value}{k c:Nat}{b:List Nd}(h:PS g tv l en iv w k xs nv)(a:At g tv l en iv w xs nv c b w1 ext d):Below g w w1:=h.low a.mv
theorem At.len {w w1:World}{xs ext:List NV}{nv c:Value}{b:Nat}{a:List Nd}(h:At g tv l en iv w xs nv b a w1 ext c):(xs ++ ext).length=a.length:=by rw [← bW,h.ns]
def uT (g n:Nat)(w:World):Nat:=n - (intOf ((w.cell? ⟨g,2,none⟩).getD undef)).toNat
theorem PS.uT {w:World}{k n:Nat}{xs:List NV}{nv:Value}(h:PS g tv l en iv w k xs nv):uT g n w=n - k:=by
 have e:w.cell? ⟨g,2,none⟩=some (.int .i64 k):=h.blk.cell 2;unfold Go.Proofs.YtajfdjikimiapaaGreatDoor.uT;rw [e];simp [intOf]
end
section
variable {g:Nat} {tv:Value} {l:List Tok} {en:Int} {iv:Value}
theorem At.below {w w1 w2:World}{xs ext:List NV}{nv d:Value}{c:Nat}{a:List Nd}(h:At g tv l en iv w xs nv c a w1 ext d)(b:Below w1.heap.size w1 w2):At g tv l en iv w xs nv c a w2 ext d :=
 ⟨h.ns,h.ps.below b,h.mv.zo b,h.fresh⟩
theorem At.alloc {w w1:World}{xs ext:List NV}{nv c:Value}{b:Nat}{a:List Nd}(h:At g tv l en iv w xs nv b a w1 ext c)(o:Obj):At g tv l en iv w xs nv b a (w1.alloc o) ext c:=h.below ((Below.refl _ _).alloc (aiv _) o)
theorem At.drew {w w1:World}{xs ext:List NV}{nv c:Value}{b:Nat}{a:List Nd}(h:At g tv l en iv w xs nv b a w1 ext c):At g tv l en iv w xs nv b a w1.drew ext c:=h.below (Below.drew (Below.refl _ _))
theorem At.from_ {w w1:World}{o:Obj}{xs ext:List NV}{nv c:Value}{b:Nat}{a:List Nd}(h:At g tv l en iv (w.alloc o) xs nv b a w1 ext c):At g tv l en iv w xs nv b a w1 ext c :=
 ⟨h.ns,h.ps,(Mv.nT Mv.refl).trans h.mv,h.fresh.mono (by simp)⟩
theorem Far.mv {w w1:World}{k:Nat}{xs:List NV}{nv:Value}{r1:Option Nat}(h:PS g tv l en iv w k xs nv)(m:Mv g nv.ownBlock w r1 w1){b:Nat}{T:TypeId}{cs:Array Value}(a:aZ w b T cs)(d:g ≠ b)(c:nv.ownBlock ≠ some b):aZ w1 b T cs∧r1 ≠ some b :=
 ⟨m.blk a (Ne.symm d) (Ne.symm c),Ne.symm (m.ne a.lt (Ne.symm c))⟩
theorem PS.tag {w:World}{k:Nat}{xs:List NV}{nv:Value}(h:PS g tv l en iv w k xs nv){b:Nat}{T:TypeId}{cs:Array Value}(a:aZ w b T cs)(h1:T ≠ 134)(h2:T ≠ 39):b ≠ g∧some b ≠ nv.ownBlock :=
 ⟨a.Zk h.blk h1,fun e=>bJ h.own a (Ne.symm h2) e.symm⟩
theorem PS.bH {w c:World}{k:Nat}{xs:List NV}{nv:Value}(h:PS g tv l en iv w k xs nv){row:Option Nat}(m:Mv g nv.ownBlock w row c){b:Nat}{T:TypeId}{cs:Array Value}(a:aZ w b T cs)(h1:T ≠ 134:=by decide)(h2:T ≠ 39:=by decide):aZ c b T cs :=
 m.blk a (h.tag a h1 h2).1 (h.tag a h1 h2).2
theorem At.blk {w1 w2:World}{xs ext:List NV}{nv e:Value}{k d:Nat}{c:List Nd}(h:At g tv l en iv w1 xs nv d c w2 ext e)(p:PS g tv l en iv w1 k xs nv){b:Nat}{T:TypeId}{cs:Array Value}(a:aZ w1 b T cs)(h1:T ≠ 134)(h2:T ≠ 39):aZ w2 b T cs :=
 h.mv.blk a (p.tag a h1 h2).1 (p.tag a h1 h2).2
theorem PS.oQ {w:World}{k:Nat}{xs:List NV}{nv:Value}(h:PS g tv l en iv w k xs nv){b c:Nat}{i:Array MapEntry}(a:w.heap[b]? = some (.map i c)):b ≠ g∧some b ≠ nv.ownBlock:=by
 constructor
 ·rintro rfl
  have:=h.blk;unfold aZ at this;rw [a] at this;cases this
 ·intro e;rcases h.own.2 with ⟨hv,_⟩ | ⟨j,cap,f,hv,_,d,_⟩
  ·rw [hv] at e;simp [Value.ownBlock] at e
  ·rw [hv] at e;simp [Value.ownBlock] at e
   rw [← e,a] at d;cases d
theorem At.map {w1 w2:World}{xs ext:List NV}{nv i:Value}{k f:Nat}{e:List Nd}(h:At g tv l en iv w1 xs nv f e w2 ext i)(p:PS g tv l en iv w1 k xs nv){b c:Nat}{d:Array MapEntry}(a:w1.heap[b]? = some (.map d c)):w2.heap[b]? = some (.map d c) :=
 (h.mv.block b (ais.1 a).1 (p.oQ a).1 (p.oQ a).2).trans a
theorem ES {n k:Nat}{v:Lv}{a:Int}{ns:List Nd}(h:oV v (tx l k)=0):run l en (n+1) (.tail v a) k ns=some (.ok [a] k ns):=by rw [run,if_pos h]
theorem K7 {n k : Nat} {v : Lv} {a : Int} {ns : List Nd} (h : ¬ oV v (tx l k) = 0) : run l en (n + 1) (.tail v a) k ns = thn (run l en n (.lv v.below) (k + 1) ns) fun b i f => thn (add ⟨oV v (tx l k), [], 0, [a, hd b], pl l en k⟩ i f) fun c d e =>
      if v=.cmp then some (.ok [hd c] d e) else run l en n (.tail v (hd c)) d e:=by rw [run,if_neg h]
end
theorem fV (g:Nat)(tv:Value)(l:List Tok)(en:Int)(iv:Value)(n:Nat)(K:Nat)(oa ob:Value)(p:Int)(x:Bs)(N:Int)(a:Value)(kids:List Int)(w:World)(k:Nat)(xs:List NV)(nv:Value)(h:PS g tv l en iv w k xs nv)(c:gX w a kids)(d:xs.length=n)(f:n≤1000000) :
  Calls Tryz.prog 196 #[.pointer (some ⟨g,0,none⟩),.int .u8 K,.agg #[oa,ob,.int .i64 p],.string (aU x),.int .i64 N,a] w fun e b=>e=.returned (.int .i64 (n:Nat))∧∃ l7,PS g tv l en iv b k (xs ++ [(⟨K,x,N,kids,p⟩,a)]) l7∧Mv g nv.ownBlock w l7.ownBlock b:=by
 subst d;exact ZY g tv l en iv K oa ob p x N a kids w k xs nv h c f
inductive Zf:List Oper→Nat→Oper→Prop
 | z {o:Oper} {r:List Oper}:Zf (o :: r) 0 o
 | s {a o:Oper} {r:List Oper} {n:Nat} (h:Zf r n o):Zf (a :: r) (n+1) o
theorem Zf.get {l:List Oper}{i:Nat}{o:Oper}(h:Zf l i o):l.toArray[i]? = some o:=by
 induction h with
 | z=>rfl
 | s _ a=>simpa using a
theorem jY {P:Program}{e:Region.Mode}{l:List Oper}{Q:Exit→Act→World→Prop}{S:World→Prop}{i:Nat}{d:Oper}{b:Nat}{listed:Array Bool}{a:Act}{w:World}(hi:Zf l i d)
  (m:Region.noSelect l.toArray=true) (f:Region.free e l.toArray listed i=true) (j:(Region.ready e l.toArray listed).contains i=true) {v:Value}
  (hQ:∀ c a w,Q (.panic c) (a.put d.dst v) w→Q (.panic c) a w) (hy:Region.wanted d (yielded l.toArray a.tmps)=true∧∀ w,S w→(execOp a.eval d).run P w=.ok (.value v) w) (hS:S w)
  (h:wpAnyH P e l.toArray Q S b (listed.setIfInBounds i true) (a.put d.dst v) w):wpAnyH P e l.toArray Q S (b+1) listed a w :=
 wpAnyH_take hi.get m f j hQ (Or.inl hy) hS h
theorem aO {P:Program}{e:Region.Mode}{l:List Oper}{Q:Exit→Act→World→Prop}{S:World→Prop}{d:Oper}{b:Nat}{listed:Array Bool}{a:Act}{w:World}(i:Nat)(hi:l[i]? = some d){v:Value}(hS:S w)
  (h:wpAnyH P e l.toArray Q S b (listed.setIfInBounds i true) (a.put d.dst v) w) (hy:Region.wanted d (yielded l.toArray a.tmps)=true:=by rfl)
  (hv:∀ w,S w→(execOp a.eval d).run P w=.ok (.value v) w:=by intro w0 f;(try dsimp only at f);go_split_ands;go_simp;try with_reducible rfl)
  (n:Region.noSelect l.toArray=true:=by kernel_rfl) (j:Region.free e l.toArray listed i=true:=by kernel_rfl) (m:(Region.ready e l.toArray listed).contains i=true:=by kernel_rfl)
  (hQ:∀ c a w,Q (.panic c) (a.put d.dst v) w→Q (.panic c) a w:=by exact fun _ _ _ h=>h):wpAnyH P e l.toArray Q S (b+1) listed a w :=
 wpAnyH_take (by simpa using hi) n j m hQ (Or.inl ⟨hy,hv⟩) hS h
theorem fO {P:Program}{e:Region.Mode}{l:List Oper}{Q:Exit→Act→World→Prop}{S:World→Prop}{i:Nat}{c:Oper}{b:Nat}{listed:Array Bool}{a:Act}{w:World}(hi:Zf l i c)
  (h:∀ d:Act→World→Prop,Shut (∀ a w,S w→(S w→wpAnyH P e l.toArray Q S b (listed.setIfInBounds i true) a w)→d a w)→if Region.wanted c (yielded l.toArray a.tmps)=true then Oper.wp P c a w d Q else d (a.put c.dst undef) w) :
  AllReadyH P e l.toArray Q S b listed a w [i]:=AllReadyH.cons hi.get h AllReadyH.nil
theorem TS {P:Program}{f:Region.Mode}{l:List Oper}{Q:Exit→Act→World→Prop}{S:World→Prop}{i j:Nat}{d e:Oper}{b:Nat}{listed:Array Bool}{a:Act}{w:World}(hi:Zf l i d)(m:Zf l j e)
  (h:∀ c:Act→World→Prop,Shut (∀ a w,S w→(S w→wpAnyH P f l.toArray Q S b (listed.setIfInBounds i true) a w)→c a w)→if Region.wanted d (yielded l.toArray a.tmps)=true then Oper.wp P d a w c Q else c (a.put d.dst undef) w)
  (h2:∀ c:Act→World→Prop,Shut (∀ a w,S w→(S w→wpAnyH P f l.toArray Q S b (listed.setIfInBounds j true) a w)→c a w)→if Region.wanted e (yielded l.toArray a.tmps)=true then Oper.wp P e a w c Q else c (a.put e.dst undef) w) :
  AllReadyH P f l.toArray Q S b listed a w [i,j]:=AllReadyH.cons hi.get h (AllReadyH.cons m.get h2 AllReadyH.nil)
theorem BN (w:World)(a b:Int):gX (w.alloc (.cells #[.int .i64 a,.int .i64 b] 3)) (.slice (some ⟨w.heap.size,0,none⟩) 2 2) [a,b]:=World.ownsRow_lit w _ 2 (aix _) (by simp [maxLen]) rfl
theorem qc (w:World)(a:Int):gX (w.alloc (.cells #[.int .i64 a] 3)) (.slice (some ⟨w.heap.size,0,none⟩) 1 1) [a]:=World.ownsRow_lit w _ 1 (aix _) (by simp [maxLen]) rfl
theorem SL (w:World)(a b c:Int):gX (w.alloc (.cells #[.int .i64 a,.int .i64 b,.int .i64 c] 3)) (.slice (some ⟨w.heap.size,0,none⟩) 3 3) [a,b,c]:=World.ownsRow_lit w _ 3 (aix _) (by simp [maxLen]) rfl
def ents:Lv→List (Bs × Value)
 | .or=>[([111,114],.int .u8 18)]
 | .and=>[([97,110,100],.int .u8 17)]
 | .cmp=>[([61,61],.int .u8 11),([33,61],.int .u8 12),([60],.int .u8 13),([60,61],.int .u8 14),([62],.int .u8 15),([62,61],.int .u8 16)]
 | .sum=>[([43],.int .u8 6),([45],.int .u8 7)]
 | .term=>[([42],.int .u8 8),([47],.int .u8 9),([37],.int .u8 10)]
 | _=>[]
theorem aam (v:Lv)(x:Bs):(oW x (ents v)).getD (.int .u8 0)=.int .u8 (oV v x:Nat):=by
 cases v <;> simp only [ents,oW,oV] <;> (repeat' split) <;> rfl
theorem abv (w:World):(zeroValue 5).run Tryz.prog w=.ok (.int .u8 0) w:=by kernel_rfl
theorem Y9 (w:World):(zeroValue 3).run Tryz.prog w=.ok (.int .i64 0) w:=by kernel_rfl
theorem SX (w:World)(v:Lv)(m c:Nat)(a:w.heap[m]? = some (.map (iJ (ents v) 0).toArray c))(x:Bs):(Instr.lookup 232 (.map (some m)) (.string (aU x)) false).run Tryz.prog w=.ok (.int .u8 (oV v x:Nat)) w:=by
 have h:=DF 232 5 (.int .u8 0) Tryz.underlying232 w (abv w) (ents v) m c a x false;rw [h,aam];rfl
end
section
open Go.RowKit Mist
section
variable {g:Nat} {tv:Value} {l:List Tok} {en:Int} {iv:Value} {w w1 w2:World} {k:Nat} {xs:List NV} {nv:Value}
theorem zY.ok {a:World}{ext:List NV}{l7 v:Value}{ks:List Int}{ns:List Nd}{e:Ending}(c:e=.returned v)(f:a.ownsRow w.heap.size 3 1 v ks.length (intCells ks))(b:At g tv l en iv w xs nv k ns a ext l7)(d:∀ x ∈ ext,x.2.ownBlock=none∨x.2.ownBlock ≠ v.ownBlock) :
  zY g tv l en iv w xs nv (.ok ks k ns) e a:=⟨v,ext,l7,c,f,b,d⟩
theorem PS.lI (h:PS g tv l en iv w k xs nv){r1:Option Nat}(m:Mv g nv.ownBlock w r1 w1){base e s n:Nat}{v:Value}{b:List Value}(a:w.ownsRow base e s v n b)(h1:e ≠ 134)(h2:e ≠ 39):w1.ownsRow base e s v n b :=
 m.row a (bJ a h.blk h1) (eT a h.own h2)
theorem PS.aaK {a:List NV}(h:PS g tv l en iv w k (xs ++ a) nv){x:NV}(d:x ∈ a){b n c:Nat}(f:w.heap.size≤b):x.2.ownBlock=none∨x.2.ownBlock ≠ (Value.slice (some ⟨b,0,none⟩) n c).ownBlock:=by
 right
 intro e
 have:=(World.ownsRow.lt (h.kids x (List.mem_append_right _ d)) b (by rw [e];rfl)).2
 omega
theorem JO {ext:List NV}{x:NV}{v:Value}(h:nY w ext)(a:x ∈ ext)(hv:∀ b,v.ownBlock=some b→b < w.heap.size):x.2.ownBlock=none∨x.2.ownBlock ≠ v.ownBlock:=by
 rcases h1:x.2.ownBlock with _ | b
 ·exact .inl rfl
 ·right
  intro e
  have:=h x a b h1
  have:=hv b e.symm
  omega
theorem Mv.acI {r0 r1 row:Option Nat}(h:Mv g r0 w r1 w1)(a:w1.grownBy w2 row)(d:∀ b,row=some b→w.heap.size≤b):Mv g r0 w r1 w2 :=
 ⟨a.os.trans h.os,a.tape.trans h.tape,a.output.trans h.output,Nat.le_trans h.size a.size,fun b c h1 h2=>(a.block b (aiI c h.size) (fun e=>by have:=d b e.symm;omega)).trans (h.block b c h1 h2),h.tgt⟩
theorem PS.grown (h:PS g tv l en iv w k xs nv){row:Option Nat}(c:w.grownBy w1 row)(d:∀ b,row=some b→Far g nv xs b):PS g tv l en iv w1 k xs nv:=by
 have a:Below g w w1:=(Below.refl _ _).grown c (aiw h.lt) (fun b a=>aiw (d b a).lt)
 refine⟨h.blk.grown c (fun e=>by have:=(d g e.symm).lt;omega),h.own.kept c ?_,fun x f=>World.ownsRow.kept (h.kids x f) c ?_,h.toks.below a,oq h.env a⟩
 ·rcases h1:nv.ownBlock with _ | b
  ·exact .inl rfl
  ·right;intro e;exact (d b e.symm).row h1
 ·rcases h1:x.2.ownBlock with _ | b
  ·exact .inl rfl
  ·right;intro e;exact (d b e.symm).kids x f h1
theorem At.grown {ext:List NV}{r:Value}{q:Nat}{i:List Nd}{e s n:Nat}{v:Value}{A:List Value}{o:Obj}(h:At g tv l en iv w xs nv q i (w1.alloc o) ext r)(t:PS g tv l en iv w k xs nv)(m:w1.ownsRow w.heap.size e s v n A)(u:e ≠ 39)
  (j:(w1.alloc o).grownBy w2 v.ownBlock) (y:∀ x ∈ ext,x.2.ownBlock=none∨x.2.ownBlock ≠ v.ownBlock):At g tv l en iv w xs nv q i w2 ext r:=by
 have c:∀ b,v.ownBlock=some b→w.heap.size≤b:=fun b a=>(m.lt b a).1
 refine⟨h.ns,h.ps.grown j (fun b a=>⟨aiI t.lt (c b a),fun d=>?_,fun x f d=>?_⟩),h.mv.acI j c,h.fresh⟩
 ·rcases eT (m.alloc o) h.ps.own u with h3 | h3
  ·rw [h3] at a;cases a
  ·exact h3 (by rw [a,d])
 ·rcases List.mem_append.1 f with f | f
  ·have h4:=World.ownsRow.lt (t.kids x f) b d
   have:=c b a
   omega
  ·rcases y x f with h3 | h3
   ·rw [h3] at d;cases d
   ·exact h3 (by rw [d,a])
end
theorem dI {l:List Tok}{t:Bs}{k:Nat}{f:Option kF}{r:kF}(h:Mist.need l t k f=some r):(tx l k=t∧f=some r)∨(¬ tx l k=t∧r=.bad k):=by
 unfold Mist.need at h
 split at h
 ·rename_i e;exact .inl ⟨e,h⟩
 ·rename_i e;exact .inr ⟨e,(aiB h).symm⟩
theorem eO {l:List Tok}{c:Nat}{k:Nat}{f:Option kF}{r:kF}(h:Mist.fZ l c k f=some r):((tg l k).kind=c∧f=some r)∨(¬ (tg l k).kind=c∧r=.bad k):=by
 unfold Mist.fZ at h
 split at h
 ·rename_i e;exact .inl ⟨e,h⟩
 ·rename_i e;exact .inr ⟨e,(aiB h).symm⟩
theorem dO {x:Option kF}{f:List Int→Nat→List Nd→Option kF}{r:kF}(h:thn x f=some r):(∃ ks k ns,x=some (.ok ks k ns)∧f ks k ns=some r)∨(∃ k,x=some (.bad k)∧r=.bad k):=by
 cases x with
 | none=>cases h
 | some y =>
  cases y with
  | ok ks k ns=>exact .inl ⟨ks,k,ns,rfl,h⟩
  | bad k=>exact .inr ⟨k,rfl,(aiB h).symm⟩
theorem dN {n:Nd}{k:Nat}{ns:List Nd}{r:kF}(h:Mist.add n k ns=some r):r=.ok [(ns.length:Int)] k (ns ++ [n]):=(aiB h).symm
theorem fH {p:Prop}[Decidable p]{a b:Option kF}{r:kF}(h:(if p then a else b)=some r):(p∧a=some r)∨(¬ p∧b=some r):=by
 split at h
 ·rename_i e;exact .inl ⟨e,h⟩
 ·rename_i e;exact .inr ⟨e,h⟩
def isFn:Job→Bool
 | .expr | .lv _ | .post | .atom | .put | .param | .typ=>true
 | _=>false
end
section
open Go.RowKit Mist
attribute [local go_sem] au aN aV aM aG
section
variable {g:Nat} {tv:Value} {l:List Tok} {en:Int} {iv:Value} (hF:PF l)
include hF
theorem yC (v:Lv)(hem:∀ args W,Sem.run Tryz.prog (callFunc (uQ v.below) args) W=.ok (.enter (uQ v.below) args) W)(m:Nat)(C:∀ f,f≤m→IC g tv l en iv f (.lv v.below))(w:World)(k:Nat)(xs:List NV)(nv:Value)(r:kF)(h:PS g tv l en iv w k xs nv)(hk:k≤l.length)(hn:xs.length≤k)(hw:Wf (aj xs))
  (E c:Nat) (hb0:w.heap[E]? = some (.map (iJ (ents v) 0).toArray c)) (hr:thn (run l en m (.lv v.below) k (aj xs)) (fun a t u=>run l en m (.tail v (hd a)) t u)=some r) :
  Calls Tryz.prog 221 #[.agg #[.map (some E),.func (.func (uQ v.below)) #[] #[],.bool (decide (v=.cmp))],.pointer (some ⟨g,0,none⟩)] w (bG g tv l en iv w xs nv r):=by
 have HC:=O C;clear C;have H:=O h;clear h;have HW:=O hw;clear hw;have FF:=O (H.o.new (aiv _));have vX:=O (aZ.new w 234 #[.map (some E),.func (.func (uQ v.below)) #[] #[],.bool (decide (v=.cmp))]);have H0:=O (H.o.alloc (.cells #[.map (some E),.func (.func (uQ v.below)) #[] #[],.bool (decide (v=.cmp))] 234));have HM:=O (show (w.alloc (.cells #[.map (some E),.func (.func (uQ v.below)) #[] #[],.bool (decide (v=.cmp))] 234)).heap[E]? = _ from mX hb0 _);clear hb0;have HR:=O hr;clear hr;have R:=hF.len;go_in
 go_wp2_with fail;rcases hx:run l en m (.lv v.below) k (aj xs) with _ | x
 ·have:=HR.o;rw [hx] at this;cases this
 have F:=O hx;clear hx;have V:=O (show thn (some x) (fun a t u=>run l en m (.tail v (hd a)) t u)=some r by have:=HR.o;rwa [F.o] at this)
 cases x with
 | bad kb =>
  obtain rfl:kF.bad kb=r:=aiB V.o;refine (HC.o m (aiv _) _ k xs nv _ H0.o hk hn HW.o F.o).mono ?_;rintro e w1⟨rfl,hb⟩;unfold aX;go_wp2_with fail;exact⟨rfl,bG.bad rfl ((aF (Below.refl _ _) (aiw H.o.lt)).trans hb)⟩
 | ok ks t u =>
  have A:=O (dU F.o hk HW.o (Ids.nil _) (by simp));refine (HC.o m (aiv _) _ k xs nv _ H0.o hk hn HW.o F.o).mono ?_;rintro e w1⟨rfl,ext,nV,ha⟩;have D:=O ha;clear ha;have HB1:=O (D.o.blk H0.o vX.o (by decide) (by decide));have HM1:=O (D.o.map H0.o HM.o);have U:=O (At.from_ D.o);have X:=O (show run l en m (.tail v (hd ks)) t (aj (xs ++ ext))=some r by rw [D.o.ns];exact V.o);clear HR V F;have hk1:=A.o.le;have hf1:=A.o.few;rw [bW] at hf1
  have hl1:=D.o.len;have Co:=O (show Wf (aj (xs ++ ext)) by rw [D.o.ns];exact A.o.wf);have Jc:=O (show 0≤hd ks∧hd ks < ((xs ++ ext).length:Int) by rw [hl1];exact A.o.hd);have hcn:(xs ++ ext).length≤t:=by omega
  clear hl1 hf1 A D HM vX;obtain⟨j,hav⟩:∃ j,j=hd ks:=⟨_,rfl⟩;rw [← hav] at X Jc ⊢
  clear hav;have E_:=O U.o.ns;go_wp2_with fail
  go_loopw [5] (fun a wr=>∃ (f d:Nat) (ext:List NV) (l7:Value) (j:Int),a=.int .i64 j∧f≤m∧d≤l.length∧(xs ++ ext).length≤d∧Hid (run l en f (.tail v j) d (aj (xs ++ ext))=some r)∧Hid (Wf (aj (xs ++ ext)))∧Hid (0≤j∧j < ((xs ++ ext).length:Int)) ∧
    Hid (At g tv l en iv w xs nv d (aj (xs ++ ext)) wr ext l7)∧Hid (aZ wr w.heap.size 234 #[.map (some E),.func (.func (uQ v.below)) #[] #[],.bool (decide (v=.cmp))])∧Hid (wr.heap[E]? = some (.map (iJ (ents v) 0).toArray c))) (fun _ wr=>uT g l.length wr)
  case atStart=>exact⟨m,t,ext,nV,j,rfl,aiv _,hk1,hcn,X,Co,Jc,by rw [E_.o];exact U,HB1,HM1⟩
  case round =>
   clear U HB1 HM1 X Co Jc hcn hk1 E_;obtain⟨f,d,ext,l7,j,rfl,hfm,hk',hn',vC,Co,Jc,D,vX,HM⟩:=hrel
   obtain⟨f,rfl⟩:∃ f0,f=f0+1:=⟨f - 1,by
    rcases Nat.eq_zero_or_pos f with h | h
    ·subst h;have:=vC.o;rw [run] at this;cases this
    ·omega⟩
   have HMS:=O (D.o.ps.uT (n:=l.length));go_wp2_with fail;refine (gY g tv l en iv _ d _ l7 D.o.ps hk' R).mono ?_;rintro e w2⟨rfl,P⟩;have q:=O ((D.o.below P).alloc (.cells #[.int .u8 (tg l d).kind,.string (aU (tx l d)),.int .i64 (pl l en d)] 131));have J:=(vX.o.below P vX.o.lt).alloc (.cells #[.int .u8 (tg l d).kind,.string (aU (tx l d)),.int .i64 (pl l en d)] 131);have bT2:=aZ.new w2 131 #[.int .u8 (tg l d).kind,.string (aU (tx l d)),.int .i64 (pl l en d)];have rW:=O (mX ((P.block E (ais.1 HM.o).1).trans HM.o) (.cells #[.int .u8 (tg l d).kind,.string (aU (tx l d)),.int .i64 (pl l en d)] 131));clear P;have hlk:=SX _ v E c rW.o (tx l d);have c0:=J.cell 0;have hl2:w.heap.size < w2.heap.size+1:=by have:=J.lt;simpa using this
   have adA:=O J;clear J;have adB:=O bT2;clear bT2;by_cases y:oV v (tx l d)=0
   ·have T:((oV v (tx l d):Int) == 0)=true:=by simp [y]
    have Y:=O (show r=.ok [j] d (aj (xs ++ ext)) by have:=vC.o;rw [ES y] at this;exact (aiB this).symm);clear y;go_wp2_with fail;go_ret;rw [Y.o];exact bG.ok rfl q.o
   ·have T:((oV v (tx l d):Int) == 0)=false:=by simp [y]
    have hkl:=(Qr y).1
    have UR:=O (show thn (run l en f (.lv v.below) (d+1) (aj (xs ++ ext))) (fun b t u=>thn (add ⟨oV v (tx l d),[],0,[j,hd b],pl l en d⟩ t u) fun c k2 uw=>if v=.cmp then some (.ok [hd c] k2 uw) else run l en f (.tail v (hd c)) k2 uw)=some r by
     have:=vC.o;rw [K7 y] at this;exact this)
    clear y vC;go_wp2_with fail;refine (qV g tv l en iv _ d _ l7 q.o.ps hk' R).mono ?_;rintro e w3⟨rfl,p3,m3⟩;have fF:=O (q.o.step p3 m3);have L:=q.o.ps.bH m3 adA.o;have B:=q.o.ps.bH m3 adB.o;have E9:=O ((m3.block E (ais.1 rW.o).1 (q.o.ps.oQ rW.o).1 (q.o.ps.oQ rW.o).2).trans rW.o);clear m3 p3 hlk c0 hl2 T;have s0:=B.cell 0;have s1:=B.cell 1;have s2:=B.cell 2;have s3:=L.cell 1;have hl3:=B.lt;have hl4:=L.lt;have Ew:=O L;clear L;have afj:=O B;clear B;clear q adA adB rW vX HM D;go_wp2_with fail;rcases hx:run l en f (.lv v.below) (d+1) (aj (xs ++ ext)) with _ | x
    ·have:=UR.o;rw [hx] at this;cases this
    have F:=O hx;clear hx;have HG2:=O (show thn (some x) _=some r by have:=UR.o;rw [F.o] at this;exact this);clear UR
    cases x with
    | bad kb =>
     obtain rfl:kF.bad kb=r:=aiB HG2.o;have QZ:=O (H.o.low fF.o.mv);refine wp_region_held_drew (S:=fun Q=>Q.cell? ⟨w2.heap.size,0,none⟩=some (.int .u8 (tg l d).kind)∧Q.cell? ⟨w2.heap.size,1,none⟩=some (.string (aU (tx l d)))∧Q.cell? ⟨w2.heap.size,2,none⟩=some (.int .i64 (pl l en d))∧Q.cell? ⟨w.heap.size,1,none⟩=some (.func (.func (uQ v.below)) #[] #[])) (by kernel_rfl) ⟨s0,s1,s2,s3⟩ (fun i=>?_);refine aO 0 rfl i ?_;simp only [Act.put,ail,ain,aio];refine aO 1 rfl i ?_;simp only [Act.put,ail,ain,aio];refine aO 2 rfl i ?_;simp only [Act.put,ail,ain,aio];refine aO 3 rfl i ?_;simp only [Act.put,ail,ain,aio];refine aO 4 rfl i ?_;simp only [Act.put,ail,ain,aio];refine aO 5 rfl i ?_;simp only [Act.put,ail,ain,aio];refine aO 6 rfl i ?_;simp only [Act.put,ail,ain,aio];refine wpAnyH_ready (rs:=[7]) (by kernel_rfl) (by simp) ?_;refine fO (.s (.s (.s (.s (.s (.s (.s .z))))))) (fun K hK=>?_);go_simp;refine (HC.o f (by omega) _ (d+1) (xs ++ ext) l7 _ fF.o.ps.drew (by omega) (by omega) Co.o F.o).mono ?_;rintro e w4⟨rfl,hb4⟩;unfold aX;go_wp2_with fail;exact⟨rfl,bG.bad rfl ((Below.drew QZ.o).trans hb4)⟩
    | ok kb t u =>
     have A:=O (dU F.o (by omega) Co.o (Ids.nil _) (by simp))
     go_region_held3 (fun Q=>Q.cell? ⟨w2.heap.size,0,none⟩=some (.int .u8 (tg l d).kind)∧Q.cell? ⟨w2.heap.size,1,none⟩=some (.string (aU (tx l d)))∧Q.cell? ⟨w2.heap.size,2,none⟩=some (.int .i64 (pl l en d))∧Q.cell? ⟨w.heap.size,1,none⟩=some (.func (.func (uQ v.below)) #[] #[]))
      (first | go_keep|(go_split_ands;refine⟨?_,?_,?_,?_⟩ <;> assumption))
      (first
       | (go_at_call 196;refine (fV g tv l en iv u.length _ _ _ _ _ _ _ [j,hd kb] _ t (xs ++ (ext ++ zi)) U4 (sI.o.ps.alloc _) (BN w4 j (hd kb)) sI.o.len (by have h1:=sI.o.len;have h2:=A.o.few;have h3:=A.o.le;simp only [bW] at h2;omega)).mono ?_;rintro e w5⟨rfl,nv5,p5,m5⟩;have N:=m5.blk (Z.o.alloc _) (G.o.ps.tag Z.o (by decide) (by decide)).1 (G.o.ps.tag Z.o (by decide) (by decide)).2;have bL5:=m5.blk (I9.o.alloc _) (G.o.ps.tag I9.o (by decide) (by decide)).1 (G.o.ps.tag I9.o (by decide) (by decide)).2;have e0:=N.cell 0;have e1:=N.cell 1;have e2:=N.cell 2;have e3:=bL5.cell 1;have HM5:=O ((m5.block E (by have:=(ais.1 I.o).1;simp;omega) (G.o.ps.oQ I.o).1 (G.o.ps.oQ I.o).2).trans (mX I.o _));have I_:=O bL5;clear bL5;have lF:=O ((At.alloc sI.o _).add p5 m5 (by intro b hb;simp [Value.ownBlock] at hb;omega));clear p5 m5 N)
       | (refine (HC.o f (by omega) _ (d+1) (xs ++ ext) l7 _ fF.o.ps.drew (by omega) (by omega) Co.o F.o).mono ?_;rintro e w4⟨rfl,zi,U4,IX⟩;have G:=O IX;clear IX;have sI:=O (fF.o.drew.trans G.o);have Wj:=G.o.blk fF.o.ps.drew afj.o.drew (by decide) (by decide);have M:=G.o.blk fF.o.ps.drew Ew.o.drew (by decide) (by decide);have d0:=Wj.cell 0;have d1:=Wj.cell 1;have d2:=Wj.cell 2;have d3:=M.cell 1;have hl5:=Wj.lt;have hl6:=M.lt;have I:=O (G.o.map fF.o.ps.drew E9.o);have I9:=O M;clear M;have Z:=O Wj;clear Wj))
     all_goals
      have g1:=A.o.lo;have g2:=A.o.few;have g3:=A.o.le;have g4:=sI.o.len;have g5:=A.o.len;simp only [bW] at g2 g5
      simp only [Job.reads] at g1
      have b2:=I_.o.cell 2;have hlb:=I_.o.lt;clear e0 e1 e2 e3 d0 d1 d2 d3 s0 s1 s2 s3 hl3 hl4 hl5 hl6;have QX:=O (show (if v=.cmp then some (.ok [((u.length:Nat):Int)] t (u ++ [⟨oV v (tx l d),[],0,[j,hd kb],pl l en d⟩])) else run l en f (.tail v ((u.length:Nat):Int)) t (u ++ [⟨oV v (tx l d),[],0,[j,hd kb],pl l en d⟩]))=some r from HG2.o);by_cases hv:v=.cmp
      ·rw [aiG hv] at b2
       have Y:=O (show r=.ok [((u.length:Nat):Int)] t (u ++ [⟨oV v (tx l d),[],0,[j,hd kb],pl l en d⟩]) by
        have h5:=QX.o;rw [if_pos hv] at h5;exact (aiB h5).symm)
       clear g4 QX;go_wp2_with fail;go_ret;rw [Y.o];exact bG.ok rfl lF.o
      ·rw [aiH hv] at b2
       replace QX:=O (by have h5:=QX.o;rwa [if_neg hv] at h5)
       have Cm:=O (show run l en f (.tail v ((u.length:Nat):Int)) t (aj (xs ++ (ext ++ zi ++ [(⟨oV v (tx l d),[],0,[j,hd kb],pl l en d⟩,.slice (some ⟨w4.heap.size,0,none⟩) 2 2)])))=some r by
        rw [lF.o.ns];exact QX.o)
       have HWN:=O (show Wf (aj (xs ++ (ext ++ zi ++ [(⟨oV v (tx l d),[],0,[j,hd kb],pl l en d⟩,.slice (some ⟨w4.heap.size,0,none⟩) 2 2)]))) by
        rw [lF.o.ns];exact A.o.wf.add (Ids.cons (by have:=Jc.o;omega) (Ids.cons A.o.hd (Ids.nil _))))
       have HAN:=O (show At g tv l en iv w xs nv t (aj (xs ++ (ext ++ zi ++ [(⟨oV v (tx l d),[],0,[j,hd kb],pl l en d⟩,.slice (some ⟨w4.heap.size,0,none⟩) 2 2)]))) w5 (ext ++ zi ++ [(⟨oV v (tx l d),[],0,[j,hd kb],pl l en d⟩,.slice (some ⟨w4.heap.size,0,none⟩) 2 2)]) nv5 by
        rw [lF.o.ns];exact lF.o)
       have hln:(xs ++ (ext ++ zi ++ [((⟨oV v (tx l d),[],0,[j,hd kb],pl l en d⟩:Nd),Value.slice (some ⟨w4.heap.size,0,none⟩) 2 2)])).length=(xs ++ (ext ++ zi)).length+1:=by simp;omega
       have f_:=O hln;clear hln;have Zq:=O g4;clear g4;go_wp2_with fail
       refine⟨⟨f,t,_,nv5,_,rfl,by omega,g3,by rw [f_.o,Zq.o];omega,Cm,HWN,O ⟨by omega,by rw [f_.o,Zq.o];omega⟩,HAN,I_,HM5⟩,?_⟩
       rw [HMS.o,lF.o.ps.uT];omega
end
section
variable {g:Nat} {tv:Value} {l:List Tok} {en:Int} {iv:Value} (hF:PF l)
include hF
theorem aa_ (m:Nat)(C:∀ f,f≤m→IC g tv l en iv f (.lv .and)):IC g tv l en iv (m+1) (.lv .or):=by
 intro w k xs nv r h D F j b;have H:=O h;clear h;have A:=O j;clear j;have t:=O C;clear C;have y:=O (show thn (run l en m (.lv .and) k (aj xs)) (fun a n c=>run l en m (.tail .or (hd a)) n c)=some r by rw [run] at b <;> first | exact b | decide|(intro h;cases h));clear b;have E:=@run_makeMap Tryz.prog;have G:(Instr.mapUpdate 232 (.map (some w.heap.size)) (.string ⟨#[111,114]⟩) (.int .u8 18)).run Tryz.prog (w.alloc (.map #[] 0))=.ok () (w.alloc (.map (iJ [([111,114],.int .u8 18)] 0).toArray 1)):=dX 232 5 Tryz.underlying232 w [] [111,114] (.int .u8 18) (by decide +kernel);have u:=O (heap_alloc_new w (.map (iJ [([111,114],.int .u8 18)] 0).toArray 1));have x:=O (H.o.alloc (.map (iJ [([111,114],.int .u8 18)] 0).toArray 1));unfold pY uQ;go_enter Tryz.func215,Tryz.ntmps215
 go_wp2_with fail;refine (yC hF .or (fun _ _=>by kernel_rfl) m t.o _ k xs nv r x.o D F A.o w.heap.size 1 u.o y.o).mono ?_;intro e w1 i
 cases r with
 | bad kb =>
  obtain⟨rfl,B⟩:=i;unfold aX;go_wp2_with fail;exact⟨rfl,bG.bad rfl ((aF (Below.refl _ _) (aiw H.o.lt)).trans B)⟩
 | ok ks n c =>
  obtain⟨rfl,ext,I,d⟩:=i;have q:=O (At.from_ d);clear d;go_wp2_with fail;go_ret;exact bG.ok rfl q.o
theorem Ym (m:Nat)(C:∀ f,f≤m→IC g tv l en iv f (.lv .not)):IC g tv l en iv (m+1) (.lv .and):=by
 intro w k xs nv r h D F j b;have H:=O h;clear h;have A:=O j;clear j;have t:=O C;clear C;have y:=O (show thn (run l en m (.lv .not) k (aj xs)) (fun a n c=>run l en m (.tail .and (hd a)) n c)=some r by rw [run] at b <;> first | exact b | decide|(intro h;cases h));clear b;have E:=@run_makeMap Tryz.prog;have G:(Instr.mapUpdate 232 (.map (some w.heap.size)) (.string ⟨#[97,110,100]⟩) (.int .u8 17)).run Tryz.prog (w.alloc (.map #[] 0))=.ok () (w.alloc (.map (iJ [([97,110,100],.int .u8 17)] 0).toArray 1)):=dX 232 5 Tryz.underlying232 w [] [97,110,100] (.int .u8 17) (by decide +kernel);have u:=O (heap_alloc_new w (.map (iJ [([97,110,100],.int .u8 17)] 0).toArray 1));have x:=O (H.o.alloc (.map (iJ [([97,110,100],.int .u8 17)] 0).toArray 1));unfold pY uQ;go_enter Tryz.func220,Tryz.ntmps220
 go_wp2_with fail;refine (yC hF .and (fun _ _=>by kernel_rfl) m t.o _ k xs nv r x.o D F A.o w.heap.size 1 u.o y.o).mono ?_;intro e w1 i
 cases r with
 | bad kb =>
  obtain⟨rfl,B⟩:=i;unfold aX;go_wp2_with fail;exact⟨rfl,bG.bad rfl ((aF (Below.refl _ _) (aiw H.o.lt)).trans B)⟩
 | ok ks n c =>
  obtain⟨rfl,ext,I,d⟩:=i;have q:=O (At.from_ d);clear d;go_wp2_with fail;go_ret;exact bG.ok rfl q.o
theorem Yo (m:Nat)(C:∀ f,f≤m→IC g tv l en iv f (.lv .sum)):IC g tv l en iv (m+1) (.lv .cmp):=by
 intro w k xs nv r h D F j b;have H:=O h;clear h;have A:=O j;clear j;have t:=O C;clear C;have y:=O (show thn (run l en m (.lv .sum) k (aj xs)) (fun a n c=>run l en m (.tail .cmp (hd a)) n c)=some r by rw [run] at b <;> first | exact b | decide|(intro h;cases h));clear b;have E:=@run_makeMap Tryz.prog;have G:(Instr.mapUpdate 232 (.map (some w.heap.size)) (.string ⟨#[61,61]⟩) (.int .u8 11)).run Tryz.prog (w.alloc (.map #[] 0))=.ok () (w.alloc (.map (iJ [([61,61],.int .u8 11)] 0).toArray 1)):=dX 232 5 Tryz.underlying232 w [] [61,61] (.int .u8 11) (by decide +kernel);have I:(Instr.mapUpdate 232 (.map (some w.heap.size)) (.string ⟨#[33,61]⟩) (.int .u8 12)).run Tryz.prog (w.alloc (.map (iJ [([61,61],.int .u8 11)] 0).toArray 1))=.ok () (w.alloc (.map (iJ [([61,61],.int .u8 11),([33,61],.int .u8 12)] 0).toArray 2)):=dX 232 5 Tryz.underlying232 w [([61,61],.int .u8 11)] [33,61] (.int .u8 12) (by decide +kernel);have J:(Instr.mapUpdate 232 (.map (some w.heap.size)) (.string ⟨#[60]⟩) (.int .u8 13)).run Tryz.prog (w.alloc (.map (iJ [([61,61],.int .u8 11),([33,61],.int .u8 12)] 0).toArray 2))=.ok () (w.alloc (.map (iJ [([61,61],.int .u8 11),([33,61],.int .u8 12),([60],.int .u8 13)] 0).toArray 3)):=dX 232 5 Tryz.underlying232 w [([61,61],.int .u8 11),([33,61],.int .u8 12)] [60] (.int .u8 13) (by decide +kernel);have K:(Instr.mapUpdate 232 (.map (some w.heap.size)) (.string ⟨#[60,61]⟩) (.int .u8 14)).run Tryz.prog (w.alloc (.map (iJ [([61,61],.int .u8 11),([33,61],.int .u8 12),([60],.int .u8 13)] 0).toArray 3))=.ok () (w.alloc (.map (iJ [([61,61],.int .u8 11),([33,61],.int .u8 12),([60],.int .u8 13),([60,61],.int .u8 14)] 0).toArray 4)):=dX 232 5 Tryz.underlying232 w [([61,61],.int .u8 11),([33,61],.int .u8 12),([60],.int .u8 13)] [60,61] (.int .u8 14) (by decide +kernel);have L:(Instr.mapUpdate 232 (.map (some w.heap.size)) (.string ⟨#[62]⟩) (.int .u8 15)).run Tryz.prog (w.alloc (.map (iJ [([61,61],.int .u8 11),([33,61],.int .u8 12),([60],.int .u8 13),([60,61],.int .u8 14)] 0).toArray 4))=.ok () (w.alloc (.map (iJ [([61,61],.int .u8 11),([33,61],.int .u8 12),([60],.int .u8 13),([60,61],.int .u8 14),([62],.int .u8 15)] 0).toArray 5)):=dX 232 5 Tryz.underlying232 w [([61,61],.int .u8 11),([33,61],.int .u8 12),([60],.int .u8 13),([60,61],.int .u8 14)] [62] (.int .u8 15) (by decide +kernel);have M:(Instr.mapUpdate 232 (.map (some w.heap.size)) (.string ⟨#[62,61]⟩) (.int .u8 16)).run Tryz.prog (w.alloc (.map (iJ [([61,61],.int .u8 11),([33,61],.int .u8 12),([60],.int .u8 13),([60,61],.int .u8 14),([62],.int .u8 15)] 0).toArray 5))=.ok () (w.alloc (.map (iJ [([61,61],.int .u8 11),([33,61],.int .u8 12),([60],.int .u8 13),([60,61],.int .u8 14),([62],.int .u8 15),([62,61],.int .u8 16)] 0).toArray 6)):=dX 232 5 Tryz.underlying232 w [([61,61],.int .u8 11),([33,61],.int .u8 12),([60],.int .u8 13),([60,61],.int .u8 14),([62],.int .u8 15)] [62,61] (.int .u8 16) (by decide +kernel);have u:=O (heap_alloc_new w (.map (iJ [([61,61],.int .u8 11),([33,61],.int .u8 12),([60],.int .u8 13),([60,61],.int .u8 14),([62],.int .u8 15),([62,61],.int .u8 16)] 0).toArray 6));have x:=O (H.o.alloc (.map (iJ [([61,61],.int .u8 11),([33,61],.int .u8 12),([60],.int .u8 13),([60,61],.int .u8 14),([62],.int .u8 15),([62,61],.int .u8 16)] 0).toArray 6));unfold pY uQ;go_enter Tryz.func235,Tryz.ntmps235
 go_wp2_with fail;refine (yC hF .cmp (fun _ _=>by kernel_rfl) m t.o _ k xs nv r x.o D F A.o w.heap.size 6 u.o y.o).mono ?_;intro e w1 i
 cases r with
 | bad kb =>
  obtain⟨rfl,B⟩:=i;unfold aX;go_wp2_with fail;exact⟨rfl,bG.bad rfl ((aF (Below.refl _ _) (aiw H.o.lt)).trans B)⟩
 | ok ks n c =>
  obtain⟨rfl,ext,N,d⟩:=i;have q:=O (At.from_ d);clear d;go_wp2_with fail;go_ret;exact bG.ok rfl q.o
theorem Yq (m:Nat)(C:∀ f,f≤m→IC g tv l en iv f (.lv .term)):IC g tv l en iv (m+1) (.lv .sum):=by
 intro w k xs nv r h D F j b;have H:=O h;clear h;have A:=O j;clear j;have t:=O C;clear C;have y:=O (show thn (run l en m (.lv .term) k (aj xs)) (fun a n c=>run l en m (.tail .sum (hd a)) n c)=some r by rw [run] at b <;> first | exact b | decide|(intro h;cases h));clear b;have E:=@run_makeMap Tryz.prog;have G:(Instr.mapUpdate 232 (.map (some w.heap.size)) (.string ⟨#[43]⟩) (.int .u8 6)).run Tryz.prog (w.alloc (.map #[] 0))=.ok () (w.alloc (.map (iJ [([43],.int .u8 6)] 0).toArray 1)):=dX 232 5 Tryz.underlying232 w [] [43] (.int .u8 6) (by decide +kernel);have I:(Instr.mapUpdate 232 (.map (some w.heap.size)) (.string ⟨#[45]⟩) (.int .u8 7)).run Tryz.prog (w.alloc (.map (iJ [([43],.int .u8 6)] 0).toArray 1))=.ok () (w.alloc (.map (iJ [([43],.int .u8 6),([45],.int .u8 7)] 0).toArray 2)):=dX 232 5 Tryz.underlying232 w [([43],.int .u8 6)] [45] (.int .u8 7) (by decide +kernel);have u:=O (heap_alloc_new w (.map (iJ [([43],.int .u8 6),([45],.int .u8 7)] 0).toArray 2));have x:=O (H.o.alloc (.map (iJ [([43],.int .u8 6),([45],.int .u8 7)] 0).toArray 2));unfold pY uQ;go_enter Tryz.func239,Tryz.ntmps239
 go_wp2_with fail;refine (yC hF .sum (fun _ _=>by kernel_rfl) m t.o _ k xs nv r x.o D F A.o w.heap.size 2 u.o y.o).mono ?_;intro e w1 i
 cases r with
 | bad kb =>
  obtain⟨rfl,B⟩:=i;unfold aX;go_wp2_with fail;exact⟨rfl,bG.bad rfl ((aF (Below.refl _ _) (aiw H.o.lt)).trans B)⟩
 | ok ks n c =>
  obtain⟨rfl,ext,J,d⟩:=i;have q:=O (At.from_ d);clear d;go_wp2_with fail;go_ret;exact bG.ok rfl q.o
theorem Tv (m:Nat)(C:∀ f,f≤m→IC g tv l en iv f (.lv .unary)):IC g tv l en iv (m+1) (.lv .term):=by
 intro w k xs nv r h D F j b;have H:=O h;clear h;have A:=O j;clear j;have t:=O C;clear C;have y:=O (show thn (run l en m (.lv .unary) k (aj xs)) (fun a n c=>run l en m (.tail .term (hd a)) n c)=some r by rw [run] at b <;> first | exact b | decide|(intro h;cases h));clear b;have E:=@run_makeMap Tryz.prog;have G:(Instr.mapUpdate 232 (.map (some w.heap.size)) (.string ⟨#[42]⟩) (.int .u8 8)).run Tryz.prog (w.alloc (.map #[] 0))=.ok () (w.alloc (.map (iJ [([42],.int .u8 8)] 0).toArray 1)):=dX 232 5 Tryz.underlying232 w [] [42] (.int .u8 8) (by decide +kernel);have I:(Instr.mapUpdate 232 (.map (some w.heap.size)) (.string ⟨#[47]⟩) (.int .u8 9)).run Tryz.prog (w.alloc (.map (iJ [([42],.int .u8 8)] 0).toArray 1))=.ok () (w.alloc (.map (iJ [([42],.int .u8 8),([47],.int .u8 9)] 0).toArray 2)):=dX 232 5 Tryz.underlying232 w [([42],.int .u8 8)] [47] (.int .u8 9) (by decide +kernel);have J:(Instr.mapUpdate 232 (.map (some w.heap.size)) (.string ⟨#[37]⟩) (.int .u8 10)).run Tryz.prog (w.alloc (.map (iJ [([42],.int .u8 8),([47],.int .u8 9)] 0).toArray 2))=.ok () (w.alloc (.map (iJ [([42],.int .u8 8),([47],.int .u8 9),([37],.int .u8 10)] 0).toArray 3)):=dX 232 5 Tryz.underlying232 w [([42],.int .u8 8),([47],.int .u8 9)] [37] (.int .u8 10) (by decide +kernel);have u:=O (heap_alloc_new w (.map (iJ [([42],.int .u8 8),([47],.int .u8 9),([37],.int .u8 10)] 0).toArray 3));have x:=O (H.o.alloc (.map (iJ [([42],.int .u8 8),([47],.int .u8 9),([37],.int .u8 10)] 0).toArray 3));unfold pY uQ;go_enter Tryz.func242,Tryz.ntmps242
 go_wp2_with fail;refine (yC hF .term (fun _ _=>by kernel_rfl) m t.o _ k xs nv r x.o D F A.o w.heap.size 3 u.o y.o).mono ?_;intro e w1 i
 cases r with
 | bad kb =>
  obtain⟨rfl,B⟩:=i;unfold aX;go_wp2_with fail;exact⟨rfl,bG.bad rfl ((aF (Below.refl _ _) (aiw H.o.lt)).trans B)⟩
 | ok ks n c =>
  obtain⟨rfl,ext,K,d⟩:=i;have q:=O (At.from_ d);clear d;go_wp2_with fail;go_ret;exact bG.ok rfl q.o
end
end
