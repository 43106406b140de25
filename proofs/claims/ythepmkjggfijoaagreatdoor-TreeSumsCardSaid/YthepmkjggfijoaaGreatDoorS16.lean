/-
  A part of the proof.
-/
import Derived.Test.YthepmkjggfijoaaGreatDoorSA
import Derived.Carry
import Derived.Test.YthepmkjggfijoaaGreatDoorS15
set_option linter.all false
set_option maxRecDepth 100000
set_option maxHeartbeats 4000000
open Go.Lib (hid)
namespace Go.Proofs.YthepmkjggfijoaaGreatDoor
open Go.RowKit Mist
theorem Ku {l:List Tok}{en:Int}:∀ (n:Nat) (e:El) (acc:List Int) (k:Nat) (ns:List Nd) (Xw:List Int) (k1:Nat) (aJ:List Nd),k≤l.length→Wf ns→run l en n (.eu e acc) k ns=some (.ok Xw k1 aJ)→Xw.length+k≤acc.length+k1
 | 0,_,_,_,_,_,_,_,_,_,h=>by rw [run] at h;cases h
 | n+1,e,acc,k,ns,Xw,k1,aJ,hk,hw,h=>by
  rw [run] at h
  by_cases hc:tx l k=[44]
  ·have hlt:=aP hc (by simp);rw [if_pos hc] at h
   rcases dW h with ⟨ks2,k2,fF,hx,hr⟩ | ⟨kb,hx,h2⟩
   ·have g:=aW hx (by omega) hw (by cases e <;> exact Ids.nil _) (by cases e <;> simp [El.job]);have h3:=Ku n e (acc ++ [hd ks2]) k2 fF Xw k1 aJ g.le g.wf hr;have h4:=g.lo;rw [aaO] at h3
    simp only [aaT] at h3
    omega
   ·cases h2
  ·rw [if_neg hc] at h
   injection h with h;injection h with h1 h2 h3
   subst h1 h2;omega
theorem aam {l:List Tok}{en:Int}{n:Nat}{e:El}{k:Nat}{ns:List Nd}{Xw:List Int}{k1:Nat}{aJ:List Nd}(hk:k≤l.length)(hw:Wf ns)(h:run l en n (.list e) k ns=some (.ok Xw k1 aJ)):Xw.length≤k1:=by
 cases n with
 | zero=>rw [run] at h;cases h
 | succ n =>
  rw [run] at h
  rcases dW h with ⟨ks2,k2,fF,hx,hr⟩ | ⟨kb,hx,h2⟩
  ·have g:=aW hx hk hw (by cases e <;> exact Ids.nil _) (by cases e <;> simp [El.job]);have h3:=Ku n e [hd ks2] k2 fF Xw k1 aJ g.le g.wf hr;have h4:=g.lo;have h5:e.job.reads=1:=by cases e <;> rfl
   simp only [aaT] at h3
   omega
  ·cases h2
theorem Hy {w:World}{base q:Nat}{v:Value}{acc:List Int}(hq:acc.length=q)(h:w.ownsRow base 3 1 v q (intCells acc)):cB w v acc:=by
 subst hq;exact kI h (fun _ _=>aaL _)
theorem ne_nil {ext:List NV}:∀ x ∈ ext,x.2.ownBlock=none∨x.2.ownBlock ≠ (Value.slice none 0 0).ownBlock:=fun x _=>by
 rcases h:x.2.ownBlock with _ | b
 ·exact .inl rfl
 ·exact .inr (by simp [Value.ownBlock])
theorem uj {ext e2:List NV}{w:World}{v:Value}(h:∀ x ∈ ext,x.2.ownBlock=none∨x.2.ownBlock ≠ v.ownBlock)(hf:rA w e2)(hv:∀ b,v.ownBlock=some b→b < w.heap.size):∀ x ∈ ext ++ e2,x.2.ownBlock=none∨x.2.ownBlock ≠ v.ownBlock:=fun x hx=>by
 rcases List.mem_append.1 hx with hx | hx
 ·exact h x hx
 ·exact Cg hf hx hv
theorem qG {g:Nat}{tv:Value}{l:List Tok}{en:Int}{iv:Value}{w1:World}{k:Nat}{xs ext:List NV}{nv:Value}{v:Value}{gg:Nat}(p:PS g tv l en iv w1 k (xs ++ ext) nv)(h:∀ x ∈ ext,x.2.ownBlock=none∨x.2.ownBlock ≠ v.ownBlock)(hat:v.ownBlock=some gg∨gg=w1.heap.size+1)(q c:Nat):∀ x ∈ ext,x.2.ownBlock=none∨x.2.ownBlock ≠ (Value.slice (some ⟨gg,0,none⟩) q c).ownBlock:=fun x hx=>by
 show x.2.ownBlock=none∨x.2.ownBlock ≠ some gg
 rcases hat with e | e
 ·rw [← e];exact h x hx
 ·rcases h9:x.2.ownBlock with _ | b
  ·exact .inl rfl
  ·right
   intro e2;injection e2 with e2
   have:=(World.ownsRow.lt (p.kids x (List.mem_append_right _ hx)) b h9).2
   omega
theorem fZ {w w2:World}{o:Obj}{T e s n b:Nat}{v:Value}{ys:List Value}{base:Nat}{cs:Array Value}(hb:aC w b T cs)(ho:w.ownsRow base e s v n ys)(hg:(w.alloc o).grownBy w2 v.ownBlock)(hd:e ≠ T):aC w2 b T cs :=
 (hb.alloc o).grown hg (fun e2=>aT ho hb hd e2.symm)
theorem UK (x y:Bs)(h:x=y):(x == y)=true:=by simp [h]
theorem KX (x y:Bs)(h:¬ x=y):(x == y)=false:=by simp [h]
def EL:List (Bs × Value):=[([109,117,115,116],.int .i64 1),([109,97,121],.int .i64 2),([99,111,117,110,116],.int .i64 3),([98,111,117,110,100,115],.int .i64 4),([118,97,108,117,101,115],.int .i64 5),([119,104,121],.int .i64 6),([98,108,97,109,101],.int .i64 7),([108,111,111,107],.int .i64 8)]
theorem qents_of (x:Bs):(sW x EL).getD (.int .i64 0)=.int .i64 (gy x:Nat):=by
 simp only [EL,sW,gy];(repeat' split) <;> rfl
theorem aap (w:World)(m c:Nat)(hm:w.heap[m]? = some (.map (jF EL 0).toArray c))(x:Bs):(Instr.lookup 187 (.map (some m)) (.string (aM x)) false).run Tryz.prog w=.ok (.int .i64 (gy x:Nat)) w:=by
 have h:=Ic 187 3 (.int .i64 0) Tryz.underlying187 w (zero_int w) EL m c hm x false;rw [h,qents_of];rfl
theorem O9 (w:World):Calls Tryz.prog 211 #[] w fun e w'=>e=.returned (.map (some w.heap.size))∧w'=w.alloc (.map (jF EL 0).toArray 8):=by
 have hmm:=@run_makeMap Tryz.prog;have i0:(Instr.mapUpdate 187 (.map (some w.heap.size)) (.string ⟨#[109,117,115,116]⟩) (.int .i64 1)).run Tryz.prog (w.alloc (.map #[] 0))=.ok () (w.alloc (.map (jF [([109,117,115,116],.int .i64 1)] 0).toArray 1)):=fM 187 3 Tryz.underlying187 w [] [109,117,115,116] (.int .i64 1) (by decide +kernel);have i1:(Instr.mapUpdate 187 (.map (some w.heap.size)) (.string ⟨#[109,97,121]⟩) (.int .i64 2)).run Tryz.prog (w.alloc (.map (jF [([109,117,115,116],.int .i64 1)] 0).toArray 1))=.ok () (w.alloc (.map (jF [([109,117,115,116],.int .i64 1),([109,97,121],.int .i64 2)] 0).toArray 2)):=fM 187 3 Tryz.underlying187 w [([109,117,115,116],.int .i64 1)] [109,97,121] (.int .i64 2) (by decide +kernel);have i2:(Instr.mapUpdate 187 (.map (some w.heap.size)) (.string ⟨#[99,111,117,110,116]⟩) (.int .i64 3)).run Tryz.prog (w.alloc (.map (jF [([109,117,115,116],.int .i64 1),([109,97,121],.int .i64 2)] 0).toArray 2))=.ok () (w.alloc (.map (jF [([109,117,115,116],.int .i64 1),([109,97,121],.int .i64 2),([99,111,117,110,116],.int .i64 3)] 0).toArray 3)):=fM 187 3 Tryz.underlying187 w [([109,117,115,116],.int .i64 1),([109,97,121],.int .i64 2)] [99,111,117,110,116] (.int .i64 3) (by decide +kernel);have i3:(Instr.mapUpdate 187 (.map (some w.heap.size)) (.string ⟨#[98,111,117,110,100,115]⟩) (.int .i64 4)).run Tryz.prog (w.alloc (.map (jF [([109,117,115,116],.int .i64 1),([109,97,121],.int .i64 2),([99,111,117,110,116],.int .i64 3)] 0).toArray 3))=.ok () (w.alloc (.map (jF [([109,117,115,116],.int .i64 1),([109,97,121],.int .i64 2),([99,111,117,110,116],.int .i64 3),([98,111,117,110,100,115],.int .i64 4)] 0).toArray 4)):=fM 187 3 Tryz.underlying187 w [([109,117,115,116],.int .i64 1),([109,97,121],.int .i64 2),([99,111,117,110,116],.int .i64 3)] [98,111,117,110,100,115] (.int .i64 4) (by decide +kernel);have i4:(Instr.mapUpdate 187 (.map (some w.heap.size)) (.string ⟨#[118,97,108,117,101,115]⟩) (.int .i64 5)).run Tryz.prog (w.alloc (.map (jF [([109,117,115,116],.int .i64 1),([109,97,121],.int .i64 2),([99,111,117,110,116],.int .i64 3),([98,111,117,110,100,115],.int .i64 4)] 0).toArray 4))=.ok () (w.alloc (.map (jF [([109,117,115,116],.int .i64 1),([109,97,121],.int .i64 2),([99,111,117,110,116],.int .i64 3),([98,111,117,110,100,115],.int .i64 4),([118,97,108,117,101,115],.int .i64 5)] 0).toArray 5)):=fM 187 3 Tryz.underlying187 w [([109,117,115,116],.int .i64 1),([109,97,121],.int .i64 2),([99,111,117,110,116],.int .i64 3),([98,111,117,110,100,115],.int .i64 4)] [118,97,108,117,101,115] (.int .i64 5) (by decide +kernel);have i5:(Instr.mapUpdate 187 (.map (some w.heap.size)) (.string ⟨#[119,104,121]⟩) (.int .i64 6)).run Tryz.prog (w.alloc (.map (jF [([109,117,115,116],.int .i64 1),([109,97,121],.int .i64 2),([99,111,117,110,116],.int .i64 3),([98,111,117,110,100,115],.int .i64 4),([118,97,108,117,101,115],.int .i64 5)] 0).toArray 5))=.ok () (w.alloc (.map (jF [([109,117,115,116],.int .i64 1),([109,97,121],.int .i64 2),([99,111,117,110,116],.int .i64 3),([98,111,117,110,100,115],.int .i64 4),([118,97,108,117,101,115],.int .i64 5),([119,104,121],.int .i64 6)] 0).toArray 6)):=fM 187 3 Tryz.underlying187 w [([109,117,115,116],.int .i64 1),([109,97,121],.int .i64 2),([99,111,117,110,116],.int .i64 3),([98,111,117,110,100,115],.int .i64 4),([118,97,108,117,101,115],.int .i64 5)] [119,104,121] (.int .i64 6) (by decide +kernel);have i6:(Instr.mapUpdate 187 (.map (some w.heap.size)) (.string ⟨#[98,108,97,109,101]⟩) (.int .i64 7)).run Tryz.prog (w.alloc (.map (jF [([109,117,115,116],.int .i64 1),([109,97,121],.int .i64 2),([99,111,117,110,116],.int .i64 3),([98,111,117,110,100,115],.int .i64 4),([118,97,108,117,101,115],.int .i64 5),([119,104,121],.int .i64 6)] 0).toArray 6))=.ok () (w.alloc (.map (jF [([109,117,115,116],.int .i64 1),([109,97,121],.int .i64 2),([99,111,117,110,116],.int .i64 3),([98,111,117,110,100,115],.int .i64 4),([118,97,108,117,101,115],.int .i64 5),([119,104,121],.int .i64 6),([98,108,97,109,101],.int .i64 7)] 0).toArray 7)):=fM 187 3 Tryz.underlying187 w [([109,117,115,116],.int .i64 1),([109,97,121],.int .i64 2),([99,111,117,110,116],.int .i64 3),([98,111,117,110,100,115],.int .i64 4),([118,97,108,117,101,115],.int .i64 5),([119,104,121],.int .i64 6)] [98,108,97,109,101] (.int .i64 7) (by decide +kernel);have i7:(Instr.mapUpdate 187 (.map (some w.heap.size)) (.string ⟨#[108,111,111,107]⟩) (.int .i64 8)).run Tryz.prog (w.alloc (.map (jF [([109,117,115,116],.int .i64 1),([109,97,121],.int .i64 2),([99,111,117,110,116],.int .i64 3),([98,111,117,110,100,115],.int .i64 4),([118,97,108,117,101,115],.int .i64 5),([119,104,121],.int .i64 6),([98,108,97,109,101],.int .i64 7)] 0).toArray 7))=.ok () (w.alloc (.map (jF [([109,117,115,116],.int .i64 1),([109,97,121],.int .i64 2),([99,111,117,110,116],.int .i64 3),([98,111,117,110,100,115],.int .i64 4),([118,97,108,117,101,115],.int .i64 5),([119,104,121],.int .i64 6),([98,108,97,109,101],.int .i64 7),([108,111,111,107],.int .i64 8)] 0).toArray 8)):=fM 187 3 Tryz.underlying187 w [([109,117,115,116],.int .i64 1),([109,97,121],.int .i64 2),([99,111,117,110,116],.int .i64 3),([98,111,117,110,100,115],.int .i64 4),([118,97,108,117,101,115],.int .i64 5),([119,104,121],.int .i64 6),([98,108,97,109,101],.int .i64 7)] [108,111,111,107] (.int .i64 8) (by decide +kernel);go_in
 go_wp2_with fail;go_ret;exact⟨rfl,rfl⟩
def Fe:It→Nat
 | .choose=>182
 | .record=>183
 | .zu=>184
 | .yB=>185
 | .observe=>186
 | .kW=>187
 | .ask=>188
def fv (n:Nat):Value:=.func (.func n) #[] #[]
def Ci:List (Bs × Value):=[([99,104,111,111,115,101],fv (Fe .choose)),([116,121,112,101],fv (Fe .record)),([102,117,110],fv (Fe .zu)),([108,101,116],fv (Fe .yB)),([111,98,115,101,114,118,101],fv (Fe .observe)),([114,101,116,114,97,99,116],fv (Fe .kW)),([97,115,107],fv (Fe .ask))]
theorem Z6 (x:Bs):sW x Ci=(Hr x).map fun i=>fv (Fe i):=by
 simp only [Ci,sW,Hr];(repeat' split) <;> rfl
theorem VU (w:World):Calls Tryz.prog 135 #[] w fun e w'=>e=.returned (.map (some w.heap.size))∧w'=w.alloc (.map (jF Ci 0).toArray 7):=by
 have hmm:=@run_makeMap Tryz.prog;have i0:(Instr.mapUpdate 141 (.map (some w.heap.size)) (.string ⟨#[99,104,111,111,115,101]⟩) (.func (.func 182) #[] #[])).run Tryz.prog (w.alloc (.map #[] 0))=.ok () (w.alloc (.map (jF [([99,104,111,111,115,101],.func (.func 182) #[] #[])] 0).toArray 1)):=fM 141 145 Tryz.underlying141 w [] [99,104,111,111,115,101] (.func (.func 182) #[] #[]) (by decide +kernel);have i1:(Instr.mapUpdate 141 (.map (some w.heap.size)) (.string ⟨#[116,121,112,101]⟩) (.func (.func 183) #[] #[])).run Tryz.prog (w.alloc (.map (jF [([99,104,111,111,115,101],.func (.func 182) #[] #[])] 0).toArray 1))=.ok () (w.alloc (.map (jF [([99,104,111,111,115,101],.func (.func 182) #[] #[]),([116,121,112,101],.func (.func 183) #[] #[])] 0).toArray 2)):=fM 141 145 Tryz.underlying141 w [([99,104,111,111,115,101],.func (.func 182) #[] #[])] [116,121,112,101] (.func (.func 183) #[] #[]) (by decide +kernel);have i2:(Instr.mapUpdate 141 (.map (some w.heap.size)) (.string ⟨#[102,117,110]⟩) (.func (.func 184) #[] #[])).run Tryz.prog (w.alloc (.map (jF [([99,104,111,111,115,101],.func (.func 182) #[] #[]),([116,121,112,101],.func (.func 183) #[] #[])] 0).toArray 2))=.ok () (w.alloc (.map (jF [([99,104,111,111,115,101],.func (.func 182) #[] #[]),([116,121,112,101],.func (.func 183) #[] #[]),([102,117,110],.func (.func 184) #[] #[])] 0).toArray 3)):=fM 141 145 Tryz.underlying141 w [([99,104,111,111,115,101],.func (.func 182) #[] #[]),([116,121,112,101],.func (.func 183) #[] #[])] [102,117,110] (.func (.func 184) #[] #[]) (by decide +kernel);have i3:(Instr.mapUpdate 141 (.map (some w.heap.size)) (.string ⟨#[108,101,116]⟩) (.func (.func 185) #[] #[])).run Tryz.prog (w.alloc (.map (jF [([99,104,111,111,115,101],.func (.func 182) #[] #[]),([116,121,112,101],.func (.func 183) #[] #[]),([102,117,110],.func (.func 184) #[] #[])] 0).toArray 3))=.ok () (w.alloc (.map (jF [([99,104,111,111,115,101],.func (.func 182) #[] #[]),([116,121,112,101],.func (.func 183) #[] #[]),([102,117,110],.func (.func 184) #[] #[]),([108,101,116],.func (.func 185) #[] #[])] 0).toArray 4)):=fM 141 145 Tryz.underlying141 w [([99,104,111,111,115,101],.func (.func 182) #[] #[]),([116,121,112,101],.func (.func 183) #[] #[]),([102,117,110],.func (.func 184) #[] #[])] [108,101,116] (.func (.func 185) #[] #[]) (by decide +kernel);have i4:(Instr.mapUpdate 141 (.map (some w.heap.size)) (.string ⟨#[111,98,115,101,114,118,101]⟩) (.func (.func 186) #[] #[])).run Tryz.prog (w.alloc (.map (jF [([99,104,111,111,115,101],.func (.func 182) #[] #[]),([116,121,112,101],.func (.func 183) #[] #[]),([102,117,110],.func (.func 184) #[] #[]),([108,101,116],.func (.func 185) #[] #[])] 0).toArray 4))=.ok () (w.alloc (.map (jF [([99,104,111,111,115,101],.func (.func 182) #[] #[]),([116,121,112,101],.func (.func 183) #[] #[]),([102,117,110],.func (.func 184) #[] #[]),([108,101,116],.func (.func 185) #[] #[]),([111,98,115,101,114,118,101],.func (.func 186) #[] #[])] 0).toArray 5)):=fM 141 145 Tryz.underlying141 w [([99,104,111,111,115,101],.func (.func 182) #[] #[]),([116,121,112,101],.func (.func 183) #[] #[]),([102,117,110],.func (.func 184) #[] #[]),([108,101,116],.func (.func 185) #[] #[])] [111,98,115,101,114,118,101] (.func (.func 186) #[] #[]) (by decide +kernel);have i5:(Instr.mapUpdate 141 (.map (some w.heap.size)) (.string ⟨#[114,101,116,114,97,99,116]⟩) (.func (.func 187) #[] #[])).run Tryz.prog (w.alloc (.map (jF [([99,104,111,111,115,101],.func (.func 182) #[] #[]),([116,121,112,101],.func (.func 183) #[] #[]),([102,117,110],.func (.func 184) #[] #[]),([108,101,116],.func (.func 185) #[] #[]),([111,98,115,101,114,118,101],.func (.func 186) #[] #[])] 0).toArray 5))=.ok () (w.alloc (.map (jF [([99,104,111,111,115,101],.func (.func 182) #[] #[]),([116,121,112,101],.func (.func 183) #[] #[]),([102,117,110],.func (.func 184) #[] #[]),([108,101,116],.func (.func 185) #[] #[]),([111,98,115,101,114,118,101],.func (.func 186) #[] #[]),([114,101,116,114,97,99,116],.func (.func 187) #[] #[])] 0).toArray 6)):=fM 141 145 Tryz.underlying141 w [([99,104,111,111,115,101],.func (.func 182) #[] #[]),([116,121,112,101],.func (.func 183) #[] #[]),([102,117,110],.func (.func 184) #[] #[]),([108,101,116],.func (.func 185) #[] #[]),([111,98,115,101,114,118,101],.func (.func 186) #[] #[])] [114,101,116,114,97,99,116] (.func (.func 187) #[] #[]) (by decide +kernel);have i6:(Instr.mapUpdate 141 (.map (some w.heap.size)) (.string ⟨#[97,115,107]⟩) (.func (.func 188) #[] #[])).run Tryz.prog (w.alloc (.map (jF [([99,104,111,111,115,101],.func (.func 182) #[] #[]),([116,121,112,101],.func (.func 183) #[] #[]),([102,117,110],.func (.func 184) #[] #[]),([108,101,116],.func (.func 185) #[] #[]),([111,98,115,101,114,118,101],.func (.func 186) #[] #[]),([114,101,116,114,97,99,116],.func (.func 187) #[] #[])] 0).toArray 6))=.ok () (w.alloc (.map (jF [([99,104,111,111,115,101],.func (.func 182) #[] #[]),([116,121,112,101],.func (.func 183) #[] #[]),([102,117,110],.func (.func 184) #[] #[]),([108,101,116],.func (.func 185) #[] #[]),([111,98,115,101,114,118,101],.func (.func 186) #[] #[]),([114,101,116,114,97,99,116],.func (.func 187) #[] #[]),([97,115,107],.func (.func 188) #[] #[])] 0).toArray 7)):=fM 141 145 Tryz.underlying141 w [([99,104,111,111,115,101],.func (.func 182) #[] #[]),([116,121,112,101],.func (.func 183) #[] #[]),([102,117,110],.func (.func 184) #[] #[]),([108,101,116],.func (.func 185) #[] #[]),([111,98,115,101,114,118,101],.func (.func 186) #[] #[]),([114,101,116,114,97,99,116],.func (.func 187) #[] #[])] [97,115,107] (.func (.func 188) #[] #[]) (by decide +kernel);go_in
 go_wp2_with fail;go_ret;exact⟨rfl,rfl⟩
end Go.Proofs.YthepmkjggfijoaaGreatDoor
namespace Go.Proofs.YthepmkjggfijoaaGreatDoor
open Go.RowKit Mist
attribute [local go_sem] aj aH aS aB ak
section
variable {g:Nat} {tv:Value} {l:List Tok} {en:Int} {iv:Value} (hF:PF l)
include hF
theorem VT (m:Nat)(w:World)(k:Nat)(xs:List NV)(nv:Value)(r:j6)(h:PS g tv l en iv w (k+1) xs nv)(hk:k+1≤l.length)(hn:xs.length≤k)(hw:Wf (aA xs))(hr:gI l en m .yB k (aA xs)=some r) :
  Calls Tryz.prog 185 #[.pointer (some ⟨g,0,none⟩),.agg #[.int .u8 (tg l k).kind,.string (aM (tx l k)),.int .i64 (pl l en k)]] w (aR g tv l en iv w xs nv r):=by
 have C:=fun (f:Nat) (_:f≤m) (j:Job) (hj:isFn j=true)=>qd (g:=g) (tv:=tv) (en:=en) (iv:=iv) hF f j hj
 have CL:=fun (f:Nat) (_:f≤m) (e:El)=>pW (g:=g) (tv:=tv) (en:=en) (iv:=iv) hF f e
 have H:=hid h;clear h;have oU:=hid ((At.refl H.out).alloc (.cells #[.int .u8 (tg l k).kind,.string (aM (tx l k)),.int .i64 (pl l en k)] 68));have zl:=hid (aC.new w 68 #[.int .u8 (tg l k).kind,.string (aM (tx l k)),.int .i64 (pl l en k)]);have HW0:=hid hw;clear hw;have hn0:(aA xs).length≤k:=by rw [aD];exact hn
 have hlen:=hF.len;unfold gI at hr
 have qm:=hid hr;clear hr;go_in
 rcases gH qm.out with ⟨he1,hr1⟩ | ⟨he1,rfl⟩
 rotate_left
 ·have xM:=hid he1;clear he1;go_wp2_with fail;refine (mX g tv l en iv hF _ (k+1) _ _ oU.out.ps (by omega) xM.out).mono ?_;rintro e w1⟨rfl,hb1⟩;unfold aI;go_wp2_with fail;exact⟨rfl,aR.bad rfl ((H.out.low oU.out.mv).trans (hb1.mono (aaK oU.out.ps.lt)))⟩
 have HR1:=hid hr1;clear hr1 qm;have hlt1:=fA he1 (by simp);have xM:=hid he1;clear he1;go_wp2_with fail;refine (lC g tv l en iv hF _ (k+1) _ _ oU.out.ps (by omega) xM.out).mono ?_;rintro e w1⟨rfl,p1,m1⟩;have tN:=hid (oU.out.ps.aU m1 zl.out);clear zl;have HA1:=hid (oU.out.step p1 m1);clear oU;clear p1 m1;unfold jl;have kC:=hid (tN.out.alloc (.cells #[.int .u8 (tg l (k+1)).kind,.string (aM (tx l (k+1))),.int .i64 (pl l en (k+1))] 68));clear tN;have og:=hid (aC.new w1 68 #[.int .u8 (tg l (k+1)).kind,.string (aM (tx l (k+1))),.int .i64 (pl l en (k+1))]);have aZ:=hid (HA1.out.alloc (.cells #[.int .u8 (tg l (k+1)).kind,.string (aM (tx l (k+1))),.int .i64 (pl l en (k+1))] 68));clear HA1;rcases dO HR1.out with ⟨he2,hr2⟩ | ⟨he2,rfl⟩
 rotate_left
 ·have HE2:=hid he2;clear he2;go_wp2_with fail;refine (gQ g tv l en iv hF [61] (.inr (by decide +kernel)) _ ((k+1)+1) _ _ aZ.out.ps (by omega) HE2.out).mono ?_;rintro e w2⟨rfl,hb2⟩;unfold aI;go_wp2_with fail;exact⟨rfl,aR.bad rfl ((H.out.low aZ.out.mv).trans (hb2.mono (aaK aZ.out.ps.lt)))⟩
 have HR2:=hid hr2;clear hr2 HR1;have hlt2:=aP he2 (by simp);have HE2:=hid he2;clear he2;go_wp2_with fail;refine (eZ g tv l en iv hF [61] (.inr (by decide +kernel)) _ ((k+1)+1) _ _ aZ.out.ps (by omega) HE2.out).mono ?_;rintro e w2⟨rfl,p2,m2⟩;have eY:=hid (aZ.out.ps.aU m2 kC.out);have l8:=hid (aZ.out.ps.aU m2 og.out);clear kC og;have HA2:=hid (aZ.out.step p2 m2);clear aZ;clear p2 m2;rcases dW HR2.out with ⟨Uq,k3,uK,hx3,hr3⟩ | ⟨kb3,hx3,rfl⟩
 rotate_left
 ·have Fy:=hid hx3;clear hx3;have fH:=eY.out.cell 0;have fQ:=eY.out.cell 1;have fT:=eY.out.cell 2;have sl0:=eY.out.lt;have rD:=l8.out.cell 1;have sl1:=l8.out.lt;go_wp2_with fail;refine wp_region_held_drew (S:=fun w'=>w'.cell? ⟨w.heap.size,0,none⟩=some (.int .u8 (tg l k).kind)∧w'.cell? ⟨w.heap.size,1,none⟩=some (.string (aM (tx l k)))∧w'.cell? ⟨w.heap.size,2,none⟩=some (.int .i64 (pl l en k))∧w'.cell? ⟨w1.heap.size,1,none⟩=some (.string (aM (tx l (k+1))))) (by kernel_rfl) ⟨fH,fQ,fT,rD⟩ (fun hHeld=>?_);refine bf 0 rfl hHeld ?_;simp only [Act.put,aaA,aaB,aaC];refine bf 1 rfl hHeld ?_;simp only [Act.put,aaA,aaB,aaC];refine bf 2 rfl hHeld ?_;simp only [Act.put,aaA,aaB,aaC];refine bf 3 rfl hHeld ?_;simp only [Act.put,aaA,aaB,aaC];refine bf 4 rfl hHeld ?_;simp only [Act.put,aaA,aaB,aaC];refine wpAnyH_ready (rs:=[5]) (by kernel_rfl) (by simp) ?_;refine fJ (.s (.s (.s (.s (.s .z))))) (fun K hK=>?_);go_simp;refine (C m (aaJ _) .expr rfl _ (((k+1)+1)+1) _ _ _ HA2.out.ps.drew (by omega) (by rw [HA2.out.len];omega) (by rw [HA2.out.ns];exact HW0.out) (by rw [HA2.out.ns];exact Fy.out)).mono ?_;rintro e w3⟨rfl,hb3⟩;unfold aI;go_wp2_with fail;exact⟨rfl,aR.bad rfl ((Below.drew (H.out.low HA2.out.mv)).trans hb3)⟩
 have Fy:=hid hx3;clear hx3;have HR3:=hid hr3;clear hr3 HR2;have EW:=hid (aW Fy.out (by omega) HW0.out (Ids.nil _) (by simp));have gl3:=EW.out.lo;have gf3:=EW.out.few;have ge3:=EW.out.le;have gn3:=EW.out.len;simp only [Job.reads] at gl3
 have fH:=eY.out.cell 0;have fQ:=eY.out.cell 1;have fT:=eY.out.cell 2;have sl0:=eY.out.lt;have rD:=l8.out.cell 1;have sl1:=l8.out.lt;go_wp2_with fail
 go_region_held3 (fun w'=>w'.cell? ⟨w.heap.size,0,none⟩=some (.int .u8 (tg l k).kind)∧w'.cell? ⟨w.heap.size,1,none⟩=some (.string (aM (tx l k)))∧w'.cell? ⟨w.heap.size,2,none⟩=some (.int .i64 (pl l en k))∧w'.cell? ⟨w1.heap.size,1,none⟩=some (.string (aM (tx l (k+1)))))
  (first | go_keep|(go_split_ands;refine⟨?_,?_,?_,?_⟩ <;> assumption))
  (first
   | (go_at_call 210;refine (C m (aaJ _) .expr rfl _ (((k+1)+1)+1) _ _ _ HA2.out.ps.drew (by omega) (by rw [HA2.out.len];omega) (by rw [HA2.out.ns];exact HW0.out) (by rw [HA2.out.ns];exact Fy.out)).mono ?_;rintro e w3⟨rfl,ext3,FM,FK⟩;have gM:=hid (HA2.out.drew.trans FK);have kZ:=FK.blk HA2.out.ps.drew eY.out.drew (by decide) (by decide);have wV:=kZ.cell 0;have wW:=kZ.cell 1;have wX:=kZ.cell 2;have Xx:=kZ.lt;have r9:=hid kZ;clear kZ;have BP:=FK.blk HA2.out.ps.drew l8.out.drew (by decide) (by decide);have Zl:=BP.cell 1;have dl1:=BP.lt;have Gb:=hid BP;clear BP;have hz3:=gM.out.mv.size;clear FK)
   | (go_at_call 204;refine (gB g tv l en iv uK.length 43 _ _ _ (tx l (k+1)) 0 _ [hd Uq] _ k3 _ _ (gM.out.ps.alloc _) (rH w3 (hd Uq)) gM.out.len (by omega)).mono ?_;rintro e w4⟨rfl,yH,p4,m4⟩;have oI:=m4.blk (r9.out.alloc _) (gM.out.ps.tag r9.out (by decide) (by decide)).1 (gM.out.ps.tag r9.out (by decide) (by decide)).2;have wY:=oI.cell 0;have wZ:=oI.cell 1;have w_:=oI.cell 2;clear oI;have NM:=m4.blk (Gb.out.alloc _) (gM.out.ps.tag Gb.out (by decide) (by decide)).1 (gM.out.ps.tag Gb.out (by decide) (by decide)).2;have Zn:=NM.cell 1;clear NM;have fq:=hid ((At.alloc gM.out _).add p4 m4 (by intro b hb;simp [Value.ownBlock] at hb;omega));clear p4 m4))
 all_goals
  obtain rfl:=dV HR3.out;go_wp2_with fail;go_ret;exact aR.ok rfl fq.out
end
section
variable {g:Nat} {tv:Value} {l:List Tok} {en:Int} {iv:Value} (hF:PF l)
include hF
theorem Mr (m:Nat)(w:World)(k:Nat)(xs:List NV)(nv:Value)(r:j6)(h:PS g tv l en iv w (k+1) xs nv)(hk:k+1≤l.length)(hn:xs.length≤k)(hw:Wf (aA xs))(hr:gI l en m .observe k (aA xs)=some r) :
  Calls Tryz.prog 186 #[.pointer (some ⟨g,0,none⟩),.agg #[.int .u8 (tg l k).kind,.string (aM (tx l k)),.int .i64 (pl l en k)]] w (aR g tv l en iv w xs nv r):=by
 have C:=fun (f:Nat) (_:f≤m) (j:Job) (hj:isFn j=true)=>qd (g:=g) (tv:=tv) (en:=en) (iv:=iv) hF f j hj
 have CL:=fun (f:Nat) (_:f≤m) (e:El)=>pW (g:=g) (tv:=tv) (en:=en) (iv:=iv) hF f e
 have H:=hid h;clear h;have oU:=hid ((At.refl H.out).alloc (.cells #[.int .u8 (tg l k).kind,.string (aM (tx l k)),.int .i64 (pl l en k)] 68));have zl:=hid (aC.new w 68 #[.int .u8 (tg l k).kind,.string (aM (tx l k)),.int .i64 (pl l en k)]);have HW0:=hid hw;clear hw;have hn0:(aA xs).length≤k:=by rw [aD];exact hn
 have hlen:=hF.len;unfold gI at hr
 have qm:=hid hr;clear hr;go_in
 rcases gH qm.out with ⟨he1,hr1⟩ | ⟨he1,rfl⟩
 rotate_left
 ·have xM:=hid he1;clear he1;go_wp2_with fail;refine (mX g tv l en iv hF _ (k+1) _ _ oU.out.ps (by omega) xM.out).mono ?_;rintro e w1⟨rfl,hb1⟩;unfold aI;go_wp2_with fail;exact⟨rfl,aR.bad rfl ((H.out.low oU.out.mv).trans (hb1.mono (aaK oU.out.ps.lt)))⟩
 have HR1:=hid hr1;clear hr1 qm;have hlt1:=fA he1 (by simp);have xM:=hid he1;clear he1;go_wp2_with fail;refine (lC g tv l en iv hF _ (k+1) _ _ oU.out.ps (by omega) xM.out).mono ?_;rintro e w1⟨rfl,p1,m1⟩;have tN:=hid (oU.out.ps.aU m1 zl.out);clear zl;have HA1:=hid (oU.out.step p1 m1);clear oU;clear p1 m1;unfold jl;have kC:=hid (tN.out.alloc (.cells #[.int .u8 (tg l (k+1)).kind,.string (aM (tx l (k+1))),.int .i64 (pl l en (k+1))] 68));clear tN;have og:=hid (aC.new w1 68 #[.int .u8 (tg l (k+1)).kind,.string (aM (tx l (k+1))),.int .i64 (pl l en (k+1))]);have aZ:=hid (HA1.out.alloc (.cells #[.int .u8 (tg l (k+1)).kind,.string (aM (tx l (k+1))),.int .i64 (pl l en (k+1))] 68));clear HA1;rcases dO HR1.out with ⟨he2,hr2⟩ | ⟨he2,rfl⟩
 rotate_left
 ·have HE2:=hid he2;clear he2;go_wp2_with fail;refine (gQ g tv l en iv hF [58] (.inr (by decide +kernel)) _ ((k+1)+1) _ _ aZ.out.ps (by omega) HE2.out).mono ?_;rintro e w2⟨rfl,hb2⟩;unfold aI;go_wp2_with fail;exact⟨rfl,aR.bad rfl ((H.out.low aZ.out.mv).trans (hb2.mono (aaK aZ.out.ps.lt)))⟩
 have HR2:=hid hr2;clear hr2 HR1;have hlt2:=aP he2 (by simp);have HE2:=hid he2;clear he2;go_wp2_with fail;refine (eZ g tv l en iv hF [58] (.inr (by decide +kernel)) _ ((k+1)+1) _ _ aZ.out.ps (by omega) HE2.out).mono ?_;rintro e w2⟨rfl,p2,m2⟩;have eY:=hid (aZ.out.ps.aU m2 kC.out);have l8:=hid (aZ.out.ps.aU m2 og.out);clear kC og;have HA2:=hid (aZ.out.step p2 m2);clear aZ;clear p2 m2;rcases dW HR2.out with ⟨Uq,k3,uK,hx3,hr3⟩ | ⟨kb3,hx3,rfl⟩
 rotate_left
 ·have Fy:=hid hx3;clear hx3;have fH:=eY.out.cell 0;have fQ:=eY.out.cell 1;have fT:=eY.out.cell 2;have sl0:=eY.out.lt;have rD:=l8.out.cell 1;have sl1:=l8.out.lt;go_wp2_with fail;refine wp_region_held_drew (S:=fun w'=>w'.cell? ⟨w.heap.size,0,none⟩=some (.int .u8 (tg l k).kind)∧w'.cell? ⟨w.heap.size,1,none⟩=some (.string (aM (tx l k)))∧w'.cell? ⟨w.heap.size,2,none⟩=some (.int .i64 (pl l en k))∧w'.cell? ⟨w1.heap.size,1,none⟩=some (.string (aM (tx l (k+1))))) (by kernel_rfl) ⟨fH,fQ,fT,rD⟩ (fun hHeld=>?_);refine bf 0 rfl hHeld ?_;simp only [Act.put,aaA,aaB,aaC];refine bf 1 rfl hHeld ?_;simp only [Act.put,aaA,aaB,aaC];refine bf 2 rfl hHeld ?_;simp only [Act.put,aaA,aaB,aaC];refine bf 3 rfl hHeld ?_;simp only [Act.put,aaA,aaB,aaC];refine bf 4 rfl hHeld ?_;simp only [Act.put,aaA,aaB,aaC];refine wpAnyH_ready (rs:=[5]) (by kernel_rfl) (by simp) ?_;refine fJ (.s (.s (.s (.s (.s .z))))) (fun K hK=>?_);go_simp;refine (C m (aaJ _) .expr rfl _ (((k+1)+1)+1) _ _ _ HA2.out.ps.drew (by omega) (by rw [HA2.out.len];omega) (by rw [HA2.out.ns];exact HW0.out) (by rw [HA2.out.ns];exact Fy.out)).mono ?_;rintro e w3⟨rfl,hb3⟩;unfold aI;go_wp2_with fail;exact⟨rfl,aR.bad rfl ((Below.drew (H.out.low HA2.out.mv)).trans hb3)⟩
 have Fy:=hid hx3;clear hx3;have HR3:=hid hr3;clear hr3 HR2;have EW:=hid (aW Fy.out (by omega) HW0.out (Ids.nil _) (by simp));have gl3:=EW.out.lo;have gf3:=EW.out.few;have ge3:=EW.out.le;have gn3:=EW.out.len;simp only [Job.reads] at gl3
 have fH:=eY.out.cell 0;have fQ:=eY.out.cell 1;have fT:=eY.out.cell 2;have sl0:=eY.out.lt;have rD:=l8.out.cell 1;have sl1:=l8.out.lt;go_wp2_with fail
 go_region_held3 (fun w'=>w'.cell? ⟨w.heap.size,0,none⟩=some (.int .u8 (tg l k).kind)∧w'.cell? ⟨w.heap.size,1,none⟩=some (.string (aM (tx l k)))∧w'.cell? ⟨w.heap.size,2,none⟩=some (.int .i64 (pl l en k))∧w'.cell? ⟨w1.heap.size,1,none⟩=some (.string (aM (tx l (k+1)))))
  (first | go_keep|(go_split_ands;refine⟨?_,?_,?_,?_⟩ <;> assumption))
  (first
   | (go_at_call 210;refine (C m (aaJ _) .expr rfl _ (((k+1)+1)+1) _ _ _ HA2.out.ps.drew (by omega) (by rw [HA2.out.len];omega) (by rw [HA2.out.ns];exact HW0.out) (by rw [HA2.out.ns];exact Fy.out)).mono ?_;rintro e w3⟨rfl,ext3,FM,FK⟩;have gM:=hid (HA2.out.drew.trans FK);have kZ:=FK.blk HA2.out.ps.drew eY.out.drew (by decide) (by decide);have wV:=kZ.cell 0;have wW:=kZ.cell 1;have wX:=kZ.cell 2;have Xx:=kZ.lt;have r9:=hid kZ;clear kZ;have BP:=FK.blk HA2.out.ps.drew l8.out.drew (by decide) (by decide);have Zl:=BP.cell 1;have dl1:=BP.lt;have Gb:=hid BP;clear BP;have hz3:=gM.out.mv.size;clear FK)
   | (go_at_call 204;refine (gB g tv l en iv uK.length 44 _ _ _ (tx l (k+1)) 0 _ [hd Uq] _ k3 _ _ (gM.out.ps.alloc _) (rH w3 (hd Uq)) gM.out.len (by omega)).mono ?_;rintro e w4⟨rfl,yH,p4,m4⟩;have oI:=m4.blk (r9.out.alloc _) (gM.out.ps.tag r9.out (by decide) (by decide)).1 (gM.out.ps.tag r9.out (by decide) (by decide)).2;have wY:=oI.cell 0;have wZ:=oI.cell 1;have w_:=oI.cell 2;clear oI;have NM:=m4.blk (Gb.out.alloc _) (gM.out.ps.tag Gb.out (by decide) (by decide)).1 (gM.out.ps.tag Gb.out (by decide) (by decide)).2;have Zn:=NM.cell 1;clear NM;have fq:=hid ((At.alloc gM.out _).add p4 m4 (by intro b hb;simp [Value.ownBlock] at hb;omega));clear p4 m4))
 all_goals
  obtain rfl:=dV HR3.out;go_wp2_with fail;go_ret;exact aR.ok rfl fq.out
end
section
variable {g:Nat} {tv:Value} {l:List Tok} {en:Int} {iv:Value} (hF:PF l)
include hF
theorem Ms (m:Nat)(w:World)(k:Nat)(xs:List NV)(nv:Value)(r:j6)(h:PS g tv l en iv w (k+1) xs nv)(hk:k+1≤l.length)(hn:xs.length≤k)(hw:Wf (aA xs))(hr:gI l en m .kW k (aA xs)=some r) :
  Calls Tryz.prog 187 #[.pointer (some ⟨g,0,none⟩),.agg #[.int .u8 (tg l k).kind,.string (aM (tx l k)),.int .i64 (pl l en k)]] w (aR g tv l en iv w xs nv r):=by
 have C:=fun (f:Nat) (_:f≤m) (j:Job) (hj:isFn j=true)=>qd (g:=g) (tv:=tv) (en:=en) (iv:=iv) hF f j hj
 have CL:=fun (f:Nat) (_:f≤m) (e:El)=>pW (g:=g) (tv:=tv) (en:=en) (iv:=iv) hF f e
 have H:=hid h;clear h;have oU:=hid ((At.refl H.out).alloc (.cells #[.int .u8 (tg l k).kind,.string (aM (tx l k)),.int .i64 (pl l en k)] 68));have zl:=hid (aC.new w 68 #[.int .u8 (tg l k).kind,.string (aM (tx l k)),.int .i64 (pl l en k)]);have HW0:=hid hw;clear hw;have hn0:(aA xs).length≤k:=by rw [aD];exact hn
 have hlen:=hF.len;unfold gI at hr
 have qm:=hid hr;clear hr;go_in
 rcases gH qm.out with ⟨he1,hr1⟩ | ⟨he1,rfl⟩
 rotate_left
 ·have xM:=hid he1;clear he1;have fH:=zl.out.cell 0;have fQ:=zl.out.cell 1;have fT:=zl.out.cell 2;have sl0:=zl.out.lt;go_wp2_with fail;refine wp_region_held_drew (S:=fun w'=>w'.cell? ⟨w.heap.size,0,none⟩=some (.int .u8 (tg l k).kind)∧w'.cell? ⟨w.heap.size,1,none⟩=some (.string (aM (tx l k)))∧w'.cell? ⟨w.heap.size,2,none⟩=some (.int .i64 (pl l en k))) (by kernel_rfl) ⟨fH,fQ,fT⟩ (fun hHeld=>?_);refine bf 0 rfl hHeld ?_;simp only [Act.put,aaA,aaB,aaC];refine bf 1 rfl hHeld ?_;simp only [Act.put,aaA,aaB,aaC];refine bf 2 rfl hHeld ?_;simp only [Act.put,aaA,aaB,aaC];refine wpAnyH_ready (rs:=[3]) (by kernel_rfl) (by simp) ?_;refine fJ (.s (.s (.s .z))) (fun K hK=>?_);go_simp;refine (mX g tv l en iv hF _ (k+1) _ _ oU.out.ps.drew (by omega) xM.out).mono ?_;rintro e w1⟨rfl,hb1⟩;unfold aI;go_wp2_with fail;exact⟨rfl,aR.bad rfl ((Below.drew (H.out.low oU.out.mv)).trans (hb1.mono (aaK oU.out.ps.lt)))⟩
 have hlt1:=fA he1 (by simp);have xM:=hid he1;clear he1;have HR1:=hid hr1;clear hr1 qm;have tf1:=mQ;have fH:=zl.out.cell 0;have fQ:=zl.out.cell 1;have fT:=zl.out.cell 2;have sl0:=zl.out.lt;go_wp2_with fail
 go_region_held3 (fun w'=>w'.cell? ⟨w.heap.size,0,none⟩=some (.int .u8 (tg l k).kind)∧w'.cell? ⟨w.heap.size,1,none⟩=some (.string (aM (tx l k)))∧w'.cell? ⟨w.heap.size,2,none⟩=some (.int .i64 (pl l en k)))
  (first | go_keep|(go_split_ands;refine⟨?_,?_,?_⟩ <;> assumption))
  (first
   | (go_at_call 202;(with_reducible refine (lC g tv l en iv hF _ (k+1) _ _ oU.out.ps.drew (by omega) xM.out).mono ?_);rintro e w1⟨rfl,p1,m1⟩;unfold jl;have HA1:=hid (oU.out.drew.step p1 m1);have J4:=oU.out.ps.drew.aU m1 zl.out.drew;have wV:=J4.cell 0;have wW:=J4.cell 1;have wX:=J4.cell 2;have Xx:=J4.lt;have YW:=hid J4;clear J4;have hz1:=HA1.out.mv.size;clear p1 m1)
   | (go_at_call 204;(refine (gB g tv l en iv (aA xs).length 45 _ _ _ (tx l (k+1)) 0 _ [] _ ((k+1)+1) _ _ (HA1.out.ps) (cB.none_ _) HA1.out.len (by omega)).mono ?_);rintro e w2⟨rfl,Qu,p2,m2⟩;have Ud:=m2.blk (YW.out) (HA1.out.ps.tag YW.out (by decide) (by decide)).1 (HA1.out.ps.tag YW.out (by decide) (by decide)).2;have wY:=Ud.cell 0;have wZ:=Ud.cell 1;have w_:=Ud.cell 2;clear Ud;have HA2:=hid ((HA1.out).add p2 m2 (by intro b hb;simp [Value.ownBlock] at hb));clear p2 m2))
 all_goals
  obtain rfl:=dV HR1.out;go_wp2_with fail;go_ret;exact aR.ok rfl HA2.out
end
end Go.Proofs.YthepmkjggfijoaaGreatDoor
