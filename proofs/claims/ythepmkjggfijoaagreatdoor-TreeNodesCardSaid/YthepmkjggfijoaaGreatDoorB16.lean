/-
  PARTS of the proof: TI0, TIlet, TIobserve, TIretract.
-/
import Derived.Carry
import Derived.Test.YthepmkjggfijoaaGreatDoorB15
set_option linter.all false
set_option maxRecDepth 100000
set_option maxHeartbeats 4000000
open Go.Lib (hid)
namespace Go.Proofs.YthepmkjggfijoaaGreatDoor
open Go.RowKit Mist
theorem listT_len {l:List Tok} {en:Int}:∀ (n:Nat) (e:El) (acc:List Int) (k:Nat) (ns:List Nd) (asl:List Int) (k1:Nat) (ns1:List Nd),k≤l.length→Wf ns→run l en n (.listT e acc) k ns=some (.ok asl k1 ns1)→asl.length+k≤acc.length+k1
 | 0,_,_,_,_,_,_,_,_,_,h=>by rw [run] at h;cases h
 | n+1,e,acc,k,ns,asl,k1,ns1,hk,hw,h=>by
  rw [run] at h
  by_cases hc:tx l k=[44]
  ·have hlt:=tx_lt hc (by simp)
   rw [if_pos hc] at h
   rcases thn_split h with ⟨ks2,k2,ns2,hx,hr⟩ | ⟨kb,hx,h2⟩
   ·have g:=run_goes hx (by omega) hw (by cases e <;> exact Ids.nil _) (by cases e <;> simp [El.job])
    have h3:=listT_len n e (acc ++ [hd ks2]) k2 ns2 asl k1 ns1 g.le g.wf hr
    have h4:=g.lo
    rw [List.length_append] at h3
    simp only [List.length_singleton] at h3
    omega
   ·cases h2
  ·rw [if_neg hc] at h
   injection h with h;injection h with h1 h2 h3
   subst h1 h2;omega
theorem list_len {l:List Tok} {en:Int} {n:Nat} {e:El} {k:Nat} {ns:List Nd} {asl:List Int} {k1:Nat} {ns1:List Nd} (hk:k≤l.length) (hw:Wf ns) (h:run l en n (.list e) k ns=some (.ok asl k1 ns1)):asl.length≤k1:=by
 cases n with
 | zero=>rw [run] at h;cases h
 | succ n =>
  rw [run] at h
  rcases thn_split h with ⟨ks2,k2,ns2,hx,hr⟩ | ⟨kb,hx,h2⟩
  ·have g:=run_goes hx hk hw (by cases e <;> exact Ids.nil _) (by cases e <;> simp [El.job])
   have h3:=listT_len n e [hd ks2] k2 ns2 asl k1 ns1 g.le g.wf hr
   have h4:=g.lo
   have h5:e.job.reads=1:=by cases e <;> rfl
   simp only [List.length_singleton] at h3
   omega
  ·cases h2
theorem kid_of {w:World} {base q:Nat} {v:Value} {acc:List Int} (hq:acc.length=q) (h:w.ownsRow base 3 1 v q (intCells acc)):KidRow w v acc:=by
 subst hq;exact own_base h (fun _ _=>Nat.zero_le _)
theorem ne_nil {ext:List NV}:∀ x ∈ ext,x.2.ownBlock=none∨x.2.ownBlock ≠ (Value.slice none 0 0).ownBlock:=fun x _=>by
 rcases h:x.2.ownBlock with _ | b
 ·exact .inl rfl
 ·exact .inr (by simp [Value.ownBlock])
theorem ne_snoc {ext e2:List NV} {w:World} {v:Value} (h:∀ x ∈ ext,x.2.ownBlock=none∨x.2.ownBlock ≠ v.ownBlock) (hf:Fresh w e2) (hv:∀ b,v.ownBlock=some b→b < w.heap.size):∀ x ∈ ext ++ e2,x.2.ownBlock=none∨x.2.ownBlock ≠ v.ownBlock:=fun x hx=>by
 rcases List.mem_append.1 hx with hx | hx
 ·exact h x hx
 ·exact fresh_ne hf hx hv
theorem ne_grown {g:Nat} {tv:Value} {l:List Tok} {en:Int} {iv:Value} {w1:World} {k:Nat} {xs ext:List NV} {nv:Value} {v:Value} {gg:Nat} (p:PS g tv l en iv w1 k (xs ++ ext) nv) (h:∀ x ∈ ext,x.2.ownBlock=none∨x.2.ownBlock ≠ v.ownBlock) (hat:v.ownBlock=some gg∨gg=w1.heap.size+1) (q c:Nat):∀ x ∈ ext,x.2.ownBlock=none∨x.2.ownBlock ≠ (Value.slice (some ⟨gg,0,none⟩) q c).ownBlock:=fun x hx=>by
 show x.2.ownBlock=none∨x.2.ownBlock ≠ some gg
 rcases hat with e | e
 ·rw [← e];exact h x hx
 ·rcases h9:x.2.ownBlock with _ | b
  ·exact .inl rfl
  ·right
   intro e2
   injection e2 with e2
   have:=(World.ownsRow.lt (p.kids x (List.mem_append_right _ hx)) b h9).2
   omega
theorem blk_grown {w w2:World} {o:Obj} {T e s n b:Nat} {v:Value} {ys:List Value} {base:Nat} {cs:Array Value} (hb:Blk w b T cs) (ho:w.ownsRow base e s v n ys) (hg:(w.alloc o).grownBy w2 v.ownBlock) (hd:e ≠ T):Blk w2 b T cs :=
 (hb.alloc o).grown hg (fun e2=>own_blk_ne ho hb hd e2.symm)
theorem text_is (x y:Bs) (h:x=y):(x == y)=true:=by simp [h]
theorem text_isnt (x y:Bs) (h:¬ x=y):(x == y)=false:=by simp [h]
def qents:List (Bs × Value):=[([109,117,115,116],.int .i64 1),([109,97,121],.int .i64 2),([99,111,117,110,116],.int .i64 3),([98,111,117,110,100,115],.int .i64 4),([118,97,108,117,101,115],.int .i64 5),([119,104,121],.int .i64 6),([98,108,97,109,101],.int .i64 7),([108,111,111,107],.int .i64 8)]
theorem qents_of (x:Bs):(sFind x qents).getD (.int .i64 0)=.int .i64 (queryOf x:Nat):=by
 simp only [qents,sFind,queryOf];(repeat' split) <;> rfl
theorem lookup_q (w:World) (m c:Nat) (hm:w.heap[m]? = some (.map (sEs qents 0).toArray c)) (x:Bs):(Instr.lookup 187 (.map (some m)) (.string (ofL x)) false).run Tryz.prog w=.ok (.int .i64 (queryOf x:Nat)) w:=by
 have h:=lookup_s 187 3 (.int .i64 0) Tryz.underlying187 w (zero_int w) qents m c hm x false
 rw [h,qents_of];rfl
theorem queries_any (w:World):Calls Tryz.prog 211 #[] w fun e w'=>e=.returned (.map (some w.heap.size))∧w'=w.alloc (.map (sEs qents 0).toArray 8):=by
 have hmm:=@run_makeMap Tryz.prog
 have i0:(Instr.mapUpdate 187 (.map (some w.heap.size)) (.string ⟨#[109,117,115,116]⟩) (.int .i64 1)).run Tryz.prog (w.alloc (.map #[] 0))=.ok () (w.alloc (.map (sEs [([109,117,115,116],.int .i64 1)] 0).toArray 1)):=insert_s 187 3 Tryz.underlying187 w [] [109,117,115,116] (.int .i64 1) (by decide +kernel)
 have i1:(Instr.mapUpdate 187 (.map (some w.heap.size)) (.string ⟨#[109,97,121]⟩) (.int .i64 2)).run Tryz.prog (w.alloc (.map (sEs [([109,117,115,116],.int .i64 1)] 0).toArray 1))=.ok () (w.alloc (.map (sEs [([109,117,115,116],.int .i64 1),([109,97,121],.int .i64 2)] 0).toArray 2)):=insert_s 187 3 Tryz.underlying187 w [([109,117,115,116],.int .i64 1)] [109,97,121] (.int .i64 2) (by decide +kernel)
 have i2:(Instr.mapUpdate 187 (.map (some w.heap.size)) (.string ⟨#[99,111,117,110,116]⟩) (.int .i64 3)).run Tryz.prog (w.alloc (.map (sEs [([109,117,115,116],.int .i64 1),([109,97,121],.int .i64 2)] 0).toArray 2))=.ok () (w.alloc (.map (sEs [([109,117,115,116],.int .i64 1),([109,97,121],.int .i64 2),([99,111,117,110,116],.int .i64 3)] 0).toArray 3)):=insert_s 187 3 Tryz.underlying187 w [([109,117,115,116],.int .i64 1),([109,97,121],.int .i64 2)] [99,111,117,110,116] (.int .i64 3) (by decide +kernel)
 have i3:(Instr.mapUpdate 187 (.map (some w.heap.size)) (.string ⟨#[98,111,117,110,100,115]⟩) (.int .i64 4)).run Tryz.prog (w.alloc (.map (sEs [([109,117,115,116],.int .i64 1),([109,97,121],.int .i64 2),([99,111,117,110,116],.int .i64 3)] 0).toArray 3))=.ok () (w.alloc (.map (sEs [([109,117,115,116],.int .i64 1),([109,97,121],.int .i64 2),([99,111,117,110,116],.int .i64 3),([98,111,117,110,100,115],.int .i64 4)] 0).toArray 4)):=insert_s 187 3 Tryz.underlying187 w [([109,117,115,116],.int .i64 1),([109,97,121],.int .i64 2),([99,111,117,110,116],.int .i64 3)] [98,111,117,110,100,115] (.int .i64 4) (by decide +kernel)
 have i4:(Instr.mapUpdate 187 (.map (some w.heap.size)) (.string ⟨#[118,97,108,117,101,115]⟩) (.int .i64 5)).run Tryz.prog (w.alloc (.map (sEs [([109,117,115,116],.int .i64 1),([109,97,121],.int .i64 2),([99,111,117,110,116],.int .i64 3),([98,111,117,110,100,115],.int .i64 4)] 0).toArray 4))=.ok () (w.alloc (.map (sEs [([109,117,115,116],.int .i64 1),([109,97,121],.int .i64 2),([99,111,117,110,116],.int .i64 3),([98,111,117,110,100,115],.int .i64 4),([118,97,108,117,101,115],.int .i64 5)] 0).toArray 5)):=insert_s 187 3 Tryz.underlying187 w [([109,117,115,116],.int .i64 1),([109,97,121],.int .i64 2),([99,111,117,110,116],.int .i64 3),([98,111,117,110,100,115],.int .i64 4)] [118,97,108,117,101,115] (.int .i64 5) (by decide +kernel)
 have i5:(Instr.mapUpdate 187 (.map (some w.heap.size)) (.string ⟨#[119,104,121]⟩) (.int .i64 6)).run Tryz.prog (w.alloc (.map (sEs [([109,117,115,116],.int .i64 1),([109,97,121],.int .i64 2),([99,111,117,110,116],.int .i64 3),([98,111,117,110,100,115],.int .i64 4),([118,97,108,117,101,115],.int .i64 5)] 0).toArray 5))=.ok () (w.alloc (.map (sEs [([109,117,115,116],.int .i64 1),([109,97,121],.int .i64 2),([99,111,117,110,116],.int .i64 3),([98,111,117,110,100,115],.int .i64 4),([118,97,108,117,101,115],.int .i64 5),([119,104,121],.int .i64 6)] 0).toArray 6)):=insert_s 187 3 Tryz.underlying187 w [([109,117,115,116],.int .i64 1),([109,97,121],.int .i64 2),([99,111,117,110,116],.int .i64 3),([98,111,117,110,100,115],.int .i64 4),([118,97,108,117,101,115],.int .i64 5)] [119,104,121] (.int .i64 6) (by decide +kernel)
 have i6:(Instr.mapUpdate 187 (.map (some w.heap.size)) (.string ⟨#[98,108,97,109,101]⟩) (.int .i64 7)).run Tryz.prog (w.alloc (.map (sEs [([109,117,115,116],.int .i64 1),([109,97,121],.int .i64 2),([99,111,117,110,116],.int .i64 3),([98,111,117,110,100,115],.int .i64 4),([118,97,108,117,101,115],.int .i64 5),([119,104,121],.int .i64 6)] 0).toArray 6))=.ok () (w.alloc (.map (sEs [([109,117,115,116],.int .i64 1),([109,97,121],.int .i64 2),([99,111,117,110,116],.int .i64 3),([98,111,117,110,100,115],.int .i64 4),([118,97,108,117,101,115],.int .i64 5),([119,104,121],.int .i64 6),([98,108,97,109,101],.int .i64 7)] 0).toArray 7)):=insert_s 187 3 Tryz.underlying187 w [([109,117,115,116],.int .i64 1),([109,97,121],.int .i64 2),([99,111,117,110,116],.int .i64 3),([98,111,117,110,100,115],.int .i64 4),([118,97,108,117,101,115],.int .i64 5),([119,104,121],.int .i64 6)] [98,108,97,109,101] (.int .i64 7) (by decide +kernel)
 have i7:(Instr.mapUpdate 187 (.map (some w.heap.size)) (.string ⟨#[108,111,111,107]⟩) (.int .i64 8)).run Tryz.prog (w.alloc (.map (sEs [([109,117,115,116],.int .i64 1),([109,97,121],.int .i64 2),([99,111,117,110,116],.int .i64 3),([98,111,117,110,100,115],.int .i64 4),([118,97,108,117,101,115],.int .i64 5),([119,104,121],.int .i64 6),([98,108,97,109,101],.int .i64 7)] 0).toArray 7))=.ok () (w.alloc (.map (sEs [([109,117,115,116],.int .i64 1),([109,97,121],.int .i64 2),([99,111,117,110,116],.int .i64 3),([98,111,117,110,100,115],.int .i64 4),([118,97,108,117,101,115],.int .i64 5),([119,104,121],.int .i64 6),([98,108,97,109,101],.int .i64 7),([108,111,111,107],.int .i64 8)] 0).toArray 8)):=insert_s 187 3 Tryz.underlying187 w [([109,117,115,116],.int .i64 1),([109,97,121],.int .i64 2),([99,111,117,110,116],.int .i64 3),([98,111,117,110,100,115],.int .i64 4),([118,97,108,117,101,115],.int .i64 5),([119,104,121],.int .i64 6),([98,108,97,109,101],.int .i64 7)] [108,111,111,107] (.int .i64 8) (by decide +kernel)
 go_enter Tryz.func211,Tryz.ntmps211
 go_wp2_with fail
 go_ret
 exact⟨rfl,rfl⟩
def itFn:It→Nat
 | .choose=>182
 | .record=>183
 | .fun_=>184
 | .let_=>185
 | .observe=>186
 | .retract=>187
 | .ask=>188
def fv (n:Nat):Value:=.func (.func n) #[] #[]
def ients:List (Bs × Value):=[([99,104,111,111,115,101],fv (itFn .choose)),([116,121,112,101],fv (itFn .record)),([102,117,110],fv (itFn .fun_)),([108,101,116],fv (itFn .let_)),([111,98,115,101,114,118,101],fv (itFn .observe)),([114,101,116,114,97,99,116],fv (itFn .retract)),([97,115,107],fv (itFn .ask))]
theorem ients_of (x:Bs):sFind x ients=(itOf x).map fun i=>fv (itFn i):=by
 simp only [ients,sFind,itOf];(repeat' split) <;> rfl
theorem items_any (w:World):Calls Tryz.prog 135 #[] w fun e w'=>e=.returned (.map (some w.heap.size))∧w'=w.alloc (.map (sEs ients 0).toArray 7):=by
 have hmm:=@run_makeMap Tryz.prog
 have i0:(Instr.mapUpdate 141 (.map (some w.heap.size)) (.string ⟨#[99,104,111,111,115,101]⟩) (.func (.func 182) #[] #[])).run Tryz.prog (w.alloc (.map #[] 0))=.ok () (w.alloc (.map (sEs [([99,104,111,111,115,101],.func (.func 182) #[] #[])] 0).toArray 1)):=insert_s 141 145 Tryz.underlying141 w [] [99,104,111,111,115,101] (.func (.func 182) #[] #[]) (by decide +kernel)
 have i1:(Instr.mapUpdate 141 (.map (some w.heap.size)) (.string ⟨#[116,121,112,101]⟩) (.func (.func 183) #[] #[])).run Tryz.prog (w.alloc (.map (sEs [([99,104,111,111,115,101],.func (.func 182) #[] #[])] 0).toArray 1))=.ok () (w.alloc (.map (sEs [([99,104,111,111,115,101],.func (.func 182) #[] #[]),([116,121,112,101],.func (.func 183) #[] #[])] 0).toArray 2)):=insert_s 141 145 Tryz.underlying141 w [([99,104,111,111,115,101],.func (.func 182) #[] #[])] [116,121,112,101] (.func (.func 183) #[] #[]) (by decide +kernel)
 have i2:(Instr.mapUpdate 141 (.map (some w.heap.size)) (.string ⟨#[102,117,110]⟩) (.func (.func 184) #[] #[])).run Tryz.prog (w.alloc (.map (sEs [([99,104,111,111,115,101],.func (.func 182) #[] #[]),([116,121,112,101],.func (.func 183) #[] #[])] 0).toArray 2))=.ok () (w.alloc (.map (sEs [([99,104,111,111,115,101],.func (.func 182) #[] #[]),([116,121,112,101],.func (.func 183) #[] #[]),([102,117,110],.func (.func 184) #[] #[])] 0).toArray 3)):=insert_s 141 145 Tryz.underlying141 w [([99,104,111,111,115,101],.func (.func 182) #[] #[]),([116,121,112,101],.func (.func 183) #[] #[])] [102,117,110] (.func (.func 184) #[] #[]) (by decide +kernel)
 have i3:(Instr.mapUpdate 141 (.map (some w.heap.size)) (.string ⟨#[108,101,116]⟩) (.func (.func 185) #[] #[])).run Tryz.prog (w.alloc (.map (sEs [([99,104,111,111,115,101],.func (.func 182) #[] #[]),([116,121,112,101],.func (.func 183) #[] #[]),([102,117,110],.func (.func 184) #[] #[])] 0).toArray 3))=.ok () (w.alloc (.map (sEs [([99,104,111,111,115,101],.func (.func 182) #[] #[]),([116,121,112,101],.func (.func 183) #[] #[]),([102,117,110],.func (.func 184) #[] #[]),([108,101,116],.func (.func 185) #[] #[])] 0).toArray 4)):=insert_s 141 145 Tryz.underlying141 w [([99,104,111,111,115,101],.func (.func 182) #[] #[]),([116,121,112,101],.func (.func 183) #[] #[]),([102,117,110],.func (.func 184) #[] #[])] [108,101,116] (.func (.func 185) #[] #[]) (by decide +kernel)
 have i4:(Instr.mapUpdate 141 (.map (some w.heap.size)) (.string ⟨#[111,98,115,101,114,118,101]⟩) (.func (.func 186) #[] #[])).run Tryz.prog (w.alloc (.map (sEs [([99,104,111,111,115,101],.func (.func 182) #[] #[]),([116,121,112,101],.func (.func 183) #[] #[]),([102,117,110],.func (.func 184) #[] #[]),([108,101,116],.func (.func 185) #[] #[])] 0).toArray 4))=.ok () (w.alloc (.map (sEs [([99,104,111,111,115,101],.func (.func 182) #[] #[]),([116,121,112,101],.func (.func 183) #[] #[]),([102,117,110],.func (.func 184) #[] #[]),([108,101,116],.func (.func 185) #[] #[]),([111,98,115,101,114,118,101],.func (.func 186) #[] #[])] 0).toArray 5)):=insert_s 141 145 Tryz.underlying141 w [([99,104,111,111,115,101],.func (.func 182) #[] #[]),([116,121,112,101],.func (.func 183) #[] #[]),([102,117,110],.func (.func 184) #[] #[]),([108,101,116],.func (.func 185) #[] #[])] [111,98,115,101,114,118,101] (.func (.func 186) #[] #[]) (by decide +kernel)
 have i5:(Instr.mapUpdate 141 (.map (some w.heap.size)) (.string ⟨#[114,101,116,114,97,99,116]⟩) (.func (.func 187) #[] #[])).run Tryz.prog (w.alloc (.map (sEs [([99,104,111,111,115,101],.func (.func 182) #[] #[]),([116,121,112,101],.func (.func 183) #[] #[]),([102,117,110],.func (.func 184) #[] #[]),([108,101,116],.func (.func 185) #[] #[]),([111,98,115,101,114,118,101],.func (.func 186) #[] #[])] 0).toArray 5))=.ok () (w.alloc (.map (sEs [([99,104,111,111,115,101],.func (.func 182) #[] #[]),([116,121,112,101],.func (.func 183) #[] #[]),([102,117,110],.func (.func 184) #[] #[]),([108,101,116],.func (.func 185) #[] #[]),([111,98,115,101,114,118,101],.func (.func 186) #[] #[]),([114,101,116,114,97,99,116],.func (.func 187) #[] #[])] 0).toArray 6)):=insert_s 141 145 Tryz.underlying141 w [([99,104,111,111,115,101],.func (.func 182) #[] #[]),([116,121,112,101],.func (.func 183) #[] #[]),([102,117,110],.func (.func 184) #[] #[]),([108,101,116],.func (.func 185) #[] #[]),([111,98,115,101,114,118,101],.func (.func 186) #[] #[])] [114,101,116,114,97,99,116] (.func (.func 187) #[] #[]) (by decide +kernel)
 have i6:(Instr.mapUpdate 141 (.map (some w.heap.size)) (.string ⟨#[97,115,107]⟩) (.func (.func 188) #[] #[])).run Tryz.prog (w.alloc (.map (sEs [([99,104,111,111,115,101],.func (.func 182) #[] #[]),([116,121,112,101],.func (.func 183) #[] #[]),([102,117,110],.func (.func 184) #[] #[]),([108,101,116],.func (.func 185) #[] #[]),([111,98,115,101,114,118,101],.func (.func 186) #[] #[]),([114,101,116,114,97,99,116],.func (.func 187) #[] #[])] 0).toArray 6))=.ok () (w.alloc (.map (sEs [([99,104,111,111,115,101],.func (.func 182) #[] #[]),([116,121,112,101],.func (.func 183) #[] #[]),([102,117,110],.func (.func 184) #[] #[]),([108,101,116],.func (.func 185) #[] #[]),([111,98,115,101,114,118,101],.func (.func 186) #[] #[]),([114,101,116,114,97,99,116],.func (.func 187) #[] #[]),([97,115,107],.func (.func 188) #[] #[])] 0).toArray 7)):=insert_s 141 145 Tryz.underlying141 w [([99,104,111,111,115,101],.func (.func 182) #[] #[]),([116,121,112,101],.func (.func 183) #[] #[]),([102,117,110],.func (.func 184) #[] #[]),([108,101,116],.func (.func 185) #[] #[]),([111,98,115,101,114,118,101],.func (.func 186) #[] #[]),([114,101,116,114,97,99,116],.func (.func 187) #[] #[])] [97,115,107] (.func (.func 188) #[] #[]) (by decide +kernel)
 go_enter Tryz.func135,Tryz.ntmps135
 go_wp2_with fail
 go_ret
 exact⟨rfl,rfl⟩
end Go.Proofs.YthepmkjggfijoaaGreatDoor
namespace Go.Proofs.YthepmkjggfijoaaGreatDoor
open Go.RowKit Mist
attribute [local go_sem] ofL_extract ofL_size ofL_get ofL_bytes ofL_append
section
variable {g:Nat} {tv:Value} {l:List Tok} {en:Int} {iv:Value} (hF:PF l)
include hF
theorem item_let_ (m:Nat) (w:World) (k:Nat) (xs:List NV) (nv:Value) (r:Res) (h:PS g tv l en iv w (k+1) xs nv) (hk:k+1≤l.length) (hn:xs.length≤k) (hw:Wf (nds xs)) (hr:itemAt l en m .let_ k (nds xs)=some r) :
  Calls Tryz.prog 185 #[.pointer (some ⟨g,0,none⟩),.agg #[.int .u8 (tg l k).kind,.string (ofL (tx l k)),.int .i64 (pl l en k)]] w (IPost g tv l en iv w xs nv r):=by
 have C:=fun (f:Nat) (_:f≤m) (j:Job) (hj:isFn j=true)=>parts_any (g:=g) (tv:=tv) (en:=en) (iv:=iv) hF f j hj
 have CL:=fun (f:Nat) (_:f≤m) (e:El)=>lists_any (g:=g) (tv:=tv) (en:=en) (iv:=iv) hF f e
 have H:=hid h;clear h
 have HAI:=hid ((At.refl H.out).alloc (.cells #[.int .u8 (tg l k).kind,.string (ofL (tx l k)),.int .i64 (pl l en k)] 68))
 have HBI:=hid (Blk.new w 68 #[.int .u8 (tg l k).kind,.string (ofL (tx l k)),.int .i64 (pl l en k)])
 have HW0:=hid hw;clear hw
 have hn0:(nds xs).length≤k:=by rw [nds_len];exact hn
 have hlen:=hF.len
 unfold itemAt at hr
 have HR0:=hid hr;clear hr
 go_enter Tryz.func185,Tryz.ntmps185
 rcases needK_split HR0.out with ⟨he1,hr1⟩ | ⟨he1,rfl⟩
 rotate_left
 ·have HE1:=hid he1;clear he1
  go_wp2_with fail
  refine (name_no g tv l en iv hF _ (k+1) _ _ HAI.out.ps (by omega) HE1.out).mono ?_
  rintro e w1 ⟨rfl,hb1⟩
  unfold wrongAt
  go_wp2_with fail
  exact⟨rfl,IPost.bad rfl ((H.out.low HAI.out.mv).trans (hb1.mono (Nat.le_of_lt HAI.out.ps.lt)))⟩
 have HR1:=hid hr1;clear hr1 HR0
 have hlt1:=kd_lt he1 (by simp)
 have HE1:=hid he1;clear he1
 go_wp2_with fail
 refine (name_yes g tv l en iv hF _ (k+1) _ _ HAI.out.ps (by omega) HE1.out).mono ?_
 rintro e w1 ⟨rfl,p1,m1⟩
 have HB1_0:=hid (m1.blk HBI.out (HAI.out.ps.tag HBI.out (by decide) (by decide)).1 (HAI.out.ps.tag HBI.out (by decide) (by decide)).2)
 clear HBI
 have HA1:=hid (HAI.out.step p1 m1)
 clear HAI
 clear p1 m1
 unfold TokAt
 have HB1001_0:=hid (HB1_0.out.alloc (.cells #[.int .u8 (tg l (k+1)).kind,.string (ofL (tx l (k+1))),.int .i64 (pl l en (k+1))] 68))
 clear HB1_0
 have HN1:=hid (Blk.new w1 68 #[.int .u8 (tg l (k+1)).kind,.string (ofL (tx l (k+1))),.int .i64 (pl l en (k+1))])
 have HA1001:=hid (HA1.out.alloc (.cells #[.int .u8 (tg l (k+1)).kind,.string (ofL (tx l (k+1))),.int .i64 (pl l en (k+1))] 68))
 clear HA1
 rcases need_split HR1.out with ⟨he2,hr2⟩ | ⟨he2,rfl⟩
 rotate_left
 ·have HE2:=hid he2;clear he2
  go_wp2_with fail
  refine (need_no g tv l en iv hF [61] (.inr (by decide +kernel)) _ ((k+1)+1) _ _ HA1001.out.ps (by omega) HE2.out).mono ?_
  rintro e w2 ⟨rfl,hb2⟩
  unfold wrongAt
  go_wp2_with fail
  exact⟨rfl,IPost.bad rfl ((H.out.low HA1001.out.mv).trans (hb2.mono (Nat.le_of_lt HA1001.out.ps.lt)))⟩
 have HR2:=hid hr2;clear hr2 HR1
 have hlt2:=tx_lt he2 (by simp)
 have HE2:=hid he2;clear he2
 go_wp2_with fail
 refine (need_yes g tv l en iv hF [61] (.inr (by decide +kernel)) _ ((k+1)+1) _ _ HA1001.out.ps (by omega) HE2.out).mono ?_
 rintro e w2 ⟨rfl,p2,m2⟩
 have HB2_0:=hid (m2.blk HB1001_0.out (HA1001.out.ps.tag HB1001_0.out (by decide) (by decide)).1 (HA1001.out.ps.tag HB1001_0.out (by decide) (by decide)).2)
 have HB2_1:=hid (m2.blk HN1.out (HA1001.out.ps.tag HN1.out (by decide) (by decide)).1 (HA1001.out.ps.tag HN1.out (by decide) (by decide)).2)
 clear HB1001_0 HN1
 have HA2:=hid (HA1001.out.step p2 m2)
 clear HA1001
 clear p2 m2
 rcases thn_split HR2.out with ⟨ks3,k3,ns3,hx3,hr3⟩ | ⟨kb3,hx3,rfl⟩
 rotate_left
 ·have HX3:=hid hx3;clear hx3
  have sc0_0:=HB2_0.out.cell 0
  have sc0_1:=HB2_0.out.cell 1
  have sc0_2:=HB2_0.out.cell 2
  have sl0:=HB2_0.out.lt
  have sc1_1:=HB2_1.out.cell 1
  have sl1:=HB2_1.out.lt
  go_wp2_with fail
  refine wp_region_held_drew (S:=fun w'=>w'.cell? ⟨w.heap.size,0,none⟩=some (.int .u8 (tg l k).kind)∧w'.cell? ⟨w.heap.size,1,none⟩=some (.string (ofL (tx l k)))∧w'.cell? ⟨w.heap.size,2,none⟩=some (.int .i64 (pl l en k))∧w'.cell? ⟨w1.heap.size,1,none⟩=some (.string (ofL (tx l (k+1))))) (by kernel_rfl) ⟨sc0_0,sc0_1,sc0_2,sc1_1⟩ (fun hHeld=>?_)
  refine take_nth (i:=0) .z (by kernel_rfl) (by kernel_rfl) (by kernel_rfl) (fun _ _ _ h=>h) (v:=?_) ⟨by rfl,?_⟩ hHeld ?_
  rotate_left
  ·(intro w0 hSw;(try dsimp only at hSw);go_split_ands;go_simp;try with_reducible rfl)
  simp only [Act.put,List.setIfInBounds_toArray,List.set_cons_zero,List.set_cons_succ]
  refine take_nth (i:=1) (.s .z) (by kernel_rfl) (by kernel_rfl) (by kernel_rfl) (fun _ _ _ h=>h) (v:=?_) ⟨by rfl,?_⟩ hHeld ?_
  rotate_left
  ·(intro w0 hSw;(try dsimp only at hSw);go_split_ands;go_simp;try with_reducible rfl)
  simp only [Act.put,List.setIfInBounds_toArray,List.set_cons_zero,List.set_cons_succ]
  refine take_nth (i:=2) (.s (.s .z)) (by kernel_rfl) (by kernel_rfl) (by kernel_rfl) (fun _ _ _ h=>h) (v:=?_) ⟨by rfl,?_⟩ hHeld ?_
  rotate_left
  ·(intro w0 hSw;(try dsimp only at hSw);go_split_ands;go_simp;try with_reducible rfl)
  simp only [Act.put,List.setIfInBounds_toArray,List.set_cons_zero,List.set_cons_succ]
  refine take_nth (i:=3) (.s (.s (.s .z))) (by kernel_rfl) (by kernel_rfl) (by kernel_rfl) (fun _ _ _ h=>h) (v:=?_) ⟨by rfl,?_⟩ hHeld ?_
  rotate_left
  ·(intro w0 hSw;(try dsimp only at hSw);go_split_ands;go_simp;try with_reducible rfl)
  simp only [Act.put,List.setIfInBounds_toArray,List.set_cons_zero,List.set_cons_succ]
  refine take_nth (i:=4) (.s (.s (.s (.s .z)))) (by kernel_rfl) (by kernel_rfl) (by kernel_rfl) (fun _ _ _ h=>h) (v:=?_) ⟨by rfl,?_⟩ hHeld ?_
  rotate_left
  ·(intro w0 hSw;(try dsimp only at hSw);go_split_ands;go_simp;try with_reducible rfl)
  simp only [Act.put,List.setIfInBounds_toArray,List.set_cons_zero,List.set_cons_succ]
  refine wpAnyH_ready (rs:=[5]) (by kernel_rfl) (by simp) ?_
  refine ready_nth (.s (.s (.s (.s (.s .z))))) (fun K hK=>?_)
  go_simp
  refine (C m (Nat.le_refl _) .expr rfl _ (((k+1)+1)+1) _ _ _ HA2.out.ps.drew (by omega) (by rw [HA2.out.len];omega) (by rw [HA2.out.ns];exact HW0.out) (by rw [HA2.out.ns];exact HX3.out)).mono ?_
  rintro e w3 ⟨rfl,hb3⟩
  unfold wrongAt
  go_wp2_with fail
  exact⟨rfl,IPost.bad rfl ((Below.drew (H.out.low HA2.out.mv)).trans hb3)⟩
 have HX3:=hid hx3;clear hx3
 have HR3:=hid hr3;clear hr3 HR2
 have GO3:=hid (run_goes HX3.out (by omega) HW0.out (Ids.nil _) (by simp))
 have gl3:=GO3.out.lo;have gf3:=GO3.out.few;have ge3:=GO3.out.le;have gn3:=GO3.out.len
 simp only [Job.reads] at gl3
 have sc0_0:=HB2_0.out.cell 0
 have sc0_1:=HB2_0.out.cell 1
 have sc0_2:=HB2_0.out.cell 2
 have sl0:=HB2_0.out.lt
 have sc1_1:=HB2_1.out.cell 1
 have sl1:=HB2_1.out.lt
 go_wp2_with fail
 go_region_held3 (fun w'=>w'.cell? ⟨w.heap.size,0,none⟩=some (.int .u8 (tg l k).kind)∧w'.cell? ⟨w.heap.size,1,none⟩=some (.string (ofL (tx l k)))∧w'.cell? ⟨w.heap.size,2,none⟩=some (.int .i64 (pl l en k))∧w'.cell? ⟨w1.heap.size,1,none⟩=some (.string (ofL (tx l (k+1)))))
  (first | go_keep | (go_split_ands;refine⟨?_,?_,?_,?_⟩ <;> assumption))
  (first
   | (go_at_call 210;refine (C m (Nat.le_refl _) .expr rfl _ (((k+1)+1)+1) _ _ _ HA2.out.ps.drew (by omega) (by rw [HA2.out.len];omega) (by rw [HA2.out.ns];exact HW0.out) (by rw [HA2.out.ns];exact HX3.out)).mono ?_;rintro e w3 ⟨rfl,ext3,nv3,ha3⟩;have HA3:=hid (HA2.out.drew.trans ha3);have bx3_0:=ha3.blk HA2.out.ps.drew HB2_0.out.drew (by decide) (by decide);have dc0_0:=bx3_0.cell 0;have dc0_1:=bx3_0.cell 1;have dc0_2:=bx3_0.cell 2;have dl0:=bx3_0.lt;have HY3_0:=hid bx3_0;clear bx3_0;have bx3_1:=ha3.blk HA2.out.ps.drew HB2_1.out.drew (by decide) (by decide);have dc1_1:=bx3_1.cell 1;have dl1:=bx3_1.lt;have HY3_1:=hid bx3_1;clear bx3_1;have hz3:=HA3.out.mv.size;clear ha3)
   | (go_at_call 204;refine (add_at g tv l en iv ns3.length 43 _ _ _ (tx l (k+1)) 0 _ [hd ks3] _ k3 _ _ (HA3.out.ps.alloc _) (kid_one w3 (hd ks3)) HA3.out.len (by omega)).mono ?_;rintro e w4 ⟨rfl,nv4,p4,m4⟩;have by3_0:=m4.blk (HY3_0.out.alloc _) (HA3.out.ps.tag HY3_0.out (by decide) (by decide)).1 (HA3.out.ps.tag HY3_0.out (by decide) (by decide)).2;have ec0_0:=by3_0.cell 0;have ec0_1:=by3_0.cell 1;have ec0_2:=by3_0.cell 2;clear by3_0;have by3_1:=m4.blk (HY3_1.out.alloc _) (HA3.out.ps.tag HY3_1.out (by decide) (by decide)).1 (HA3.out.ps.tag HY3_1.out (by decide) (by decide)).2;have ec1_1:=by3_1.cell 1;clear by3_1;have HA4:=hid ((At.alloc HA3.out _).add p4 m4 (by intro b hb;simp [Value.ownBlock] at hb;omega));clear p4 m4))
 all_goals
  obtain rfl:=add_split HR3.out
  go_wp2_with fail
  go_ret
  exact IPost.ok rfl HA4.out
end
end Go.Proofs.YthepmkjggfijoaaGreatDoor
namespace Go.Proofs.YthepmkjggfijoaaGreatDoor
open Go.RowKit Mist
attribute [local go_sem] ofL_extract ofL_size ofL_get ofL_bytes ofL_append
section
variable {g:Nat} {tv:Value} {l:List Tok} {en:Int} {iv:Value} (hF:PF l)
include hF
theorem item_observe (m:Nat) (w:World) (k:Nat) (xs:List NV) (nv:Value) (r:Res) (h:PS g tv l en iv w (k+1) xs nv) (hk:k+1≤l.length) (hn:xs.length≤k) (hw:Wf (nds xs)) (hr:itemAt l en m .observe k (nds xs)=some r) :
  Calls Tryz.prog 186 #[.pointer (some ⟨g,0,none⟩),.agg #[.int .u8 (tg l k).kind,.string (ofL (tx l k)),.int .i64 (pl l en k)]] w (IPost g tv l en iv w xs nv r):=by
 have C:=fun (f:Nat) (_:f≤m) (j:Job) (hj:isFn j=true)=>parts_any (g:=g) (tv:=tv) (en:=en) (iv:=iv) hF f j hj
 have CL:=fun (f:Nat) (_:f≤m) (e:El)=>lists_any (g:=g) (tv:=tv) (en:=en) (iv:=iv) hF f e
 have H:=hid h;clear h
 have HAI:=hid ((At.refl H.out).alloc (.cells #[.int .u8 (tg l k).kind,.string (ofL (tx l k)),.int .i64 (pl l en k)] 68))
 have HBI:=hid (Blk.new w 68 #[.int .u8 (tg l k).kind,.string (ofL (tx l k)),.int .i64 (pl l en k)])
 have HW0:=hid hw;clear hw
 have hn0:(nds xs).length≤k:=by rw [nds_len];exact hn
 have hlen:=hF.len
 unfold itemAt at hr
 have HR0:=hid hr;clear hr
 go_enter Tryz.func186,Tryz.ntmps186
 rcases needK_split HR0.out with ⟨he1,hr1⟩ | ⟨he1,rfl⟩
 rotate_left
 ·have HE1:=hid he1;clear he1
  go_wp2_with fail
  refine (name_no g tv l en iv hF _ (k+1) _ _ HAI.out.ps (by omega) HE1.out).mono ?_
  rintro e w1 ⟨rfl,hb1⟩
  unfold wrongAt
  go_wp2_with fail
  exact⟨rfl,IPost.bad rfl ((H.out.low HAI.out.mv).trans (hb1.mono (Nat.le_of_lt HAI.out.ps.lt)))⟩
 have HR1:=hid hr1;clear hr1 HR0
 have hlt1:=kd_lt he1 (by simp)
 have HE1:=hid he1;clear he1
 go_wp2_with fail
 refine (name_yes g tv l en iv hF _ (k+1) _ _ HAI.out.ps (by omega) HE1.out).mono ?_
 rintro e w1 ⟨rfl,p1,m1⟩
 have HB1_0:=hid (m1.blk HBI.out (HAI.out.ps.tag HBI.out (by decide) (by decide)).1 (HAI.out.ps.tag HBI.out (by decide) (by decide)).2)
 clear HBI
 have HA1:=hid (HAI.out.step p1 m1)
 clear HAI
 clear p1 m1
 unfold TokAt
 have HB1001_0:=hid (HB1_0.out.alloc (.cells #[.int .u8 (tg l (k+1)).kind,.string (ofL (tx l (k+1))),.int .i64 (pl l en (k+1))] 68))
 clear HB1_0
 have HN1:=hid (Blk.new w1 68 #[.int .u8 (tg l (k+1)).kind,.string (ofL (tx l (k+1))),.int .i64 (pl l en (k+1))])
 have HA1001:=hid (HA1.out.alloc (.cells #[.int .u8 (tg l (k+1)).kind,.string (ofL (tx l (k+1))),.int .i64 (pl l en (k+1))] 68))
 clear HA1
 rcases need_split HR1.out with ⟨he2,hr2⟩ | ⟨he2,rfl⟩
 rotate_left
 ·have HE2:=hid he2;clear he2
  go_wp2_with fail
  refine (need_no g tv l en iv hF [58] (.inr (by decide +kernel)) _ ((k+1)+1) _ _ HA1001.out.ps (by omega) HE2.out).mono ?_
  rintro e w2 ⟨rfl,hb2⟩
  unfold wrongAt
  go_wp2_with fail
  exact⟨rfl,IPost.bad rfl ((H.out.low HA1001.out.mv).trans (hb2.mono (Nat.le_of_lt HA1001.out.ps.lt)))⟩
 have HR2:=hid hr2;clear hr2 HR1
 have hlt2:=tx_lt he2 (by simp)
 have HE2:=hid he2;clear he2
 go_wp2_with fail
 refine (need_yes g tv l en iv hF [58] (.inr (by decide +kernel)) _ ((k+1)+1) _ _ HA1001.out.ps (by omega) HE2.out).mono ?_
 rintro e w2 ⟨rfl,p2,m2⟩
 have HB2_0:=hid (m2.blk HB1001_0.out (HA1001.out.ps.tag HB1001_0.out (by decide) (by decide)).1 (HA1001.out.ps.tag HB1001_0.out (by decide) (by decide)).2)
 have HB2_1:=hid (m2.blk HN1.out (HA1001.out.ps.tag HN1.out (by decide) (by decide)).1 (HA1001.out.ps.tag HN1.out (by decide) (by decide)).2)
 clear HB1001_0 HN1
 have HA2:=hid (HA1001.out.step p2 m2)
 clear HA1001
 clear p2 m2
 rcases thn_split HR2.out with ⟨ks3,k3,ns3,hx3,hr3⟩ | ⟨kb3,hx3,rfl⟩
 rotate_left
 ·have HX3:=hid hx3;clear hx3
  have sc0_0:=HB2_0.out.cell 0
  have sc0_1:=HB2_0.out.cell 1
  have sc0_2:=HB2_0.out.cell 2
  have sl0:=HB2_0.out.lt
  have sc1_1:=HB2_1.out.cell 1
  have sl1:=HB2_1.out.lt
  go_wp2_with fail
  refine wp_region_held_drew (S:=fun w'=>w'.cell? ⟨w.heap.size,0,none⟩=some (.int .u8 (tg l k).kind)∧w'.cell? ⟨w.heap.size,1,none⟩=some (.string (ofL (tx l k)))∧w'.cell? ⟨w.heap.size,2,none⟩=some (.int .i64 (pl l en k))∧w'.cell? ⟨w1.heap.size,1,none⟩=some (.string (ofL (tx l (k+1))))) (by kernel_rfl) ⟨sc0_0,sc0_1,sc0_2,sc1_1⟩ (fun hHeld=>?_)
  refine take_nth (i:=0) .z (by kernel_rfl) (by kernel_rfl) (by kernel_rfl) (fun _ _ _ h=>h) (v:=?_) ⟨by rfl,?_⟩ hHeld ?_
  rotate_left
  ·(intro w0 hSw;(try dsimp only at hSw);go_split_ands;go_simp;try with_reducible rfl)
  simp only [Act.put,List.setIfInBounds_toArray,List.set_cons_zero,List.set_cons_succ]
  refine take_nth (i:=1) (.s .z) (by kernel_rfl) (by kernel_rfl) (by kernel_rfl) (fun _ _ _ h=>h) (v:=?_) ⟨by rfl,?_⟩ hHeld ?_
  rotate_left
  ·(intro w0 hSw;(try dsimp only at hSw);go_split_ands;go_simp;try with_reducible rfl)
  simp only [Act.put,List.setIfInBounds_toArray,List.set_cons_zero,List.set_cons_succ]
  refine take_nth (i:=2) (.s (.s .z)) (by kernel_rfl) (by kernel_rfl) (by kernel_rfl) (fun _ _ _ h=>h) (v:=?_) ⟨by rfl,?_⟩ hHeld ?_
  rotate_left
  ·(intro w0 hSw;(try dsimp only at hSw);go_split_ands;go_simp;try with_reducible rfl)
  simp only [Act.put,List.setIfInBounds_toArray,List.set_cons_zero,List.set_cons_succ]
  refine take_nth (i:=3) (.s (.s (.s .z))) (by kernel_rfl) (by kernel_rfl) (by kernel_rfl) (fun _ _ _ h=>h) (v:=?_) ⟨by rfl,?_⟩ hHeld ?_
  rotate_left
  ·(intro w0 hSw;(try dsimp only at hSw);go_split_ands;go_simp;try with_reducible rfl)
  simp only [Act.put,List.setIfInBounds_toArray,List.set_cons_zero,List.set_cons_succ]
  refine take_nth (i:=4) (.s (.s (.s (.s .z)))) (by kernel_rfl) (by kernel_rfl) (by kernel_rfl) (fun _ _ _ h=>h) (v:=?_) ⟨by rfl,?_⟩ hHeld ?_
  rotate_left
  ·(intro w0 hSw;(try dsimp only at hSw);go_split_ands;go_simp;try with_reducible rfl)
  simp only [Act.put,List.setIfInBounds_toArray,List.set_cons_zero,List.set_cons_succ]
  refine wpAnyH_ready (rs:=[5]) (by kernel_rfl) (by simp) ?_
  refine ready_nth (.s (.s (.s (.s (.s .z))))) (fun K hK=>?_)
  go_simp
  refine (C m (Nat.le_refl _) .expr rfl _ (((k+1)+1)+1) _ _ _ HA2.out.ps.drew (by omega) (by rw [HA2.out.len];omega) (by rw [HA2.out.ns];exact HW0.out) (by rw [HA2.out.ns];exact HX3.out)).mono ?_
  rintro e w3 ⟨rfl,hb3⟩
  unfold wrongAt
  go_wp2_with fail
  exact⟨rfl,IPost.bad rfl ((Below.drew (H.out.low HA2.out.mv)).trans hb3)⟩
 have HX3:=hid hx3;clear hx3
 have HR3:=hid hr3;clear hr3 HR2
 have GO3:=hid (run_goes HX3.out (by omega) HW0.out (Ids.nil _) (by simp))
 have gl3:=GO3.out.lo;have gf3:=GO3.out.few;have ge3:=GO3.out.le;have gn3:=GO3.out.len
 simp only [Job.reads] at gl3
 have sc0_0:=HB2_0.out.cell 0
 have sc0_1:=HB2_0.out.cell 1
 have sc0_2:=HB2_0.out.cell 2
 have sl0:=HB2_0.out.lt
 have sc1_1:=HB2_1.out.cell 1
 have sl1:=HB2_1.out.lt
 go_wp2_with fail
 go_region_held3 (fun w'=>w'.cell? ⟨w.heap.size,0,none⟩=some (.int .u8 (tg l k).kind)∧w'.cell? ⟨w.heap.size,1,none⟩=some (.string (ofL (tx l k)))∧w'.cell? ⟨w.heap.size,2,none⟩=some (.int .i64 (pl l en k))∧w'.cell? ⟨w1.heap.size,1,none⟩=some (.string (ofL (tx l (k+1)))))
  (first | go_keep | (go_split_ands;refine⟨?_,?_,?_,?_⟩ <;> assumption))
  (first
   | (go_at_call 210;refine (C m (Nat.le_refl _) .expr rfl _ (((k+1)+1)+1) _ _ _ HA2.out.ps.drew (by omega) (by rw [HA2.out.len];omega) (by rw [HA2.out.ns];exact HW0.out) (by rw [HA2.out.ns];exact HX3.out)).mono ?_;rintro e w3 ⟨rfl,ext3,nv3,ha3⟩;have HA3:=hid (HA2.out.drew.trans ha3);have bx3_0:=ha3.blk HA2.out.ps.drew HB2_0.out.drew (by decide) (by decide);have dc0_0:=bx3_0.cell 0;have dc0_1:=bx3_0.cell 1;have dc0_2:=bx3_0.cell 2;have dl0:=bx3_0.lt;have HY3_0:=hid bx3_0;clear bx3_0;have bx3_1:=ha3.blk HA2.out.ps.drew HB2_1.out.drew (by decide) (by decide);have dc1_1:=bx3_1.cell 1;have dl1:=bx3_1.lt;have HY3_1:=hid bx3_1;clear bx3_1;have hz3:=HA3.out.mv.size;clear ha3)
   | (go_at_call 204;refine (add_at g tv l en iv ns3.length 44 _ _ _ (tx l (k+1)) 0 _ [hd ks3] _ k3 _ _ (HA3.out.ps.alloc _) (kid_one w3 (hd ks3)) HA3.out.len (by omega)).mono ?_;rintro e w4 ⟨rfl,nv4,p4,m4⟩;have by3_0:=m4.blk (HY3_0.out.alloc _) (HA3.out.ps.tag HY3_0.out (by decide) (by decide)).1 (HA3.out.ps.tag HY3_0.out (by decide) (by decide)).2;have ec0_0:=by3_0.cell 0;have ec0_1:=by3_0.cell 1;have ec0_2:=by3_0.cell 2;clear by3_0;have by3_1:=m4.blk (HY3_1.out.alloc _) (HA3.out.ps.tag HY3_1.out (by decide) (by decide)).1 (HA3.out.ps.tag HY3_1.out (by decide) (by decide)).2;have ec1_1:=by3_1.cell 1;clear by3_1;have HA4:=hid ((At.alloc HA3.out _).add p4 m4 (by intro b hb;simp [Value.ownBlock] at hb;omega));clear p4 m4))
 all_goals
  obtain rfl:=add_split HR3.out
  go_wp2_with fail
  go_ret
  exact IPost.ok rfl HA4.out
end
end Go.Proofs.YthepmkjggfijoaaGreatDoor
namespace Go.Proofs.YthepmkjggfijoaaGreatDoor
open Go.RowKit Mist
attribute [local go_sem] ofL_extract ofL_size ofL_get ofL_bytes ofL_append
section
variable {g:Nat} {tv:Value} {l:List Tok} {en:Int} {iv:Value} (hF:PF l)
include hF
theorem item_retract (m:Nat) (w:World) (k:Nat) (xs:List NV) (nv:Value) (r:Res) (h:PS g tv l en iv w (k+1) xs nv) (hk:k+1≤l.length) (hn:xs.length≤k) (hw:Wf (nds xs)) (hr:itemAt l en m .retract k (nds xs)=some r) :
  Calls Tryz.prog 187 #[.pointer (some ⟨g,0,none⟩),.agg #[.int .u8 (tg l k).kind,.string (ofL (tx l k)),.int .i64 (pl l en k)]] w (IPost g tv l en iv w xs nv r):=by
 have C:=fun (f:Nat) (_:f≤m) (j:Job) (hj:isFn j=true)=>parts_any (g:=g) (tv:=tv) (en:=en) (iv:=iv) hF f j hj
 have CL:=fun (f:Nat) (_:f≤m) (e:El)=>lists_any (g:=g) (tv:=tv) (en:=en) (iv:=iv) hF f e
 have H:=hid h;clear h
 have HAI:=hid ((At.refl H.out).alloc (.cells #[.int .u8 (tg l k).kind,.string (ofL (tx l k)),.int .i64 (pl l en k)] 68))
 have HBI:=hid (Blk.new w 68 #[.int .u8 (tg l k).kind,.string (ofL (tx l k)),.int .i64 (pl l en k)])
 have HW0:=hid hw;clear hw
 have hn0:(nds xs).length≤k:=by rw [nds_len];exact hn
 have hlen:=hF.len
 unfold itemAt at hr
 have HR0:=hid hr;clear hr
 go_enter Tryz.func187,Tryz.ntmps187
 rcases needK_split HR0.out with ⟨he1,hr1⟩ | ⟨he1,rfl⟩
 rotate_left
 ·have HE1:=hid he1;clear he1
  have sc0_0:=HBI.out.cell 0
  have sc0_1:=HBI.out.cell 1
  have sc0_2:=HBI.out.cell 2
  have sl0:=HBI.out.lt
  go_wp2_with fail
  refine wp_region_held_drew (S:=fun w'=>w'.cell? ⟨w.heap.size,0,none⟩=some (.int .u8 (tg l k).kind)∧w'.cell? ⟨w.heap.size,1,none⟩=some (.string (ofL (tx l k)))∧w'.cell? ⟨w.heap.size,2,none⟩=some (.int .i64 (pl l en k))) (by kernel_rfl) ⟨sc0_0,sc0_1,sc0_2⟩ (fun hHeld=>?_)
  refine take_nth (i:=0) .z (by kernel_rfl) (by kernel_rfl) (by kernel_rfl) (fun _ _ _ h=>h) (v:=?_) ⟨by rfl,?_⟩ hHeld ?_
  rotate_left
  ·(intro w0 hSw;(try dsimp only at hSw);go_split_ands;go_simp;try with_reducible rfl)
  simp only [Act.put,List.setIfInBounds_toArray,List.set_cons_zero,List.set_cons_succ]
  refine take_nth (i:=1) (.s .z) (by kernel_rfl) (by kernel_rfl) (by kernel_rfl) (fun _ _ _ h=>h) (v:=?_) ⟨by rfl,?_⟩ hHeld ?_
  rotate_left
  ·(intro w0 hSw;(try dsimp only at hSw);go_split_ands;go_simp;try with_reducible rfl)
  simp only [Act.put,List.setIfInBounds_toArray,List.set_cons_zero,List.set_cons_succ]
  refine take_nth (i:=2) (.s (.s .z)) (by kernel_rfl) (by kernel_rfl) (by kernel_rfl) (fun _ _ _ h=>h) (v:=?_) ⟨by rfl,?_⟩ hHeld ?_
  rotate_left
  ·(intro w0 hSw;(try dsimp only at hSw);go_split_ands;go_simp;try with_reducible rfl)
  simp only [Act.put,List.setIfInBounds_toArray,List.set_cons_zero,List.set_cons_succ]
  refine wpAnyH_ready (rs:=[3]) (by kernel_rfl) (by simp) ?_
  refine ready_nth (.s (.s (.s .z))) (fun K hK=>?_)
  go_simp
  refine (name_no g tv l en iv hF _ (k+1) _ _ HAI.out.ps.drew (by omega) HE1.out).mono ?_
  rintro e w1 ⟨rfl,hb1⟩
  unfold wrongAt
  go_wp2_with fail
  exact⟨rfl,IPost.bad rfl ((Below.drew (H.out.low HAI.out.mv)).trans (hb1.mono (Nat.le_of_lt HAI.out.ps.lt)))⟩
 have hlt1:=kd_lt he1 (by simp)
 have HE1:=hid he1;clear he1
 have HR1:=hid hr1;clear hr1 HR0
 have tf1:=tok_field1
 have sc0_0:=HBI.out.cell 0
 have sc0_1:=HBI.out.cell 1
 have sc0_2:=HBI.out.cell 2
 have sl0:=HBI.out.lt
 go_wp2_with fail
 go_region_held3 (fun w'=>w'.cell? ⟨w.heap.size,0,none⟩=some (.int .u8 (tg l k).kind)∧w'.cell? ⟨w.heap.size,1,none⟩=some (.string (ofL (tx l k)))∧w'.cell? ⟨w.heap.size,2,none⟩=some (.int .i64 (pl l en k)))
  (first | go_keep | (go_split_ands;refine⟨?_,?_,?_⟩ <;> assumption))
  (first
   | (go_at_call 202;(with_reducible refine (name_yes g tv l en iv hF _ (k+1) _ _ HAI.out.ps.drew (by omega) HE1.out).mono ?_);rintro e w1 ⟨rfl,p1,m1⟩;unfold TokAt;have HA1:=hid (HAI.out.drew.step p1 m1);have bx1_0:=m1.blk HBI.out.drew (HAI.out.ps.drew.tag HBI.out.drew (by decide) (by decide)).1 (HAI.out.ps.drew.tag HBI.out.drew (by decide) (by decide)).2;have dc0_0:=bx1_0.cell 0;have dc0_1:=bx1_0.cell 1;have dc0_2:=bx1_0.cell 2;have dl0:=bx1_0.lt;have HY1_0:=hid bx1_0;clear bx1_0;have hz1:=HA1.out.mv.size;clear p1 m1)
   | (go_at_call 204;(refine (add_at g tv l en iv (nds xs).length 45 _ _ _ (tx l (k+1)) 0 _ [] _ ((k+1)+1) _ _ (HA1.out.ps) (KidRow.none_ _) HA1.out.len (by omega)).mono ?_);rintro e w2 ⟨rfl,nv2,p2,m2⟩;have by1_0:=m2.blk (HY1_0.out) (HA1.out.ps.tag HY1_0.out (by decide) (by decide)).1 (HA1.out.ps.tag HY1_0.out (by decide) (by decide)).2;have ec0_0:=by1_0.cell 0;have ec0_1:=by1_0.cell 1;have ec0_2:=by1_0.cell 2;clear by1_0;have HA2:=hid ((HA1.out).add p2 m2 (by intro b hb;simp [Value.ownBlock] at hb));clear p2 m2))
 all_goals
  obtain rfl:=add_split HR1.out
  go_wp2_with fail
  go_ret
  exact IPost.ok rfl HA2.out
end
end Go.Proofs.YthepmkjggfijoaaGreatDoor
