/-
  Short names for lemmas of the library.
-/
import Derived.Below
set_option linter.all false
def amC:=@List.setIfInBounds_toArray
def amD:=@List.set_cons_zero
def amE:=@List.set_cons_succ
def amF:=@List.getElem?_eq_getElem
def amG:=@List.getElem?_eq_some_iff
def amH:=@beq_eq_false_iff_ne
def amI:=@Array.getElem?_eq_some_iff
def amJ:=@List.getD_eq_getElem?_getD
def amK:=@Bool.eq_iff_iff
def amL:=@Nat.le_refl
def amM:=@Nat.le_of_lt
def amN:=@Nat.zero_le
def amO:=@List.mem_of_getElem?
def amP:=@List.take_of_length_le
def amQ:=@List.length_append
def amR:=@Option.some.inj
def amS:=@Int.toNat_natCast
def amT:=@List.all_eq_true
def amU:=@Bool.and_eq_true
def amV:=@List.length_singleton
def amW:=@decide_eq_true
def amX:=@decide_eq_false
def amY:=@Nat.lt_of_lt_of_le
def amZ:=@List.drop_eq_getElem_cons
theorem O{p:Prop}(h:p):Go.RowKit.Hid p:=h
theorem Go.RowKit.Hid.o{p:Prop}(h:Go.RowKit.Hid p):p:=h
