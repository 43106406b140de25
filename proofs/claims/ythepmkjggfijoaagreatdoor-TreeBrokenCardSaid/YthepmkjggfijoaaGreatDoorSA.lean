/-
  Short names for lemmas of the library.
-/
import Derived.Below
set_option linter.all false
def aaA:=@List.setIfInBounds_toArray
def aaB:=@List.set_cons_zero
def aaC:=@List.set_cons_succ
def aaD:=@List.getElem?_eq_getElem
def aaE:=@List.getElem?_eq_some_iff
def aaF:=@beq_eq_false_iff_ne
def aaG:=@Array.getElem?_eq_some_iff
def aaH:=@List.getD_eq_getElem?_getD
def aaI:=@Bool.eq_iff_iff
def aaJ:=@Nat.le_refl
def aaK:=@Nat.le_of_lt
def aaL:=@Nat.zero_le
def aaM:=@List.mem_of_getElem?
def aaN:=@List.take_of_length_le
def aaO:=@List.length_append
def aaP:=@Option.some.inj
def aaQ:=@Int.toNat_natCast
def aaR:=@List.all_eq_true
def aaS:=@Bool.and_eq_true
def aaT:=@List.length_singleton
def aaU:=@decide_eq_true
def aaV:=@decide_eq_false
def aaW:=@Nat.lt_of_lt_of_le
def aaX:=@List.drop_eq_getElem_cons
theorem O{p:Prop}(h:p):Go.RowKit.Hid p:=h
theorem Go.RowKit.Hid.o{p:Prop}(h:Go.RowKit.Hid p):p:=h
