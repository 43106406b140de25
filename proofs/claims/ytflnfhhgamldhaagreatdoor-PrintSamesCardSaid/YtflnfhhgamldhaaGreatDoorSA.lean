/-
  Short names for lemmas of the library.
-/
import Derived.Below
set_option linter.all false
def akR:=@List.setIfInBounds_toArray
def akS:=@List.set_cons_zero
def akT:=@List.set_cons_succ
def akU:=@List.getElem?_eq_getElem
def akV:=@List.getElem?_eq_some_iff
def akW:=@beq_eq_false_iff_ne
def akX:=@Array.getElem?_eq_some_iff
def akY:=@List.getD_eq_getElem?_getD
def akZ:=@Bool.eq_iff_iff
def ak0:=@Nat.le_refl
def ak1:=@Nat.le_of_lt
def ak2:=@Nat.zero_le
def ak3:=@List.mem_of_getElem?
def ak4:=@List.take_of_length_le
def ak5:=@List.length_append
def ak6:=@Option.some.inj
def ak7:=@Int.toNat_natCast
def ak8:=@List.all_eq_true
def ak9:=@Bool.and_eq_true
def ak_:=@List.length_singleton
def ak':=@decide_eq_true
def ala:=@decide_eq_false
def alb:=@Nat.lt_of_lt_of_le
def alc:=@List.drop_eq_getElem_cons
theorem O{p:Prop}(h:p):Go.RowKit.Hid p:=h
theorem Go.RowKit.Hid.o{p:Prop}(h:Go.RowKit.Hid p):p:=h
