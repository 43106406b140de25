/-
  Short names for lemmas of the library.
-/
import Derived.Below
set_option linter.all false
def ail:=@List.setIfInBounds_toArray
def ain:=@List.set_cons_zero
def aio:=@List.set_cons_succ
def aip:=@List.getElem?_eq_getElem
def aiq:=@List.getElem?_eq_some_iff
def air:=@beq_eq_false_iff_ne
def ais:=@Array.getElem?_eq_some_iff
def ait:=@List.getD_eq_getElem?_getD
def aiu:=@Bool.eq_iff_iff
def aiv:=@Nat.le_refl
def aiw:=@Nat.le_of_lt
def aix:=@Nat.zero_le
def aiy:=@List.mem_of_getElem?
def aiz:=@List.take_of_length_le
def aiA:=@List.length_append
def aiB:=@Option.some.inj
def aiC:=@Int.toNat_natCast
def aiD:=@List.all_eq_true
def aiE:=@Bool.and_eq_true
def aiF:=@List.length_singleton
def aiG:=@decide_eq_true
def aiH:=@decide_eq_false
def aiI:=@Nat.lt_of_lt_of_le
def aiJ:=@List.drop_eq_getElem_cons
theorem O{p:Prop}(h:p):Go.RowKit.Hid p:=h
theorem Go.RowKit.Hid.o{p:Prop}(h:Go.RowKit.Hid p):p:=h
