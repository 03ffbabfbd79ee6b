import PyProof.Rows.All
import Wide.All
import OpenK.AllK
import Wide.FinOn
import Lean
import PySem.Challenge.RW_pb0110_01
set_option Elab.async false
set_option maxRecDepth 100000
open PySem PySem.W PyProof.Rows PySem.Calls in
theorem Mine.reg_zero : True := by
  k_with_none
  trivial
open PySem PySem.W PyProof.Rows PySem.Calls in
local macro_rules | `(tactic| walk_at $s:str) => `(tactic| k_extra $s)
open PySem PySem.W PyProof.Rows PySem.Calls in
local macro_rules | `(tactic| cell_enter) => `(tactic| k_extra "cell_enter")
open PySem PySem.W PyProof.Rows PySem.Calls in
local macro_rules | `(tactic| k_intsEnd) => `(tactic| k_extra "k_intsEnd")
open PySem PySem.W PyProof.Rows PySem.Calls in
local macro_rules | `(tactic| k_all) => `(tactic| k_extra "k_all")
open PySem PySem.W PyProof.Rows PySem.Calls in
local macro_rules | `(tactic| ktr_room) => `(tactic| k_extra "ktr_room")
open PySem PySem.W PyProof.Rows PySem.Calls in
local macro_rules | `(tactic| k_ne) => `(tactic| k_extra "k_ne")
open PySem PySem.W PyProof.Rows PySem.Calls in
local macro_rules | `(tactic| k_size) => `(tactic| k_extra "k_size")
open PySem PySem.W PyProof.Rows PySem.Calls in
local macro_rules | `(tactic| size_fits) => `(tactic| k_extra "size_fits")
open PySem PySem.W PyProof.Rows PySem.Calls in
local macro_rules | `(tactic| k_mem) => `(tactic| k_extra "k_mem")
open PySem PySem.W PyProof.Rows PySem.Calls in
local macro_rules | `(tactic| k_in) => `(tactic| k_extra "k_in")

section
open PySem PySem.W PyProof.Rows PySem.Calls
theorem Mine.said_ok : PySem.Challenge.rw_pb0110_01.wellSaid = true := (congrFun PySem.W.Fast.te9446332074065402090 _).trans (by decide +kernel)
end

section
open PySem PySem.W PyProof.Rows PySem.Calls
namespace Mine
theorem nb_top {a m N : Nat} (h : a ≤ m) (e : Nat.ble m N = true) : a ≤ N := Nat.le_trans h (Nat.le_of_ble_eq_true e)
theorem nb_lt {a m N : Nat} (h : a ≤ m) (e : Nat.ble (m + 1) N = true) : a < N := Nat.lt_of_lt_of_le (Nat.lt_succ_of_le h) (Nat.le_of_ble_eq_true e)
theorem ib63 {a m : Nat} (h : a ≤ m) (e : Nat.ble m 9223372036854775807 = true) : (a : Int) < 9223372036854775808 := Int.ofNat_lt.mpr (Nat.lt_succ_of_le (Nat.le_trans h (Nat.le_of_ble_eq_true e)))
theorem nb_dec {a : Nat} (_ : Nat.ble a a = true) : a ≤ a := Nat.le_refl _
theorem nb_minl {a b n : Nat} (h : a ≤ n) : min a b ≤ n := Nat.le_trans (Nat.min_le_left _ _) h
theorem nb_minr {a b n : Nat} (h : b ≤ n) : min a b ≤ n := Nat.le_trans (Nat.min_le_right _ _) h
theorem nb_sub {a b n : Nat} (h : a ≤ n) : a - b ≤ n := Nat.le_trans (Nat.sub_le _ _) h
theorem nb_eq {a b n : Nat} (e : a = b) (h : b ≤ n) : a ≤ n := e ▸ h
theorem nb_lt_le {a n : Nat} (h : a < n) : a ≤ n := Nat.le_of_lt h
theorem nb_app {a b : Array UInt8} {x y : Nat} (ha : a.size ≤ x) (hb : b.size ≤ y) : (a ++ b).size ≤ x + y := by
  rw [Array.size_append]
  exact Nat.add_le_add ha hb
theorem nb_ext {b : Array UInt8} {i j x : Nat} (h : b.size ≤ x) : (b.extract i j).size ≤ x := by
  rw [Array.size_extract]
  exact Nat.le_trans (Nat.sub_le _ _) (Nat.le_trans (Nat.min_le_right _ _) h)
theorem nb_size {a m : Nat} (h : a ≤ m) (e : Nat.ble m 16777216 = true) : a ≤ sizeLine := nb_top h e
theorem nb_tarr {α : Type} {l : List α} {n : Nat} (h : l.length ≤ n) : l.toArray.size ≤ n := by simpa using h
theorem nb_push {α : Type} {l : Array α} {x : α} {n : Nat} (h : l.size ≤ n) : (l.push x).size ≤ n + 1 := by simpa using h
theorem nb_cons {α : Type} {l : List α} {x : α} {n : Nat} (h : l.length ≤ n) : (x :: l).length ≤ n + 1 := Nat.succ_le_succ h
theorem nb_nil {α : Type} : ([] : List α).length ≤ 0 := Nat.le_refl _
theorem nb_lapp {α : Type} {a b : List α} {x y : Nat} (ha : a.length ≤ x) (hb : b.length ≤ y) : (a ++ b).length ≤ x + y := by
  rw [List.length_append]
  exact Nat.add_le_add ha hb
theorem nb_take {α : Type} {a : List α} {i x : Nat} (ha : a.length ≤ x) : (a.take i).length ≤ x := Nat.le_trans (List.length_take_le' _ _) ha
theorem nb_drop {α : Type} {a : List α} {i x : Nat} (ha : a.length ≤ x) : (a.drop i).length ≤ x := by
  rw [List.length_drop]
  exact nb_sub ha
theorem nb_map {α β : Type} {a : List α} {f : α → β} {x : Nat} (ha : a.length ≤ x) : (a.map f).length ≤ x := by
  rw [List.length_map]
  exact ha
end Mine
end

section
open PySem PySem.W PyProof.Rows
namespace Mine

abbrev PR : Program := PySem.Challenge.pw_pb0110_01
noncomputable def bitsOf : Stmt → Arguments × List Stmt × Scope
  | .FunctionDef _ a b _ _ _ sc _ _ _ => (a, b, sc)
  | _ => default
noncomputable def classBody : Stmt → List Stmt
  | .ClassDef _ _ _ b _ _ _ _ _ _ _ => b
  | _ => []
noncomputable def fnAt (i : Nat) : Arguments × List Stmt × Scope := ((PR.main.body[i]?).map bitsOf).getD default
noncomputable def methAt (i j : Nat) : Arguments × List Stmt × Scope := ((((PR.main.body[i]?).map classBody).getD [])[j]?.map bitsOf).getD default
noncomputable def fdRaw (x : Arguments × List Stmt × Scope) (n q : Str) (dfl pm cd : Value) : FuncData := FuncData.mk n q x.1 (.stmts x.2.1) x.2.2 (nat_lit 3) [] dfl .none .none pm none cd .none (nat_lit 0)
noncomputable def fd__wall : FuncData := (⟨FuncData.mk (.ofString "_wall") (.ofString "_wall") (Arguments.mk _ _ _ _ _ _ _) (.stmts (_ :: _)) (Scope.mk _ _ _ _ _) (nat_lit 3) [] (.none) (.none) (.none) (.str (.ofString "__main__") (nat_lit 164)) none (.ref (nat_lit 20)) (.none) (nat_lit 0), rfl⟩ : {f : FuncData // fdRaw (fnAt (nat_lit 0)) (.ofString "_wall") (.ofString "_wall") (.none) (.str (.ofString "__main__") (nat_lit 164)) (.ref (nat_lit 20)) = f}).1
noncomputable def fd_GitError___init__ : FuncData := (⟨FuncData.mk (.ofString "__init__") (.ofString "GitError.__init__") (Arguments.mk _ _ _ _ _ _ _) (.stmts (_ :: _)) (Scope.mk _ _ _ _ _) (nat_lit 3) [] (.ref (nat_lit 29)) (.none) (.none) (.str (.ofString "gitcore.base") (nat_lit 194)) none (.ref (nat_lit 35)) (.none) (nat_lit 0), rfl⟩ : {f : FuncData // fdRaw (methAt (nat_lit 4) (nat_lit 0)) (.ofString "__init__") (.ofString "GitError.__init__") (.ref (nat_lit 29)) (.str (.ofString "gitcore.base") (nat_lit 194)) (.ref (nat_lit 35)) = f}).1
noncomputable def fd_text_of : FuncData := (⟨FuncData.mk (.ofString "text_of") (.ofString "text_of") (Arguments.mk _ _ _ _ _ _ _) (.stmts (_ :: _)) (Scope.mk _ _ _ _ _) (nat_lit 3) [] (.none) (.none) (.none) (.str (.ofString "gitcore.base") (nat_lit 194)) none (.ref (nat_lit 58)) (.none) (nat_lit 0), rfl⟩ : {f : FuncData // fdRaw (fnAt (nat_lit 6)) (.ofString "text_of") (.ofString "text_of") (.none) (.str (.ofString "gitcore.base") (nat_lit 194)) (.ref (nat_lit 58)) = f}).1
noncomputable def fd_octets_of : FuncData := (⟨FuncData.mk (.ofString "octets_of") (.ofString "octets_of") (Arguments.mk _ _ _ _ _ _ _) (.stmts (_ :: _)) (Scope.mk _ _ _ _ _) (nat_lit 3) [] (.none) (.none) (.none) (.str (.ofString "gitcore.base") (nat_lit 194)) none (.ref (nat_lit 63)) (.none) (nat_lit 0), rfl⟩ : {f : FuncData // fdRaw (fnAt (nat_lit 7)) (.ofString "octets_of") (.ofString "octets_of") (.none) (.str (.ofString "gitcore.base") (nat_lit 194)) (.ref (nat_lit 63)) = f}).1
noncomputable def fd_hex_of : FuncData := (⟨FuncData.mk (.ofString "hex_of") (.ofString "hex_of") (Arguments.mk _ _ _ _ _ _ _) (.stmts (_ :: _)) (Scope.mk _ _ _ _ _) (nat_lit 3) [] (.none) (.none) (.none) (.str (.ofString "gitcore.base") (nat_lit 194)) none (.ref (nat_lit 70)) (.none) (nat_lit 0), rfl⟩ : {f : FuncData // fdRaw (fnAt (nat_lit 8)) (.ofString "hex_of") (.ofString "hex_of") (.none) (.str (.ofString "gitcore.base") (nat_lit 194)) (.ref (nat_lit 70)) = f}).1
noncomputable def fd_hex_digit : FuncData := (⟨FuncData.mk (.ofString "hex_digit") (.ofString "hex_digit") (Arguments.mk _ _ _ _ _ _ _) (.stmts (_ :: _)) (Scope.mk _ _ _ _ _) (nat_lit 3) [] (.none) (.none) (.none) (.str (.ofString "gitcore.base") (nat_lit 194)) none (.ref (nat_lit 77)) (.none) (nat_lit 0), rfl⟩ : {f : FuncData // fdRaw (fnAt (nat_lit 9)) (.ofString "hex_digit") (.ofString "hex_digit") (.none) (.str (.ofString "gitcore.base") (nat_lit 194)) (.ref (nat_lit 77)) = f}).1
noncomputable def fd_octets_of_hex : FuncData := (⟨FuncData.mk (.ofString "octets_of_hex") (.ofString "octets_of_hex") (Arguments.mk _ _ _ _ _ _ _) (.stmts (_ :: _)) (Scope.mk _ _ _ _ _) (nat_lit 3) [] (.none) (.none) (.none) (.str (.ofString "gitcore.base") (nat_lit 194)) none (.ref (nat_lit 84)) (.none) (nat_lit 0), rfl⟩ : {f : FuncData // fdRaw (fnAt (nat_lit 10)) (.ofString "octets_of_hex") (.ofString "octets_of_hex") (.none) (.str (.ofString "gitcore.base") (nat_lit 194)) (.ref (nat_lit 84)) = f}).1
noncomputable def fd_number_by : FuncData := (⟨FuncData.mk (.ofString "number_by") (.ofString "number_by") (Arguments.mk _ _ _ _ _ _ _) (.stmts (_ :: _)) (Scope.mk _ _ _ _ _) (nat_lit 3) [] (.none) (.none) (.none) (.str (.ofString "gitcore.base") (nat_lit 194)) none (.ref (nat_lit 91)) (.none) (nat_lit 0), rfl⟩ : {f : FuncData // fdRaw (fnAt (nat_lit 11)) (.ofString "number_by") (.ofString "number_by") (.none) (.str (.ofString "gitcore.base") (nat_lit 194)) (.ref (nat_lit 91)) = f}).1
noncomputable def fd_number_of : FuncData := (⟨FuncData.mk (.ofString "number_of") (.ofString "number_of") (Arguments.mk _ _ _ _ _ _ _) (.stmts (_ :: _)) (Scope.mk _ _ _ _ _) (nat_lit 3) [] (.none) (.none) (.none) (.str (.ofString "gitcore.base") (nat_lit 194)) none (.ref (nat_lit 98)) (.none) (nat_lit 0), rfl⟩ : {f : FuncData // fdRaw (fnAt (nat_lit 12)) (.ofString "number_of") (.ofString "number_of") (.none) (.str (.ofString "gitcore.base") (nat_lit 194)) (.ref (nat_lit 98)) = f}).1
noncomputable def fd_object_has_sign : FuncData := (⟨FuncData.mk (.ofString "object_has_sign") (.ofString "object_has_sign") (Arguments.mk _ _ _ _ _ _ _) (.stmts (_ :: _)) (Scope.mk _ _ _ _ _) (nat_lit 3) [] (.none) (.none) (.none) (.str (.ofString "gitcore.objects") (nat_lit 304)) none (.ref (nat_lit 106)) (.none) (nat_lit 0), rfl⟩ : {f : FuncData // fdRaw (fnAt (nat_lit 17)) (.ofString "object_has_sign") (.ofString "object_has_sign") (.none) (.str (.ofString "gitcore.objects") (nat_lit 304)) (.ref (nat_lit 106)) = f}).1
noncomputable def fd_object_are_all : FuncData := (⟨FuncData.mk (.ofString "object_are_all") (.ofString "object_are_all") (Arguments.mk _ _ _ _ _ _ _) (.stmts (_ :: _)) (Scope.mk _ _ _ _ _) (nat_lit 3) [] (.none) (.none) (.none) (.str (.ofString "gitcore.objects") (nat_lit 304)) none (.ref (nat_lit 113)) (.none) (nat_lit 0), rfl⟩ : {f : FuncData // fdRaw (fnAt (nat_lit 18)) (.ofString "object_are_all") (.ofString "object_are_all") (.none) (.str (.ofString "gitcore.objects") (nat_lit 304)) (.ref (nat_lit 113)) = f}).1
noncomputable def fd_Person___init__ : FuncData := (⟨FuncData.mk (.ofString "__init__") (.ofString "Person.__init__") (Arguments.mk _ _ _ _ _ _ _) (.stmts (_ :: _)) (Scope.mk _ _ _ _ _) (nat_lit 3) [] (.none) (.none) (.none) (.str (.ofString "gitcore.objects") (nat_lit 304)) none (.ref (nat_lit 127)) (.none) (nat_lit 0), rfl⟩ : {f : FuncData // fdRaw (methAt (nat_lit 19) (nat_lit 0)) (.ofString "__init__") (.ofString "Person.__init__") (.none) (.str (.ofString "gitcore.objects") (nat_lit 304)) (.ref (nat_lit 127)) = f}).1
noncomputable def fd_Person_octets : FuncData := (⟨FuncData.mk (.ofString "octets") (.ofString "Person.octets") (Arguments.mk _ _ _ _ _ _ _) (.stmts (_ :: _)) (Scope.mk _ _ _ _ _) (nat_lit 3) [] (.none) (.none) (.none) (.str (.ofString "gitcore.objects") (nat_lit 304)) none (.ref (nat_lit 134)) (.none) (nat_lit 0), rfl⟩ : {f : FuncData // fdRaw (methAt (nat_lit 19) (nat_lit 1)) (.ofString "octets") (.ofString "Person.octets") (.none) (.str (.ofString "gitcore.objects") (nat_lit 304)) (.ref (nat_lit 134)) = f}).1
noncomputable def fd_read_person : FuncData := (⟨FuncData.mk (.ofString "read_person") (.ofString "read_person") (Arguments.mk _ _ _ _ _ _ _) (.stmts (_ :: _)) (Scope.mk _ _ _ _ _) (nat_lit 3) [] (.none) (.none) (.none) (.str (.ofString "gitcore.objects") (nat_lit 304)) none (.ref (nat_lit 148)) (.none) (nat_lit 0), rfl⟩ : {f : FuncData // fdRaw (fnAt (nat_lit 20)) (.ofString "read_person") (.ofString "read_person") (.none) (.str (.ofString "gitcore.objects") (nat_lit 304)) (.ref (nat_lit 148)) = f}).1
noncomputable def fd_object_head_row : FuncData := (⟨FuncData.mk (.ofString "object_head_row") (.ofString "object_head_row") (Arguments.mk _ _ _ _ _ _ _) (.stmts (_ :: _)) (Scope.mk _ _ _ _ _) (nat_lit 3) [] (.none) (.none) (.none) (.str (.ofString "gitcore.objects") (nat_lit 304)) none (.ref (nat_lit 155)) (.none) (nat_lit 0), rfl⟩ : {f : FuncData // fdRaw (fnAt (nat_lit 21)) (.ofString "object_head_row") (.ofString "object_head_row") (.none) (.str (.ofString "gitcore.objects") (nat_lit 304)) (.ref (nat_lit 155)) = f}).1
noncomputable def fd_object_head_id : FuncData := (⟨FuncData.mk (.ofString "object_head_id") (.ofString "object_head_id") (Arguments.mk _ _ _ _ _ _ _) (.stmts (_ :: _)) (Scope.mk _ _ _ _ _) (nat_lit 3) [] (.none) (.none) (.none) (.str (.ofString "gitcore.objects") (nat_lit 304)) none (.ref (nat_lit 162)) (.none) (nat_lit 0), rfl⟩ : {f : FuncData // fdRaw (fnAt (nat_lit 22)) (.ofString "object_head_id") (.ofString "object_head_id") (.none) (.str (.ofString "gitcore.objects") (nat_lit 304)) (.ref (nat_lit 162)) = f}).1
noncomputable def fd_object_heads : FuncData := (⟨FuncData.mk (.ofString "object_heads") (.ofString "object_heads") (Arguments.mk _ _ _ _ _ _ _) (.stmts (_ :: _)) (Scope.mk _ _ _ _ _) (nat_lit 3) [] (.none) (.none) (.none) (.str (.ofString "gitcore.objects") (nat_lit 304)) none (.ref (nat_lit 169)) (.none) (nat_lit 0), rfl⟩ : {f : FuncData // fdRaw (fnAt (nat_lit 23)) (.ofString "object_heads") (.ofString "object_heads") (.none) (.str (.ofString "gitcore.objects") (nat_lit 304)) (.ref (nat_lit 169)) = f}).1
noncomputable def fd_ObjectHeadWalk___init__ : FuncData := (⟨FuncData.mk (.ofString "__init__") (.ofString "ObjectHeadWalk.__init__") (Arguments.mk _ _ _ _ _ _ _) (.stmts (_ :: _)) (Scope.mk _ _ _ _ _) (nat_lit 3) [] (.none) (.none) (.none) (.str (.ofString "gitcore.objects") (nat_lit 304)) none (.ref (nat_lit 183)) (.none) (nat_lit 0), rfl⟩ : {f : FuncData // fdRaw (methAt (nat_lit 24) (nat_lit 0)) (.ofString "__init__") (.ofString "ObjectHeadWalk.__init__") (.none) (.str (.ofString "gitcore.objects") (nat_lit 304)) (.ref (nat_lit 183)) = f}).1
noncomputable def fd_ObjectHeadWalk_is_next : FuncData := (⟨FuncData.mk (.ofString "is_next") (.ofString "ObjectHeadWalk.is_next") (Arguments.mk _ _ _ _ _ _ _) (.stmts (_ :: _)) (Scope.mk _ _ _ _ _) (nat_lit 3) [] (.none) (.none) (.none) (.str (.ofString "gitcore.objects") (nat_lit 304)) none (.ref (nat_lit 190)) (.none) (nat_lit 0), rfl⟩ : {f : FuncData // fdRaw (methAt (nat_lit 24) (nat_lit 1)) (.ofString "is_next") (.ofString "ObjectHeadWalk.is_next") (.none) (.str (.ofString "gitcore.objects") (nat_lit 304)) (.ref (nat_lit 190)) = f}).1
noncomputable def fd_ObjectHeadWalk_take : FuncData := (⟨FuncData.mk (.ofString "take") (.ofString "ObjectHeadWalk.take") (Arguments.mk _ _ _ _ _ _ _) (.stmts (_ :: _)) (Scope.mk _ _ _ _ _) (nat_lit 3) [] (.none) (.none) (.none) (.str (.ofString "gitcore.objects") (nat_lit 304)) none (.ref (nat_lit 197)) (.none) (nat_lit 0), rfl⟩ : {f : FuncData // fdRaw (methAt (nat_lit 24) (nat_lit 2)) (.ofString "take") (.ofString "ObjectHeadWalk.take") (.none) (.str (.ofString "gitcore.objects") (nat_lit 304)) (.ref (nat_lit 197)) = f}).1
noncomputable def fd_ObjectHeadWalk_rest : FuncData := (⟨FuncData.mk (.ofString "rest") (.ofString "ObjectHeadWalk.rest") (Arguments.mk _ _ _ _ _ _ _) (.stmts (_ :: _)) (Scope.mk _ _ _ _ _) (nat_lit 3) [] (.none) (.none) (.none) (.str (.ofString "gitcore.objects") (nat_lit 304)) none (.ref (nat_lit 204)) (.none) (nat_lit 0), rfl⟩ : {f : FuncData // fdRaw (methAt (nat_lit 24) (nat_lit 3)) (.ofString "rest") (.ofString "ObjectHeadWalk.rest") (.none) (.str (.ofString "gitcore.objects") (nat_lit 304)) (.ref (nat_lit 204)) = f}).1
noncomputable def fd_Commit___init__ : FuncData := (⟨FuncData.mk (.ofString "__init__") (.ofString "Commit.__init__") (Arguments.mk _ _ _ _ _ _ _) (.stmts (_ :: _)) (Scope.mk _ _ _ _ _) (nat_lit 3) [] (.none) (.none) (.none) (.str (.ofString "gitcore.objects") (nat_lit 304)) none (.ref (nat_lit 225)) (.none) (nat_lit 0), rfl⟩ : {f : FuncData // fdRaw (methAt (nat_lit 25) (nat_lit 0)) (.ofString "__init__") (.ofString "Commit.__init__") (.none) (.str (.ofString "gitcore.objects") (nat_lit 304)) (.ref (nat_lit 225)) = f}).1
noncomputable def fd_Commit_octets : FuncData := (⟨FuncData.mk (.ofString "octets") (.ofString "Commit.octets") (Arguments.mk _ _ _ _ _ _ _) (.stmts (_ :: _)) (Scope.mk _ _ _ _ _) (nat_lit 3) [] (.none) (.none) (.none) (.str (.ofString "gitcore.objects") (nat_lit 304)) none (.ref (nat_lit 232)) (.none) (nat_lit 0), rfl⟩ : {f : FuncData // fdRaw (methAt (nat_lit 25) (nat_lit 1)) (.ofString "octets") (.ofString "Commit.octets") (.none) (.str (.ofString "gitcore.objects") (nat_lit 304)) (.ref (nat_lit 232)) = f}).1
noncomputable def fd_Commit_subject : FuncData := (⟨FuncData.mk (.ofString "subject") (.ofString "Commit.subject") (Arguments.mk _ _ _ _ _ _ _) (.stmts (_ :: _)) (Scope.mk _ _ _ _ _) (nat_lit 3) [] (.none) (.none) (.none) (.str (.ofString "gitcore.objects") (nat_lit 304)) none (.ref (nat_lit 239)) (.none) (nat_lit 0), rfl⟩ : {f : FuncData // fdRaw (methAt (nat_lit 25) (nat_lit 2)) (.ofString "subject") (.ofString "Commit.subject") (.none) (.str (.ofString "gitcore.objects") (nat_lit 304)) (.ref (nat_lit 239)) = f}).1
noncomputable def fd_read_commit : FuncData := (⟨FuncData.mk (.ofString "read_commit") (.ofString "read_commit") (Arguments.mk _ _ _ _ _ _ _) (.stmts (_ :: _)) (Scope.mk _ _ _ _ _) (nat_lit 3) [] (.none) (.none) (.none) (.str (.ofString "gitcore.objects") (nat_lit 304)) none (.ref (nat_lit 253)) (.none) (nat_lit 0), rfl⟩ : {f : FuncData // fdRaw (fnAt (nat_lit 26)) (.ofString "read_commit") (.ofString "read_commit") (.none) (.str (.ofString "gitcore.objects") (nat_lit 304)) (.ref (nat_lit 253)) = f}).1
noncomputable def fd__law_deck : FuncData := (⟨FuncData.mk (.ofString "_law_deck") (.ofString "_law_deck") (Arguments.mk _ _ _ _ _ _ _) (.stmts (_ :: _)) (Scope.mk _ _ _ _ _) (nat_lit 3) [] (.none) (.none) (.none) (.str (.ofString "law_pb0110_01") (nat_lit 547)) none (.ref (nat_lit 266)) (.none) (nat_lit 0), rfl⟩ : {f : FuncData // fdRaw (fnAt (nat_lit 32)) (.ofString "_law_deck") (.ofString "_law_deck") (.none) (.str (.ofString "law_pb0110_01") (nat_lit 547)) (.ref (nat_lit 266)) = f}).1
noncomputable def fd__law_draw : FuncData := (⟨FuncData.mk (.ofString "_law_draw") (.ofString "_law_draw") (Arguments.mk _ _ _ _ _ _ _) (.stmts (_ :: _)) (Scope.mk _ _ _ _ _) (nat_lit 3) [] (.none) (.none) (.none) (.str (.ofString "law_pb0110_01") (nat_lit 547)) none (.ref (nat_lit 273)) (.none) (nat_lit 0), rfl⟩ : {f : FuncData // fdRaw (fnAt (nat_lit 33)) (.ofString "_law_draw") (.ofString "_law_draw") (.none) (.str (.ofString "law_pb0110_01") (nat_lit 547)) (.ref (nat_lit 273)) = f}).1
noncomputable def fd__law_id : FuncData := (⟨FuncData.mk (.ofString "_law_id") (.ofString "_law_id") (Arguments.mk _ _ _ _ _ _ _) (.stmts (_ :: _)) (Scope.mk _ _ _ _ _) (nat_lit 3) [] (.none) (.none) (.none) (.str (.ofString "law_pb0110_01") (nat_lit 547)) none (.ref (nat_lit 278)) (.none) (nat_lit 0), rfl⟩ : {f : FuncData // fdRaw (fnAt (nat_lit 34)) (.ofString "_law_id") (.ofString "_law_id") (.none) (.str (.ofString "law_pb0110_01") (nat_lit 547)) (.ref (nat_lit 278)) = f}).1
noncomputable def fd__law_figures : FuncData := (⟨FuncData.mk (.ofString "_law_figures") (.ofString "_law_figures") (Arguments.mk _ _ _ _ _ _ _) (.stmts (_ :: _)) (Scope.mk _ _ _ _ _) (nat_lit 3) [] (.none) (.none) (.none) (.str (.ofString "law_pb0110_01") (nat_lit 547)) none (.ref (nat_lit 283)) (.none) (nat_lit 0), rfl⟩ : {f : FuncData // fdRaw (fnAt (nat_lit 35)) (.ofString "_law_figures") (.ofString "_law_figures") (.none) (.str (.ofString "law_pb0110_01") (nat_lit 547)) (.ref (nat_lit 283)) = f}).1
noncomputable def fd__law_lines : FuncData := (⟨FuncData.mk (.ofString "_law_lines") (.ofString "_law_lines") (Arguments.mk _ _ _ _ _ _ _) (.stmts (_ :: _)) (Scope.mk _ _ _ _ _) (nat_lit 3) [] (.none) (.none) (.none) (.str (.ofString "law_pb0110_01") (nat_lit 547)) none (.ref (nat_lit 288)) (.none) (nat_lit 0), rfl⟩ : {f : FuncData // fdRaw (fnAt (nat_lit 36)) (.ofString "_law_lines") (.ofString "_law_lines") (.none) (.str (.ofString "law_pb0110_01") (nat_lit 547)) (.ref (nat_lit 288)) = f}).1
noncomputable def fd__law_person : FuncData := (⟨FuncData.mk (.ofString "_law_person") (.ofString "_law_person") (Arguments.mk _ _ _ _ _ _ _) (.stmts (_ :: _)) (Scope.mk _ _ _ _ _) (nat_lit 3) [] (.none) (.none) (.none) (.str (.ofString "law_pb0110_01") (nat_lit 547)) none (.ref (nat_lit 295)) (.none) (nat_lit 0), rfl⟩ : {f : FuncData // fdRaw (fnAt (nat_lit 37)) (.ofString "_law_person") (.ofString "_law_person") (.none) (.str (.ofString "law_pb0110_01") (nat_lit 547)) (.ref (nat_lit 295)) = f}).1
noncomputable def fd__law_person_octets : FuncData := (⟨FuncData.mk (.ofString "_law_person_octets") (.ofString "_law_person_octets") (Arguments.mk _ _ _ _ _ _ _) (.stmts (_ :: _)) (Scope.mk _ _ _ _ _) (nat_lit 3) [] (.none) (.none) (.none) (.str (.ofString "law_pb0110_01") (nat_lit 547)) none (.ref (nat_lit 300)) (.none) (nat_lit 0), rfl⟩ : {f : FuncData // fdRaw (fnAt (nat_lit 38)) (.ofString "_law_person_octets") (.ofString "_law_person_octets") (.none) (.str (.ofString "law_pb0110_01") (nat_lit 547)) (.ref (nat_lit 300)) = f}).1
noncomputable def fd__law_heads : FuncData := (⟨FuncData.mk (.ofString "_law_heads") (.ofString "_law_heads") (Arguments.mk _ _ _ _ _ _ _) (.stmts (_ :: _)) (Scope.mk _ _ _ _ _) (nat_lit 3) [] (.none) (.none) (.none) (.str (.ofString "law_pb0110_01") (nat_lit 547)) none (.ref (nat_lit 305)) (.none) (nat_lit 0), rfl⟩ : {f : FuncData // fdRaw (fnAt (nat_lit 39)) (.ofString "_law_heads") (.ofString "_law_heads") (.none) (.str (.ofString "law_pb0110_01") (nat_lit 547)) (.ref (nat_lit 305)) = f}).1
noncomputable def fd__law_content : FuncData := (⟨FuncData.mk (.ofString "_law_content") (.ofString "_law_content") (Arguments.mk _ _ _ _ _ _ _) (.stmts (_ :: _)) (Scope.mk _ _ _ _ _) (nat_lit 3) [] (.none) (.none) (.none) (.str (.ofString "law_pb0110_01") (nat_lit 547)) none (.ref (nat_lit 310)) (.none) (nat_lit 0), rfl⟩ : {f : FuncData // fdRaw (fnAt (nat_lit 40)) (.ofString "_law_content") (.ofString "_law_content") (.none) (.str (.ofString "law_pb0110_01") (nat_lit 547)) (.ref (nat_lit 310)) = f}).1
noncomputable def fd__law_bent : FuncData := (⟨FuncData.mk (.ofString "_law_bent") (.ofString "_law_bent") (Arguments.mk _ _ _ _ _ _ _) (.stmts (_ :: _)) (Scope.mk _ _ _ _ _) (nat_lit 3) [] (.none) (.none) (.none) (.str (.ofString "law_pb0110_01") (nat_lit 547)) none (.ref (nat_lit 315)) (.none) (nat_lit 0), rfl⟩ : {f : FuncData // fdRaw (fnAt (nat_lit 41)) (.ofString "_law_bent") (.ofString "_law_bent") (.none) (.str (.ofString "law_pb0110_01") (nat_lit 547)) (.ref (nat_lit 315)) = f}).1
noncomputable def fd__law_told : FuncData := (⟨FuncData.mk (.ofString "_law_told") (.ofString "_law_told") (Arguments.mk _ _ _ _ _ _ _) (.stmts (_ :: _)) (Scope.mk _ _ _ _ _) (nat_lit 3) [] (.none) (.none) (.none) (.str (.ofString "law_pb0110_01") (nat_lit 547)) none (.ref (nat_lit 322)) (.none) (nat_lit 0), rfl⟩ : {f : FuncData // fdRaw (fnAt (nat_lit 42)) (.ofString "_law_told") (.ofString "_law_told") (.none) (.str (.ofString "law_pb0110_01") (nat_lit 547)) (.ref (nat_lit 322)) = f}).1
noncomputable def fd_law : FuncData := (⟨FuncData.mk (.ofString "law") (.ofString "law") (Arguments.mk _ _ _ _ _ _ _) (.stmts (_ :: _)) (Scope.mk _ _ _ _ _) (nat_lit 3) [] (.none) (.none) (.none) (.str (.ofString "law_pb0110_01") (nat_lit 547)) none (.ref (nat_lit 327)) (.none) (nat_lit 0), rfl⟩ : {f : FuncData // fdRaw (fnAt (nat_lit 43)) (.ofString "law") (.ofString "law") (.none) (.str (.ofString "law_pb0110_01") (nat_lit 547)) (.ref (nat_lit 327)) = f}).1
noncomputable def K : Params → Frag := fun P =>
 ((nat_lit 2), Obj.mk (.none) none (.dict (List.toArray [⟨PyData.keyHash P (.ofString "type.__subclasses__.Exception.0"), .str (.ofString "type.__subclasses__.Exception.0") (nat_lit 226), .int 39 (nat_lit 0)⟩, ⟨PyData.keyHash P (.ofString "type.__subclasses__.Exception.n"), .str (.ofString "type.__subclasses__.Exception.n") (nat_lit 227), .int 1 (nat_lit 0)⟩]) (nat_lit 2)) (List.toArray [])) ::
 ((nat_lit 3), Obj.mk (.type "dict") none (.dict (List.toArray [⟨PyData.keyHash P (.ofString "__name__"), .str (.ofString "__name__") (nat_lit 165), .str (.ofString "law_pb0110_01") (nat_lit 547)⟩, ⟨PyData.keyHash P (.ofString "__doc__"), .str (.ofString "__doc__") (nat_lit 166), .none⟩, ⟨PyData.keyHash P (.ofString "__package__"), .str (.ofString "__package__") (nat_lit 167), .none⟩, ⟨PyData.keyHash P (.ofString "__loader__"), .str (.ofString "__loader__") (nat_lit 168), .builtin "__main__.__loader__#opaque"⟩, ⟨PyData.keyHash P (.ofString "__spec__"), .str (.ofString "__spec__") (nat_lit 169), .none⟩, ⟨PyData.keyHash P (.ofString "__annotations__"), .str (.ofString "__annotations__") (nat_lit 170), .ref (nat_lit 6)⟩, ⟨PyData.keyHash P (.ofString "__builtins__"), .str (.ofString "__builtins__") (nat_lit 171), .ref (nat_lit 4)⟩, ⟨PyData.keyHash P (.ofString "__file__"), .str (.ofString "__file__") (nat_lit 173), .str (.ofString "/claim/cut.py") (nat_lit 172)⟩, ⟨PyData.keyHash P (.ofString "__cached__"), .str (.ofString "__cached__") (nat_lit 174), .none⟩, ⟨PyData.keyHash P (.ofString "_wall"), .str (.ofString "_wall") (nat_lit 193), .ref (nat_lit 21)⟩, ⟨PyData.keyHash P (.ofString "HEX_SIGNS"), .str (.ofString "HEX_SIGNS") (nat_lit 197), .str (.ofString "0123456789abcdef") (nat_lit 196)⟩, ⟨PyData.keyHash P (.ofString "NOUGHT_SIGN"), .str (.ofString "NOUGHT_SIGN") (nat_lit 199), .int 48 (nat_lit 198)⟩, ⟨PyData.keyHash P (.ofString "GitError"), .str (.ofString "GitError") (nat_lit 229), .ref (nat_lit 39)⟩, ⟨PyData.keyHash P (.ofString "BadObject"), .str (.ofString "BadObject") (nat_lit 245), .ref (nat_lit 52)⟩, ⟨PyData.keyHash P (.ofString "text_of"), .str (.ofString "text_of") (nat_lit 251), .ref (nat_lit 59)⟩, ⟨PyData.keyHash P (.ofString "octets_of"), .str (.ofString "octets_of") (nat_lit 257), .ref (nat_lit 64)⟩, ⟨PyData.keyHash P (.ofString "hex_of"), .str (.ofString "hex_of") (nat_lit 266), .ref (nat_lit 71)⟩, ⟨PyData.keyHash P (.ofString "hex_digit"), .str (.ofString "hex_digit") (nat_lit 274), .ref (nat_lit 78)⟩, ⟨PyData.keyHash P (.ofString "octets_of_hex"), .str (.ofString "octets_of_hex") (nat_lit 285), .ref (nat_lit 85)⟩, ⟨PyData.keyHash P (.ofString "number_by"), .str (.ofString "number_by") (nat_lit 296), .ref (nat_lit 92)⟩, ⟨PyData.keyHash P (.ofString "number_of"), .str (.ofString "number_of") (nat_lit 303), .ref (nat_lit 99)⟩, ⟨PyData.keyHash P (.ofString "OBJECT_HEX"), .str (.ofString "OBJECT_HEX") (nat_lit 307), .bytes (List.toArray [48, 49, 50, 51, 52, 53, 54, 55, 56, 57, 97, 98, 99, 100, 101, 102]) (nat_lit 306)⟩, ⟨PyData.keyHash P (.ofString "OBJECT_DIGITS"), .str (.ofString "OBJECT_DIGITS") (nat_lit 309), .bytes (List.toArray [48, 49, 50, 51, 52, 53, 54, 55, 56, 57]) (nat_lit 308)⟩, ⟨PyData.keyHash P (.ofString "OBJECT_HEADS"), .str (.ofString "OBJECT_HEADS") (nat_lit 314), .ref (nat_lit 100)⟩, ⟨PyData.keyHash P (.ofString "object_has_sign"), .str (.ofString "object_has_sign") (nat_lit 323), .ref (nat_lit 107)⟩, ⟨PyData.keyHash P (.ofString "object_are_all"), .str (.ofString "object_are_all") (nat_lit 332), .ref (nat_lit 114)⟩, ⟨PyData.keyHash P (.ofString "Person"), .str (.ofString "Person") (nat_lit 374), .ref (nat_lit 138)⟩, ⟨PyData.keyHash P (.ofString "read_person"), .str (.ofString "read_person") (nat_lit 389), .ref (nat_lit 149)⟩, ⟨PyData.keyHash P (.ofString "object_head_row"), .str (.ofString "object_head_row") (nat_lit 397), .ref (nat_lit 156)⟩, ⟨PyData.keyHash P (.ofString "object_head_id"), .str (.ofString "object_head_id") (nat_lit 405), .ref (nat_lit 163)⟩, ⟨PyData.keyHash P (.ofString "object_heads"), .str (.ofString "object_heads") (nat_lit 419), .ref (nat_lit 170)⟩, ⟨PyData.keyHash P (.ofString "ObjectHeadWalk"), .str (.ofString "ObjectHeadWalk") (nat_lit 472), .ref (nat_lit 208)⟩, ⟨PyData.keyHash P (.ofString "Commit"), .str (.ofString "Commit") (nat_lit 529), .ref (nat_lit 243)⟩, ⟨PyData.keyHash P (.ofString "read_commit"), .str (.ofString "read_commit") (nat_lit 546), .ref (nat_lit 254)⟩, ⟨PyData.keyHash P (.ofString "_law_keys"), .str (.ofString "_law_keys") (nat_lit 553), .ref (nat_lit 255)⟩, ⟨PyData.keyHash P (.ofString "_law_rows"), .str (.ofString "_law_rows") (nat_lit 559), .ref (nat_lit 256)⟩, ⟨PyData.keyHash P (.ofString "_law_people"), .str (.ofString "_law_people") (nat_lit 568), .ref (nat_lit 261)⟩, ⟨PyData.keyHash P (.ofString "_law_zones"), .str (.ofString "_law_zones") (nat_lit 572), .ref (nat_lit 262)⟩, ⟨PyData.keyHash P (.ofString "_law_deck"), .str (.ofString "_law_deck") (nat_lit 578), .ref (nat_lit 267)⟩, ⟨PyData.keyHash P (.ofString "_law_draw"), .str (.ofString "_law_draw") (nat_lit 586), .ref (nat_lit 274)⟩, ⟨PyData.keyHash P (.ofString "_law_id"), .str (.ofString "_law_id") (nat_lit 592), .ref (nat_lit 279)⟩, ⟨PyData.keyHash P (.ofString "_law_figures"), .str (.ofString "_law_figures") (nat_lit 598), .ref (nat_lit 284)⟩, ⟨PyData.keyHash P (.ofString "_law_lines"), .str (.ofString "_law_lines") (nat_lit 604), .ref (nat_lit 289)⟩, ⟨PyData.keyHash P (.ofString "_law_person"), .str (.ofString "_law_person") (nat_lit 613), .ref (nat_lit 296)⟩, ⟨PyData.keyHash P (.ofString "_law_person_octets"), .str (.ofString "_law_person_octets") (nat_lit 619), .ref (nat_lit 301)⟩, ⟨PyData.keyHash P (.ofString "_law_heads"), .str (.ofString "_law_heads") (nat_lit 625), .ref (nat_lit 306)⟩, ⟨PyData.keyHash P (.ofString "_law_content"), .str (.ofString "_law_content") (nat_lit 631), .ref (nat_lit 311)⟩, ⟨PyData.keyHash P (.ofString "_law_bent"), .str (.ofString "_law_bent") (nat_lit 637), .ref (nat_lit 316)⟩, ⟨PyData.keyHash P (.ofString "_law_told"), .str (.ofString "_law_told") (nat_lit 644), .ref (nat_lit 323)⟩, ⟨PyData.keyHash P (.ofString "law"), .str (.ofString "law") (nat_lit 650), .ref (nat_lit 328)⟩]) (nat_lit 50)) (List.toArray [])) ::
 ((nat_lit 15), Obj.mk (.type "tuple") none (.seq (List.toArray []) (nat_lit 0)) (List.toArray [])) ::
 ((nat_lit 17), Obj.mk (.type "tuple") none (.seq (List.toArray [.str (.ofString "k") (nat_lit 190)]) (nat_lit 0)) (List.toArray [])) ::
 ((nat_lit 18), Obj.mk (.type "tuple") none (.seq (List.toArray []) (nat_lit 0)) (List.toArray [])) ::
 ((nat_lit 20), Obj.mk (.type "code") none (.fields (List.toArray [.str (.ofString "_wall") (nat_lit 187), .str (.ofString "_wall") (nat_lit 188), .str (.ofString "/claim/cut.py") (nat_lit 189), .int 1 (nat_lit 0), .int 1 (nat_lit 0), .int 0 (nat_lit 0), .int 0 (nat_lit 0), .int 3 (nat_lit 0), .ref (nat_lit 15), .bool true, .int 181 (nat_lit 0), .ref (nat_lit 16), .none, .ref (nat_lit 17), .ref (nat_lit 18), .ref (nat_lit 19), .int 191 (nat_lit 0), .int 1 (nat_lit 0), .str (.ofString "/claim/cut.py") (nat_lit 192)])) (List.toArray [])) ::
 ((nat_lit 21), Obj.mk (.type "function") none (.func fd__wall) (List.toArray [])) ::
 ((nat_lit 22), Obj.mk (.type "tuple") none (.seq (List.toArray [.type "Exception"]) (nat_lit 0)) (List.toArray [])) ::
 ((nat_lit 29), Obj.mk (.type "tuple") none (.seq (List.toArray [.str (.ofString "") (nat_lit 212)]) (nat_lit 0)) (List.toArray [])) ::
 ((nat_lit 30), Obj.mk (.type "tuple") none (.seq (List.toArray []) (nat_lit 0)) (List.toArray [])) ::
 ((nat_lit 32), Obj.mk (.type "tuple") none (.seq (List.toArray [.str (.ofString "self") (nat_lit 216), .str (.ofString "told") (nat_lit 217)]) (nat_lit 0)) (List.toArray [])) ::
 ((nat_lit 33), Obj.mk (.type "tuple") none (.seq (List.toArray []) (nat_lit 0)) (List.toArray [])) ::
 ((nat_lit 35), Obj.mk (.type "code") none (.fields (List.toArray [.str (.ofString "__init__") (nat_lit 213), .str (.ofString "GitError.__init__") (nat_lit 214), .str (.ofString "/claim/cut.py") (nat_lit 215), .int 9 (nat_lit 0), .int 2 (nat_lit 0), .int 0 (nat_lit 0), .int 0 (nat_lit 0), .int 3 (nat_lit 0), .ref (nat_lit 30), .bool true, .int 181 (nat_lit 0), .ref (nat_lit 31), .none, .ref (nat_lit 32), .ref (nat_lit 33), .ref (nat_lit 34), .int 218 (nat_lit 0), .int 9 (nat_lit 0), .str (.ofString "/claim/cut.py") (nat_lit 219)])) (List.toArray [])) ::
 ((nat_lit 36), Obj.mk (.type "function") none (.func fd_GitError___init__) (List.toArray [])) ::
 ((nat_lit 37), Obj.mk (.type "tuple") none (.seq (List.toArray [.str (.ofString "told") (nat_lit 221)]) (nat_lit 0)) (List.toArray [])) ::
 ((nat_lit 38), Obj.mk (.type "dict") none (.dict (List.toArray [⟨PyData.keyHash P (.ofString "__module__"), .str (.ofString "__module__") (nat_lit 207), .str (.ofString "gitcore.base") (nat_lit 194)⟩, ⟨PyData.keyHash P (.ofString "__firstlineno__"), .str (.ofString "__firstlineno__") (nat_lit 211), .int 7 (nat_lit 210)⟩, ⟨PyData.keyHash P (.ofString "__init__"), .str (.ofString "__init__") (nat_lit 220), .ref (nat_lit 36)⟩, ⟨PyData.keyHash P (.ofString "__static_attributes__"), .str (.ofString "__static_attributes__") (nat_lit 222), .ref (nat_lit 37)⟩, ⟨PyData.keyHash P (.ofString "__weakref__"), .str (.ofString "__weakref__") (nat_lit 224), .ref (nat_lit 40)⟩, ⟨PyData.keyHash P (.ofString "__doc__"), .str (.ofString "__doc__") (nat_lit 225), .none⟩]) (nat_lit 3)) (List.toArray [])) ::
 ((nat_lit 39), Obj.mk (.type "type") none (.cls (ClassData.mk (.ofString "GitError") [.type "Exception"] [.ref (nat_lit 39), .type "Exception", .type "BaseException", .type "object"] (nat_lit 38) (.ofString "GitError") true [] [.ref (nat_lit 52)] false none false)) (List.toArray [some (.ref (nat_lit 22)), none, some (.str (.ofString "GitError") (nat_lit 200)), some (.str (.ofString "GitError") (nat_lit 208)), some (.builtin "Exception.__new__"), some (.bool true)])) ::
 ((nat_lit 40), Obj.mk (.type "getset_descriptor") none (.fields (List.toArray [.str (.ofString "__weakref__") (nat_lit 223), .ref (nat_lit 39), .builtin "ExceptionGroup.__weakref__", .none])) (List.toArray [])) ::
 ((nat_lit 43), Obj.mk (.type "tuple") none (.seq (List.toArray [.ref (nat_lit 39)]) (nat_lit 0)) (List.toArray [])) ::
 ((nat_lit 50), Obj.mk (.type "tuple") none (.seq (List.toArray []) (nat_lit 0)) (List.toArray [])) ::
 ((nat_lit 51), Obj.mk (.type "dict") none (.dict (List.toArray [⟨PyData.keyHash P (.ofString "__module__"), .str (.ofString "__module__") (nat_lit 237), .str (.ofString "gitcore.base") (nat_lit 194)⟩, ⟨PyData.keyHash P (.ofString "__firstlineno__"), .str (.ofString "__firstlineno__") (nat_lit 241), .int 11 (nat_lit 240)⟩, ⟨PyData.keyHash P (.ofString "__static_attributes__"), .str (.ofString "__static_attributes__") (nat_lit 242), .ref (nat_lit 50)⟩, ⟨PyData.keyHash P (.ofString "__doc__"), .str (.ofString "__doc__") (nat_lit 243), .none⟩]) (nat_lit 2)) (List.toArray [])) ::
 ((nat_lit 52), Obj.mk (.type "type") none (.cls (ClassData.mk (.ofString "BadObject") [.ref (nat_lit 39)] [.ref (nat_lit 52), .ref (nat_lit 39), .type "Exception", .type "BaseException", .type "object"] (nat_lit 51) (.ofString "BadObject") true [] [] false none false)) (List.toArray [some (.ref (nat_lit 43)), none, some (.str (.ofString "BadObject") (nat_lit 230)), some (.str (.ofString "BadObject") (nat_lit 238)), some (.builtin "Exception.__new__"), some (.bool true)])) ::
 ((nat_lit 55), Obj.mk (.type "tuple") none (.seq (List.toArray []) (nat_lit 0)) (List.toArray [])) ::
 ((nat_lit 58), Obj.mk (.type "code") none (.fields (List.toArray [.str (.ofString "text_of") (nat_lit 246), .str (.ofString "text_of") (nat_lit 247), .str (.ofString "/claim/cut.py") (nat_lit 248), .int 13 (nat_lit 0), .int 1 (nat_lit 0), .int 0 (nat_lit 0), .int 0 (nat_lit 0), .int 3 (nat_lit 0), .ref (nat_lit 55), .bool true, .int 181 (nat_lit 0), .ref (nat_lit 56), .none, .none, .none, .ref (nat_lit 57), .int 249 (nat_lit 0), .int 13 (nat_lit 0), .str (.ofString "/claim/cut.py") (nat_lit 250)])) (List.toArray [])) ::
 ((nat_lit 59), Obj.mk (.type "function") none (.func fd_text_of) (List.toArray [])) ::
 ((nat_lit 60), Obj.mk (.type "tuple") none (.seq (List.toArray []) (nat_lit 0)) (List.toArray [])) ::
 ((nat_lit 63), Obj.mk (.type "code") none (.fields (List.toArray [.str (.ofString "octets_of") (nat_lit 252), .str (.ofString "octets_of") (nat_lit 253), .str (.ofString "/claim/cut.py") (nat_lit 254), .int 15 (nat_lit 0), .int 1 (nat_lit 0), .int 0 (nat_lit 0), .int 0 (nat_lit 0), .int 3 (nat_lit 0), .ref (nat_lit 60), .bool true, .int 181 (nat_lit 0), .ref (nat_lit 61), .none, .none, .none, .ref (nat_lit 62), .int 255 (nat_lit 0), .int 15 (nat_lit 0), .str (.ofString "/claim/cut.py") (nat_lit 256)])) (List.toArray [])) ::
 ((nat_lit 64), Obj.mk (.type "function") none (.func fd_octets_of) (List.toArray [])) ::
 ((nat_lit 65), Obj.mk (.type "tuple") none (.seq (List.toArray []) (nat_lit 0)) (List.toArray [])) ::
 ((nat_lit 67), Obj.mk (.type "tuple") none (.seq (List.toArray [.str (.ofString "octets") (nat_lit 261), .str (.ofString "found") (nat_lit 262), .str (.ofString "octet") (nat_lit 263)]) (nat_lit 0)) (List.toArray [])) ::
 ((nat_lit 68), Obj.mk (.type "tuple") none (.seq (List.toArray []) (nat_lit 0)) (List.toArray [])) ::
 ((nat_lit 70), Obj.mk (.type "code") none (.fields (List.toArray [.str (.ofString "hex_of") (nat_lit 258), .str (.ofString "hex_of") (nat_lit 259), .str (.ofString "/claim/cut.py") (nat_lit 260), .int 21 (nat_lit 0), .int 1 (nat_lit 0), .int 0 (nat_lit 0), .int 0 (nat_lit 0), .int 3 (nat_lit 0), .ref (nat_lit 65), .bool true, .int 181 (nat_lit 0), .ref (nat_lit 66), .none, .ref (nat_lit 67), .ref (nat_lit 68), .ref (nat_lit 69), .int 264 (nat_lit 0), .int 21 (nat_lit 0), .str (.ofString "/claim/cut.py") (nat_lit 265)])) (List.toArray [])) ::
 ((nat_lit 71), Obj.mk (.type "function") none (.func fd_hex_of) (List.toArray [])) ::
 ((nat_lit 72), Obj.mk (.type "tuple") none (.seq (List.toArray []) (nat_lit 0)) (List.toArray [])) ::
 ((nat_lit 74), Obj.mk (.type "tuple") none (.seq (List.toArray [.str (.ofString "sign") (nat_lit 270), .str (.ofString "place") (nat_lit 271)]) (nat_lit 0)) (List.toArray [])) ::
 ((nat_lit 75), Obj.mk (.type "tuple") none (.seq (List.toArray []) (nat_lit 0)) (List.toArray [])) ::
 ((nat_lit 77), Obj.mk (.type "code") none (.fields (List.toArray [.str (.ofString "hex_digit") (nat_lit 267), .str (.ofString "hex_digit") (nat_lit 268), .str (.ofString "/claim/cut.py") (nat_lit 269), .int 27 (nat_lit 0), .int 1 (nat_lit 0), .int 0 (nat_lit 0), .int 0 (nat_lit 0), .int 3 (nat_lit 0), .ref (nat_lit 72), .bool true, .int 181 (nat_lit 0), .ref (nat_lit 73), .none, .ref (nat_lit 74), .ref (nat_lit 75), .ref (nat_lit 76), .int 272 (nat_lit 0), .int 27 (nat_lit 0), .str (.ofString "/claim/cut.py") (nat_lit 273)])) (List.toArray [])) ::
 ((nat_lit 78), Obj.mk (.type "function") none (.func fd_hex_digit) (List.toArray [])) ::
 ((nat_lit 79), Obj.mk (.type "tuple") none (.seq (List.toArray []) (nat_lit 0)) (List.toArray [])) ::
 ((nat_lit 81), Obj.mk (.type "tuple") none (.seq (List.toArray [.str (.ofString "text") (nat_lit 278), .str (.ofString "found") (nat_lit 279), .str (.ofString "at") (nat_lit 280), .str (.ofString "high") (nat_lit 281), .str (.ofString "low") (nat_lit 282)]) (nat_lit 0)) (List.toArray [])) ::
 ((nat_lit 82), Obj.mk (.type "tuple") none (.seq (List.toArray []) (nat_lit 0)) (List.toArray [])) ::
 ((nat_lit 84), Obj.mk (.type "code") none (.fields (List.toArray [.str (.ofString "octets_of_hex") (nat_lit 275), .str (.ofString "octets_of_hex") (nat_lit 276), .str (.ofString "/claim/cut.py") (nat_lit 277), .int 32 (nat_lit 0), .int 1 (nat_lit 0), .int 0 (nat_lit 0), .int 0 (nat_lit 0), .int 3 (nat_lit 0), .ref (nat_lit 79), .bool true, .int 181 (nat_lit 0), .ref (nat_lit 80), .none, .ref (nat_lit 81), .ref (nat_lit 82), .ref (nat_lit 83), .int 283 (nat_lit 0), .int 32 (nat_lit 0), .str (.ofString "/claim/cut.py") (nat_lit 284)])) (List.toArray [])) ::
 ((nat_lit 85), Obj.mk (.type "function") none (.func fd_octets_of_hex) (List.toArray [])) ::
 ((nat_lit 86), Obj.mk (.type "tuple") none (.seq (List.toArray []) (nat_lit 0)) (List.toArray [])) ::
 ((nat_lit 88), Obj.mk (.type "tuple") none (.seq (List.toArray [.str (.ofString "octets") (nat_lit 289), .str (.ofString "base") (nat_lit 290), .str (.ofString "number") (nat_lit 291), .str (.ofString "octet") (nat_lit 292), .str (.ofString "digit") (nat_lit 293)]) (nat_lit 0)) (List.toArray [])) ::
 ((nat_lit 89), Obj.mk (.type "tuple") none (.seq (List.toArray []) (nat_lit 0)) (List.toArray [])) ::
 ((nat_lit 91), Obj.mk (.type "code") none (.fields (List.toArray [.str (.ofString "number_by") (nat_lit 286), .str (.ofString "number_by") (nat_lit 287), .str (.ofString "/claim/cut.py") (nat_lit 288), .int 43 (nat_lit 0), .int 2 (nat_lit 0), .int 0 (nat_lit 0), .int 0 (nat_lit 0), .int 3 (nat_lit 0), .ref (nat_lit 86), .bool true, .int 181 (nat_lit 0), .ref (nat_lit 87), .none, .ref (nat_lit 88), .ref (nat_lit 89), .ref (nat_lit 90), .int 294 (nat_lit 0), .int 43 (nat_lit 0), .str (.ofString "/claim/cut.py") (nat_lit 295)])) (List.toArray [])) ::
 ((nat_lit 92), Obj.mk (.type "function") none (.func fd_number_by) (List.toArray [])) ::
 ((nat_lit 93), Obj.mk (.type "tuple") none (.seq (List.toArray []) (nat_lit 0)) (List.toArray [])) ::
 ((nat_lit 95), Obj.mk (.type "tuple") none (.seq (List.toArray [.str (.ofString "octets") (nat_lit 300)]) (nat_lit 0)) (List.toArray [])) ::
 ((nat_lit 96), Obj.mk (.type "tuple") none (.seq (List.toArray []) (nat_lit 0)) (List.toArray [])) ::
 ((nat_lit 98), Obj.mk (.type "code") none (.fields (List.toArray [.str (.ofString "number_of") (nat_lit 297), .str (.ofString "number_of") (nat_lit 298), .str (.ofString "/claim/cut.py") (nat_lit 299), .int 53 (nat_lit 0), .int 1 (nat_lit 0), .int 0 (nat_lit 0), .int 0 (nat_lit 0), .int 3 (nat_lit 0), .ref (nat_lit 93), .bool true, .int 181 (nat_lit 0), .ref (nat_lit 94), .none, .ref (nat_lit 95), .ref (nat_lit 96), .ref (nat_lit 97), .int 301 (nat_lit 0), .int 53 (nat_lit 0), .str (.ofString "/claim/cut.py") (nat_lit 302)])) (List.toArray [])) ::
 ((nat_lit 99), Obj.mk (.type "function") none (.func fd_number_of) (List.toArray [])) ::
 ((nat_lit 100), Obj.mk (.type "tuple") none (.seq (List.toArray [.bytes (List.toArray [116, 114, 101, 101]) (nat_lit 310), .bytes (List.toArray [112, 97, 114, 101, 110, 116]) (nat_lit 311), .bytes (List.toArray [97, 117, 116, 104, 111, 114]) (nat_lit 312), .bytes (List.toArray [99, 111, 109, 109, 105, 116, 116, 101, 114]) (nat_lit 313)]) (nat_lit 0)) (List.toArray [])) ::
 ((nat_lit 101), Obj.mk (.type "tuple") none (.seq (List.toArray []) (nat_lit 0)) (List.toArray [])) ::
 ((nat_lit 103), Obj.mk (.type "tuple") none (.seq (List.toArray [.str (.ofString "octets") (nat_lit 318), .str (.ofString "signs") (nat_lit 319), .str (.ofString "sign") (nat_lit 320)]) (nat_lit 0)) (List.toArray [])) ::
 ((nat_lit 104), Obj.mk (.type "tuple") none (.seq (List.toArray []) (nat_lit 0)) (List.toArray [])) ::
 ((nat_lit 106), Obj.mk (.type "code") none (.fields (List.toArray [.str (.ofString "object_has_sign") (nat_lit 315), .str (.ofString "object_has_sign") (nat_lit 316), .str (.ofString "/claim/cut.py") (nat_lit 317), .int 61 (nat_lit 0), .int 2 (nat_lit 0), .int 0 (nat_lit 0), .int 0 (nat_lit 0), .int 3 (nat_lit 0), .ref (nat_lit 101), .bool true, .int 181 (nat_lit 0), .ref (nat_lit 102), .none, .ref (nat_lit 103), .ref (nat_lit 104), .ref (nat_lit 105), .int 321 (nat_lit 0), .int 61 (nat_lit 0), .str (.ofString "/claim/cut.py") (nat_lit 322)])) (List.toArray [])) ::
 ((nat_lit 107), Obj.mk (.type "function") none (.func fd_object_has_sign) (List.toArray [])) ::
 ((nat_lit 108), Obj.mk (.type "tuple") none (.seq (List.toArray []) (nat_lit 0)) (List.toArray [])) ::
 ((nat_lit 110), Obj.mk (.type "tuple") none (.seq (List.toArray [.str (.ofString "octets") (nat_lit 327), .str (.ofString "signs") (nat_lit 328), .str (.ofString "sign") (nat_lit 329)]) (nat_lit 0)) (List.toArray [])) ::
 ((nat_lit 111), Obj.mk (.type "tuple") none (.seq (List.toArray []) (nat_lit 0)) (List.toArray [])) ::
 ((nat_lit 113), Obj.mk (.type "code") none (.fields (List.toArray [.str (.ofString "object_are_all") (nat_lit 324), .str (.ofString "object_are_all") (nat_lit 325), .str (.ofString "/claim/cut.py") (nat_lit 326), .int 66 (nat_lit 0), .int 2 (nat_lit 0), .int 0 (nat_lit 0), .int 0 (nat_lit 0), .int 3 (nat_lit 0), .ref (nat_lit 108), .bool true, .int 181 (nat_lit 0), .ref (nat_lit 109), .none, .ref (nat_lit 110), .ref (nat_lit 111), .ref (nat_lit 112), .int 330 (nat_lit 0), .int 66 (nat_lit 0), .str (.ofString "/claim/cut.py") (nat_lit 331)])) (List.toArray [])) ::
 ((nat_lit 114), Obj.mk (.type "function") none (.func fd_object_are_all) (List.toArray [])) ::
 ((nat_lit 122), Obj.mk (.type "tuple") none (.seq (List.toArray []) (nat_lit 0)) (List.toArray [])) ::
 ((nat_lit 124), Obj.mk (.type "tuple") none (.seq (List.toArray [.str (.ofString "self") (nat_lit 348), .str (.ofString "name") (nat_lit 349), .str (.ofString "email") (nat_lit 350), .str (.ofString "when") (nat_lit 351), .str (.ofString "zone") (nat_lit 352)]) (nat_lit 0)) (List.toArray [])) ::
 ((nat_lit 125), Obj.mk (.type "tuple") none (.seq (List.toArray []) (nat_lit 0)) (List.toArray [])) ::
 ((nat_lit 127), Obj.mk (.type "code") none (.fields (List.toArray [.str (.ofString "__init__") (nat_lit 345), .str (.ofString "Person.__init__") (nat_lit 346), .str (.ofString "/claim/cut.py") (nat_lit 347), .int 73 (nat_lit 0), .int 5 (nat_lit 0), .int 0 (nat_lit 0), .int 0 (nat_lit 0), .int 3 (nat_lit 0), .ref (nat_lit 122), .bool true, .int 181 (nat_lit 0), .ref (nat_lit 123), .none, .ref (nat_lit 124), .ref (nat_lit 125), .ref (nat_lit 126), .int 353 (nat_lit 0), .int 73 (nat_lit 0), .str (.ofString "/claim/cut.py") (nat_lit 354)])) (List.toArray [])) ::
 ((nat_lit 128), Obj.mk (.type "function") none (.func fd_Person___init__) (List.toArray [])) ::
 ((nat_lit 129), Obj.mk (.type "tuple") none (.seq (List.toArray []) (nat_lit 0)) (List.toArray [])) ::
 ((nat_lit 131), Obj.mk (.type "tuple") none (.seq (List.toArray [.str (.ofString "self") (nat_lit 359)]) (nat_lit 0)) (List.toArray [])) ::
 ((nat_lit 132), Obj.mk (.type "tuple") none (.seq (List.toArray []) (nat_lit 0)) (List.toArray [])) ::
 ((nat_lit 134), Obj.mk (.type "code") none (.fields (List.toArray [.str (.ofString "octets") (nat_lit 356), .str (.ofString "Person.octets") (nat_lit 357), .str (.ofString "/claim/cut.py") (nat_lit 358), .int 79 (nat_lit 0), .int 1 (nat_lit 0), .int 0 (nat_lit 0), .int 0 (nat_lit 0), .int 3 (nat_lit 0), .ref (nat_lit 129), .bool true, .int 181 (nat_lit 0), .ref (nat_lit 130), .none, .ref (nat_lit 131), .ref (nat_lit 132), .ref (nat_lit 133), .int 360 (nat_lit 0), .int 79 (nat_lit 0), .str (.ofString "/claim/cut.py") (nat_lit 361)])) (List.toArray [])) ::
 ((nat_lit 135), Obj.mk (.type "function") none (.func fd_Person_octets) (List.toArray [])) ::
 ((nat_lit 136), Obj.mk (.type "tuple") none (.seq (List.toArray [.str (.ofString "email") (nat_lit 363), .str (.ofString "name") (nat_lit 364), .str (.ofString "when") (nat_lit 365), .str (.ofString "zone") (nat_lit 366)]) (nat_lit 0)) (List.toArray [])) ::
 ((nat_lit 137), Obj.mk (.type "dict") none (.dict (List.toArray [⟨PyData.keyHash P (.ofString "__module__"), .str (.ofString "__module__") (nat_lit 340), .str (.ofString "gitcore.objects") (nat_lit 304)⟩, ⟨PyData.keyHash P (.ofString "__firstlineno__"), .str (.ofString "__firstlineno__") (nat_lit 344), .int 71 (nat_lit 343)⟩, ⟨PyData.keyHash P (.ofString "__init__"), .str (.ofString "__init__") (nat_lit 355), .ref (nat_lit 128)⟩, ⟨PyData.keyHash P (.ofString "octets"), .str (.ofString "octets") (nat_lit 362), .ref (nat_lit 135)⟩, ⟨PyData.keyHash P (.ofString "__static_attributes__"), .str (.ofString "__static_attributes__") (nat_lit 367), .ref (nat_lit 136)⟩, ⟨PyData.keyHash P (.ofString "__dict__"), .str (.ofString "__dict__") (nat_lit 369), .ref (nat_lit 139)⟩, ⟨PyData.keyHash P (.ofString "__weakref__"), .str (.ofString "__weakref__") (nat_lit 371), .ref (nat_lit 140)⟩, ⟨PyData.keyHash P (.ofString "__doc__"), .str (.ofString "__doc__") (nat_lit 372), .none⟩]) (nat_lit 4)) (List.toArray [])) ::
 ((nat_lit 138), Obj.mk (.type "type") none (.cls (ClassData.mk (.ofString "Person") [.type "object"] [.ref (nat_lit 138), .type "object"] (nat_lit 137) (.ofString "Person") true [] [] false none false)) (List.toArray [none, none, some (.str (.ofString "Person") (nat_lit 333)), some (.str (.ofString "Person") (nat_lit 341)), some (.builtin "object.__new__"), some (.bool true)])) ::
 ((nat_lit 139), Obj.mk (.type "getset_descriptor") none (.fields (List.toArray [.str (.ofString "__dict__") (nat_lit 368), .ref (nat_lit 138), .builtin "function.__dict__", .builtin "function.__dict__#set"])) (List.toArray [])) ::
 ((nat_lit 140), Obj.mk (.type "getset_descriptor") none (.fields (List.toArray [.str (.ofString "__weakref__") (nat_lit 370), .ref (nat_lit 138), .builtin "ExceptionGroup.__weakref__", .none])) (List.toArray [])) ::
 ((nat_lit 143), Obj.mk (.type "tuple") none (.seq (List.toArray []) (nat_lit 0)) (List.toArray [])) ::
 ((nat_lit 145), Obj.mk (.type "tuple") none (.seq (List.toArray [.str (.ofString "octets") (nat_lit 378), .str (.ofString "start") (nat_lit 379), .str (.ofString "name") (nat_lit 380), .str (.ofString "rest") (nat_lit 381), .str (.ofString "end") (nat_lit 382), .str (.ofString "email") (nat_lit 383), .str (.ofString "blank") (nat_lit 384), .str (.ofString "when") (nat_lit 385), .str (.ofString "zone") (nat_lit 386)]) (nat_lit 0)) (List.toArray [])) ::
 ((nat_lit 146), Obj.mk (.type "tuple") none (.seq (List.toArray []) (nat_lit 0)) (List.toArray [])) ::
 ((nat_lit 148), Obj.mk (.type "code") none (.fields (List.toArray [.str (.ofString "read_person") (nat_lit 375), .str (.ofString "read_person") (nat_lit 376), .str (.ofString "/claim/cut.py") (nat_lit 377), .int 81 (nat_lit 0), .int 1 (nat_lit 0), .int 0 (nat_lit 0), .int 0 (nat_lit 0), .int 3 (nat_lit 0), .ref (nat_lit 143), .bool true, .int 181 (nat_lit 0), .ref (nat_lit 144), .none, .ref (nat_lit 145), .ref (nat_lit 146), .ref (nat_lit 147), .int 387 (nat_lit 0), .int 81 (nat_lit 0), .str (.ofString "/claim/cut.py") (nat_lit 388)])) (List.toArray [])) ::
 ((nat_lit 149), Obj.mk (.type "function") none (.func fd_read_person) (List.toArray [])) ::
 ((nat_lit 150), Obj.mk (.type "tuple") none (.seq (List.toArray []) (nat_lit 0)) (List.toArray [])) ::
 ((nat_lit 152), Obj.mk (.type "tuple") none (.seq (List.toArray [.str (.ofString "key") (nat_lit 393), .str (.ofString "value") (nat_lit 394)]) (nat_lit 0)) (List.toArray [])) ::
 ((nat_lit 153), Obj.mk (.type "tuple") none (.seq (List.toArray []) (nat_lit 0)) (List.toArray [])) ::
 ((nat_lit 155), Obj.mk (.type "code") none (.fields (List.toArray [.str (.ofString "object_head_row") (nat_lit 390), .str (.ofString "object_head_row") (nat_lit 391), .str (.ofString "/claim/cut.py") (nat_lit 392), .int 101 (nat_lit 0), .int 2 (nat_lit 0), .int 0 (nat_lit 0), .int 0 (nat_lit 0), .int 3 (nat_lit 0), .ref (nat_lit 150), .bool true, .int 181 (nat_lit 0), .ref (nat_lit 151), .none, .ref (nat_lit 152), .ref (nat_lit 153), .ref (nat_lit 154), .int 395 (nat_lit 0), .int 101 (nat_lit 0), .str (.ofString "/claim/cut.py") (nat_lit 396)])) (List.toArray [])) ::
 ((nat_lit 156), Obj.mk (.type "function") none (.func fd_object_head_row) (List.toArray [])) ::
 ((nat_lit 157), Obj.mk (.type "tuple") none (.seq (List.toArray []) (nat_lit 0)) (List.toArray [])) ::
 ((nat_lit 159), Obj.mk (.type "tuple") none (.seq (List.toArray [.str (.ofString "octets") (nat_lit 401), .str (.ofString "size") (nat_lit 402)]) (nat_lit 0)) (List.toArray [])) ::
 ((nat_lit 160), Obj.mk (.type "tuple") none (.seq (List.toArray []) (nat_lit 0)) (List.toArray [])) ::
 ((nat_lit 162), Obj.mk (.type "code") none (.fields (List.toArray [.str (.ofString "object_head_id") (nat_lit 398), .str (.ofString "object_head_id") (nat_lit 399), .str (.ofString "/claim/cut.py") (nat_lit 400), .int 103 (nat_lit 0), .int 2 (nat_lit 0), .int 0 (nat_lit 0), .int 0 (nat_lit 0), .int 3 (nat_lit 0), .ref (nat_lit 157), .bool true, .int 181 (nat_lit 0), .ref (nat_lit 158), .none, .ref (nat_lit 159), .ref (nat_lit 160), .ref (nat_lit 161), .int 403 (nat_lit 0), .int 103 (nat_lit 0), .str (.ofString "/claim/cut.py") (nat_lit 404)])) (List.toArray [])) ::
 ((nat_lit 163), Obj.mk (.type "function") none (.func fd_object_head_id) (List.toArray [])) ::
 ((nat_lit 164), Obj.mk (.type "tuple") none (.seq (List.toArray []) (nat_lit 0)) (List.toArray [])) ::
 ((nat_lit 166), Obj.mk (.type "tuple") none (.seq (List.toArray [.str (.ofString "octets") (nat_lit 409), .str (.ofString "heads") (nat_lit 410), .str (.ofString "at") (nat_lit 411), .str (.ofString "end") (nat_lit 412), .str (.ofString "row") (nat_lit 413), .str (.ofString "key") (nat_lit 414), .str (.ofString "value") (nat_lit 415), .str (.ofString "blank") (nat_lit 416)]) (nat_lit 0)) (List.toArray [])) ::
 ((nat_lit 167), Obj.mk (.type "tuple") none (.seq (List.toArray []) (nat_lit 0)) (List.toArray [])) ::
 ((nat_lit 169), Obj.mk (.type "code") none (.fields (List.toArray [.str (.ofString "object_heads") (nat_lit 406), .str (.ofString "object_heads") (nat_lit 407), .str (.ofString "/claim/cut.py") (nat_lit 408), .int 107 (nat_lit 0), .int 1 (nat_lit 0), .int 0 (nat_lit 0), .int 0 (nat_lit 0), .int 3 (nat_lit 0), .ref (nat_lit 164), .bool true, .int 181 (nat_lit 0), .ref (nat_lit 165), .none, .ref (nat_lit 166), .ref (nat_lit 167), .ref (nat_lit 168), .int 417 (nat_lit 0), .int 107 (nat_lit 0), .str (.ofString "/claim/cut.py") (nat_lit 418)])) (List.toArray [])) ::
 ((nat_lit 170), Obj.mk (.type "function") none (.func fd_object_heads) (List.toArray [])) ::
 ((nat_lit 178), Obj.mk (.type "tuple") none (.seq (List.toArray []) (nat_lit 0)) (List.toArray [])) ::
 ((nat_lit 180), Obj.mk (.type "tuple") none (.seq (List.toArray [.str (.ofString "self") (nat_lit 435), .str (.ofString "heads") (nat_lit 436)]) (nat_lit 0)) (List.toArray [])) ::
 ((nat_lit 181), Obj.mk (.type "tuple") none (.seq (List.toArray []) (nat_lit 0)) (List.toArray [])) ::
 ((nat_lit 183), Obj.mk (.type "code") none (.fields (List.toArray [.str (.ofString "__init__") (nat_lit 432), .str (.ofString "ObjectHeadWalk.__init__") (nat_lit 433), .str (.ofString "/claim/cut.py") (nat_lit 434), .int 130 (nat_lit 0), .int 2 (nat_lit 0), .int 0 (nat_lit 0), .int 0 (nat_lit 0), .int 3 (nat_lit 0), .ref (nat_lit 178), .bool true, .int 181 (nat_lit 0), .ref (nat_lit 179), .none, .ref (nat_lit 180), .ref (nat_lit 181), .ref (nat_lit 182), .int 437 (nat_lit 0), .int 130 (nat_lit 0), .str (.ofString "/claim/cut.py") (nat_lit 438)])) (List.toArray [])) ::
 ((nat_lit 184), Obj.mk (.type "function") none (.func fd_ObjectHeadWalk___init__) (List.toArray [])) ::
 ((nat_lit 185), Obj.mk (.type "tuple") none (.seq (List.toArray []) (nat_lit 0)) (List.toArray [])) ::
 ((nat_lit 187), Obj.mk (.type "tuple") none (.seq (List.toArray [.str (.ofString "self") (nat_lit 443), .str (.ofString "key") (nat_lit 444)]) (nat_lit 0)) (List.toArray [])) ::
 ((nat_lit 188), Obj.mk (.type "tuple") none (.seq (List.toArray []) (nat_lit 0)) (List.toArray [])) ::
 ((nat_lit 190), Obj.mk (.type "code") none (.fields (List.toArray [.str (.ofString "is_next") (nat_lit 440), .str (.ofString "ObjectHeadWalk.is_next") (nat_lit 441), .str (.ofString "/claim/cut.py") (nat_lit 442), .int 134 (nat_lit 0), .int 2 (nat_lit 0), .int 0 (nat_lit 0), .int 0 (nat_lit 0), .int 3 (nat_lit 0), .ref (nat_lit 185), .bool true, .int 181 (nat_lit 0), .ref (nat_lit 186), .none, .ref (nat_lit 187), .ref (nat_lit 188), .ref (nat_lit 189), .int 445 (nat_lit 0), .int 134 (nat_lit 0), .str (.ofString "/claim/cut.py") (nat_lit 446)])) (List.toArray [])) ::
 ((nat_lit 191), Obj.mk (.type "function") none (.func fd_ObjectHeadWalk_is_next) (List.toArray [])) ::
 ((nat_lit 192), Obj.mk (.type "tuple") none (.seq (List.toArray []) (nat_lit 0)) (List.toArray [])) ::
 ((nat_lit 194), Obj.mk (.type "tuple") none (.seq (List.toArray [.str (.ofString "self") (nat_lit 451), .str (.ofString "key") (nat_lit 452)]) (nat_lit 0)) (List.toArray [])) ::
 ((nat_lit 195), Obj.mk (.type "tuple") none (.seq (List.toArray []) (nat_lit 0)) (List.toArray [])) ::
 ((nat_lit 197), Obj.mk (.type "code") none (.fields (List.toArray [.str (.ofString "take") (nat_lit 448), .str (.ofString "ObjectHeadWalk.take") (nat_lit 449), .str (.ofString "/claim/cut.py") (nat_lit 450), .int 137 (nat_lit 0), .int 2 (nat_lit 0), .int 0 (nat_lit 0), .int 0 (nat_lit 0), .int 3 (nat_lit 0), .ref (nat_lit 192), .bool true, .int 181 (nat_lit 0), .ref (nat_lit 193), .none, .ref (nat_lit 194), .ref (nat_lit 195), .ref (nat_lit 196), .int 453 (nat_lit 0), .int 137 (nat_lit 0), .str (.ofString "/claim/cut.py") (nat_lit 454)])) (List.toArray [])) ::
 ((nat_lit 198), Obj.mk (.type "function") none (.func fd_ObjectHeadWalk_take) (List.toArray [])) ::
 ((nat_lit 199), Obj.mk (.type "tuple") none (.seq (List.toArray []) (nat_lit 0)) (List.toArray [])) ::
 ((nat_lit 201), Obj.mk (.type "tuple") none (.seq (List.toArray [.str (.ofString "self") (nat_lit 459)]) (nat_lit 0)) (List.toArray [])) ::
 ((nat_lit 202), Obj.mk (.type "tuple") none (.seq (List.toArray []) (nat_lit 0)) (List.toArray [])) ::
 ((nat_lit 204), Obj.mk (.type "code") none (.fields (List.toArray [.str (.ofString "rest") (nat_lit 456), .str (.ofString "ObjectHeadWalk.rest") (nat_lit 457), .str (.ofString "/claim/cut.py") (nat_lit 458), .int 143 (nat_lit 0), .int 1 (nat_lit 0), .int 0 (nat_lit 0), .int 0 (nat_lit 0), .int 3 (nat_lit 0), .ref (nat_lit 199), .bool true, .int 181 (nat_lit 0), .ref (nat_lit 200), .none, .ref (nat_lit 201), .ref (nat_lit 202), .ref (nat_lit 203), .int 460 (nat_lit 0), .int 143 (nat_lit 0), .str (.ofString "/claim/cut.py") (nat_lit 461)])) (List.toArray [])) ::
 ((nat_lit 205), Obj.mk (.type "function") none (.func fd_ObjectHeadWalk_rest) (List.toArray [])) ::
 ((nat_lit 206), Obj.mk (.type "tuple") none (.seq (List.toArray [.str (.ofString "at") (nat_lit 463), .str (.ofString "heads") (nat_lit 464)]) (nat_lit 0)) (List.toArray [])) ::
 ((nat_lit 207), Obj.mk (.type "dict") none (.dict (List.toArray [⟨PyData.keyHash P (.ofString "__module__"), .str (.ofString "__module__") (nat_lit 427), .str (.ofString "gitcore.objects") (nat_lit 304)⟩, ⟨PyData.keyHash P (.ofString "__firstlineno__"), .str (.ofString "__firstlineno__") (nat_lit 431), .int 128 (nat_lit 430)⟩, ⟨PyData.keyHash P (.ofString "__init__"), .str (.ofString "__init__") (nat_lit 439), .ref (nat_lit 184)⟩, ⟨PyData.keyHash P (.ofString "is_next"), .str (.ofString "is_next") (nat_lit 447), .ref (nat_lit 191)⟩, ⟨PyData.keyHash P (.ofString "take"), .str (.ofString "take") (nat_lit 455), .ref (nat_lit 198)⟩, ⟨PyData.keyHash P (.ofString "rest"), .str (.ofString "rest") (nat_lit 462), .ref (nat_lit 205)⟩, ⟨PyData.keyHash P (.ofString "__static_attributes__"), .str (.ofString "__static_attributes__") (nat_lit 465), .ref (nat_lit 206)⟩, ⟨PyData.keyHash P (.ofString "__dict__"), .str (.ofString "__dict__") (nat_lit 467), .ref (nat_lit 209)⟩, ⟨PyData.keyHash P (.ofString "__weakref__"), .str (.ofString "__weakref__") (nat_lit 469), .ref (nat_lit 210)⟩, ⟨PyData.keyHash P (.ofString "__doc__"), .str (.ofString "__doc__") (nat_lit 470), .none⟩]) (nat_lit 4)) (List.toArray [])) ::
 ((nat_lit 208), Obj.mk (.type "type") none (.cls (ClassData.mk (.ofString "ObjectHeadWalk") [.type "object"] [.ref (nat_lit 208), .type "object"] (nat_lit 207) (.ofString "ObjectHeadWalk") true [] [] false none false)) (List.toArray [none, none, some (.str (.ofString "ObjectHeadWalk") (nat_lit 420)), some (.str (.ofString "ObjectHeadWalk") (nat_lit 428)), some (.builtin "object.__new__"), some (.bool true)])) ::
 ((nat_lit 209), Obj.mk (.type "getset_descriptor") none (.fields (List.toArray [.str (.ofString "__dict__") (nat_lit 466), .ref (nat_lit 208), .builtin "function.__dict__", .builtin "function.__dict__#set"])) (List.toArray [])) ::
 ((nat_lit 210), Obj.mk (.type "getset_descriptor") none (.fields (List.toArray [.str (.ofString "__weakref__") (nat_lit 468), .ref (nat_lit 208), .builtin "ExceptionGroup.__weakref__", .none])) (List.toArray [])) ::
 ((nat_lit 220), Obj.mk (.type "tuple") none (.seq (List.toArray []) (nat_lit 0)) (List.toArray [])) ::
 ((nat_lit 222), Obj.mk (.type "tuple") none (.seq (List.toArray [.str (.ofString "self") (nat_lit 488), .str (.ofString "tree") (nat_lit 489), .str (.ofString "parents") (nat_lit 490), .str (.ofString "author") (nat_lit 491), .str (.ofString "committer") (nat_lit 492), .str (.ofString "extra") (nat_lit 493), .str (.ofString "message") (nat_lit 494)]) (nat_lit 0)) (List.toArray [])) ::
 ((nat_lit 223), Obj.mk (.type "tuple") none (.seq (List.toArray []) (nat_lit 0)) (List.toArray [])) ::
 ((nat_lit 225), Obj.mk (.type "code") none (.fields (List.toArray [.str (.ofString "__init__") (nat_lit 485), .str (.ofString "Commit.__init__") (nat_lit 486), .str (.ofString "/claim/cut.py") (nat_lit 487), .int 147 (nat_lit 0), .int 7 (nat_lit 0), .int 0 (nat_lit 0), .int 0 (nat_lit 0), .int 3 (nat_lit 0), .ref (nat_lit 220), .bool true, .int 181 (nat_lit 0), .ref (nat_lit 221), .none, .ref (nat_lit 222), .ref (nat_lit 223), .ref (nat_lit 224), .int 495 (nat_lit 0), .int 147 (nat_lit 0), .str (.ofString "/claim/cut.py") (nat_lit 496)])) (List.toArray [])) ::
 ((nat_lit 226), Obj.mk (.type "function") none (.func fd_Commit___init__) (List.toArray [])) ::
 ((nat_lit 227), Obj.mk (.type "tuple") none (.seq (List.toArray []) (nat_lit 0)) (List.toArray [])) ::
 ((nat_lit 229), Obj.mk (.type "tuple") none (.seq (List.toArray [.str (.ofString "self") (nat_lit 501), .str (.ofString "parts") (nat_lit 502), .str (.ofString "oid") (nat_lit 503), .str (.ofString "key") (nat_lit 504), .str (.ofString "value") (nat_lit 505)]) (nat_lit 0)) (List.toArray [])) ::
 ((nat_lit 230), Obj.mk (.type "tuple") none (.seq (List.toArray []) (nat_lit 0)) (List.toArray [])) ::
 ((nat_lit 232), Obj.mk (.type "code") none (.fields (List.toArray [.str (.ofString "octets") (nat_lit 498), .str (.ofString "Commit.octets") (nat_lit 499), .str (.ofString "/claim/cut.py") (nat_lit 500), .int 155 (nat_lit 0), .int 1 (nat_lit 0), .int 0 (nat_lit 0), .int 0 (nat_lit 0), .int 3 (nat_lit 0), .ref (nat_lit 227), .bool true, .int 181 (nat_lit 0), .ref (nat_lit 228), .none, .ref (nat_lit 229), .ref (nat_lit 230), .ref (nat_lit 231), .int 506 (nat_lit 0), .int 155 (nat_lit 0), .str (.ofString "/claim/cut.py") (nat_lit 507)])) (List.toArray [])) ::
 ((nat_lit 233), Obj.mk (.type "function") none (.func fd_Commit_octets) (List.toArray [])) ::
 ((nat_lit 234), Obj.mk (.type "tuple") none (.seq (List.toArray []) (nat_lit 0)) (List.toArray [])) ::
 ((nat_lit 236), Obj.mk (.type "tuple") none (.seq (List.toArray [.str (.ofString "self") (nat_lit 512)]) (nat_lit 0)) (List.toArray [])) ::
 ((nat_lit 237), Obj.mk (.type "tuple") none (.seq (List.toArray []) (nat_lit 0)) (List.toArray [])) ::
 ((nat_lit 239), Obj.mk (.type "code") none (.fields (List.toArray [.str (.ofString "subject") (nat_lit 509), .str (.ofString "Commit.subject") (nat_lit 510), .str (.ofString "/claim/cut.py") (nat_lit 511), .int 166 (nat_lit 0), .int 1 (nat_lit 0), .int 0 (nat_lit 0), .int 0 (nat_lit 0), .int 3 (nat_lit 0), .ref (nat_lit 234), .bool true, .int 181 (nat_lit 0), .ref (nat_lit 235), .none, .ref (nat_lit 236), .ref (nat_lit 237), .ref (nat_lit 238), .int 513 (nat_lit 0), .int 166 (nat_lit 0), .str (.ofString "/claim/cut.py") (nat_lit 514)])) (List.toArray [])) ::
 ((nat_lit 240), Obj.mk (.type "function") none (.func fd_Commit_subject) (List.toArray [])) ::
 ((nat_lit 241), Obj.mk (.type "tuple") none (.seq (List.toArray [.str (.ofString "author") (nat_lit 516), .str (.ofString "committer") (nat_lit 517), .str (.ofString "extra") (nat_lit 518), .str (.ofString "message") (nat_lit 519), .str (.ofString "parents") (nat_lit 520), .str (.ofString "tree") (nat_lit 521)]) (nat_lit 0)) (List.toArray [])) ::
 ((nat_lit 242), Obj.mk (.type "dict") none (.dict (List.toArray [⟨PyData.keyHash P (.ofString "__module__"), .str (.ofString "__module__") (nat_lit 480), .str (.ofString "gitcore.objects") (nat_lit 304)⟩, ⟨PyData.keyHash P (.ofString "__firstlineno__"), .str (.ofString "__firstlineno__") (nat_lit 484), .int 145 (nat_lit 483)⟩, ⟨PyData.keyHash P (.ofString "__init__"), .str (.ofString "__init__") (nat_lit 497), .ref (nat_lit 226)⟩, ⟨PyData.keyHash P (.ofString "octets"), .str (.ofString "octets") (nat_lit 508), .ref (nat_lit 233)⟩, ⟨PyData.keyHash P (.ofString "subject"), .str (.ofString "subject") (nat_lit 515), .ref (nat_lit 240)⟩, ⟨PyData.keyHash P (.ofString "__static_attributes__"), .str (.ofString "__static_attributes__") (nat_lit 522), .ref (nat_lit 241)⟩, ⟨PyData.keyHash P (.ofString "__dict__"), .str (.ofString "__dict__") (nat_lit 524), .ref (nat_lit 244)⟩, ⟨PyData.keyHash P (.ofString "__weakref__"), .str (.ofString "__weakref__") (nat_lit 526), .ref (nat_lit 245)⟩, ⟨PyData.keyHash P (.ofString "__doc__"), .str (.ofString "__doc__") (nat_lit 527), .none⟩]) (nat_lit 4)) (List.toArray [])) ::
 ((nat_lit 243), Obj.mk (.type "type") none (.cls (ClassData.mk (.ofString "Commit") [.type "object"] [.ref (nat_lit 243), .type "object"] (nat_lit 242) (.ofString "Commit") true [] [] false none false)) (List.toArray [none, none, some (.str (.ofString "Commit") (nat_lit 473)), some (.str (.ofString "Commit") (nat_lit 481)), some (.builtin "object.__new__"), some (.bool true)])) ::
 ((nat_lit 244), Obj.mk (.type "getset_descriptor") none (.fields (List.toArray [.str (.ofString "__dict__") (nat_lit 523), .ref (nat_lit 243), .builtin "function.__dict__", .builtin "function.__dict__#set"])) (List.toArray [])) ::
 ((nat_lit 245), Obj.mk (.type "getset_descriptor") none (.fields (List.toArray [.str (.ofString "__weakref__") (nat_lit 525), .ref (nat_lit 243), .builtin "ExceptionGroup.__weakref__", .none])) (List.toArray [])) ::
 ((nat_lit 248), Obj.mk (.type "tuple") none (.seq (List.toArray []) (nat_lit 0)) (List.toArray [])) ::
 ((nat_lit 250), Obj.mk (.type "tuple") none (.seq (List.toArray [.str (.ofString "octets") (nat_lit 533), .str (.ofString "size") (nat_lit 534), .str (.ofString "heads") (nat_lit 535), .str (.ofString "message") (nat_lit 536), .str (.ofString "walk") (nat_lit 537), .str (.ofString "tree") (nat_lit 538), .str (.ofString "parents") (nat_lit 539), .str (.ofString "author") (nat_lit 540), .str (.ofString "committer") (nat_lit 541), .str (.ofString "key") (nat_lit 542), .str (.ofString "value") (nat_lit 543)]) (nat_lit 0)) (List.toArray [])) ::
 ((nat_lit 251), Obj.mk (.type "tuple") none (.seq (List.toArray []) (nat_lit 0)) (List.toArray [])) ::
 ((nat_lit 253), Obj.mk (.type "code") none (.fields (List.toArray [.str (.ofString "read_commit") (nat_lit 530), .str (.ofString "read_commit") (nat_lit 531), .str (.ofString "/claim/cut.py") (nat_lit 532), .int 168 (nat_lit 0), .int 2 (nat_lit 0), .int 0 (nat_lit 0), .int 0 (nat_lit 0), .int 3 (nat_lit 0), .ref (nat_lit 248), .bool true, .int 181 (nat_lit 0), .ref (nat_lit 249), .none, .ref (nat_lit 250), .ref (nat_lit 251), .ref (nat_lit 252), .int 544 (nat_lit 0), .int 168 (nat_lit 0), .str (.ofString "/claim/cut.py") (nat_lit 545)])) (List.toArray [])) ::
 ((nat_lit 254), Obj.mk (.type "function") none (.func fd_read_commit) (List.toArray [])) ::
 ((nat_lit 255), Obj.mk (.type "tuple") none (.seq (List.toArray [.bytes (List.toArray [101, 110, 99, 111, 100, 105, 110, 103]) (nat_lit 549), .bytes (List.toArray [103, 112, 103, 115, 105, 103]) (nat_lit 550), .bytes (List.toArray [109, 101, 114, 103, 101, 116, 97, 103]) (nat_lit 551), .bytes (List.toArray [120]) (nat_lit 552)]) (nat_lit 0)) (List.toArray [])) ::
 ((nat_lit 256), Obj.mk (.type "tuple") none (.seq (List.toArray [.bytes (List.toArray [111, 110, 101]) (nat_lit 554), .bytes (List.toArray [116, 119, 111, 32, 119, 111, 114, 100, 115]) (nat_lit 555), .bytes (List.toArray []) (nat_lit 556), .bytes (List.toArray [32, 97, 104, 101, 97, 100]) (nat_lit 557), .bytes (List.toArray [116, 114, 101, 101, 32, 48, 48]) (nat_lit 558)]) (nat_lit 0)) (List.toArray [])) ::
 ((nat_lit 257), Obj.mk (.type "tuple") none (.seq (List.toArray [.bytes (List.toArray [65, 32, 66]) (nat_lit 560), .bytes (List.toArray [97, 64, 98]) (nat_lit 561)]) (nat_lit 0)) (List.toArray [])) ::
 ((nat_lit 258), Obj.mk (.type "tuple") none (.seq (List.toArray [.bytes (List.toArray []) (nat_lit 562), .bytes (List.toArray [120]) (nat_lit 563)]) (nat_lit 0)) (List.toArray [])) ::
 ((nat_lit 259), Obj.mk (.type "tuple") none (.seq (List.toArray [.bytes (List.toArray [67]) (nat_lit 564), .bytes (List.toArray []) (nat_lit 565)]) (nat_lit 0)) (List.toArray [])) ::
 ((nat_lit 260), Obj.mk (.type "tuple") none (.seq (List.toArray [.bytes (List.toArray [68, 32, 69, 32, 70]) (nat_lit 566), .bytes (List.toArray [100, 64, 101, 46, 102]) (nat_lit 567)]) (nat_lit 0)) (List.toArray [])) ::
 ((nat_lit 261), Obj.mk (.type "tuple") none (.seq (List.toArray [.ref (nat_lit 257), .ref (nat_lit 258), .ref (nat_lit 259), .ref (nat_lit 260)]) (nat_lit 0)) (List.toArray [])) ::
 ((nat_lit 262), Obj.mk (.type "tuple") none (.seq (List.toArray [.bytes (List.toArray [43, 48, 48, 48, 48]) (nat_lit 569), .bytes (List.toArray [45, 48, 55, 51, 48]) (nat_lit 570), .bytes (List.toArray [43, 49, 50, 48, 48]) (nat_lit 571)]) (nat_lit 0)) (List.toArray [])) ::
 ((nat_lit 263), Obj.mk (.type "tuple") none (.seq (List.toArray []) (nat_lit 0)) (List.toArray [])) ::
 ((nat_lit 266), Obj.mk (.type "code") none (.fields (List.toArray [.str (.ofString "_law_deck") (nat_lit 573), .str (.ofString "_law_deck") (nat_lit 574), .str (.ofString "/claim/cut.py") (nat_lit 575), .int 185 (nat_lit 0), .int 1 (nat_lit 0), .int 0 (nat_lit 0), .int 0 (nat_lit 0), .int 3 (nat_lit 0), .ref (nat_lit 263), .bool true, .int 181 (nat_lit 0), .ref (nat_lit 264), .none, .none, .none, .ref (nat_lit 265), .int 576 (nat_lit 0), .int 185 (nat_lit 0), .str (.ofString "/claim/cut.py") (nat_lit 577)])) (List.toArray [])) ::
 ((nat_lit 267), Obj.mk (.type "function") none (.func fd__law_deck) (List.toArray [])) ::
 ((nat_lit 268), Obj.mk (.type "tuple") none (.seq (List.toArray []) (nat_lit 0)) (List.toArray [])) ::
 ((nat_lit 270), Obj.mk (.type "tuple") none (.seq (List.toArray [.str (.ofString "deck") (nat_lit 582), .str (.ofString "many") (nat_lit 583)]) (nat_lit 0)) (List.toArray [])) ::
 ((nat_lit 271), Obj.mk (.type "tuple") none (.seq (List.toArray []) (nat_lit 0)) (List.toArray [])) ::
 ((nat_lit 273), Obj.mk (.type "code") none (.fields (List.toArray [.str (.ofString "_law_draw") (nat_lit 579), .str (.ofString "_law_draw") (nat_lit 580), .str (.ofString "/claim/cut.py") (nat_lit 581), .int 190 (nat_lit 0), .int 2 (nat_lit 0), .int 0 (nat_lit 0), .int 0 (nat_lit 0), .int 3 (nat_lit 0), .ref (nat_lit 268), .bool true, .int 181 (nat_lit 0), .ref (nat_lit 269), .none, .ref (nat_lit 270), .ref (nat_lit 271), .ref (nat_lit 272), .int 584 (nat_lit 0), .int 190 (nat_lit 0), .str (.ofString "/claim/cut.py") (nat_lit 585)])) (List.toArray [])) ::
 ((nat_lit 274), Obj.mk (.type "function") none (.func fd__law_draw) (List.toArray [])) ::
 ((nat_lit 275), Obj.mk (.type "tuple") none (.seq (List.toArray []) (nat_lit 0)) (List.toArray [])) ::
 ((nat_lit 278), Obj.mk (.type "code") none (.fields (List.toArray [.str (.ofString "_law_id") (nat_lit 587), .str (.ofString "_law_id") (nat_lit 588), .str (.ofString "/claim/cut.py") (nat_lit 589), .int 195 (nat_lit 0), .int 2 (nat_lit 0), .int 0 (nat_lit 0), .int 0 (nat_lit 0), .int 3 (nat_lit 0), .ref (nat_lit 275), .bool true, .int 181 (nat_lit 0), .ref (nat_lit 276), .none, .none, .none, .ref (nat_lit 277), .int 590 (nat_lit 0), .int 195 (nat_lit 0), .str (.ofString "/claim/cut.py") (nat_lit 591)])) (List.toArray [])) ::
 ((nat_lit 279), Obj.mk (.type "function") none (.func fd__law_id) (List.toArray [])) ::
 ((nat_lit 280), Obj.mk (.type "tuple") none (.seq (List.toArray []) (nat_lit 0)) (List.toArray [])) ::
 ((nat_lit 283), Obj.mk (.type "code") none (.fields (List.toArray [.str (.ofString "_law_figures") (nat_lit 593), .str (.ofString "_law_figures") (nat_lit 594), .str (.ofString "/claim/cut.py") (nat_lit 595), .int 198 (nat_lit 0), .int 1 (nat_lit 0), .int 0 (nat_lit 0), .int 0 (nat_lit 0), .int 3 (nat_lit 0), .ref (nat_lit 280), .bool true, .int 181 (nat_lit 0), .ref (nat_lit 281), .none, .none, .none, .ref (nat_lit 282), .int 596 (nat_lit 0), .int 198 (nat_lit 0), .str (.ofString "/claim/cut.py") (nat_lit 597)])) (List.toArray [])) ::
 ((nat_lit 284), Obj.mk (.type "function") none (.func fd__law_figures) (List.toArray [])) ::
 ((nat_lit 285), Obj.mk (.type "tuple") none (.seq (List.toArray []) (nat_lit 0)) (List.toArray [])) ::
 ((nat_lit 288), Obj.mk (.type "code") none (.fields (List.toArray [.str (.ofString "_law_lines") (nat_lit 599), .str (.ofString "_law_lines") (nat_lit 600), .str (.ofString "/claim/cut.py") (nat_lit 601), .int 201 (nat_lit 0), .int 2 (nat_lit 0), .int 0 (nat_lit 0), .int 0 (nat_lit 0), .int 3 (nat_lit 0), .ref (nat_lit 285), .bool true, .int 181 (nat_lit 0), .ref (nat_lit 286), .none, .none, .none, .ref (nat_lit 287), .int 602 (nat_lit 0), .int 201 (nat_lit 0), .str (.ofString "/claim/cut.py") (nat_lit 603)])) (List.toArray [])) ::
 ((nat_lit 289), Obj.mk (.type "function") none (.func fd__law_lines) (List.toArray [])) ::
 ((nat_lit 290), Obj.mk (.type "tuple") none (.seq (List.toArray []) (nat_lit 0)) (List.toArray [])) ::
 ((nat_lit 292), Obj.mk (.type "tuple") none (.seq (List.toArray [.str (.ofString "deck") (nat_lit 608), .str (.ofString "title") (nat_lit 609), .str (.ofString "address") (nat_lit 610)]) (nat_lit 0)) (List.toArray [])) ::
 ((nat_lit 293), Obj.mk (.type "tuple") none (.seq (List.toArray []) (nat_lit 0)) (List.toArray [])) ::
 ((nat_lit 295), Obj.mk (.type "code") none (.fields (List.toArray [.str (.ofString "_law_person") (nat_lit 605), .str (.ofString "_law_person") (nat_lit 606), .str (.ofString "/claim/cut.py") (nat_lit 607), .int 203 (nat_lit 0), .int 1 (nat_lit 0), .int 0 (nat_lit 0), .int 0 (nat_lit 0), .int 3 (nat_lit 0), .ref (nat_lit 290), .bool true, .int 181 (nat_lit 0), .ref (nat_lit 291), .none, .ref (nat_lit 292), .ref (nat_lit 293), .ref (nat_lit 294), .int 611 (nat_lit 0), .int 203 (nat_lit 0), .str (.ofString "/claim/cut.py") (nat_lit 612)])) (List.toArray [])) ::
 ((nat_lit 296), Obj.mk (.type "function") none (.func fd__law_person) (List.toArray [])) ::
 ((nat_lit 297), Obj.mk (.type "tuple") none (.seq (List.toArray []) (nat_lit 0)) (List.toArray [])) ::
 ((nat_lit 300), Obj.mk (.type "code") none (.fields (List.toArray [.str (.ofString "_law_person_octets") (nat_lit 614), .str (.ofString "_law_person_octets") (nat_lit 615), .str (.ofString "/claim/cut.py") (nat_lit 616), .int 206 (nat_lit 0), .int 1 (nat_lit 0), .int 0 (nat_lit 0), .int 0 (nat_lit 0), .int 3 (nat_lit 0), .ref (nat_lit 297), .bool true, .int 181 (nat_lit 0), .ref (nat_lit 298), .none, .none, .none, .ref (nat_lit 299), .int 617 (nat_lit 0), .int 206 (nat_lit 0), .str (.ofString "/claim/cut.py") (nat_lit 618)])) (List.toArray [])) ::
 ((nat_lit 301), Obj.mk (.type "function") none (.func fd__law_person_octets) (List.toArray [])) ::
 ((nat_lit 302), Obj.mk (.type "tuple") none (.seq (List.toArray []) (nat_lit 0)) (List.toArray [])) ::
 ((nat_lit 305), Obj.mk (.type "code") none (.fields (List.toArray [.str (.ofString "_law_heads") (nat_lit 620), .str (.ofString "_law_heads") (nat_lit 621), .str (.ofString "/claim/cut.py") (nat_lit 622), .int 209 (nat_lit 0), .int 1 (nat_lit 0), .int 0 (nat_lit 0), .int 0 (nat_lit 0), .int 3 (nat_lit 0), .ref (nat_lit 302), .bool true, .int 181 (nat_lit 0), .ref (nat_lit 303), .none, .none, .none, .ref (nat_lit 304), .int 623 (nat_lit 0), .int 209 (nat_lit 0), .str (.ofString "/claim/cut.py") (nat_lit 624)])) (List.toArray [])) ::
 ((nat_lit 306), Obj.mk (.type "function") none (.func fd__law_heads) (List.toArray [])) ::
 ((nat_lit 307), Obj.mk (.type "tuple") none (.seq (List.toArray []) (nat_lit 0)) (List.toArray [])) ::
 ((nat_lit 310), Obj.mk (.type "code") none (.fields (List.toArray [.str (.ofString "_law_content") (nat_lit 626), .str (.ofString "_law_content") (nat_lit 627), .str (.ofString "/claim/cut.py") (nat_lit 628), .int 215 (nat_lit 0), .int 2 (nat_lit 0), .int 0 (nat_lit 0), .int 0 (nat_lit 0), .int 3 (nat_lit 0), .ref (nat_lit 307), .bool true, .int 181 (nat_lit 0), .ref (nat_lit 308), .none, .none, .none, .ref (nat_lit 309), .int 629 (nat_lit 0), .int 215 (nat_lit 0), .str (.ofString "/claim/cut.py") (nat_lit 630)])) (List.toArray [])) ::
 ((nat_lit 311), Obj.mk (.type "function") none (.func fd__law_content) (List.toArray [])) ::
 ((nat_lit 312), Obj.mk (.type "tuple") none (.seq (List.toArray []) (nat_lit 0)) (List.toArray [])) ::
 ((nat_lit 315), Obj.mk (.type "code") none (.fields (List.toArray [.str (.ofString "_law_bent") (nat_lit 632), .str (.ofString "_law_bent") (nat_lit 633), .str (.ofString "/claim/cut.py") (nat_lit 634), .int 218 (nat_lit 0), .int 3 (nat_lit 0), .int 0 (nat_lit 0), .int 0 (nat_lit 0), .int 3 (nat_lit 0), .ref (nat_lit 312), .bool true, .int 181 (nat_lit 0), .ref (nat_lit 313), .none, .none, .none, .ref (nat_lit 314), .int 635 (nat_lit 0), .int 218 (nat_lit 0), .str (.ofString "/claim/cut.py") (nat_lit 636)])) (List.toArray [])) ::
 ((nat_lit 316), Obj.mk (.type "function") none (.func fd__law_bent) (List.toArray [])) ::
 ((nat_lit 317), Obj.mk (.type "tuple") none (.seq (List.toArray []) (nat_lit 0)) (List.toArray [])) ::
 ((nat_lit 319), Obj.mk (.type "tuple") none (.seq (List.toArray [.str (.ofString "person") (nat_lit 641)]) (nat_lit 0)) (List.toArray [])) ::
 ((nat_lit 320), Obj.mk (.type "tuple") none (.seq (List.toArray []) (nat_lit 0)) (List.toArray [])) ::
 ((nat_lit 322), Obj.mk (.type "code") none (.fields (List.toArray [.str (.ofString "_law_told") (nat_lit 638), .str (.ofString "_law_told") (nat_lit 639), .str (.ofString "/claim/cut.py") (nat_lit 640), .int 238 (nat_lit 0), .int 1 (nat_lit 0), .int 0 (nat_lit 0), .int 0 (nat_lit 0), .int 3 (nat_lit 0), .ref (nat_lit 317), .bool true, .int 181 (nat_lit 0), .ref (nat_lit 318), .none, .ref (nat_lit 319), .ref (nat_lit 320), .ref (nat_lit 321), .int 642 (nat_lit 0), .int 238 (nat_lit 0), .str (.ofString "/claim/cut.py") (nat_lit 643)])) (List.toArray [])) ::
 ((nat_lit 323), Obj.mk (.type "function") none (.func fd__law_told) (List.toArray [])) ::
 ((nat_lit 324), Obj.mk (.type "tuple") none (.seq (List.toArray []) (nat_lit 0)) (List.toArray [])) ::
 ((nat_lit 327), Obj.mk (.type "code") none (.fields (List.toArray [.str (.ofString "law") (nat_lit 645), .str (.ofString "law") (nat_lit 646), .str (.ofString "/claim/cut.py") (nat_lit 647), .int 240 (nat_lit 0), .int 1 (nat_lit 0), .int 0 (nat_lit 0), .int 0 (nat_lit 0), .int 3 (nat_lit 0), .ref (nat_lit 324), .bool true, .int 181 (nat_lit 0), .ref (nat_lit 325), .none, .none, .none, .ref (nat_lit 326), .int 648 (nat_lit 0), .int 240 (nat_lit 0), .str (.ofString "/claim/cut.py") (nat_lit 649)])) (List.toArray [])) ::
 ((nat_lit 328), Obj.mk (.type "function") none (.func fd_law) (List.toArray [])) :: []

end Mine
end

section
open PySem PySem.W PyProof.Rows
set_option maxHeartbeats 0
namespace Mine
def topRunT (p : Program) (w : World) (n₀ : Nat) (ann : Option Value) : Nat → SharedT → Thread → Option SharedT
  | 0, _, _ => none
  | n + 1, s, t => match through t with
    | true => some s
    | false => match stepOk n₀ ann t with
      | false => none
      | true => match stepT (denote treeTable) p w s t with
        | some (s', t') => topRunT p w n₀ ann n s' t'
        | none => none
theorem topRun_of {p : Program} {w : World} {n₀ : Nat} {ann : Option Value} : ∀ {n : Nat} {s s' : SharedT} {t : Thread}, topRunT p w n₀ ann n s t = some s' → topRun treeTable p w n₀ ann n s.abs t = some s'.abs
  | 0, _, _, _, h => by cases h
  | n + 1, s, s', t, h => by
    unfold topRunT at h
    unfold topRun
    cases he : through t with
    | true => rw [he] at h; cases h; rfl
    | false =>
      rw [he] at h
      cases hk : stepOk n₀ ann t with
      | false => rw [hk] at h; cases h
      | true =>
        rw [hk] at h
        cases hs : stepT (denote treeTable) p w s t with
        | none => rw [hs] at h; cases h
        | some r => obtain ⟨s₂, t₂⟩ := r; rw [hs] at h; rw [stepT_spec hs]; exact topRun_of h
noncomputable def ofL : List Obj → Nat → BT → BT
  | [], _, t => t
  | o :: r, i, t => ofL r (i + 1) (t.ins i o)
noncomputable def bootT (P : Params) : BT := ofL (boot_heap P).objs.toList 0 .nil
theorem boot_abs (P : Params) : absHeap (bootT P) (boot_heap P).objs.size (boot_heap P).life = boot_heap P := by kernel_rfl
def loose : List Str := [.ofString "_wall", .ofString "HEX_SIGNS", .ofString "NOUGHT_SIGN", .ofString "GitError", .ofString "BadObject", .ofString "text_of", .ofString "octets_of", .ofString "hex_of", .ofString "hex_digit", .ofString "octets_of_hex", .ofString "number_by", .ofString "number_of", .ofString "OBJECT_HEX", .ofString "OBJECT_DIGITS", .ofString "OBJECT_HEADS", .ofString "object_has_sign", .ofString "object_are_all", .ofString "Person", .ofString "read_person", .ofString "object_head_row", .ofString "object_head_id", .ofString "object_heads", .ofString "ObjectHeadWalk", .ofString "Commit", .ofString "read_commit", .ofString "_law_keys", .ofString "_law_rows", .ofString "_law_people", .ofString "_law_zones", .ofString "_law_deck", .ofString "_law_draw", .ofString "_law_id", .ofString "_law_figures", .ofString "_law_lines", .ofString "_law_person", .ofString "_law_person_octets", .ofString "_law_heads", .ofString "_law_content", .ofString "_law_bent", .ofString "_law_told"]
def asK : List Addr := [nat_lit 2, nat_lit 3, nat_lit 15, nat_lit 17, nat_lit 18, nat_lit 20, nat_lit 21, nat_lit 22, nat_lit 29, nat_lit 30, nat_lit 32, nat_lit 33, nat_lit 35, nat_lit 36, nat_lit 37, nat_lit 38, nat_lit 39, nat_lit 40, nat_lit 43, nat_lit 50, nat_lit 51, nat_lit 52, nat_lit 55, nat_lit 58, nat_lit 59, nat_lit 60, nat_lit 63, nat_lit 64, nat_lit 65, nat_lit 67, nat_lit 68, nat_lit 70, nat_lit 71, nat_lit 72, nat_lit 74, nat_lit 75, nat_lit 77, nat_lit 78, nat_lit 79, nat_lit 81, nat_lit 82, nat_lit 84, nat_lit 85, nat_lit 86, nat_lit 88, nat_lit 89, nat_lit 91, nat_lit 92, nat_lit 93, nat_lit 95, nat_lit 96, nat_lit 98, nat_lit 99, nat_lit 100, nat_lit 101, nat_lit 103, nat_lit 104, nat_lit 106, nat_lit 107, nat_lit 108, nat_lit 110, nat_lit 111, nat_lit 113, nat_lit 114, nat_lit 122, nat_lit 124, nat_lit 125, nat_lit 127, nat_lit 128, nat_lit 129, nat_lit 131, nat_lit 132, nat_lit 134, nat_lit 135, nat_lit 136, nat_lit 137, nat_lit 138, nat_lit 139, nat_lit 140, nat_lit 143, nat_lit 145, nat_lit 146, nat_lit 148, nat_lit 149, nat_lit 150, nat_lit 152, nat_lit 153, nat_lit 155, nat_lit 156, nat_lit 157, nat_lit 159, nat_lit 160, nat_lit 162, nat_lit 163, nat_lit 164, nat_lit 166, nat_lit 167, nat_lit 169, nat_lit 170, nat_lit 178, nat_lit 180, nat_lit 181, nat_lit 183, nat_lit 184, nat_lit 185, nat_lit 187, nat_lit 188, nat_lit 190, nat_lit 191, nat_lit 192, nat_lit 194, nat_lit 195, nat_lit 197, nat_lit 198, nat_lit 199, nat_lit 201, nat_lit 202, nat_lit 204, nat_lit 205, nat_lit 206, nat_lit 207, nat_lit 208, nat_lit 209, nat_lit 210, nat_lit 220, nat_lit 222, nat_lit 223, nat_lit 225, nat_lit 226, nat_lit 227, nat_lit 229, nat_lit 230, nat_lit 232, nat_lit 233, nat_lit 234, nat_lit 236, nat_lit 237, nat_lit 239, nat_lit 240, nat_lit 241, nat_lit 242, nat_lit 243, nat_lit 244, nat_lit 245, nat_lit 248, nat_lit 250, nat_lit 251, nat_lit 253, nat_lit 254, nat_lit 255, nat_lit 256, nat_lit 257, nat_lit 258, nat_lit 259, nat_lit 260, nat_lit 261, nat_lit 262, nat_lit 263, nat_lit 266, nat_lit 267, nat_lit 268, nat_lit 270, nat_lit 271, nat_lit 273, nat_lit 274, nat_lit 275, nat_lit 278, nat_lit 279, nat_lit 280, nat_lit 283, nat_lit 284, nat_lit 285, nat_lit 288, nat_lit 289, nat_lit 290, nat_lit 292, nat_lit 293, nat_lit 295, nat_lit 296, nat_lit 297, nat_lit 300, nat_lit 301, nat_lit 302, nat_lit 305, nat_lit 306, nat_lit 307, nat_lit 310, nat_lit 311, nat_lit 312, nat_lit 315, nat_lit 316, nat_lit 317, nat_lit 319, nat_lit 320, nat_lit 322, nat_lit 323, nat_lit 324, nat_lit 327, nat_lit 328]
theorem keysK : ∀ P, asK = (K P).map (·.1) := fun _ => by kernel_rfl
noncomputable def HK : Hook := kHook K asK keysK
abbrev Qv : Program := view PR [43]
noncomputable abbrev stB (w : World) (os : OsState) : SharedT := ⟨bootT w.params, (boot_heap w.params).objs.size, (boot_heap w.params).life, #[], boot_drawn, boot_toks, os⟩
noncomputable def seenF (w : World) (s : Shared) := (staticsOk (importedModules PR.main.body) (boot_heap w.params) s.heap && namesBound PR s.heap && gensDone s && laidKept (boot_heap w.params) s.heap,
  openSeen Qv loose (importedModules PR.main.body) (fun s => xlAt Qv [] s && recOk [] s) true s, HK.obs s)
theorem runs : ∀ (w : World), (fun os => (topRunT PR w (boot_heap w.params).objs.size ((boot_heap w.params).nsMap mainGlobals "__annotations__") 4642 (stB w os) (topStub PR)).map (fun s => seenF w s.abs)) = fun _ => some (true, openGood Qv loose, HK.val w) := by intro w; kernel_rfl
end Mine
end

section
open PySem PySem.W PyProof.Rows
set_option maxHeartbeats 0
namespace Mine
theorem hd_h1 : opening PR = plainProg PR.main.scope.names := by kernel_rfl
theorem hd_h2 : ∀ s, fenceModules? PR s = some s := fun s => by kernel_rfl
theorem hd_h3 (P : Params) : ((boot_heap P).isNs mainGlobals && (Array.mk [] : Array GenState).size == 0) = true := by kernel_rfl
theorem hd_h4 (w : World) (os : OsState) : (stB w os).abs = ⟨boot_heap w.params, #[], boot_drawn, boot_toks, os⟩ := by
    show Shared.mk (absHeap (bootT w.params) (boot_heap w.params).objs.size (boot_heap w.params).life) _ _ _ _ = _
    rw [boot_abs]
theorem hd_h5 (w : World) (os : OsState) : ∃ sT : SharedT, topRunT PR w (boot_heap w.params).objs.size ((boot_heap w.params).nsMap mainGlobals "__annotations__") 4642 (stB w os) (topStub PR) = some sT ∧ seenF w sT.abs = (true, openGood Qv loose, HK.val w) := by
  obtain ⟨sT, r1, r2⟩ := Option.map_eq_some_iff.mp (congrFun (runs w) os)
  exact ⟨sT, r1, r2⟩
theorem hd_h6 (w : World) (s : Shared) (h : seenF w s = (true, openGood Qv loose, HK.val w)) : (staticsOk (importedModules PR.main.body) (boot_heap w.params) s.heap && namesBound PR s.heap && gensDone s && laidKept (boot_heap w.params) s.heap) = true ∧ (openSeen Qv loose (importedModules PR.main.body) (fun s => xlAt Qv [] s && recOk [] s) true s, HK.obs s) = (openGood Qv loose, HK.val w) := ⟨congrArg Prod.fst h, congrArg Prod.snd h⟩
theorem hd_h7 (w : World) (os : OsState) (s : Shared) (r : topRun treeTable PR w (boot_heap w.params).objs.size ((boot_heap w.params).nsMap mainGlobals "__annotations__") 4642 ⟨boot_heap w.params, #[], boot_drawn, boot_toks, os⟩ (topStub PR) = some s) (l1 : (staticsOk (importedModules PR.main.body) (boot_heap w.params) s.heap && namesBound PR s.heap && gensDone s && laidKept (boot_heap w.params) s.heap) = true) : topFrom treeTable PR w 4642 ⟨boot_heap w.params, Array.mk [], boot_drawn, boot_toks, os⟩ = some s := by
    unfold topFrom
    dsimp only
    rw [hd_h3 w.params]
    show ((topRun treeTable PR w _ _ 4642 _ (topStub PR)).bind _) = _
    rw [r]
    show (match staticsOk (importedModules PR.main.body) (boot_heap w.params) s.heap && namesBound PR s.heap && gensDone s && laidKept (boot_heap w.params) s.heap with | true => _ | false => _) = _
    rw [l1]
theorem opt1 {α β γ : Type} {x : Option α} {f : α → Option β} {g : β → γ} {a : α} {b : β} {c : γ} (e : x = some a) (t : f a = some b) (l : g b = c) : (x.bind f).map g = some c := by
  rw [e]
  show (f a).map g = _
  rw [t]
  exact congrArg some l
theorem hd_h8 (w : World) (os : OsState) (s : Shared) (e : fencedOpening treeTable PR w 4642 = some ⟨boot_heap w.params, Array.mk [], boot_drawn, boot_toks, os⟩) (t : topFrom treeTable PR w 4642 ⟨boot_heap w.params, Array.mk [], boot_drawn, boot_toks, os⟩ = some s) (l2 : (openSeen Qv loose (importedModules PR.main.body) (fun s => xlAt Qv [] s && recOk [] s) true s, HK.obs s) = (openGood Qv loose, HK.val w)) : (openEnds treeTable PR w 4642).map (fun s => (openSeen Qv loose (importedModules PR.main.body) (fun s => xlAt Qv [] s && recOk [] s) true s, HK.obs s)) = some (openGood Qv loose, HK.val w) := opt1 e t l2
theorem hd_h9 (w : World) : ∃ os, fencedOpening treeTable PR w 4642 = some ⟨boot_heap w.params, Array.mk [], boot_drawn, boot_toks, os⟩ := by
  obtain ⟨⟨h, gs, d, k, os⟩, e, e'⟩ := Option.map_eq_some_iff.mp (boot_open (p := PR) (N := 4642) hd_h1 (by decide) hd_h2 w)
  obtain ⟨rfl, rfl, rfl, rfl⟩ : h = boot_heap w.params ∧ gs = Array.mk [] ∧ d = boot_drawn ∧ k = boot_toks := by simpa using e'
  exact ⟨os, e⟩
theorem hd_h10 (w : World) (os : OsState) : ∃ sT : SharedT, topRun treeTable PR w (boot_heap w.params).objs.size ((boot_heap w.params).nsMap mainGlobals "__annotations__") 4642 ⟨boot_heap w.params, #[], boot_drawn, boot_toks, os⟩ (topStub PR) = some sT.abs ∧ seenF w sT.abs = (true, openGood Qv loose, HK.val w) := by
  obtain ⟨sT, r1, r2⟩ := hd_h5 w os
  have r := topRun_of r1
  rw [hd_h4] at r
  exact ⟨sT, r, r2⟩
theorem leftK : LeftO PR Qv loose (fun s => xlAt Qv [] s && recOk [] s) HK.obs HK.val 4642 := fun w => by
  obtain ⟨os, e⟩ := hd_h9 w
  obtain ⟨sT, r, r2⟩ := hd_h10 w os
  obtain ⟨l1, l2⟩ := hd_h6 w _ r2
  exact hd_h8 w os _ e (hd_h7 w os _ r l1) l2
end Mine
end

section
open PySem PySem.W PyProof.Rows PySem.Calls
namespace Mine
open Builtin
-- facts of the methods
theorem slot_find : Slot "bytes" "find" "bytes.find" :=
  .of (owner := "bytes") (n := "find") (by rw [typeLookup_type, builtinLookup_eq_fast]; kernel_rfl) (by decide +kernel) (by decide +kernel) (by decide +kernel)
    (by first | exact .inl (by decide +kernel) | exact .inr (by decide +kernel)) (by rw [isSubtype_type]; kernel_rfl)
theorem type_find : typeOf (.builtin "bytes.find") = pure (.type "method_descriptor") := by show builtinType _ = _; rw [builtinType_eq_fast]; kernel_rfl
theorem entry_find : entryFor table "bytes.find" = some Builtin.«bytes.find» := entryFor_of_tree (by kernel_rfl)
theorem args_find2 (a b : Value) : argsOk "bytes.find" ⟨[a, b], []⟩ := by unfold argsOk; kernel_rfl
theorem args_find3 (a b c : Value) : argsOk "bytes.find" ⟨[a, b, c], []⟩ := by unfold argsOk; kernel_rfl
theorem slot_split : Slot "bytes" "split" "bytes.split" :=
  .of (owner := "bytes") (n := "split") (by rw [typeLookup_type, builtinLookup_eq_fast]; kernel_rfl) (by decide +kernel) (by decide +kernel) (by decide +kernel)
    (by first | exact .inl (by decide +kernel) | exact .inr (by decide +kernel)) (by rw [isSubtype_type]; kernel_rfl)
theorem type_split : typeOf (.builtin "bytes.split") = pure (.type "method_descriptor") := by show builtinType _ = _; rw [builtinType_eq_fast]; kernel_rfl
theorem entry_split : entryFor table "bytes.split" = some Builtin.«bytes.split» := entryFor_of_tree (by kernel_rfl)
theorem args_split (a b : Value) : argsOk "bytes.split" ⟨[a, b], []⟩ := by unfold argsOk; kernel_rfl
theorem slot_join : Slot "bytes" "join" "bytes.join" :=
  .of (owner := "bytes") (n := "join") (by rw [typeLookup_type, builtinLookup_eq_fast]; kernel_rfl) (by decide +kernel) (by decide +kernel) (by decide +kernel)
    (by first | exact .inl (by decide +kernel) | exact .inr (by decide +kernel)) (by rw [isSubtype_type]; kernel_rfl)
theorem type_join : typeOf (.builtin "bytes.join") = pure (.type "method_descriptor") := by show builtinType _ = _; rw [builtinType_eq_fast]; kernel_rfl
theorem entry_join : entryFor table "bytes.join" = some Builtin.«bytes.join» := entryFor_of_tree (by kernel_rfl)
theorem args_join (a b : Value) : argsOk "bytes.join" ⟨[a, b], []⟩ := by unfold argsOk; kernel_rfl
theorem slot_replace : Slot "bytes" "replace" "bytes.replace" :=
  .of (owner := "bytes") (n := "replace") (by rw [typeLookup_type, builtinLookup_eq_fast]; kernel_rfl) (by decide +kernel) (by decide +kernel) (by decide +kernel)
    (by first | exact .inl (by decide +kernel) | exact .inr (by decide +kernel)) (by rw [isSubtype_type]; kernel_rfl)
theorem type_replace : typeOf (.builtin "bytes.replace") = pure (.type "method_descriptor") := by show builtinType _ = _; rw [builtinType_eq_fast]; kernel_rfl
theorem entry_replace : entryFor table "bytes.replace" = some Builtin.«bytes.replace» := entryFor_of_tree (by kernel_rfl)
theorem args_replace (a b c : Value) : argsOk "bytes.replace" ⟨[a, b, c], []⟩ := by unfold argsOk; kernel_rfl

section
variable {M : Model} {A : Around} {E : Value → Shared → Prop} {s : Shared} {b : Array UInt8} {t : Tok} {pl : Sem Bool} {Q : Value × List Value → Shared → Prop}
theorem m_find (h : Q (.builtin "bytes.find", [.bytes b t]) s) : wpAny M A (getMethod (.bytes b t) "find" pl) Q E s := by
  with_reducible exact KBd.method_of (.bytes b t) (typeIs_bytes _ _ _) slot_find type_find KBd.noRef h
theorem m_split (h : Q (.builtin "bytes.split", [.bytes b t]) s) : wpAny M A (getMethod (.bytes b t) "split" pl) Q E s := by
  with_reducible exact KBd.method_of (.bytes b t) (typeIs_bytes _ _ _) slot_split type_split KBd.noRef h
theorem m_join (h : Q (.builtin "bytes.join", [.bytes b t]) s) : wpAny M A (getMethod (.bytes b t) "join" pl) Q E s := by
  with_reducible exact KBd.method_of (.bytes b t) (typeIs_bytes _ _ _) slot_join type_join KBd.noRef h
theorem m_replace (h : Q (.builtin "bytes.replace", [.bytes b t]) s) : wpAny M A (getMethod (.bytes b t) "replace" pl) Q E s := by
  with_reducible exact KBd.method_of (.bytes b t) (typeIs_bytes _ _ _) slot_replace type_replace KBd.noRef h
end

-- find
def fnd (b c : Array UInt8) (k : Nat) : Int := match Bytes.find? b c k b.size with | some i => (i : Int) | none => -1
section
variable {b c : Array UInt8} {t u v : Tok}
theorem window_all (n : Nat) : Bytes.window n none none = (0, (n : Int)) := by
  unfold Bytes.window
  simp only [Option.getD_none]
  rw [if_neg (by (first | k_extra "ar" | lia | omega)), if_neg (by (first | k_extra "ar" | lia | omega))]
  simp
theorem window_from (n k : Nat) : Bytes.window n (some (k : Int)) none = ((k : Int), (n : Int)) := by
  unfold Bytes.window
  simp only [Option.getD_none, Option.getD_some]
  rw [if_neg (by (first | k_extra "ar" | lia | omega)), if_neg (by (first | k_extra "ar" | lia | omega))]
  simp
theorem fnd_bind (k : Nat) (hc : 0 < c.size) : ((if ((b.size : Int) - (k : Int)) < (c.size : Int) then none else some ((k : Int).toNat, (b.size : Int).toNat) : Option (Nat × Nat)).bind fun x => Bytes.find? b c x.1 x.2) = Bytes.find? b c k b.size := by
  split
  · rename_i h
    unfold Bytes.find?
    rw [show b.size + 1 - (k + c.size) = 0 by (first | k_extra "ar" | lia | omega)]
    rfl
  · simp
theorem meets_find2 (hc : 0 < c.size) : Meets («bytes.find» ⟨[.bytes b t, .bytes c u], []⟩) (fun _ R s => R (.ok (.ret (.int (fnd b c 0) s.toks))) { s with toks := s.toks + 1 }) := by
  refine .of_wp fun prog w A R s h => ?_
  show wpAny _ _ (Bytes.searchArgs .bytes "find" ⟨[.bytes b t, .bytes c u], []⟩ >>= fun r => _) _ _ s
  have e : Bytes.searchArgs .bytes "find" ⟨[.bytes b t, .bytes c u], []⟩ = pure (b, c, if ((b.size : Int) - 0) < (c.size : Int) then none else some ((0 : Int).toNat, (b.size : Int).toNat)) := by
    unfold Bytes.searchArgs
    show (Bytes.buffer? _ (.bytes c u) >>= fun r => _) = _
    rw [KBy.buffer_eq]
    show (match Bytes.window b.size none none with | (lo, hi) => (pure (b, c, if hi - lo < (c.size : Int) then none else some (lo.toNat, hi.toNat)) : Sem _)) = _
    rw [window_all]
  refine wpAny_bind (wpAny_of_eq e ?_)
  have e2 := fnd_bind (b := b) (c := c) 0 hc
  dsimp only
  show wpAny _ _ (match ((if ((b.size : Int) - 0) < (c.size : Int) then none else some ((0 : Int).toNat, (b.size : Int).toNat) : Option (Nat × Nat)).bind fun x => Bytes.find? b c x.1 x.2) with | some i => retInt i | none => _) _ _ s
  rw [show ((if ((b.size : Int) - 0) < (c.size : Int) then none else some ((0 : Int).toNat, (b.size : Int).toNat) : Option (Nat × Nat)).bind fun x => Bytes.find? b c x.1 x.2) = Bytes.find? b c 0 b.size from e2]
  unfold fnd at h
  cases q : Bytes.find? b c 0 b.size with
  | some i => rw [q] at h; exact wpAny_bind (wpAny_mkInt (wpAny_pure ⟨_, rfl, h⟩))
  | none => rw [q] at h; exact wpAny_bind (wpAny_rule (wpAny_bind (wpAny_mkInt (wpAny_pure ⟨_, rfl, h⟩))))
theorem meets_find3 {k : Nat} (hc : 0 < c.size) : Meets («bytes.find» ⟨[.bytes b t, .bytes c u, .int (k : Int) v], []⟩) (fun _ R s => R (.ok (.ret (.int (fnd b c k) s.toks))) { s with toks := s.toks + 1 }) := by
  refine .of_wp fun prog w A R s h => ?_
  show wpAny _ _ (Bytes.searchArgs .bytes "find" ⟨[.bytes b t, .bytes c u, .int (k : Int) v], []⟩ >>= fun r => _) _ _ s
  have hb : Bytes.bound? (some (.int (k : Int) v)) = pure (some (k : Int)) := by
    unfold Bytes.bound?
    show (specialOf (.int (k : Int) v) "__index__" >>= fun r => _) = _
    rw [show specialOf (.int (k : Int) v) "__index__" = typeLookup (.type "int") "__index__" from rfl, F.slot_int_index.lookup]
    rfl
  have e : Bytes.searchArgs .bytes "find" ⟨[.bytes b t, .bytes c u, .int (k : Int) v], []⟩ = pure (b, c, if ((b.size : Int) - (k : Int)) < (c.size : Int) then none else some ((k : Int).toNat, (b.size : Int).toNat)) := by
    unfold Bytes.searchArgs
    show (Bytes.bound? (some (.int (k : Int) v)) >>= fun r => _) = _
    rw [hb]
    show (Bytes.buffer? _ (.bytes c u) >>= fun r => _) = _
    rw [KBy.buffer_eq]
    show (match Bytes.window b.size (some (k : Int)) none with | (lo, hi) => (pure (b, c, if hi - lo < (c.size : Int) then none else some (lo.toNat, hi.toNat)) : Sem _)) = _
    rw [window_from]
  refine wpAny_bind (wpAny_of_eq e ?_)
  have e2 := fnd_bind (b := b) (c := c) k hc
  dsimp only
  show wpAny _ _ (match ((if ((b.size : Int) - (k : Int)) < (c.size : Int) then none else some ((k : Int).toNat, (b.size : Int).toNat) : Option (Nat × Nat)).bind fun x => Bytes.find? b c x.1 x.2) with | some i => retInt i | none => _) _ _ s
  rw [e2]
  unfold fnd at h
  cases q : Bytes.find? b c k b.size with
  | some i => rw [q] at h; exact wpAny_bind (wpAny_mkInt (wpAny_pure ⟨_, rfl, h⟩))
  | none => rw [q] at h; exact wpAny_bind (wpAny_rule (wpAny_bind (wpAny_mkInt (wpAny_pure ⟨_, rfl, h⟩))))
end
section
variable {prog : Program} {w : World} {A : Around} {E : Value → Shared → Prop} {s : Shared} {b c : Array UInt8} {t u v : Tok}
theorem find2 {Q : Value → Shared → Prop} (hc : 0 < c.size) (h : ∀ t' k, Q (.int (fnd b c 0) t') { s with toks := k }) : wpAny (model prog w) A (call (.builtin "bytes.find") [.bytes b t, .bytes c u]) Q E s :=
  call_meets slot_find (typeIs_bytes _ _ _) entry_find (args_find2 _ _) (meets_find2 hc) (h _ _)
theorem find3 {k : Int} {Q : Value → Shared → Prop} (h0 : 0 ≤ k) (hc : 0 < c.size) (h : ∀ t' n, Q (.int (fnd b c k.toNat) t') { s with toks := n }) : wpAny (model prog w) A (call (.builtin "bytes.find") [.bytes b t, .bytes c u, .int k v]) Q E s := by
  obtain ⟨k, rfl⟩ := Int.eq_ofNat_of_zero_le h0
  exact call_meets slot_find (typeIs_bytes _ _ _) entry_find (args_find3 _ _ _) (meets_find3 hc) (h _ _)
-- in
theorem meets_contains {n : Int} (h0 : 0 ≤ n) (h1 : n < 256) : Meets («bytes.__contains__» ⟨[.bytes b t, .int n u], []⟩) (fun _ R s => R (.ok (.ret (.bool (b.contains n.toNat.toUInt8)))) s) := by
  refine .of_wp fun prog w A R s h => ?_
  show wpAny _ _ (Bytes.containsIn "bytes.__contains__" (.bytes b t) (.int n u) >>= fun r => _) _ _ s
  refine wpAny_bind ?_
  unfold Bytes.containsIn
  refine wpAny_bind (wpAny_attempt (wpAny_of_eq (a := n) rfl ?_))
  refine wpAny_bind (wpAny_of_eq KBy.buffer_eq ?_)
  dsimp only
  have hn : ¬ ((decide (n < 0) || decide (n ≥ 256)) = true) := by simp; (first | k_extra "ar" | lia | omega)
  refine wpAny_ite (KBy.ite_no hn ?_)
  exact wpAny_pure (wpAny_pure ⟨_, rfl, h⟩)
theorem in_bytes {n : Int} {Q : Value → Shared → Prop} (h0 : 0 ≤ n) (h1 : n < 256) (h : Q (.bool (b.contains n.toNat.toUInt8)) s) : wpAny (model prog w) A (compareOp .In (.int n u) (.bytes b t)) Q E s :=
  PySem.SeqRoads2.in_meets (typeIs_bytes _ _ _) FB.slot_bytes_contains FB.entry_bytes_contains (FB.args_bytes_contains_2 _ _) (meets_contains h0 h1) ⟨_, rfl, h⟩
theorem notIn_bytes {n : Int} {Q : Value → Shared → Prop} (h0 : 0 ≤ n) (h1 : n < 256) (h : Q (.bool (!b.contains n.toNat.toUInt8)) s) : wpAny (model prog w) A (compareOp .NotIn (.int n u) (.bytes b t)) Q E s :=
  PySem.SeqRoads2.notIn_meets (typeIs_bytes _ _ _) FB.slot_bytes_contains FB.entry_bytes_contains (FB.args_bytes_contains_2 _ _) (meets_contains h0 h1) ⟨_, rfl, h⟩
end
-- replace
def repl (d b c : Array UInt8) : Array UInt8 := if (Bytes.occurrences d b 0 d.size).isEmpty then d else Bytes.joined c (Bytes.between d b.size (Bytes.occurrences d b 0 d.size))
def splitB (d b : Array UInt8) : List (Array UInt8) := if (Bytes.occurrences d b 0 d.size).isEmpty then [d] else Bytes.between d b.size (Bytes.occurrences d b 0 d.size)
section
variable {d b c : Array UInt8} {t u v : Tok}
theorem meets_replace (hb : 0 < b.size) : Meets («bytes.replace» ⟨[.bytes d t, .bytes b u, .bytes c v], []⟩) (fun _ R s =>
    Bytes.tooLong (d.size + (Bytes.occurrences d b 0 d.size).length * c.size) = false ∧ (repl d b c).size ≤ sizeLine ∧ ∀ t' k, R (.ok (.ret (.bytes (repl d b c) t'))) { s with toks := k }) := by
  refine .of_wp fun prog w A R s hs => ?_
  obtain ⟨h1, h2, h⟩ := hs
  show wpAny _ _ (Bytes.bytesLike _ (.bytes b u) >>= fun r => _) _ _ s
  refine wpAny_bind (wpAny_of_eq KBd.like_eq ?_)
  show wpAny _ _ (Bytes.bytesLike _ (.bytes c v) >>= fun r => _) _ _ s
  refine wpAny_bind (wpAny_of_eq KBd.like_eq ?_)
  show wpAny _ _ (Bytes.bytesLike _ (.bytes b u) >>= fun r => _) _ _ s
  refine wpAny_bind (wpAny_of_eq KBd.like_eq ?_)
  show wpAny _ _ (Bytes.bytesLike _ (.bytes c v) >>= fun r => _) _ _ s
  refine wpAny_bind (wpAny_of_eq KBd.like_eq ?_)
  show wpAny _ _ (Bytes.payload (.bytes d t) >>= fun r => _) _ _ s
  refine wpAny_bind (wpAny_of_eq (a := d) rfl ?_)
  have hbe : b.isEmpty = false := by
    cases q : b.isEmpty with
    | false => rfl
    | true => rw [Array.isEmpty_iff.1 q] at hb; exact absurd hb (by decide)
  simp only [hbe, Bool.false_eq_true, if_false, Bool.false_and, Bool.or_false]
  show wpAny _ _ (if (Bytes.occurrences d b 0 d.size).isEmpty = true then _ else _) _ _ s
  unfold repl at h h2
  by_cases he : (Bytes.occurrences d b 0 d.size).isEmpty = true
  · rw [if_pos he] at h h2 ⊢
    refine wpAny_bind (wpAny_rule ?_)
    refine wpAny_bind ?_
    show wpAny _ _ (typeOf (.bytes d t) >>= fun r => _) _ _ s
    refine wpAny_bind (wpAny_typeOf (typeIs_bytes s d t) ?_)
    exact wpAny_pure (wpAny_pure ⟨_, rfl, h _ _⟩)
  · rw [if_neg he] at h h2 ⊢
    show wpAny _ _ (if Bytes.tooLong (d.size + (Bytes.occurrences d b 0 d.size).length * c.size) = true then _ else _) _ _ s
    rw [if_neg (by rw [h1]; exact Bool.false_ne_true)]
    exact wpAny_bind (wpAny_mkBytes (wpAny_pure ⟨_, rfl, h _ _⟩) h2)
end
/-- values that are these bytes -/
inductive BytesAre : List Value → List (Array UInt8) → Prop
  | nil : BytesAre [] []
  | cons {b : Array UInt8} {t : Tok} {vs : List Value} {l : List (Array UInt8)} (h : BytesAre vs l) : BytesAre (.bytes b t :: vs) (b :: l)
theorem BytesAre.length {vs : List Value} {l : List (Array UInt8)} (h : BytesAre vs l) : vs.length = l.length := by
  induction h with
  | nil => rfl
  | cons _ ih => simp [ih]
theorem BytesAre.get {vs : List Value} {l : List (Array UInt8)} (h : BytesAre vs l) : ∀ i, i < l.length → ∃ t, vs[i]? = some (.bytes (l.getD i #[]) t) := by
  induction h with
  | nil => intro i hi; exact absurd hi (Nat.not_lt_zero _)
  | @cons b t vs l _ ih =>
    intro i hi
    cases i with
    | zero => exact ⟨t, rfl⟩
    | succ i => simpa using ih i (by simpa using hi)
theorem BytesAre.append {vs vs' : List Value} {l l' : List (Array UInt8)} (h : BytesAre vs l) (h' : BytesAre vs' l') : BytesAre (vs ++ vs') (l ++ l') := by
  induction h with
  | nil => exact h'
  | cons _ ih => exact .cons ih
section
variable {M : Model} {A : Around} {E : Value → Shared → Prop}
theorem mapM_mkBytes : ∀ (xs : List (Array UInt8)) (s : Shared) (Q : List Value → Shared → Prop), (∀ x ∈ xs, x.size ≤ sizeLine) → (∀ vs k, BytesAre vs xs → Q vs { s with toks := k }) → wpAny M A (xs.mapM (Bytes.Kind.new .bytes)) Q E s
  | [], s, Q, _, h => by rw [List.mapM_nil]; exact wpAny_pure (h [] s.toks .nil)
  | x :: r, s, Q, hx, h => by
    rw [List.mapM_cons]
    refine wpAny_bind (wpAny_mkBytes (wpAny_bind (mapM_mkBytes r _ _ (fun y hy => hx y (List.mem_cons_of_mem _ hy)) fun vs k hv => wpAny_pure ?_)) (hx x (List.mem_cons_self ..)))
    exact h _ k (.cons hv)
end
section
variable {d b c : Array UInt8} {t u v : Tok}
theorem split_bind (v : Value) : Bytes.bindOptional "bytes.split" "split" ["sep", "maxsplit"] [v] [] = pure [some v, none] := by kernel_rfl
theorem occ_len (d b : Array UInt8) (lo hi : Nat) : (Bytes.occurrences d b lo hi).length ≤ hi + 1 := by
  unfold Bytes.occurrences
  have key : ∀ (l : List Nat) (acc : List Nat × Nat), (l.foldl (fun acc i => if (decide (i ≥ acc.2) && d.extract i (i + b.size) == b) = true then (i :: acc.1, i + b.size) else acc) acc).1.length ≤ acc.1.length + l.length := by
    intro l
    induction l with
    | nil => intro acc; simp
    | cons x r ih =>
      intro acc
      rw [List.foldl_cons]
      refine Nat.le_trans (ih _) ?_
      split <;> simp <;> (first | k_extra "ar" | lia | omega)
  rw [List.length_reverse]
  refine Nat.le_trans (key _ ([], 0)) ?_
  simp
theorem meets_split (hb : 0 < b.size) : Meets («bytes.split» ⟨[.bytes d t, .bytes b u], []⟩) (fun _ R s =>
    (splitB d b).length ≤ sizeLine ∧ (∀ x ∈ splitB d b, x.size ≤ sizeLine) ∧ ∀ vs k, BytesAre vs (splitB d b) → R (.ok (.ret (.ref s.heap.objs.size))) { s with heap := s.heap.push { cls := .type "list", data := .seq vs.toArray }, toks := k }) := by
  refine .of_wp fun prog w A R s hs => ?_
  obtain ⟨h1, h2, h⟩ := hs
  show wpAny _ _ (Bytes.bindOptional "bytes.split" "split" ["sep", "maxsplit"] [.bytes b u] [] >>= fun r => _) _ _ s
  refine wpAny_bind (wpAny_of_eq (split_bind _) ?_)
  refine wpAny_bind (wpAny_pure ?_)
  show wpAny _ _ (Bytes.payload (.bytes d t) >>= fun r => _) _ _ s
  refine wpAny_bind (wpAny_of_eq (a := d) rfl ?_)
  dsimp only
  show wpAny _ _ (Bytes.bytesLike _ (.bytes b u) >>= fun r => _) _ _ s
  refine wpAny_bind (wpAny_of_eq KBd.like_eq ?_)
  have hbe : b.isEmpty = false := by
    cases q : b.isEmpty with
    | false => rfl
    | true => rw [Array.isEmpty_iff.1 q] at hb; exact absurd hb (by decide)
  have hl : (Bytes.occurrences d b 0 d.size).take (d.size + 1) = Bytes.occurrences d b 0 d.size := List.take_of_length_le (occ_len _ _ _ _)
  simp only [hbe, Bool.false_eq_true, if_false]
  show wpAny _ _ (if ((Bytes.occurrences d b 0 d.size).take (d.size + 1)).isEmpty = true then _ else _) _ _ s
  rw [hl]
  unfold splitB at h h1 h2
  by_cases he : (Bytes.occurrences d b 0 d.size).isEmpty = true
  · simp only [if_pos he] at h h1 h2 ⊢
    refine wpAny_bind (wpAny_rule ?_)
    refine wpAny_bind ?_
    show wpAny _ _ (typeOf (.bytes d t) >>= fun r => _) _ _ s
    refine wpAny_bind (wpAny_typeOf (typeIs_bytes s d t) ?_)
    refine wpAny_pure (wpAny_bind (wpAny_newList (wpAny_pure ⟨_, rfl, h [.bytes d t] s.toks (.cons .nil)⟩) ?_))
    exact h1
  · simp only [if_neg he] at h h1 h2 ⊢
    show wpAny _ _ (List.mapM (Bytes.Kind.new .bytes) (Bytes.between d b.size ((Bytes.occurrences d b 0 d.size).take (d.size + 1))) >>= fun r => _) _ _ s
    rw [hl]
    refine wpAny_bind (mapM_mkBytes _ _ _ h2 fun vs k hv => ?_)
    exact wpAny_bind (wpAny_newList (wpAny_pure ⟨_, rfl, h vs k hv⟩) (by rw [hv.length]; exact h1))
end
end Mine
end

section
open PySem PySem.W PyProof.Rows PySem.Calls
namespace Mine
open Builtin
section
variable {M : Model} {A : Around} {E : Value → Shared → Prop} {s : Shared}
theorem letGo_bytes : ∀ (l : List (Value × Option Value)) (keep : List Value) (Q : Unit → Shared → Prop), (∀ p ∈ l, p.2 = none) → Q () s → wpAny M A (Bytes.joinLetGo l keep) Q E s
  | [], _, Q, _, h => by unfold Bytes.joinLetGo; exact wpAny_pure h
  | (x, w) :: r, keep, Q, hn, h => by
    have hw : w = none := hn (x, w) (List.mem_cons_self ..)
    subst hw
    unfold Bytes.joinLetGo
    dsimp only
    exact wpAny_bind (wpAny_letGo (letGo_bytes r keep Q (fun p hp => hn p (List.mem_cons_of_mem _ hp)) h))
theorem take_eq {id : String} {b : Array UInt8} {t : Tok} : Bytes.takeBufferQuiet? id (.bytes b t) 0 = pure (some (b, none)) := by
  unfold Bytes.takeBufferQuiet? Bytes.takeBuffer?
  rw [KBy.special_eq KBy.look_buffer, KBy.own_buffer]
  simp only [pure_bind]
  show (Sem.attempt ((Bytes.buffer? id (.bytes b t) false) >>= fun r => pure (r.map (·, none))) >>= fun r => _) = _
  rw [KBy.buffer_eq]
  rfl
end
theorem foldl_size : ∀ (l : List (Array UInt8)) (n : Nat), l.foldl (fun n p => n + p.size) n = n + (l.map Array.size).sum
  | [], n => by simp
  | x :: r, n => by rw [List.foldl_cons, foldl_size r]; simp; (first | k_extra "ar" | lia | omega)
theorem any_none {l : List (Value × Option Value)} (h : ∀ p ∈ l, ∃ b t, p.1 = .bytes b t) : (l.any fun p => p.1.onHeap) = false := by
  rw [List.any_eq_false]
  intro p hp
  obtain ⟨b, t, e⟩ := h p hp
  rw [e]
  exact Bool.false_ne_true
theorem match_one {M : Model} {A : Around} {E : Value → Shared → Prop} {s : Shared} {α : Type} {Q : α → Shared → Prop} {items : Array Value} (hne : items.size ≠ 1) {f : Value → Sem α} {g : Sem α} (h : wpAny M A g Q E s) :
    wpAny M A (match items with | #[x] => f x | _ => g) Q E s := by
  rcases items with ⟨_ | ⟨x, _ | ⟨y, r⟩⟩⟩
  · exact h
  · exact absurd rfl hne
  · exact h
theorem meets_join {sep : Array UInt8} {t : Tok} {l : Addr} {vs : List Value} {bs : List (Array UInt8)} (hv : BytesAre vs bs) : Meets («bytes.join» ⟨[.bytes sep t, .ref l], []⟩) (fun A R s =>
    s.heap.IsList l vs.toArray ∧ Bytes.tooLong (sep.size * (bs.length - 1) + (bs.map Array.size).sum) = false ∧ (Bytes.joined sep bs).size ≤ sizeLine ∧ ∀ t' k, R (.ok (.ret (.bytes (Bytes.joined sep bs) t'))) { s with toks := k }) := by
  refine .of_wp fun prog w A R s hs => ?_
  obtain ⟨hl, h1, h2, h⟩ := hs
  have hT := hl.typeIs
  obtain ⟨o, ho, hc, n, hd⟩ := hl
  obtain ⟨items, hit⟩ : ∃ items, items = vs.toArray := ⟨_, rfl⟩
  rw [← hit] at hd
  show wpAny _ _ (Bytes.joinItems (.ref l) >>= fun r => _) _ _ s
  refine wpAny_bind ?_
  unfold Bytes.joinItems
  refine wpAny_bind (wpAny_typeOf hT (wpAny_pure ?_))
  refine wpAny_bind (wpAny_seqItems ho hd ?_)
  dsimp only
  rw [if_pos (show (Bytes.Kind.bytes == Bytes.Kind.bytes) = true from rfl)]
  have hone : (∃ x, items = #[x]) ∨ items.size ≠ 1 := by
    by_cases q : items.size = 1
    · exact .inl (Array.size_eq_one_iff.mp q)
    · exact .inr q
  rcases hone with ⟨x, hx⟩ | hne
  · subst hx
    have hx' : vs = [x] := by simpa using (congrArg Array.toList hit).symm
    subst hx'
    cases hv with
    | @cons b tb _ l' hv' =>
      cases hv'
      refine wpAny_bind (wpAny_typeOf (typeIs_bytes s b tb) ?_)
      rw [if_pos (show (Value.type "bytes" == Value.type "bytes") = true by decide)]
      have e : Bytes.joined sep [b] = b := by
        unfold Bytes.joined
        simp
      rw [e] at h
      exact wpAny_bind (wpAny_rule (wpAny_pure ⟨_, rfl, h _ _⟩))
  · with_unfolding_all refine match_one hne ?_
    rw [Std.Legacy.Range.forIn_eq_forIn_range']
    refine wpAny_bind (wpAny_forIn_list _ (fun (rest : List Nat) (st : Array (Array UInt8) × List (Value × Option Value)) s' => s' = s ∧ ∃ i, i ≤ bs.length ∧ rest = List.range' i (bs.length - i) ∧ st.1 = (bs.take i).toArray ∧ (∀ p ∈ st.2, p.2 = none) ∧ (∀ p ∈ st.2, ∃ b t, p.1 = .bytes b t))
      (fun (st : Array (Array UInt8) × List (Value × Option Value)) s' => wpAny (model prog w) A.in1 _ (fun (fin : PySem.Fin) s' => ∃ v, fin = .done (.ret v) ∧ R (.ok (.ret v)) s') (fun e s' => R (.error e) s') s') ?_ ?_ _ _ ?_)
    · rintro i rest ⟨parts, taken⟩ s' ⟨rfl, j, hj, hr, hp, hn, hb⟩
      have hjl : j < bs.length := by
        rcases Nat.lt_or_ge j bs.length with h | h
        · exact h
        · rw [show bs.length - j = 0 by (first | k_extra "ar" | lia | omega)] at hr
          cases hr
      rw [show bs.length - j = (bs.length - (j + 1)) + 1 by (first | k_extra "ar" | lia | omega), List.range'_succ] at hr
      injection hr with hi hr
      subst hi
      dsimp only at hp hn hb
      obtain ⟨tb, hg⟩ := hv.get i hjl
      refine wpAny_bind (wpAny_seqItems ho hd ?_)
      dsimp only
      rw [if_neg (by rw [any_none hb]; exact Bool.false_ne_true)]
      have hx : items.getD i .none = .bytes (bs.getD i #[]) tb := by
        rw [hit]
        simp only [Array.getD_eq_getD_getElem?, List.getElem?_toArray, hg, Option.getD_some]
      rw [hx]
      refine wpAny_bind (wpAny_holding (wpAny_of_eq take_eq ?_))
      dsimp only
      refine wpAny_bind (wpAny_seqItems ho hd ?_)
      dsimp only
      rw [if_neg (by simp)]
      refine wpAny_pure ⟨rfl, i + 1, hjl, hr, ?_, ?_, ?_⟩
      · rw [hp, List.take_add_one, List.getElem?_eq_getElem hjl]
        simp [List.getD_eq_getElem?_getD, List.getElem?_eq_getElem hjl]
      · intro p hp'
        rcases List.mem_append.mp hp' with h | h
        · exact hn p h
        · rw [List.mem_singleton.mp h]
      · intro p hp'
        rcases List.mem_append.mp hp' with h | h
        · exact hb p h
        · rw [List.mem_singleton.mp h]; exact ⟨_, _, rfl⟩
    · rintro ⟨parts, taken⟩ s' ⟨rfl, j, hj, hr, hp, hn, hb⟩
      have hj' : j = bs.length := by
        rcases Nat.lt_or_ge j bs.length with h | h
        · rw [show bs.length - j = (bs.length - (j + 1)) + 1 by (first | k_extra "ar" | lia | omega), List.range'_succ] at hr
          cases hr
        · (first | k_extra "ar" | lia | omega)
      subst hj'
      dsimp only at hp hn hb ⊢
      rw [List.take_length] at hp
      subst hp
      refine wpAny_bind (wpAny_of_eq (a := sep) rfl ?_)
      have hfold : (Array.foldl (fun x1 x2 => x1 + x2.size) (sep.size * (bs.toArray.size - 1)) bs.toArray) = sep.size * (bs.length - 1) + (bs.map Array.size).sum := by
        rw [List.foldl_toArray' _ _ _ rfl, List.size_toArray, foldl_size]
        simp
      rw [hfold, if_neg (by rw [h1]; exact Bool.false_ne_true)]
      refine wpAny_bind (wpAny_mkBytes ?_ h2)
      refine wpAny_bind (wpAny_holding (wpAny_point ?_))
      refine wpAny_bind (letGo_bytes _ _ _ hn ?_)
      exact wpAny_pure ⟨_, rfl, h _ _⟩
    · refine ⟨rfl, 0, Nat.zero_le _, ?_, by simp, fun _ h => (nomatch h), fun _ h => (nomatch h)⟩
      simp [hit, hv.length]
section
variable {prog : Program} {w : World} {A : Around} {E : Value → Shared → Prop} {s : Shared} {b c d : Array UInt8} {t u v : Tok} {Q : Value → Shared → Prop}
theorem join_bytes {l : Addr} {vs : List Value} {bs : List (Array UInt8)} (hl : s.heap.IsList l vs.toArray) (hv : BytesAre vs bs) (h1 : b.size * (bs.length - 1) + (bs.map Array.size).sum ≤ 16777216) (h2 : (Bytes.joined b bs).size ≤ 16777216)
    (h : ∀ t' k, Q (.bytes (Bytes.joined b bs) t') { s with toks := k }) : wpAny (model prog w) A (call (.builtin "bytes.join") [.bytes b t, .ref l]) Q E s :=
  call_meets slot_join (typeIs_bytes _ _ _) entry_join (args_join _ _) (meets_join hv) ⟨hl, KBy.tooLong_not h1, by rw [sizeLine_eq]; exact h2, h⟩
theorem replace_bytes (hb : 0 < b.size) (h1 : d.size + (Bytes.occurrences d b 0 d.size).length * c.size ≤ 16777216) (h2 : (repl d b c).size ≤ 16777216) (h : ∀ t' k, Q (.bytes (repl d b c) t') { s with toks := k }) :
    wpAny (model prog w) A (call (.builtin "bytes.replace") [.bytes d t, .bytes b u, .bytes c v]) Q E s :=
  call_meets slot_replace (typeIs_bytes _ _ _) entry_replace (args_replace _ _ _) (meets_replace hb) ⟨KBy.tooLong_not h1, by rw [sizeLine_eq]; exact h2, h⟩
variable {h₀ : Heap} {L : Addr} {m : Str → Option Value} {news : List (Addr × Obj)}
theorem split_bytes (F : Fr h₀ L s.heap m) (N : News h₀ L s.heap news) (hb : 0 < b.size) (h1 : (splitB d b).length ≤ 16777216) (h2 : ∀ x ∈ splitB d b, x.size ≤ 16777216)
    (h : ∀ l vs h' k, BytesAre vs (splitB d b) → Fr h₀ L h' m → News h₀ L h' ((l, { cls := .type "list", data := .seq vs.toArray }) :: news) → (∀ p ∈ news, p.1 < l) → Q (.ref l) { s with heap := h', toks := k }) :
    wpAny (model prog w) A (call (.builtin "bytes.split") [.bytes d t, .bytes b u]) Q E s :=
  call_meets slot_split (typeIs_bytes _ _ _) entry_split (args_split _ _) (meets_split hb) ⟨by rw [sizeLine_eq]; exact h1, by rw [sizeLine_eq]; exact h2, fun vs k hv => h _ vs _ k hv (F.push _) (N.push F _) fun p hp => Heap.lt_size (N p hp).1⟩
end
end Mine
end

section
open PySem PySem.W PyProof.Rows PySem.Calls
namespace Mine
section
variable {prog : Program} {w : World} {A : Around} {E : Value → Shared → Prop} {s : Shared} {b c : Array UInt8} {t u : Tok} {Q : Value → Shared → Prop}
theorem add_my (hsz : b.size + c.size ≤ 16777216) (h : ∀ t' k, (b ++ c).size = b.size + c.size → Q (.bytes (b ++ c) t') { s with toks := k }) : wpAny (model prog w) A (binaryOp .Add (.bytes b t) (.bytes c u)) Q E s :=
  KBy.add_bytes hsz fun t' k => h t' k Array.size_append
def at8 (b : Array UInt8) (i : Nat) : Int := ((b.getD i 0).toNat : Int)
theorem item_my {value slice : PySem.Expr} {i : Int} {ui : Tok} (hfit : b.size ≤ 1099511627776) (h0 : 0 ≤ i) (h1 : i < (b.size : Int)) (h : ∀ t' k, 0 ≤ at8 b i.toNat → at8 b i.toNat < 256 → Q (.int (at8 b i.toNat) t') { s with toks := k })
    (hs : subscripted slice false (.bytes b t) (.int i ui) = operate [.bytes b t, .int i ui] (getItem (.bytes b t) (.int i ui)) := by with_unfolding_all rfl)
    (ht : ∀ r, letTemporaryGo value (.bytes b t) r = pure () := by intro _; with_unfolding_all rfl) :
    wpAny (model prog w) A (subscriptTail value slice (.bytes b t) (.int i ui)) Q E s := by
  obtain ⟨x⟩ := b
  refine KBy.item_N (by simpa using hfit) h0 (by simpa using h1) ?_ hs ht
  have e : (x.getD i.toNat 0).toNat = (Array.getD ⟨x⟩ i.toNat 0).toNat := by simp [Array.getD_eq_getD_getElem?, List.getD_eq_getElem?_getD]
  have l : (x.getD i.toNat 0).toNat < 256 := UInt8.toNat_lt _
  have := h s.toks (s.toks + 1) (by unfold at8; omega) (by unfold at8; omega)
  unfold at8 at this
  rw [← e] at this
  exact this
variable {h₀ : Heap} {L : Addr} {m : Str → Option Value} {news : List (Addr × Obj)} {value slice : PySem.Expr}
theorem picked_lo {i : Int} (h : 0 ≤ i) : KBy.picked b (some i) none = b.extract i.toNat b.size := by
  rw [KBc.picked_eq]
  obtain ⟨i, rfl⟩ := Int.eq_ofNat_of_zero_le h
  have e : clipAt b.size (i : Int) = min i b.size := clipAt_nat _ _
  simp only [Option.elim, Int.toNat_natCast]
  rw [e]
  apply Array.ext'
  simp only [Array.toList_extract, List.extract_eq_take_drop]
  rcases Nat.le_total i b.size with q | q
  · rw [Nat.min_eq_left q]
  · rw [Nat.min_eq_right q, Nat.sub_self, List.take_zero, Nat.sub_eq_zero_of_le q, List.take_zero]
theorem picked_hi {j : Int} (h : 0 ≤ j) : KBy.picked b none (some j) = b.extract 0 j.toNat := by
  rw [KBc.picked_eq]
  obtain ⟨j, rfl⟩ := Int.eq_ofNat_of_zero_le h
  have e : clipAt b.size (j : Int) = min j b.size := clipAt_nat _ _
  simp only [Option.elim, Int.toNat_natCast]
  rw [e]
  apply Array.ext'
  simp only [Array.toList_extract, List.extract_eq_take_drop, List.drop_zero, Nat.sub_zero]
  rcases Nat.le_total j b.size with q | q
  · rw [Nat.min_eq_left q]
  · rw [Nat.min_eq_right q, List.take_of_length_le (by simp), List.take_of_length_le (by simpa using q)]
theorem picked_both {i j : Int} (h0 : 0 ≤ i) (h : 0 ≤ j) : KBy.picked b (some i) (some j) = b.extract i.toNat j.toNat := by
  rw [KBc.picked_eq]
  obtain ⟨j, rfl⟩ := Int.eq_ofNat_of_zero_le h
  obtain ⟨i, rfl⟩ := Int.eq_ofNat_of_zero_le h0
  have e : ∀ j : Nat, clipAt b.size (j : Int) = min j b.size := fun _ => clipAt_nat _ _
  simp only [Option.elim, Int.toNat_natCast]
  rw [e, e]
  apply Array.ext'
  simp only [Array.toList_extract, List.extract_eq_take_drop]
  rcases Nat.le_total i b.size with q | q
  · rw [Nat.min_eq_left q]
    rcases Nat.le_total j b.size with q2 | q2
    · rw [Nat.min_eq_left q2]
    · rw [Nat.min_eq_right q2, List.take_of_length_le (by simp), List.take_of_length_le (by simp; omega)]
  · rw [Nat.min_eq_right q, show min j b.size - b.size = 0 by omega, List.take_zero, List.drop_eq_nil_of_le (by simpa using q), List.take_nil]
theorem picked_neg {j : Int} {k : Nat} (h : j = -(k : Int)) (hk : 0 < k) : KBy.picked b none (some j) = b.extract 0 (b.size - k) := by
  rw [KBc.picked_eq]
  subst h
  have e : clipAt b.size (-(k : Int)) = b.size - k := clipAt_neg _ _ hk
  simp only [Option.elim]
  rw [e]
  apply Array.ext'
  simp [List.extract_eq_take_drop]
theorem slice_my {l u' : Value} {lo hi : Option Int} {b' : Array UInt8} (hb : KBy.picked b lo hi = b') (hF : Fr h₀ L s.heap m) (hN : News h₀ L s.heap news) (hl : IsPart l lo) (hu : IsPart u' hi) (hz : b.size ≤ 16777216)
    (h : ∀ h' t' k, Fr h₀ L h' m → News h₀ L h' news → b'.size ≤ b.size → Q (.bytes b' t') { s with heap := h', toks := k })
    (hs : subscripted slice false (.bytes b t) (.ref s.heap.objs.size) = operate [.ref s.heap.objs.size, .bytes b t] (getItem (.bytes b t) (.ref s.heap.objs.size)) := by with_unfolding_all rfl)
    (ht : ∀ r, letTemporaryGo value (.bytes b t) r = pure () := by intro _; with_unfolding_all rfl) :
    wpAny (model prog w) A (subscriptTail value slice (.bytes b t) (.ref s.heap.objs.size)) Q E { s with heap := s.heap.push { cls := .type "slice", data := .fields #[l, u', .none] } } := by
  subst hb
  refine KBc.slice_K hF hN rfl hl hu (by rw [KBw.ints_length]; exact hz) (fun h' t' k F N _ => h h' t' k F N ?_) hs ht
  rw [KBc.picked_eq]
  simp
  omega
end
end Mine
end

section
open PySem PySem.W PyProof.Rows PySem.Calls PySem.Spec PySem.Builtin
namespace Mine
def splitA (c : UInt8) : List UInt8 → List UInt8 → List (List UInt8)
  | acc, [] => [acc]
  | acc, x :: r => if x = c then acc :: splitA c [] r else splitA c (acc ++ [x]) r
def joinL (sep : List UInt8) : List (List UInt8) → List UInt8
  | [] => []
  | p :: ps => p ++ ps.flatMap fun q => sep ++ q
def subst1 (c : UInt8) (sep l : List UInt8) : List UInt8 := l.flatMap fun x => if x = c then sep else [x]
theorem splitA_ne (c : UInt8) : ∀ (l acc : List UInt8), ∃ p ps, splitA c acc l = p :: ps
  | [], acc => ⟨acc, [], rfl⟩
  | x :: r, acc => by
    unfold splitA
    split
    · exact ⟨_, _, rfl⟩
    · exact splitA_ne c r _
theorem join_split (c : UInt8) (sep : List UInt8) : ∀ (l acc : List UInt8), joinL sep (splitA c acc l) = acc ++ subst1 c sep l
  | [], acc => by simp [splitA, joinL, subst1]
  | x :: r, acc => by
    unfold splitA
    split
    · rename_i h
      subst h
      have ih := join_split x sep r []
      obtain ⟨p, ps, e⟩ := splitA_ne x r []
      rw [e] at ih ⊢
      simp [joinL] at ih
      simp [joinL, ih, subst1]
    · rename_i h
      rw [join_split c sep r]
      simp [subst1, h]
theorem joined_eq (sep : Array UInt8) (parts : List (Array UInt8)) : Bytes.joined sep parts = (joinL sep.toList (parts.map (·.toList))).toArray := by
  unfold Bytes.joined
  have key : ∀ (ps : List (Array UInt8)) (k : Nat) (out : Array UInt8), 0 < k → (ps.zipIdx k).foldl (fun out (x : Array UInt8 × Nat) => (if x.2 > 0 then out ++ sep else out) ++ x.1) out = out ++ ((ps.map (·.toList)).flatMap fun q => sep.toList ++ q).toArray := by
    intro ps
    induction ps with
    | nil => intro k out _; simp
    | cons p ps ih =>
      intro k out hk
      rw [List.zipIdx_cons, List.foldl_cons, ih (k + 1) _ (by (first | k_extra "ar" | lia | omega))]
      simp only [if_pos hk]
      apply Array.ext'
      simp
  cases parts with
  | nil => rfl
  | cons p ps =>
    rw [List.zipIdx_cons, List.foldl_cons]
    have e := key ps 1 (#[] ++ p) (by decide)
    have e2 : (if (0 : Nat) > 0 then (#[] : Array UInt8) ++ sep else #[]) ++ p = #[] ++ p := by simp
    show List.foldl _ ((if (0 : Nat) > 0 then (#[] : Array UInt8) ++ sep else #[]) ++ p) _ = _
    rw [e2]
    refine e.trans ?_
    apply Array.ext'
    simp [joinL]
def posL (c : UInt8) (l : List UInt8) (k n : Nat) : List Nat := (List.range' k n).filter fun i => l[i]? == some c
theorem ext1 {b : Array UInt8} {c : UInt8} {i : Nat} (h : i < b.size) : (b.extract i (i + 1) == #[c]) = (b.toList[i]? == some c) := by
  have e : b.extract i (i + 1) = #[b[i]] := by
    apply Array.ext'
    simp [List.extract_eq_take_drop, List.drop_eq_getElem_cons (show i < b.toList.length by simpa using h)]
  rw [e]
  simp [h]
theorem occ_eq (b : Array UInt8) (c : UInt8) : Bytes.occurrences b #[c] 0 b.size = posL c b.toList 0 b.size := by
  unfold Bytes.occurrences posL
  have key : ∀ (n k : Nat) (acc : List Nat × Nat), acc.2 ≤ k → k + n ≤ b.size → ((List.range' k n).foldl (fun (acc : List Nat × Nat) i => if (decide (i ≥ acc.2) && b.extract i (i + #[c].size) == #[c]) = true then (i :: acc.1, i + #[c].size) else acc) acc).1 = ((List.range' k n).filter fun i => b.toList[i]? == some c).reverse ++ acc.1 := by
    intro n
    induction n with
    | zero => intro k acc _ _; simp
    | succ n ih =>
      intro k acc h1 h2
      rw [List.range'_succ, List.foldl_cons, List.filter_cons]
      have e1 : #[c].size = 1 := rfl
      rw [e1, ext1 (show k < b.size by (first | k_extra "ar" | lia | omega))]
      by_cases q : (b.toList[k]? == some c) = true
      · rw [if_pos (by simp only [q, Bool.and_true, decide_eq_true_eq]; (first | k_extra "ar" | lia | omega)), if_pos q]
        have := ih (k + 1) (k :: acc.1, k + 1) (Nat.le_refl _) (by (first | k_extra "ar" | lia | omega))
        rw [e1] at this
        rw [this]
        simp
      · rw [if_neg (by simp only [Bool.not_eq_true] at q; rw [q, Bool.and_false]; exact Bool.noConfusion), if_neg q]
        have := ih (k + 1) acc (by (first | k_extra "ar" | lia | omega)) (by (first | k_extra "ar" | lia | omega))
        rw [e1] at this
        rw [this]
  have e : (List.range (b.size + 1 - (0 + #[c].size))).map (· + 0) = List.range' 0 b.size := by
    rw [List.range_eq_range']
    simp
  have := key b.size 0 ([], 0) (Nat.le_refl _) (by (first | k_extra "ar" | lia | omega))
  rw [e]
  simp only [this]
  simp
def cutL (b : Array UInt8) : Nat → List Nat → List (Array UInt8)
  | last, [] => [b.extract last b.size]
  | last, p :: ps => b.extract last p :: cutL b (p + 1) ps
theorem between_eq (b : Array UInt8) (ps : List Nat) : Bytes.between b 1 ps = cutL b 0 ps := by
  have key : ∀ (ps : List Nat) (parts : Array (Array UInt8)) (last : Nat), (let r := ps.foldl (fun (x : Array (Array UInt8) × Nat) p => (x.1.push (b.extract x.2 p), p + 1)) (parts, last); (r.1.push (b.extract r.2 b.size)).toList) = parts.toList ++ cutL b last ps := by
    intro ps
    induction ps with
    | nil => intro parts last; simp [cutL]
    | cons p ps ih =>
      intro parts last
      rw [List.foldl_cons]
      have := ih (parts.push (b.extract last p)) (p + 1)
      simp only at this ⊢
      rw [this]
      simp [cutL]
  have := key ps #[] 0
  simp only [Array.toList_empty, List.nil_append] at this
  exact this
theorem cut_split (b : Array UInt8) (c : UInt8) : ∀ (n k last : Nat), last ≤ k → k + n = b.size → cutL b last (posL c b.toList k n) = (splitA c ((b.extract last k).toList) (b.toList.drop k)).map List.toArray := by
  intro n
  induction n with
  | zero =>
    intro k last h1 h2
    have : b.toList.drop k = [] := by simp; (first | k_extra "ar" | lia | omega)
    rw [this]
    have hk : k = b.size := by (first | k_extra "ar" | lia | omega)
    subst hk
    simp only [posL, cutL, splitA, List.range'_zero, List.filter_nil, List.map_cons, List.map_nil]
  | succ n ih =>
    intro k last h1 h2
    have hk : k < b.toList.length := by simp; (first | k_extra "ar" | lia | omega)
    have hd : b.toList.drop k = b.toList[k] :: b.toList.drop (k + 1) := List.drop_eq_getElem_cons hk
    unfold posL
    rw [List.range'_succ, List.filter_cons, hd]
    unfold splitA
    have e1 : b.toList[k]? = some b.toList[k] := List.getElem?_eq_getElem hk
    by_cases q : b.toList[k] = c
    · rw [if_pos q, if_pos (by rw [e1, q]; simp)]
      show b.extract last k :: cutL b (k + 1) (posL c b.toList (k + 1) n) = _
      rw [ih (k + 1) (k + 1) (Nat.le_refl _) (by (first | k_extra "ar" | lia | omega))]
      have e0 : (b.extract (k + 1) (k + 1)).toList = [] := by simp
      rw [e0, List.map_cons]
    · rw [if_neg q, if_neg (by rw [e1]; simpa using q)]
      show cutL b last (posL c b.toList (k + 1) n) = _
      rw [ih (k + 1) last (by (first | k_extra "ar" | lia | omega)) (by (first | k_extra "ar" | lia | omega))]
      congr 2
      have : (b.extract last (k + 1)).toList = (b.extract last k).toList ++ [b.toList[k]] := by
        simp only [Array.toList_extract, List.extract_eq_take_drop]
        rw [show k + 1 - last = (k - last) + 1 by (first | k_extra "ar" | lia | omega), List.take_add_one]
        congr 1
        rw [List.getElem?_drop, show last + (k - last) = k by (first | k_extra "ar" | lia | omega), e1]
        rfl
      rw [this]
theorem splitB_eq (b : Array UInt8) (c : UInt8) : splitB b #[c] = (splitA c [] b.toList).map List.toArray := by
  unfold splitB
  have hc : cutL b 0 (posL c b.toList 0 b.size) = (splitA c [] b.toList).map List.toArray := by
    rw [cut_split b c b.size 0 0 (Nat.le_refl _) (by (first | k_extra "ar" | lia | omega))]
    simp
  rw [occ_eq]
  split
  · rename_i h
    rw [← hc]
    rw [List.isEmpty_iff] at h
    rw [h]
    simp [cutL]
  · show Bytes.between b 1 _ = _
    rw [between_eq, hc]
theorem repl_eq (b r : Array UInt8) (c : UInt8) : repl b #[c] r = (subst1 c r.toList b.toList).toArray := by
  have h : Bytes.joined r (splitB b #[c]) = repl b #[c] r := by
    unfold splitB repl
    split
    · unfold Bytes.joined; simp
    · rfl
  rw [← h, joined_eq, splitB_eq, List.map_map]
  have : (List.map ((fun x => x.toList) ∘ List.toArray) (splitA c [] b.toList)) = splitA c [] b.toList := by
    rw [show ((fun x : Array UInt8 => x.toList) ∘ List.toArray) = _root_.id by funext x; rfl, List.map_id]
  rw [this, join_split]
  simp
theorem join_splitB (b r : Array UInt8) (c : UInt8) : Bytes.joined r (splitB b #[c]) = repl b #[c] r := by
  unfold splitB repl
  split
  · unfold Bytes.joined; simp
  · rfl
theorem split_bound (c : UInt8) : ∀ (l acc : List UInt8), (splitA c acc l).length ≤ l.length + 1 ∧ ((splitA c acc l).map List.length).sum ≤ acc.length + l.length ∧ ∀ p ∈ splitA c acc l, p.length ≤ acc.length + l.length
  | [], acc => by simp [splitA]
  | x :: r, acc => by
    unfold splitA
    split
    · obtain ⟨h1, h2, h3⟩ := split_bound c r []
      refine ⟨by simp; (first | k_extra "ar" | lia | omega), by simp at h2 ⊢; (first | k_extra "ar" | lia | omega), ?_⟩
      intro p hp
      rcases List.mem_cons.mp hp with rfl | hp
      · simp
      · have := h3 p hp; simp at this ⊢; (first | k_extra "ar" | lia | omega)
    · obtain ⟨h1, h2, h3⟩ := split_bound c r (acc ++ [x])
      refine ⟨by simp; (first | k_extra "ar" | lia | omega), by simp at h2 ⊢; (first | k_extra "ar" | lia | omega), ?_⟩
      intro p hp
      have := h3 p hp; simp at this ⊢; (first | k_extra "ar" | lia | omega)
theorem subst_len (c : UInt8) (s : List UInt8) (hs : 0 < s.length) : ∀ l : List UInt8, (subst1 c s l).length ≤ s.length * l.length
  | [] => by simp [subst1]
  | x :: r => by
    have ih := subst_len c s hs r
    have e : subst1 c s (x :: r) = (if x = c then s else [x]) ++ subst1 c s r := by simp [subst1]
    rw [e, List.length_append, List.length_cons, Nat.mul_add]
    split
    · (first | k_extra "ar" | lia | omega)
    · simp; (first | k_extra "ar" | lia | omega)
theorem posL_len (c : UInt8) (l : List UInt8) (n k : Nat) : (posL c l k n).length ≤ n := by
  have h := List.length_filter_le (fun i => l[i]? == some c) (List.range' k n)
  rw [List.length_range'] at h
  exact h
theorem split_h1 {v : Array UInt8} {c : UInt8} (h : v.size ≤ 1000000) : (splitB v #[c]).length ≤ 16777216 := by
  rw [splitB_eq]
  have := (split_bound c v.toList []).1
  simp at this ⊢
  (first | k_extra "ar" | lia | omega)
theorem split_h2 {v : Array UInt8} {c : UInt8} (h : v.size ≤ 1000000) : ∀ x ∈ splitB v #[c], x.size ≤ 16777216 := by
  rw [splitB_eq]
  intro x hx
  obtain ⟨p, hp, rfl⟩ := List.mem_map.mp hx
  have := (split_bound c v.toList []).2.2 p hp
  simp at this ⊢
  (first | k_extra "ar" | lia | omega)
theorem repl_h1 {v r : Array UInt8} {c : UInt8} (h : v.size ≤ 1000000) (hr : r.size ≤ 4) : v.size + (Bytes.occurrences v #[c] 0 v.size).length * r.size ≤ 16777216 := by
  have h1 : (Bytes.occurrences v #[c] 0 v.size).length ≤ v.size := by rw [occ_eq]; exact posL_len c _ _ _
  have h2 := Nat.mul_le_mul h1 hr
  (first | k_extra "ar" | lia | omega)
theorem repl_h2 {v r : Array UInt8} {c : UInt8} (h : v.size ≤ 1000000) (hr : r.size ≤ 4) (h0 : 0 < r.size := by decide) : (repl v #[c] r).size ≤ 16777216 := by
  rw [repl_eq]
  have h1 := subst_len c r.toList (by simpa using h0) v.toList
  have h2 := Nat.mul_le_mul_right v.toList.length (show r.toList.length ≤ 4 by simpa using hr)
  simp at h1 h2 ⊢
  (first | k_extra "ar" | lia | omega)
end Mine
end

section
open PySem PySem.W PyProof.Rows PySem.Calls
namespace Mine
theorem fillK : PySem.Challenge.rw_pb0110_01 = PySem.Challenge.rw_pb0110_01 → K = K → True := by
  k_fill
  intros; trivial
abbrev bmBad : List Value := [.ref 39, .type "Exception", .type "BaseException", .type "object"]
abbrev excO (t : Addr) : Obj := { cls := .ref 52, data := .fields #[.ref t, .none, .none, .none, .bool false, .none] }
abbrev badCls : Obj := excClassObj (.ofString "BadObject") (.ofString "BadObject") 52 51 [.ref 39] bmBad true [] [] false none none (some (.ref 43)) none (some (.str (.ofString "BadObject") 230)) (some (.str (.ofString "BadObject") 238)) (some (.bool true)) "Exception.__new__"
theorem badAt {w : World} {h : Heap} (X : (K w.params).In h) : h.get? 52 = some badCls := X _ _ (by kernel_rfl)
section
variable {M : Model} {A : Around} {E : Value → Shared → Prop} {h : Heap} {g : Array GenState} {d : Drawn} {t : Nat} {os : OsState}
theorem bad_check_new {rest : List Value} {Q : Unit → Shared → Prop} (hC : h.get? 52 = some badCls) (hq : Q () ⟨h, g, d, t, os⟩) : wpAny M A (checkBuiltinCall "Exception.__new__" ⟨.ref 52 :: rest, []⟩) Q E ⟨h, g, d, t, os⟩ := by
  have Fn := PySem.F.excBase_Exception
  have hcont : (Value.ref 52 :: bmBad).contains (.type "Exception") = true := by decide
  have hstar := Fn.noStar
  simp only [checkBuiltinCall, Fn.newKind, Fn.newSplit, Fn.newRow]
  repeat (first | refine wpAny_loadPart_at hC ?_ | (refine wpAny_isSubtype_exc hC ?_; rw [hcont]) | refine wpAny_staticBase_exc hC ?_ | refine wpAny_madeBy_exc hC ?_ | simp only [bne_self_eq_false, Bool.false_eq_true, if_false] | wp_step)
  exact hq
end
section
variable {prog : Program} {w : World} {A : Around} {R : Result → Shared → Prop} {h : Heap} {g : Array GenState} {d : Drawn} {t : Nat} {os : OsState}
theorem bad_new {rest : List Value} (hC : h.get? 52 = some badCls)
    (hq : R (.ok (.ret (.ref (h.objs.size + 1)))) ⟨(h.push { cls := .type "tuple", data := .seq rest.toArray }).push (excO h.objs.size), g, d, t, os⟩) (hrest : rest.length ≤ sizeLine := by size_fits) :
    codeAny (model prog w) A (.builtin "Exception.__new__" ⟨.ref 52 :: rest, []⟩) R ⟨h, g, d, t, os⟩ := by
  have Fn := PySem.F.excBase_Exception
  have hends := Fn.ends
  have hcB : (Value.ref 52 :: bmBad).contains (.type "Exception") = true := by decide
  have hcA : (Value.ref 52 :: bmBad).contains (.type "AttributeError") = false := by decide
  have hcN : (Value.ref 52 :: bmBad).contains (.type "NameError") = false := by decide
  refine codeAny_builtinAt Fn.entry ?_
  unfold Builtin.«BaseException.__new__»
  refine PySem.wpAt_bind ?_
  show PySem.wpAt _ _ _ (stack >>= _) _ _ _
  refine PySem.wpAt_bind (PySem.wpAt_stack fun p below => PySem.wpAt_of_wpAny ?_)
  wp_walk
  refine PySem.wpAt_of_wpAny ?_
  rw [Fn.owner]
  repeat (first | with_reducible refine wpAny_madeHere_exc Fn.canon hC ?_ | with_reducible refine wpAny_loadPart_at hC ?_ | (with_reducible refine wpAny_isSubtype_exc hC ?_; first | rw [hcB] | rw [hcA] | rw [hcN]) | wp_step)
  show R _ _
  rw [Heap.size_push]
  exact hq
/-- the class called: its init -/
theorem bad_core {v : Value} (X : (K w.params).In h)
    (hq : codeAny (model prog w) (A.under (.builtin "type.__call__" ⟨[.ref 52, v], []⟩)) (.call (.ref 36) ⟨[.ref (h.objs.size + 1), v], []⟩) (InitBack (h.objs.size + 1) R) ⟨(h.push { cls := .type "tuple", data := .seq [v].toArray }).push (excO h.objs.size), g, d, t, os⟩) :
    codeAny (model prog w) A (.call (.ref 52) ⟨[v], []⟩) R ⟨h, g, d, t, os⟩ := by
  have hC := badAt X
  have hcC : (Value.ref 52 :: bmBad).contains (.ref 52) = true := by decide
  have f1 := tc_lookup
  have f2 := tc_bind (.ref 52)
  have hT : (⟨h, g, d, t, os⟩ : Shared).TypeIs (.ref 52) "type" := ⟨_, hC, rfl⟩
  refine codeAny_of_tree ?_
  show wpAny _ _ (callAny (.ref 52) _) _ _ _
  repeat (any_goals (first | assumption | with_reducible refine wpAny_loadPart_at hC ?_ | wp_step))
  refine ⟨rfl, ?_⟩
  refine codeAny_call_builtin_at (Code.quiet_builtin _ (by decide +kernel)) entry_typeCall (wpAny_check_type_call_sub hC ?_)
  repeat (first | with_reducible refine wpAny_loadPart_at hC ?_ | with_reducible refine wpAny_madeBy_exc hC ?_ | wp_step)
  refine codeAny_call_builtin_code (Code.quiet_builtin _ PySem.F.excBase_Exception.quiet) (bad_check_new hC ?_)
  refine bad_new (rest := [v]) hC ?_ (by rw [sizeLine_eq]; exact (show 1 ≤ 16777216 by decide))
  show wpAny _ _ _ _ _ _
  have k : ∀ b o, h.get? b = some o → ((h.push { cls := .type "tuple", data := .seq [v].toArray }).push (excO h.objs.size)).get? b = some o := fun b o e => Heap.get?_push_of_some _ (Heap.get?_push_of_some _ e)
  have X₁ := X.keeps k
  have hC₁ := badAt X₁
  have hget : ((h.push { cls := .type "tuple", data := .seq [v].toArray }).push (excO h.objs.size)).get? (h.objs.size + 1) = some (excO h.objs.size) := by heap_get
  unfold isInstance
  repeat (first | with_reducible refine wpAny_loadPart_at hget ?_ | wp_step)
  refine wpAny_isSubtype_exc hC₁ ?_
  rw [hcC]
  refine wpAny_bind (wpAny_holding ?_)
  have I : InstAt ((h.push { cls := .type "tuple", data := .seq [v].toArray }).push (excO h.objs.size)) (h.objs.size + 1) (excO h.objs.size) 52 none := ⟨hget, rfl, rfl, trivial⟩
  refine special_fn (s := ⟨(h.push { cls := .type "tuple", data := .seq [v].toArray }).push (excO h.objs.size), g, d, t, os⟩) (K := K w.params) (f := 36) X₁ I (by k_is) (by k_is) ?_
  refine wpAny_call (codeAny_mono hq fun r s' z => ?_)
  rcases r with e | (v | _ | _ | _) <;> first | exact z | exact z.elim | skip
  obtain ⟨rfl, z⟩ := z
  exact wpAny_pure z
end
end Mine
end

section
open PySem PySem.W PyProof.Rows PySem.Calls
namespace Mine
theorem fillK2 : PySem.Challenge.rw_pb0110_01 = PySem.Challenge.rw_pb0110_01 → K = K → True := by
  k_fill
  intros; trivial
abbrev excD (t d : Addr) : Obj := { cls := .ref 52, dict := some d, data := .fields #[.ref t, .none, .none, .none, .bool false, .none] }
theorem refuse_bad (self : Value) : PySem.refuseLoop self "__setattr__" [.ref 52, .ref 39, .type "Exception", .type "BaseException", .type "object"] = pure () := by kernel_rfl
section
variable {w : World} {A : Around} {s : Shared} {R : Result → Shared → Prop} {E : Value → Shared → Prop}
theorem osa_bad {h : Heap} {g : Array GenState} {dr : Drawn} {tt : Nat} {os : OsState} {e t : Addr} {tk : Tok} {v : Value} (X : (K w.params).In h) (he : h.get? e = some (excO t))
    (hq : ∀ h' d, h'.get? e = some (excD t d) → (∀ b o, b ≠ e → h.get? b = some o → h'.get? b = some o) → R (.ok (.ret .none)) ⟨h', g, dr, tt + 1, os⟩) :
    codeAny (model PR w) A (.call (.builtin "object.__setattr__") ⟨[.ref e, .str "told" tk, v], []⟩) R ⟨h, g, dr, tt, os⟩ := by
  have SF := PySem.F.store_object
  have I : InstAt h e (excO t) 52 none := ⟨he, rfl, rfl, trivial⟩
  have hC := badAt X
  have hm : Looks (model PR w) h (mroOf (.ref 52)) (.ref 52 :: bmBad) := (looks_clsIn X (C := 52) (K := K w.params) (cd := { name := .ofString "BadObject", bases := [.ref 39], mro := .ref 52 :: bmBad, ns := 51, qualname := .ofString "BadObject", hasDict := true, slotNames := [], subclasses := [], abstract := false, collection := none, hasDel := false }) (by kernel_rfl)).andThen .now
  have sub : Looks (model PR w) h (isInstance (.ref e) (.type "object")) true := I.type.andThen (looks_mroIn X (by kernel_rfl))
  refine codeAny_call_builtin SF.slot.plain SF.entry (@check_slot (model PR w) _ _ ⟨h, g, dr, tt, os⟩ "object.__setattr__" "object" "__setattr__" (.ref e) [.str "told" tk, v] [] _ SF.kind SF.split sub (SF.args (.ref e) (.str "told" tk) v) ?_)
  rw [osa_eq, PySem.refuse_eq]
  refine wpAny_bind (wpAny_bind (I.type.here (wpAny_bind (hm.here ?_))))
  rw [refuse_bad]
  refine wpAny_pure (wpAny_bind (I.type.here (wpAny_bind ((looks_findIn X (t := .ref 52) (r := none) (by kernel_rfl)).here ?_))))
  refine wpAny_bind (wpAny_pure (a := none) ?_)
  refine wpAny_bind (wpAny_pure ?_)
  refine wpAny_bind ?_
  show wpAny _ _ (instanceDict e true) _ _ _
  unfold instanceDict
  refine wpAny_bind (wpAny_loadPart he ?_)
  dsimp only
  refine wpAny_bind ((looks_clsIn X (C := 52) (K := K w.params) (cd := { name := .ofString "BadObject", bases := [.ref 39], mro := .ref 52 :: bmBad, ns := 51, qualname := .ofString "BadObject", hasDict := true, slotNames := [], subclasses := [], abstract := false, collection := none, hasDel := false }) (by kernel_rfl)).here ?_)
  rw [if_neg (show ¬ ((!true) = true) from Bool.false_ne_true), if_neg (show ¬ ((!true || !typeHasDict (.ref 52)) = true) from Bool.false_ne_true)]
  refine wpAny_bind (wpAny_alloc ?_)
  have hlt : e < h.objs.size := Heap.lt_size he
  have hne : e ≠ h.objs.size := Nat.ne_of_lt hlt
  dsimp only
  have he₁ := Heap.get?_push_of_some { cls := .type "dict", data := .dict #[] } he
  refine wpAny_bind (wpAny_update he₁ ?_)
  refine wpAny_pure (a := some h.objs.size) ?_
  dsimp only
  have D : ((h.push { cls := .type "dict", data := .dict #[] }).update e fun o => { o with dict := some h.objs.size }).get? h.objs.size = some { cls := .type "dict", data := .dict #[] } := by
    rw [Heap.get?_update_ne _ _ _ _ (Ne.symm hne)]
    exact Heap.get?_push_size _ rfl
  have he₂ : ((h.push { cls := .type "dict", data := .dict #[] }).update e fun o => { o with dict := some h.objs.size }).get? e = some (excD t h.objs.size) := Heap.get?_update_self _ he₁ rfl
  have hk : ∀ b o, b ≠ e → h.get? b = some o → ((h.push { cls := .type "dict", data := .dict #[] }).update e fun o => { o with dict := some h.objs.size }).get? b = some o := fun b o n x => by
    rw [Heap.get?_update_ne _ _ _ _ n]
    exact Heap.get?_push_of_some _ x
  generalize ((h.push { cls := .type "dict", data := .dict #[] }).update e fun o => { o with dict := some h.objs.size }) = H at D he₂ hk ⊢
  refine wpAny_bind (wpAny_pure (wpAny_bind ?_))
  unfold nsSet
  refine wpAny_bind (wpAny_bind (wpAny_askSetting (wpAny_pure (wpAny_bind (wpAny_mkText (wpAny_bind (wpAny_loadPart D ?_)))))))
  dsimp only
  rw [if_neg (show ¬ (aRefKeyMayBeTheName "told" #[] = true) by decide +kernel)]
  refine wpAny_updatePart D ?_
  generalize (if (Str.cps "told").isEmpty = true then (0 : Int) else reduceHash ((model PR w).w.params.strHash (Str.cps "told"))) = hs
  have e' : Obj.putName "told" hs (.str "told" tt) v (dictOf [] 0) = dictOf [⟨hs, .str "told" tt, v⟩] 1 := by rw [putName_dict]; kernel_rfl
  have D' : (H.update h.objs.size (Obj.putName "told" hs (.str "told" tt) v)).get? h.objs.size = some (dictOf [⟨hs, .str "told" tt, v⟩] 1) := by
    rw [Heap.get?_update_self _ D (by rw [show ({ cls := .type "dict", data := .dict #[] } : Obj) = dictOf [] 0 from rfl, e']; rfl)]
    rw [show ({ cls := .type "dict", data := .dict #[] } : Obj) = dictOf [] 0 from rfl, e']
  refine wpAny_bind (wpAny_lookBehind D' (pastItsLine_dict (by rw [List.size_toArray, sizeLine_eq]; exact (show 1 ≤ 16777216 + 1 by decide))) ?_)
  refine wpAny_pure (hq _ h.objs.size ?_ fun b o n x => ?_)
  · rw [Heap.get?_update_ne _ _ _ _ hne]; exact he₂
  · have hb : b ≠ h.objs.size := Nat.ne_of_lt (Heap.lt_size x)
    rw [Heap.get?_update_ne _ _ _ _ hb]; exact hk b o n x
variable {dp un : Nat} {gd : Option (List Code)} {cn : Str} {cs : Scope} {a : Addr} {ccd : Value} {cl : List (Str × Addr)} {outer : List Env} {A₀ : Around} {base h₀ : Heap} {L : Addr} {m : Str → Option Value} {Q : Value → Shared → Prop} {news : List (Addr × Obj)} {p : Program} {loose : List Str} {mean : ExcName → Option Value} {mg mb : Str → Option Value}
theorem set_bad {e t : Addr} {v : Value} {Q : Unit → Shared → Prop} (X₀ : (K w.params).In h₀) (F : Fr h₀ L s.heap m) (N : News h₀ L s.heap ((e, excO t) :: news)) (hne : ∀ p ∈ news, p.1 ≠ e)
    (h : ∀ h' d tk', Fr h₀ L h' m → News h₀ L h' ((e, excD t d) :: news) → Q () { s with heap := h', toks := tk' }) : wpAny (model PR w) A (setAttr (.ref e) "told" v) Q E s := by
  have X := X₀.keeps F.keep
  obtain ⟨he, hL, h0⟩ := N _ (List.mem_cons_self ..)
  dsimp only at he hL h0
  have I : InstAt s.heap e (excO t) 52 none := ⟨he, rfl, rfl, trivial⟩
  refine set_plain X I (by k_is) (osa_bad X he fun h' d hd hk => ?_)
  refine h h' d _ ⟨F.ns.at' fun o x => hk _ o (Ne.symm hL) x, fun b o x => hk b o (fun q => by rw [q, h0] at x; cases x) (F.keep b o x), F.above⟩ fun q hq => ?_
  rcases List.mem_cons.mp hq with rfl | hq
  · exact ⟨hd, hL, h0⟩
  · exact ⟨hk _ _ (hne q hq) (N q (List.mem_cons_of_mem _ hq)).1, (N q (List.mem_cons_of_mem _ hq)).2⟩
end
end Mine
end

section
open PySem PySem.W PyProof.Rows PySem.Calls
namespace Mine
theorem fillK3 : PySem.Challenge.rw_pb0110_01 = PySem.Challenge.rw_pb0110_01 → K = K → True := by
  k_fill
  intros; trivial
theorem reg_EX3_125 : True := by
  k_with "cell_enter" => ((refine' code_def ?k1 ?k2 ?k3 ?k4 ?k5 ?kA ?kF ?kK ?k6 ?k7 ?k8 ?k9 ?kB ?_ ?c2 ?c3 ?c4 ?c5; (case kA => exact rfl); (case kF => exact rfl); (case kK => assumption); (case k1 => k_asm); (case k2 => k_asm); (case k3 => k_asm); (case k4 => k_asm); (case k5 => k_asm); (case k6 => k_is); (case k7 => k_is); (case k8 => ktr_room); (case k9 => first | exact BindsTo.of_eq rfl | exact binds_K (by k_in) rfl (by k_is) rfl rfl rfl); (case c5 => decide); (case kB => exact locs rfl); (case c2 => exact rfl); (case c3 => exact rfl); (case c4 => exact rfl); k_whole; intro g'zz L'zz h'zz FG'zz F'zz N'zz B'zz X'zz T'zz; (try dsimp only); (try k_lift B'zz); (try k_fold)))
  trivial
theorem reg_EX3_818 : True := by
  k_with "setAttr ref" => (k_here; (with_reducible show wpAny _ _ (setAttr _ (PySem.Str.ofString "told") _) _ _ _); k_dflt (refine' set_bad ?k1 ?k2 ?k3 ?k4 ?_; (case k1 => k_asm); (case k2 => k_asm); (case k3 => k_asm); (case k4 => assumption); k_whole); intro h'zz d'zz tk'zz F'zz N'zz)
  trivial
section
variable {w : World} {dp un : Nat} {gd : Option (List Code)} {cn : Str} {cs : Scope} {a : Addr} {ccd : Value} {cl : List (Str × Addr)} {outer : List Env} {A₀ : Around} {base h₀ : Heap} {L : Addr} {m : Str → Option Value} {s : Shared} {Q E : Value → Shared → Prop} {news : List (Addr × Obj)} {p : Program} {loose : List Str} {mean : ExcName → Option Value} {mg mb : Str → Option Value}
set_option maxHeartbeats 2000000 in
theorem bad_call (B : Below A₀ base outer h₀) (F : Fr h₀ L s.heap m) (X : (K w.params).In h₀) (N : News h₀ L s.heap news) (T : Top p loose mean mg mb h₀) (hk : cs.kind = .function)
  (hd : dp + 10 < recursionLimit) (hu : un + 100 < cLine) {v : Value}
  (hret : ∀ e t d h' tk', Fr h₀ L h' m → News h₀ L h' ((e, excD t d) :: news) → (∀ p ∈ news, p.1 ≠ e) → Q (.ref e) { s with heap := h', toks := tk' }) :
  wpAny (model PR w) (ktrTop dp un gd cn cs L a ccd cl outer) (call (.ref (nat_lit 52)) [v]) Q E s := by
  refine wpAny_call ?_
  obtain ⟨hp, g, dr, tt, os⟩ := s
  have hne : ∀ q ∈ news, q.1 ≠ hp.objs.size + 1 := fun q hq => Nat.ne_of_lt (Nat.lt_succ_of_lt (Heap.lt_size (N q hq).1))
  have F₁ := F.push { cls := .type "tuple", data := .seq [v].toArray }
  have N₁ := N.push F { cls := .type "tuple", data := .seq [v].toArray }
  have F₂ := F₁.push (excO hp.objs.size)
  have N₂ := N₁.push F₁ (excO hp.objs.size)
  rw [Heap.size_push] at N₂
  have N₃ : News h₀ L ((hp.push { cls := .type "tuple", data := .seq [v].toArray }).push (excO hp.objs.size)) ((hp.objs.size + 1, excO hp.objs.size) :: news) := fun q hq => N₂ q (by rcases List.mem_cons.mp hq with rfl | hq; exact .head _; exact .tail _ (.tail _ hq))
  refine bad_core (X.keeps F.keep) ?_
  clear N₁ F₁ N₂ F N
  k_dflt cell_enter
  k_steps
  all_goals exact hret _ _ _ _ _ (by assumption) (by assumption) hne
/-- what a raise of it leaves at hand -/
def BadEnd (w : World) (E : Value → Shared → Prop) (v : Value) (s₁ : Shared) : Prop := ∃ e t d, v = .ref e ∧ (K w.params).In s₁.heap ∧ s₁.heap.get? e = some (excD t d) ∧ E (.ref e) s₁
theorem BadEnd.intro {e t d : Addr} (F : Fr h₀ L s.heap m) (X : (K w.params).In h₀) (N : News h₀ L s.heap ((e, excD t d) :: news)) (h : E (.ref e) s) : BadEnd w E (.ref e) s :=
  ⟨e, t, d, rfl, X.keeps F.keep, (N _ (List.mem_cons_self ..)).1, h⟩
theorem raise_bad {A : Around} {env : Env} {x : Expr} {pos : Pos} {Q : Flow → Shared → Prop} (hh : A.handled = none) (h : wpAny (model PR w) A (eval x env) (BadEnd w E) E s) :
    wpAny (model PR w) A (exec (.Raise (some x) none pos) env) Q E s := by
  have hcB : (Value.ref 52 :: bmBad).contains (.type "BaseException") = true := by decide
  rw [arm_exec_Raise]
  refine wpAny_bind (wpAny_standAt ?_)
  simp only [evalOpt, Option.map]
  unfold raiseStmt
  refine wpAny_bind (wpAny_bind (wpAny_mono h (fun v s₁ h₁ => ?_) fun _ _ x => x))
  refine wpAny_bind (wpAny_standAt (wpAny_pure ?_))
  obtain ⟨e, t, d, rfl, X, he, hE⟩ := h₁
  obtain ⟨hp, g, dr, tk, os⟩ := s₁
  have hC := badAt X
  dsimp only at he hE
  repeat (first | with_reducible refine wpAny_loadPart_at he ?_ | with_reducible refine wpAny_loadPart_at hC ?_ | (with_reducible refine wpAny_isSubtype_exc hC ?_; rw [hcB]) | wp_step)
  exact wpAny_raiseNew_none hh hE
end
section
variable {M : Model} {A : Around} {E : Value → Shared → Prop} {s' : Shared} {base g : Heap} {outer : List Env} {L a e t d : Addr} {m : Str → Option Value} {name : Str} {scope : Scope} {cd : Value} {Q : Unit → Shared → Prop} {news : List (Addr × Obj)}
theorem leave_bad (K : Below A base outer g) (F : Fr g L s'.heap m) (N : News g L s'.heap ((e, excD t d) :: news)) (hne : ∀ p ∈ news, p.1 ≠ e)
    (hQ : ∀ h', RaisedN base outer e (.ref 52) news h' → g.UpToSlots h' → Q () { s' with heap := h' }) (hk : scope.kind = .function := by rfl) :
    wpAny M (A.deeper (envOf name scope L a cd)) (leaving (envOf name scope L a cd) (.ref e)) Q E s' := by
  obtain ⟨he, heL, he0⟩ := N _ (List.mem_cons_self ..)
  dsimp only at he heL he0
  have F₀ : Fr g L (hideAll s'.heap [e]) m := ⟨F.ns.at' fun o x => hideAll_get _ x (by simpa using Ne.symm heL), fun b o x => hideAll_get _ (F.keep b o x) (by intro q; rw [List.mem_singleton.mp q, he0] at x; cases x), F.above⟩
  have N₀ : News g L (hideAll s'.heap [e]) news := fun q hq => ⟨hideAll_get _ (N q (List.mem_cons_of_mem _ hq)).1 (by simpa using hne q hq), (N q (List.mem_cons_of_mem _ hq)).2⟩
  have keeps : ∀ b o, (hideAll s'.heap [e]).get? b = some o → s'.heap.get? b = some o := fun b o x => of_hideAll _ x
  have new : (hideAll s'.heap [e]).get? e = none := hideAll_none _ (List.mem_singleton.mpr rfl)
  generalize hideAll s'.heap [e] = h at F₀ N₀ keeps new
  have K' := K.push (name := name) (a := a) (cd := cd) F₀ hk
  have hin : ∀ env ∈ (envOf name scope L a cd :: outer), ∀ b, env.frame = some b → b ∈ (envOf name scope L a cd :: outer).filterMap (·.frame) := fun env he b hb => List.mem_filterMap.mpr ⟨env, he, hb⟩
  have st : base.StaysIn (hideAll h ((envOf name scope L a cd :: outer).filterMap (·.frame))) := fun b o q => hideAll_get _ (K'.stays b o q) fun hm => by
    rw [(K'.frames.mem hm).1] at q; cases q
  have hl : ∀ q ∈ news, (hideAll h ((envOf name scope L a cd :: outer).filterMap (·.frame))).get? q.1 = some q.2 ∧ base.get? q.1 = none := fun q hq => by
    refine ⟨hideAll_get _ (N₀ q hq).1 fun hm => ?_, fresh_of_stays K.stays (N₀ q hq).2.2⟩
    obtain ⟨env, he, hf⟩ := List.mem_filterMap.mp hm
    rcases List.mem_cons.mp he with rfl | he
    · exact (N₀ q hq).2.1 (Option.some.inj hf).symm
    · obtain ⟨o, ho, _⟩ := (K.frames.mem (List.mem_filterMap.mpr ⟨env, he, hf⟩)).2
      rw [(N₀ q hq).2.2] at ho; cases ho
  have hen : (hideAll h ((envOf name scope L a cd :: outer).filterMap (·.frame))).get? e = none := by
    cases q : (hideAll h ((envOf name scope L a cd :: outer).filterMap (·.frame))).get? e with
    | none => rfl
    | some o => have := of_hideAll _ q; rw [new] at this; cases this
  refine wpAny_leaving_firstW (a0 := .ref t) K'.stack ((funFrames_hide K'.frames hin).of_keeps fun b o hb _ => ⟨o, keeps b o hb, rfl⟩) rfl he (fun b o hb => keeps b o (of_hideAll _ hb)) hen rfl rfl rfl fun h' hL => ?_
  obtain ⟨k1, ⟨_, _, k2⟩, k3, k4⟩ := hL
  exact hQ h' ⟨_, .ref t, st, hl, k1, hen, k2, k3⟩ (((Heap.UpToSlots.of_keeps F₀.keep).trans (Heap.UpToSlots.of_keeps keeps)).trans k4)
end
end Mine
end

section
open PySem PySem.W PyProof.Rows PySem.Calls
namespace Mine
section
variable {w : World} {A₀ : Around} {E : Value → Shared → Prop} {s' : Shared} {h₀ h : Heap} {outer : List Env} {L a e : Addr} {m : Str → Option Value} {cn : Str} {cs : Scope} {ccd : Value} {cl : List (Str × Addr)}
  {b₀ : Stmt} {suite : List Stmt} {pos np : Pos} {rest : List ExceptHandler} {Q : Flow → Shared → Prop} {news : List (Addr × Obj)}
  {p : Program} {loose : List Str} {mean : ExcName → Option Value} {mg mb : Str → Option Value}
theorem caught_bad (B : Below A₀ h₀ outer h₀) (F : Fr h₀ L h m) (hsm : h.UpToSlots s'.heap) (R : RaisedN h₀ (envX cn cs L a ccd cl :: outer) e (.ref 52) news s'.heap)
    (X : (K w.params).In h₀) (T : TopRead p loose mg mb h₀)
    (k : ∀ h', Fr h₀ L h' m → News h₀ L h' news →
      wpAny (model PR w) ((A₀.deeper (envX cn cs L a ccd cl)).mark (some (.ref e))) (execs (b₀ :: suite) (envX cn cs L a ccd cl)) Q E { s' with heap := h' })
    (hk : cs.kind = .function := by rfl) (hx : (envX cn cs L a ccd cl).kindOf ("BadObject" : Str) = some .globalImplicit := by rfl)
    (hE : PassesOwnAt (model PR w) ((A₀.deeper (envX cn cs L a ccd cl)).mark (some (.ref e))) (A₀.deeper (envX cn cs L a ccd cl)) (envX cn cs L a ccd cl) E := by passes_own) :
    wpAny (model PR w) (A₀.deeper (envX cn cs L a ccd cl)) (noteFrame (.ref e) (envX cn cs L a ccd cl))
      (fun _ s₂ => wpAny (model PR w) (A₀.deeper (envX cn cs L a ccd cl)) (setFlight (.ref e) none) (fun _ s₃ =>
        wpAny (model PR w) (A₀.deeper (envX cn cs L a ccd cl)) (handleBy (.ref e) (envX cn cs L a ccd cl) (.ExceptHandler (some (.Name ("BadObject" : Str) np)) none (b₀ :: suite) pos :: rest)) Q E s₃) E s₂) E s' := by
  obtain ⟨B', a0, hB, hl, hfl⟩ := R
  have hL : B'.get? L = none := by
    obtain ⟨_, ⟨L', _, hf, hn', _⟩, _⟩ := hfl.2.2.1
    obtain rfl : L = L' := Option.some.inj hf
    exact hn'
  refine wpAny_looks_onW (Around.frames_deeper B.stack) rfl hfl fun h₄ hheld₄ hsm₄ => ?_
  refine wpAny_landsW hheld₄ fun h₅ hheld hsm₅' => ?_
  have hsm₅ := hsm₄.trans hsm₅'
  have hheld' := flyingW_base hB hheld
  have F₅ := F.of_stays hheld'.1 (hsm.trans hsm₅)
  obtain ⟨ob, hob, hobc⟩ := hheld'.there
  refine wpAny_handleBy_cons (codeAny_handlers_test (nameX_K (v := .ref 52) F₅ X T (by rfl) ?_ hk hx (by decide))) (by intro q; cases q)
  have hC := badAt (X.keeps F₅.keep)
  obtain ⟨hp, g, dr, tt, os⟩ := s'
  refine wpAny_excMatches_sub_self hC hob hobc (by decide) (codeAny_handlers_suite ?_)
  refine lands_againW hheld fun h₆ hfl₆ hsm₆ => ?_
  have F₆ := F.of_stays (flyingW_base hB hfl₆).1 ((hsm.trans hsm₅).trans hsm₆)
  exact wpAny_passesOwnAt hE (k h₆ F₆ fun q hq => ⟨hfl₆.1 _ _ (hl q hq).1, (fun z => by have := (hl q hq).1; rw [z, hL] at this; cases this), (hl q hq).2⟩)
theorem leave_X {M : Model} {base : Heap} {g₂ g : Heap} {Q : Unit → Shared → Prop} {cls : Value} (K : Below A₀ base outer g) (F : Fr g L g₂ m) (R : RaisedN base (envX cn cs L a ccd cl :: outer) e cls news s'.heap) (hsm : g₂.UpToSlots s'.heap)
    (hQ : ∀ h', RaisedN base outer e cls news h' → g.UpToSlots h' → Q () { s' with heap := h' }) :
    wpAny M (A₀.deeper (envX cn cs L a ccd cl)) (leaving (envX cn cs L a ccd cl) (.ref e)) Q E s' := by
  obtain ⟨B, a0, hB, hl, hfl⟩ := R
  exact wpAny_leaves_onW (Around.frames_deeper K.stack) rfl hfl fun h' x1 x2 => hQ h' ⟨B, a0, hB, hl, x1⟩ ((Heap.UpToSlots.of_keeps F.keep).trans (hsm.trans x2))
theorem raisedN_sub {base : Heap} {l : List Env} {cls : Value} {news' : List (Addr × Obj)} {h : Heap} (R : RaisedN base l e cls news' h) (hs : ∀ p ∈ news, p ∈ news') : RaisedN base l e cls news h := by
  obtain ⟨B, a0, hB, hl, hfl⟩ := R
  exact ⟨B, a0, hB, fun q hq => hl q (hs q hq), hfl⟩
end
end Mine
end

section
open PySem PySem.W PyProof.Rows PySem.Calls PySem.Spec PyProof.Rows.LCg
namespace Mine
def SrcB (prog : Program) (w : World) (A : Around) (h₀ : Heap) (L : Addr) (m : Str → Option Value) (env : Env) (elt : Expr) (x : Str) (scope : Scope) (cl : List (Str × Addr)) (Fin : Shared → List Value → List (Addr × Obj) → Prop) (xv : Value) (s₁ : Shared) : Prop :=
  ∃ b t news, xv = .bytes b t ∧ A.handled = none ∧ Fr h₀ L s₁.heap m ∧ News h₀ L s₁.heap news ∧ b.size ≤ sizeLine ∧
    ∀ s₂ : Shared, (∃ h, s₂ = { s₁ with heap := h }) → CompRest prog w A h₀ L m env elt x scope cl s₂ (fun _ => True) (fun i v => ∃ c u, b[i]? = some c ∧ v = .int (c.toNat : Int) u) (Fin s₂) b.size 0 [] news
def SrcS (prog : Program) (w : World) (A : Around) (h₀ : Heap) (L : Addr) (m : Str → Option Value) (env : Env) (elt : Expr) (x : Str) (scope : Scope) (cl : List (Str × Addr)) (Fin : Shared → List Value → List (Addr × Obj) → Prop) (xv : Value) (s₁ : Shared) : Prop :=
  ∃ z t news, xv = .str z t ∧ A.handled = none ∧ Fr h₀ L s₁.heap m ∧ News h₀ L s₁.heap news ∧ z.cps.size ≤ sizeLine ∧
    ∀ s₂ : Shared, (∃ h, s₂ = { s₁ with heap := h }) → CompRest prog w A h₀ L m env elt x scope cl s₂ (fun _ => True) (SignAt z) (Fin s₂) z.cps.size 0 [] news
def MySrc (prog : Program) (w : World) (A : Around) (h₀ : Heap) (L : Addr) (m : Str → Option Value) (env : Env) (elt : Expr) (x : Str) (scope : Scope) (cl : List (Str × Addr)) (Fin : Shared → List Value → List (Addr × Obj) → Prop) (xv : Value) (s₁ : Shared) : Prop :=
  SrcB prog w A h₀ L m env elt x scope cl Fin xv s₁ ∨ SrcS prog w A h₀ L m env elt x scope cl Fin xv s₁
section
variable {prog : Program} {w : World} {A : Around} {E : Value → Shared → Prop} {s : Shared} {h₀ : Heap} {L : Addr} {m : Str → Option Value} {env : Env}
theorem bytes_st {I : Addr} {b : Array UInt8} {t : Tok} : ∀ i (h h' : Heap) (o : Obj) (nw : List (Addr × Obj)), KBw.IsBytesIter h I b t i → h.get? I = some o → h'.get? I = some o → (∀ b o, h₀.get? b = some o → h'.get? b = some o) → News h₀ L h' nw → True → KBw.IsBytesIter h' I b t i :=
  fun i h h' o nw st e e' _ _ _ => by obtain ⟨o', q, r⟩ := st; rw [e] at q; cases q; exact ⟨o, e', r⟩
theorem ListComp_V {elt iter : Expr} {x : Str} {px : Pos} {scope : Scope} {cl : List (Str × Addr)} {pos : Pos} {Q : Value → Shared → Prop} (F₀ : Fr h₀ L s.heap m)
    (hclos : closureFor scope env = pure cl) (hcell : ∀ y ∈ scope.names, y.2 ≠ .cell) (hkind : scope.kind = .function)
    (hnames : ∀ y ∈ scope.names, y.2 = .local → scope.names.lookup y.1 = some .local) (hx : scope.names.lookup x = some .local)
    (h : wpAny (model prog w) A (eval iter env) (MySrc prog w A h₀ L m env elt x scope cl (fun s₂ => FinE h₀ L m s₂ Q)) E s)
    (hs : ∀ x, foldedSetIterable iter env x = pure x := by intro _; rfl) :
    wpAny (model prog w) A (eval (.ListComp elt [⟨.Name x px, iter, [], 0⟩] scope pos) env) Q E s := by
  rw [eval_ListComp]
  refine wpAny_comprehension_free (use := none) rfl hs hclos hkind hnames (wpAny_mono h (fun xv s₁ h₁ => ?_) fun _ _ e => e)
  have fin : ∀ {s₂ : Shared}, ∀ D C h tk m' ys news', Fr h₀ L h m → News h₀ L h ((D, lst ys) :: news') → Off1 D news' → h.Ns C m' → h₀.get? C = none → h₀.get? D = none → C ≠ L → D ≠ L → C ≠ D → (∀ p ∈ news', p.1 ≠ C) → FinE h₀ L m s₂ Q ys news' → compPost (model prog w) A E none Q (.ref D) C (.ok .next) { s₂ with heap := h, toks := tk } := by
    intro s₂ D C h tk m' ys news' F' N' o1 hn hC₀ hD₀ hCL hDL hCD offC fin
    refine ⟨m', hn, fun h'' hs'' => fin D h'' tk (F'.change hs'' hCL hC₀) (fun p hp => ?_) o1⟩
    refine ⟨hs''.extBut _ _ ?_ (N' p hp).1, (N' p hp).2⟩
    rcases List.mem_cons.mp hp with rfl | hp
    · exact Ne.symm hCD
    · exact offC p hp
  have new : ∀ {s₁ : Shared} {o : Obj}, ∀ b ∈ [s₁.heap.objs.size], b < (s₁.heap.push o).objs.size := fun b hb => by
    rw [List.mem_singleton.mp hb, Heap.size_push]; exact Nat.lt_succ_self _
  rcases h₁ with ⟨b, t, news, rfl, hh, F, N, hsz, R⟩ | ⟨z, t, news, rfl, hh, F, N, hsz, R⟩
  · refine KBw.pyIter_bytes ?_
    exact block_U (KBw.walks hh s₁.heap.objs.size b t) hsz (fun i h st => by obtain ⟨o, e, _⟩ := st; exact ⟨o, e⟩) bytes_st hcell hkind hx ⟨_, Heap.get?_push_size _ rfl, rfl, rfl⟩ new
      (F.keeps fun _ _ e => Heap.get?_push_of_some _ e) (N.grown fun _ _ e => Heap.get?_push_of_some _ e) (Nat.ne_of_lt F.ns.lt) (next_is_new F) (fun p hp => Nat.ne_of_lt (Heap.lt_size (N p hp).1)) trivial (R _ ⟨_, rfl⟩) fin
  · cases ha : z.cps.all (· < 128)
    · refine wpAny_pyIter_wide ha ?_
      exact block_U (Walks.strWide hh s₁.heap.objs.size z t) hsz (fun i h st => by obtain ⟨o, e, _⟩ := st; exact ⟨o, e⟩) (fun i h h' o nw st e e' _ _ _ => by obtain ⟨o', q, r⟩ := st; rw [e] at q; cases q; exact ⟨o, e', r⟩) hcell hkind hx ⟨_, Heap.get?_push_size _ rfl, rfl, rfl⟩ new
        (F.keeps fun _ _ e => Heap.get?_push_of_some _ e) (N.grown fun _ _ e => Heap.get?_push_of_some _ e) (Nat.ne_of_lt F.ns.lt) (next_is_new F) (fun p hp => Nat.ne_of_lt (Heap.lt_size (N p hp).1)) trivial (R _ ⟨_, rfl⟩) fin
    · refine wpAny_pyIter_ascii ha ?_
      exact block_U (Walks.strAscii hh s₁.heap.objs.size z t) hsz (fun i h st => by obtain ⟨o, e, _⟩ := st; exact ⟨o, e⟩) (fun i h h' o nw st e e' _ _ _ => by obtain ⟨o', q, r⟩ := st; rw [e] at q; cases q; exact ⟨o, e', r⟩) hcell hkind hx ⟨_, Heap.get?_push_size _ rfl, rfl, rfl⟩ new
        (F.keeps fun _ _ e => Heap.get?_push_of_some _ e) (N.grown fun _ _ e => Heap.get?_push_of_some _ e) (Nat.ne_of_lt F.ns.lt) (next_is_new F) (fun p hp => Nat.ne_of_lt (Heap.lt_size (N p hp).1)) trivial (R _ ⟨_, rfl⟩) fin
theorem Assign_ListComp_V {elt iter : Expr} {x y : Str} {px py : Pos} {scope : Scope} {cl : List (Str × Addr)} {pos spos : Pos} {Q : Flow → Shared → Prop} (F₀ : Fr h₀ L s.heap m) (hLe : env.locals = L)
    (hsw : swapsWith (.ListComp elt [⟨.Name x px, iter, [], 0⟩] scope pos) (some (.Name y py)) spos.line env = pure true)
    (hclos : closureFor scope env = pure cl) (hcell : ∀ z ∈ scope.names, z.2 ≠ .cell) (hkind : scope.kind = .function)
    (hnames : ∀ z ∈ scope.names, z.2 = .local → scope.names.lookup z.1 = some .local) (hx : scope.names.lookup x = some .local)
    (hy : env.kindOf y = some .local) (hp : (env.scope.kind == .class || (env.scope.kind == .module && env.locals != env.globals)) = false)
    (h : wpAny (model prog w) A (eval iter env) (MySrc prog w A h₀ L m env elt x scope cl (fun s₂ => FinA h₀ L m s₂ y Q)) E s)
    (hs : ∀ x, foldedSetIterable iter env x = pure x := by intro _; rfl) :
    wpAny (model prog w) A (exec (.Assign [.Name y py] (.ListComp elt [⟨.Name x px, iter, [], 0⟩] scope pos) spos) env) Q E s := by
  subst hLe
  rw [exec_Assign_Name_used _ _ _ _ hsw]
  refine wpAny_bind (wpAny_standAt (wpAny_bind ?_))
  show wpAny _ A (do let _ ← comprehension (.ListComp elt [⟨.Name x px, iter, [], 0⟩] scope pos) scope env _ (newList []) false (eval iter env) (some (assign (.Name y py) env))) _ _ s
  refine wpAny_bind (wpAny_mono (wpAny_comprehension_free (use := some (assign (.Name y py) env)) (Q := fun _ s' => Q .next s') rfl hs hclos hkind hnames
    (wpAny_mono h (fun xv s₁ h₁ => ?_) fun _ _ e => e)) (fun _ s' hq => wpAny_pure (wpAny_pure hq)) fun _ _ e => e)
  have fin : ∀ {s₂ : Shared}, ∀ D C h tk m' ys news', Fr h₀ env.locals h m → News h₀ env.locals h ((D, lst ys) :: news') → Off1 D news' → h.Ns C m' → h₀.get? C = none → h₀.get? D = none → C ≠ env.locals → D ≠ env.locals → C ≠ D → (∀ p ∈ news', p.1 ≠ C) → FinA h₀ env.locals m s₂ y Q ys news' →
      compPost (model prog w) A E (some (assign (.Name y py) env)) (fun _ s' => Q .next s') (.ref D) C (.ok .next) { s₂ with heap := h, toks := tk } := by
    intro s₂ D C h' tk m' ys news' F' N' o1 hn hC₀ hD₀ hCL hDL hCD offC fin
    show wpAny _ A (assign (.Name y py) env (.ref D)) _ _ _
    refine wpAny_assign_Name (wpAny_storeName_local hy F'.ns (fun h₂ hn₂ hs₂ => ?_) hp)
    have hL₀ : h₀.get? env.locals = none := Heap.get?_none_of_le F'.above
    have F₂ : Fr h₀ env.locals h₂ (fun z => if z = y then some (.ref D) else m z) := ⟨hn₂, fun b o e => hs₂.extBut b o (fun q => by rw [q, hL₀] at e; cases e) (F'.keep b o e), F'.above⟩
    refine ⟨m', hn.sameBut hs₂ hCL, fun h'' hs'' => fin D h'' _ (F₂.change hs'' hCL hC₀) (fun p hp => ?_) o1⟩
    have z : h₂.get? p.1 = some p.2 := hs₂.extBut _ _ (N' p hp).2.1 (N' p hp).1
    refine ⟨hs''.extBut _ _ ?_ z, (N' p hp).2⟩
    rcases List.mem_cons.mp hp with rfl | hp
    · exact Ne.symm hCD
    · exact offC p hp
  have new : ∀ {s₁ : Shared} {o : Obj}, ∀ b ∈ [s₁.heap.objs.size], b < (s₁.heap.push o).objs.size := fun b hb => by
    rw [List.mem_singleton.mp hb, Heap.size_push]; exact Nat.lt_succ_self _
  rcases h₁ with ⟨b, t, news, rfl, hh, F, N, hsz, R⟩ | ⟨z, t, news, rfl, hh, F, N, hsz, R⟩
  · refine KBw.pyIter_bytes ?_
    exact block_U (KBw.walks hh s₁.heap.objs.size b t) hsz (fun i h st => by obtain ⟨o, e, _⟩ := st; exact ⟨o, e⟩) bytes_st hcell hkind hx ⟨_, Heap.get?_push_size _ rfl, rfl, rfl⟩ new
      (F.keeps fun _ _ e => Heap.get?_push_of_some _ e) (N.grown fun _ _ e => Heap.get?_push_of_some _ e) (Nat.ne_of_lt F.ns.lt) (next_is_new F) (fun p hp => Nat.ne_of_lt (Heap.lt_size (N p hp).1)) trivial (R _ ⟨_, rfl⟩) fin
  · cases ha : z.cps.all (· < 128)
    · refine wpAny_pyIter_wide ha ?_
      exact block_U (Walks.strWide hh s₁.heap.objs.size z t) hsz (fun i h st => by obtain ⟨o, e, _⟩ := st; exact ⟨o, e⟩) (fun i h h' o nw st e e' _ _ _ => by obtain ⟨o', q, r⟩ := st; rw [e] at q; cases q; exact ⟨o, e', r⟩) hcell hkind hx ⟨_, Heap.get?_push_size _ rfl, rfl, rfl⟩ new
        (F.keeps fun _ _ e => Heap.get?_push_of_some _ e) (N.grown fun _ _ e => Heap.get?_push_of_some _ e) (Nat.ne_of_lt F.ns.lt) (next_is_new F) (fun p hp => Nat.ne_of_lt (Heap.lt_size (N p hp).1)) trivial (R _ ⟨_, rfl⟩) fin
    · refine wpAny_pyIter_ascii ha ?_
      exact block_U (Walks.strAscii hh s₁.heap.objs.size z t) hsz (fun i h st => by obtain ⟨o, e, _⟩ := st; exact ⟨o, e⟩) (fun i h h' o nw st e e' _ _ _ => by obtain ⟨o', q, r⟩ := st; rw [e] at q; cases q; exact ⟨o, e', r⟩) hcell hkind hx ⟨_, Heap.get?_push_size _ rfl, rfl, rfl⟩ new
        (F.keeps fun _ _ e => Heap.get?_push_of_some _ e) (N.grown fun _ _ e => Heap.get?_push_of_some _ e) (Nat.ne_of_lt F.ns.lt) (next_is_new F) (fun p hp => Nat.ne_of_lt (Heap.lt_size (N p hp).1)) trivial (R _ ⟨_, rfl⟩) fin
/-- the turns by an invariant -/
theorem comp_inv {elt : Expr} {x : Str} {scope : Scope} {cl : List (Str × Addr)} {S : List (Addr × Obj) → Prop} {P : Nat → Value → Prop} {Fin : List Value → List (Addr × Obj) → Prop} {n : Nat} {news : List (Addr × Obj)} (R : Nat → List Value → List (Addr × Obj) → Prop) (h0 : R 0 [] news)
    (turn : ∀ i v ys news I oI C oC D m₂ h tk (E' : Value → Shared → Prop), i < n → P i v → R i ys news → NsObj oC m₂ → m₂ x = some v → Fr h₀ L h m → News h₀ L h ((I, oI) :: (C, oC) :: (D, lst ys) :: news) → Off3 I C D news → ((@Ne Nat I C) ∧ (@Ne Nat I D) ∧ (@Ne Nat C D)) →
      wpAny (model prog w) A (eval elt (compEnvC scope cl C env)) (CompEnd h₀ L m { s with heap := h, toks := tk } I oI C oC D (lst ys) S (fun y news' => R (i + 1) (ys ++ [y]) news')) E' { s with heap := h, toks := tk })
    (fin : ∀ ys news', R n ys news' → Fin ys news') : CompRest prog w A h₀ L m env elt x scope cl s S P Fin n 0 [] news := by
  have key : ∀ (j i : Nat) (ys : List Value) (news' : List (Addr × Obj)), i + j = n → R i ys news' → CompRest prog w A h₀ L m env elt x scope cl s S P Fin j i ys news' := by
    intro j
    induction j with
    | zero =>
      intro i ys news' hi hr
      obtain rfl : i = n := by (first | k_extra "ar" | lia | omega)
      exact CompRest.zero (fin ys news' hr)
    | succ j ih =>
      intro i ys news' hi hr
      refine CompRest.succ ?_
      intro v I oI C oC D m₂ h tk E' hv hC hx F N off ne
      refine wpAny_mono (turn i v ys news' I oI C oC D m₂ h tk E' (by (first | k_extra "ar" | lia | omega)) hv hr hC hx F N off ne) (fun y s₂ hq => ?_) fun _ _ e => e
      obtain ⟨h', tk', nw, e, F', N', off', hS, hn⟩ := hq
      exact ⟨h', tk', nw, e, F', N', off', hS, ih (i + 1) _ _ (by (first | k_extra "ar" | lia | omega)) hn⟩
  exact key n 0 [] news (by (first | k_extra "ar" | lia | omega)) h0
end
end Mine
end

section
open PySem PySem.W PyProof.Rows PySem.Calls PySem.Spec
namespace Mine
section
variable {prog : Program} {w : World} {A : Around} {E : Value → Shared → Prop} {s : Shared} {env : Env} {h₀ : Heap} {x : Str} {body : List Stmt} {Q : Flow → Shared → Prop}
/-- what holds between two turns: a state c, its part of the ledger, the names that it gives, those forgotten -/
def FJ {σ : Type} (x : Str) (m₀ : Str → Option Value) (stored : List Str) (ps : σ → List (Str × Value)) (led : σ → List (Addr × Obj)) (P : Nat → σ → Prop) (i : Nat) (m' : Str → Option Value) (nx : List (Addr × Obj)) : Prop :=
  ∃ c, P i c ∧ nx = led c ∧ (∀ p ∈ ps c, m' p.1 = some p.2) ∧ ∀ z, z ≠ x → (∀ p ∈ ps c, z ≠ p.1) → stored.contains z = false → m' z = m₀ z
theorem for_inv {σ : Type} {l : Addr} {vs : List Value} {nn : Nat} {news : List (Addr × Obj)} (stored : List Str) (ps : σ → List (Str × Value)) (led : σ → List (Addr × Obj)) (P : Nat → σ → Prop) (c₀ : σ) {m₀ : Str → Option Value}
    (hh : A.handled = none) (hl : ∀ c i, P i c → (l, listOf vs.toArray nn) ∈ led c) (F : Fr h₀ env.locals s.heap m₀) (N : News h₀ env.locals s.heap news) (h0 : P 0 c₀) (hk : ∀ p ∈ ps c₀, m₀ p.1 = some p.2) (hsub : ∀ p ∈ led c₀, p ∈ news)
    (turn : ∀ i v c (u : Str → Option Value) h tk own, vs[i]? = some v → P i c → OwnOff own ((led c).map (·.1)) → Fr h₀ env.locals h (fun y => if y = x then some v else kstB (fun z => if stored.contains z then u z else m₀ z) (ps c) y) → News h₀ env.locals h (led c ++ own) →
      wpAny (model prog w) A (execs body env) (InvPostG h₀ env.locals (FJ x m₀ stored ps led P (i + 1)) own { s with heap := h, toks := tk } Q) E { s with heap := h, toks := tk })
    (done : ∀ c (u : Str → Option Value) h tk, P vs.length c → Fr h₀ env.locals h (fun y => if y = x then u y else kstB (fun z => if stored.contains z then u z else m₀ z) (ps c) y) → News h₀ env.locals h (led c) → Q .next { s with heap := h, toks := tk }) :
    wpAny (model prog w) A (pyIter (.ref l)) (fun it s₂ => LoopAtV prog w A h₀ env x body Q E it s₂) E s := by
  refine kdl_iter (news := led c₀) (FJ x m₀ stored ps led P) hh (hl _ _ h0) F (fun p hp => N p (hsub p hp)) ⟨c₀, h0, rfl, hk, fun _ _ _ _ => rfl⟩ ?_ ?_
  · rintro i v m₁ nx h tk own hv hoff hmem ⟨c, hP, rfl, h1, h2⟩ F₁ N₁
    refine wpAny_mono (turn i v c m₁ h tk own hv hP hoff (kst_fr h1 h2 F₁) N₁) (fun f s₂ hq => ?_) fun _ _ e => e
    have fin : InvEndG h₀ env.locals (FJ x m₀ stored ps led P (i + 1)) own { s with heap := h, toks := tk } s₂ → InvEndG h₀ env.locals (fun m' nx => (l, listOf vs.toArray nn) ∈ nx ∧ FJ x m₀ stored ps led P (i + 1) m' nx) own { s with heap := h, toks := tk } s₂ := by
      rintro ⟨h', tk', m', news', nx, e, F', N', a1, a2, a3, hj⟩
      obtain ⟨c', hP', rfl, hz'⟩ := id hj
      exact ⟨h', tk', m', news', _, e, F', N', a1, a2, a3, hl _ _ hP', hj⟩
    cases f with
    | ret v => exact hq
    | brk => exact hq
    | next => exact fin hq
    | cont => exact fin hq
  · rintro m₁ nx h tk ⟨c, hP, rfl, h1, h2⟩ F₁ N₁
    exact done c m₁ h tk hP (kst_frOut h1 h2 F₁) N₁
theorem for_end {σ : Type} {m₀ : Str → Option Value} {stored : List Str} {ps : σ → List (Str × Value)} {led : σ → List (Addr × Obj)} {P : Nat → σ → Prop} {i : Nat} {own nw : List (Addr × Obj)} {L : Addr} {m' : Str → Option Value} {s₁ : Shared} {h' : Heap} {tk : Nat} (c : σ) (hP : P i c) (F : Fr h₀ L h' m') (N : News h₀ L h' nw)
    (hk : ∀ p ∈ ps c, m' p.1 = some p.2) (hm : ∀ z, z ≠ x → (∀ p ∈ ps c, z ≠ p.1) → stored.contains z = false → m' z = m₀ z)
    (hn : ∀ p ∈ led c, p ∈ nw) (ho : ∀ p ∈ own, p ∈ nw) (ha : OwnOff own ((led c).map (·.1))) : InvEndG h₀ L (FJ x m₀ stored ps led P i) own s₁ { s₁ with heap := h', toks := tk } :=
  InvEndG.intro F N ⟨c, hP, rfl, hk, hm⟩ ha hn ho
/-- over bytes -/
theorem forB_inv {σ : Type} {b : Array UInt8} {t : Tok} {news : List (Addr × Obj)} (stored : List Str) (ps : σ → List (Str × Value)) (led : σ → List (Addr × Obj)) (P : Nat → σ → Prop) (c₀ : σ) {m₀ : Str → Option Value}
    (hh : A.handled = none) (F : Fr h₀ env.locals s.heap m₀) (N : News h₀ env.locals s.heap news) (h0 : P 0 c₀) (hk : ∀ p ∈ ps c₀, m₀ p.1 = some p.2) (hsub : ∀ p ∈ led c₀, p ∈ news)
    (turn : ∀ i (k : UInt8) t c (u : Str → Option Value) h tk own, b[i]? = some k → P i c → OwnOff own ((led c).map (·.1)) → Fr h₀ env.locals h (fun y => if y = x then some (.int (k.toNat : Int) t) else kstB (fun z => if stored.contains z then u z else m₀ z) (ps c) y) → News h₀ env.locals h (led c ++ own) →
      wpAny (model prog w) A (execs body env) (InvPostG h₀ env.locals (FJ x m₀ stored ps led P (i + 1)) own { s with heap := h, toks := tk } Q) E { s with heap := h, toks := tk })
    (done : ∀ c (u : Str → Option Value) h tk, P b.size c → Fr h₀ env.locals h (fun y => if y = x then u y else kstB (fun z => if stored.contains z then u z else m₀ z) (ps c) y) → News h₀ env.locals h (led c) → Q .next { s with heap := h, toks := tk }) :
    wpAny (model prog w) A (pyIter (.bytes b t)) (fun it s₂ => LoopAtV prog w A h₀ env x body Q E it s₂) E s := by
  refine KBw.pyIter_bytes ?_
  have W := KBw.walks (prog := prog) (w := w) hh s.heap.objs.size b t
  refine kdr_loop (news := led c₀) (FJ x m₀ stored ps led P) W (fun _ h => h) (fun _ h => h) ?_ ?_ ?_ ?_ ⟨_, Heap.get?_push_size _ rfl, rfl, rfl⟩ (F.push _) (fun p hp => ⟨Heap.get?_push_of_some _ (N p (hsub p hp)).1, (N p (hsub p hp)).2⟩) ⟨c₀, h0, rfl, hk, fun _ _ _ _ => rfl⟩ ?_ ?_
  · rintro i h ⟨o, hi, _⟩ b hb
    rw [List.mem_singleton.mp hb]
    exact ⟨_, hi⟩
  · intro hm
    exact absurd F.ns.lt ((List.mem_singleton.mp hm) ▸ Nat.lt_irrefl _)
  · intro b hb
    rw [List.mem_singleton.mp hb]
    exact next_is_new F
  · intro p hp hI
    exact absurd (Heap.lt_size (N p (hsub p hp)).1) ((List.mem_singleton.mp hI) ▸ Nat.lt_irrefl _)
  · rintro i v m₁ nx h tk own hi ⟨k, t, hk', rfl⟩ hoff ⟨c, hP, rfl, h1, h2⟩ F₁ N₁
    exact turn i k t c m₁ h tk own hk' hP hoff (kst_fr h1 h2 F₁) N₁
  · rintro m₁ nx h tk ⟨c, hP, rfl, h1, h2⟩ F₁ N₁
    exact done c m₁ h tk hP (kst_frOut h1 h2 F₁) N₁
/-- over a range -/
theorem forR_inv {σ : Type} {r : Addr} {a₀ b₀ c₁ : Int} {t₀ u₀ v₀ : Tok} {n : Nat} {news : List (Addr × Obj)} (stored : List Str) (ps : σ → List (Str × Value)) (led : σ → List (Addr × Obj)) (P : Nat → σ → Prop) (c₀ : σ) {m₀ : Str → Option Value}
    (hh : A.handled = none) (hr : IsRange s.heap r a₀ b₀ c₁ t₀ u₀ v₀) (hsmall : Builtin.Range.small a₀ b₀ c₁ = true) (hsz : Builtin.Range.rangeSize a₀ b₀ c₁ = (n : Int)) (F : Fr h₀ env.locals s.heap m₀) (N : News h₀ env.locals s.heap news) (h0 : P 0 c₀) (hk : ∀ p ∈ ps c₀, m₀ p.1 = some p.2) (hsub : ∀ p ∈ led c₀, p ∈ news)
    (turn : ∀ (i : Nat) t c (u : Str → Option Value) h tk own, i < n → P i c → OwnOff own ((led c).map (·.1)) → Fr h₀ env.locals h (fun y => if y = x then some (.int (a₀ + (i : Int) * c₁) t) else kstB (fun z => if stored.contains z then u z else m₀ z) (ps c) y) → News h₀ env.locals h (led c ++ own) →
      wpAny (model prog w) A (execs body env) (InvPostG h₀ env.locals (FJ x m₀ stored ps led P (i + 1)) own { s with heap := h, toks := tk } Q) E { s with heap := h, toks := tk })
    (done : ∀ c (u : Str → Option Value) h tk, P n c → Fr h₀ env.locals h (fun y => if y = x then u y else kstB (fun z => if stored.contains z then u z else m₀ z) (ps c) y) → News h₀ env.locals h (led c) → Q .next { s with heap := h, toks := tk }) :
    wpAny (model prog w) A (pyIter (.ref r)) (fun it s₂ => LoopAtV prog w A h₀ env x body Q E it s₂) E s := by
  refine wpAny_pyIter_range hr hsmall ?_
  have W : Walks prog w A s.heap.objs.size [s.heap.objs.size] [s.heap.objs.size] n (fun i v => i < n ∧ ∃ t, v = .int (a₀ + i * c₁) t)
      (fun i h => IsRangeIter h s.heap.objs.size (a₀ + (i : Nat) * c₁) ((n : Int) - (i : Nat)) c₁) := (Walks.range hh _ a₀ c₁ n).bound
  refine kdr_loop (news := led c₀) (FJ x m₀ stored ps led P) W (fun _ h => h) (fun _ h => h) ?_ ?_ ?_ ?_ (by show IsRangeIter _ _ _ _ _; rw [hsz]; simpa using Heap.get?_push_size _ rfl) (F.push _) (fun p hp => ⟨Heap.get?_push_of_some _ (N p (hsub p hp)).1, (N p (hsub p hp)).2⟩) ⟨c₀, h0, rfl, hk, fun _ _ _ _ => rfl⟩ ?_ ?_
  · intro i h hi b hb
    rw [List.mem_singleton.mp hb]
    exact ⟨_, hi⟩
  · intro hm
    exact absurd F.ns.lt ((List.mem_singleton.mp hm) ▸ Nat.lt_irrefl _)
  · intro b hb
    rw [List.mem_singleton.mp hb]
    exact next_is_new F
  · intro p hp hI
    exact absurd (Heap.lt_size (N p (hsub p hp)).1) ((List.mem_singleton.mp hI) ▸ Nat.lt_irrefl _)
  · rintro i v m₁ nx h tk own hi ⟨_, t, rfl⟩ hoff ⟨c, hP, rfl, h1, h2⟩ F₁ N₁
    exact turn i t c m₁ h tk own hi hP hoff (kst_fr h1 h2 F₁) N₁
  · rintro m₁ nx h tk ⟨c, hP, rfl, h1, h2⟩ F₁ N₁
    exact done c m₁ h tk hP (kst_frOut h1 h2 F₁) N₁
end
end Mine
end

section
open PySem PySem.W PyProof.Rows PySem.Calls PySem.Spec
namespace Mine
section
variable {prog : Program} {w : World} {A : Around} {E : Value → Shared → Prop} {s : Shared} {h₀ : Heap} {L D : Addr} {m : Str → Option Value} {news news' : List (Addr × Obj)} {vs : List Value} {n : Nat} {x v : Value} {t : Tok}
theorem set_at {k : Int} {Q : Unit → Shared → Prop} (F : Fr h₀ L s.heap m) (N : News h₀ L s.heap news) (U : Upd D (listOf vs.toArray n) (listOf (vs.set k.toNat v).toArray n) news news') (h0 : 0 ≤ k) (h1 : k < (vs.length : Int)) (hfit : k < 9223372036854775808)
    (h : ∀ h', Fr h₀ L h' m → News h₀ L h' news' → Q () { s with heap := h' }) : wpAny (model prog w) A (setItem (.ref D) (.int k t) v) Q E s := by
  obtain ⟨pre, post, rfl, rfl, a, b⟩ := U.split
  have z := N (D, listOf vs.toArray n) (List.mem_append.mpr (.inr (.head _)))
  refine ki_setAt z.1 h0 hfit (by rw [List.size_toArray]; exact h1) (h _ (F.change (Heap.SameBut.update ..) z.2.1 z.2.2) (ki_turn _ N a b ?_ ?_))
  · show vs.toArray.setIfInBounds k.toNat v = (vs.set k.toNat v).toArray
    apply Array.toList_inj.mp
    simp
  · simp
theorem ki_setLast {l : Addr} {items : Array Value} {Q : Unit → Shared → Prop} (ho : s.heap.get? l = some (listOf items n)) (hn : 0 < items.size)
    (hQ : Q () { s with heap := s.heap.update l (Obj.mapSeq (·.setIfInBounds (items.size - 1) v)) }) : wpAny (model prog w) A (setItem (.ref l) (.int (-1) t) v) Q E s := by
  have hl : s.heap.IsList l items := PySem.IsL.isList (n := n) ho
  unfold setItem
  try with_reducible refine wpAny_holding ?_
  first | refine wpAny_bind (wpAny_pure ?_) | skip
  refine wpAny_bind (wpAny_sequenceKey hl.typeIs (by decide) ?_)
  refine wpAny_bind (wpAny_callSpecial?_slot (name := Str.ofString "__setitem__") hl.typeIs slot_list_setitem
    (wpAny_call_entry slot_list_setitem hl.typeIs entry_list_setitem ?_ (args_list_setitem _ _ _)))
  show wpAny _ _ (Builtin.List.listSubscript? (.int (-1) t) >>= _) _ _ s
  refine wpAny_bind (wpAny_listSubscript_int (fitsIndex_neg (by decide) (by decide)) ?_)
  have hidx : seqIndex? (-1) items.size = some (items.size - 1) := by
    rw [seqIndex_neg (by decide) (by omega)]
    congr 1
    omega
  have hx' : items[items.size - 1]? = some items[items.size - 1] := Array.getElem?_eq_getElem (by omega)
  show wpAny _ _ ((Builtin.List.listItems (.ref l) >>= fun xs => pure ((seqIndex? (Int.negSucc 0) xs.size).bind fun i => xs[i]?.map (i, ·))) >>= _) _ _ s
  refine wpAny_bind (wpAny_bind ?_)
  show wpAny _ _ (seqItems? (.ref l) >>= _) _ _ s
  refine wpAny_bind (wpAny_seqItems ho (show (listOf items n).data = .seq items n from rfl) (wpAny_pure (wpAny_pure ?_)))
  rw [show Int.negSucc 0 = -1 from rfl, hidx]
  simp only [Option.bind_some, hx', Option.map_some]
  show wpAny _ _ (setSeqItemAt l (items.size - 1) v >>= _) _ _ s
  refine wpAny_bind (wpAny_setSeqItemAt ho (show (listOf items n).data = .seq items n from rfl) ?_)
  first
    | exact wpAny_bind (wpAny_pure (wpAny_pure ⟨.none, rfl, wpAny_pure hQ⟩))
    | exact wpAny_pure ⟨.none, rfl, wpAny_pure hQ⟩
theorem set_last {Q : Unit → Shared → Prop} (F : Fr h₀ L s.heap m) (N : News h₀ L s.heap news) (U : Upd D (listOf (vs ++ [x]).toArray n) (listOf (vs ++ [v]).toArray n) news news')
    (h : ∀ h', Fr h₀ L h' m → News h₀ L h' news' → Q () { s with heap := h' }) : wpAny (model prog w) A (setItem (.ref D) (.int (-1) t) v) Q E s := by
  obtain ⟨pre, post, rfl, rfl, a, b⟩ := U.split
  have z := N (D, listOf (vs ++ [x]).toArray n) (List.mem_append.mpr (.inr (.head _)))
  refine ki_setLast z.1 (by simp) (h _ (F.change (Heap.SameBut.update ..) z.2.1 z.2.2) (ki_turn _ N a b ?_ ?_))
  · show (vs ++ [x]).toArray.setIfInBounds ((vs ++ [x]).toArray.size - 1) v = (vs ++ [v]).toArray
    apply Array.toList_inj.mp
    simp
  · simp
theorem sub_last {value slice : PySem.Expr} {Q : Value → Shared → Prop} (hl : s.heap.IsList D (vs ++ [x]).toArray) (h : Q x s)
    (hs : subscripted slice false (.ref D) (.int (-1) t) = operate [.ref D, .int (-1) t] (getItem (.ref D) (.int (-1) t)) := by with_unfolding_all rfl) :
    wpAny (model prog w) A (subscriptTail value slice (.ref D) (.int (-1) t)) Q E s := by
  refine tail_any hl.typeIs slot_list_getitem.lookup (wpAny_getItem_list_neg hl (by decide) ?_ (by decide) (x := x) ?_ h) hs
  · simp; omega
  · have e : ((-1 : Int) + ((vs ++ [x]).toArray.size : Nat)).toNat = vs.length := by simp; omega
    rw [e]
    simp
theorem sub_at {value slice : PySem.Expr} {k : Int} {Q : Value → Shared → Prop} (hl : s.heap.IsList D vs.toArray) (h0 : 0 ≤ k) (hfit : k < 9223372036854775808) (hx : vs[k.toNat]? = some x) (h : Q x s)
    (hs : subscripted slice false (.ref D) (.int k t) = operate [.ref D, .int k t] (getItem (.ref D) (.int k t)) := by with_unfolding_all rfl) :
    wpAny (model prog w) A (subscriptTail value slice (.ref D) (.int k t)) Q E s :=
  tail_any hl.typeIs slot_list_getitem.lookup (wpAny_getItem_list hl h0 hfit (by simpa using hx) h) hs
theorem len_my {Q : Value → Shared → Prop} (hl : s.heap.IsList D vs.toArray) (hfit : (vs.length : Int) < 9223372036854775808) (h : ∀ t k, Q (.int (vs.length : Int) t) { s with toks := k }) : wpAny (model prog w) A (call (.builtin "len") [.ref D]) Q E s :=
  len_list hl (by rw [List.size_toArray]; exact hfit) (by rw [List.size_toArray]; exact h _ _)
end
theorem pick_gen (vs : List Value) (lo hi : Option Int) : (slicePick vs.toArray lo hi none).toList = (vs.drop (lo.elim 0 (clipAt vs.length))).take (hi.elim vs.length (clipAt vs.length) - lo.elim 0 (clipAt vs.length)) := by
  unfold slicePick
  rw [sliceBounds_plain]
  simp only [sliceRange_one, pick_run, List.size_toArray]
theorem pick_lo {vs : List Value} {k : Int} (h : 0 ≤ k) : (slicePick vs.toArray (some k) none none).toList = vs.drop k.toNat := by
  rw [pick_gen]
  obtain ⟨k, rfl⟩ := Int.eq_ofNat_of_zero_le h
  simp only [Option.elim, clipAt_nat, Int.toNat_natCast]
  rcases Nat.le_total k vs.length with q | q
  · rw [Nat.min_eq_left q, List.take_of_length_le (by simp)]
  · rw [Nat.min_eq_right q, List.drop_eq_nil_of_le q, Nat.sub_self, List.take_zero]
theorem pick_hi {vs : List Value} {k : Int} (h : 0 ≤ k) : (slicePick vs.toArray none (some k) none).toList = vs.take k.toNat := by
  rw [pick_gen]
  obtain ⟨k, rfl⟩ := Int.eq_ofNat_of_zero_le h
  simp only [Option.elim, clipAt_nat, Int.toNat_natCast, List.drop_zero, Nat.sub_zero]
  rcases Nat.le_total k vs.length with q | q
  · rw [Nat.min_eq_left q]
  · rw [Nat.min_eq_right q, List.take_of_length_le (Nat.le_refl _), List.take_of_length_le q]
end Mine
end

section
open PySem PySem.W PyProof.Rows PySem.Calls
namespace Mine
theorem app_le {a b : Array UInt8} {x y : Nat} (ha : a.size ≤ x) (hb : b.size ≤ y) : (a ++ b).size ≤ x + y := by
  rw [Array.size_append]
  exact Nat.add_le_add ha hb
theorem ext_le {b : Array UInt8} {i j x : Nat} (h : b.size ≤ x) : (b.extract i j).size ≤ x := by
  rw [Array.size_extract]
  exact Nat.le_trans (Nat.sub_le _ _) (Nat.le_trans (Nat.min_le_right _ _) h)
theorem sz_line {b c : Array UInt8} {x y : Nat} (hb : b.size ≤ x) (hc : c.size ≤ y) (h : Nat.ble (x + y) 16777216 = true) : b.size + c.size ≤ 16777216 := Nat.le_trans (Nat.add_le_add hb hc) (Nat.le_of_ble_eq_true h)
theorem withFrame {α : Type} {P : α → Prop} (m : α) (h : let z := m; P z) : P m := h
/-- a value that is a pair of bytes in the ledger -/
def PairIn (news : List (Addr × Obj)) (v : Value) (p : Array UInt8 × Array UInt8) : Prop := ∃ a t1 t2, v = .ref a ∧ (a, ({ cls := .type "tuple", data := .seq [Value.bytes p.1 t1, Value.bytes p.2 t2].toArray } : Obj)) ∈ news
inductive PairsIn (news : List (Addr × Obj)) : List Value → List (Array UInt8 × Array UInt8) → Prop
  | nil : PairsIn news [] []
  | cons {v : Value} {p : Array UInt8 × Array UInt8} {vs : List Value} {ps : List (Array UInt8 × Array UInt8)} : PairIn news v p → PairsIn news vs ps → PairsIn news (v :: vs) (p :: ps)
theorem PairIn.mono {news news' : List (Addr × Obj)} (hs : ∀ q ∈ news, q ∈ news') {v : Value} {p : Array UInt8 × Array UInt8} (h : PairIn news v p) : PairIn news' v p := by
  obtain ⟨a, t1, t2, e, hm⟩ := h
  exact ⟨a, t1, t2, e, hs _ hm⟩
theorem PairsIn.mono {news news' : List (Addr × Obj)} (hs : ∀ q ∈ news, q ∈ news') {vs : List Value} {ps : List (Array UInt8 × Array UInt8)} (h : PairsIn news vs ps) : PairsIn news' vs ps := by
  induction h with
  | nil => exact .nil
  | cons h _ ih => exact .cons (h.mono hs) ih
theorem PairsIn.length {news : List (Addr × Obj)} {vs : List Value} {ps : List (Array UInt8 × Array UInt8)} (h : PairsIn news vs ps) : vs.length = ps.length := by
  induction h with
  | nil => rfl
  | cons _ _ ih => simp [ih]
theorem PairsIn.append {news : List (Addr × Obj)} {vs ws : List Value} {ps qs : List (Array UInt8 × Array UInt8)} (h : PairsIn news vs ps) (k : PairsIn news ws qs) : PairsIn news (vs ++ ws) (ps ++ qs) := by
  induction h with
  | nil => exact k
  | cons h _ ih => exact .cons h ih
theorem PairsIn.one {news : List (Addr × Obj)} {v : Value} {p : Array UInt8 × Array UInt8} (h : PairIn news v p) : PairsIn news [v] [p] := .cons h .nil
theorem PairsIn.get {news : List (Addr × Obj)} {vs : List Value} {ps : List (Array UInt8 × Array UInt8)} (h : PairsIn news vs ps) : ∀ {i : Nat} {p : Array UInt8 × Array UInt8}, ps[i]? = some p → ∃ v, vs[i]? = some v ∧ PairIn news v p := by
  induction h with
  | nil => intro i p e; simp at e
  | cons h _ ih =>
    intro i p e
    cases i with
    | zero => simp at e; subst e; exact ⟨_, rfl, h⟩
    | succ i => simpa using ih (by simpa using e)
theorem PairsIn.at {news : List (Addr × Obj)} {vs : List Value} {ps : List (Array UInt8 × Array UInt8)} (h : PairsIn news vs ps) : ∀ {i : Nat} {v : Value}, vs[i]? = some v → ∃ p, ps[i]? = some p ∧ PairIn news v p := by
  induction h with
  | nil => intro i p e; simp at e
  | cons h _ ih =>
    intro i p e
    cases i with
    | zero => simp at e; subst e; exact ⟨_, rfl, h⟩
    | succ i => simpa using ih (by simpa using e)
theorem PairsIn.drop {news : List (Addr × Obj)} {vs : List Value} {ps : List (Array UInt8 × Array UInt8)} (h : PairsIn news vs ps) (k : Nat) : PairsIn news (vs.drop k) (ps.drop k) := by
  induction h generalizing k with
  | nil => simp; exact .nil
  | cons h r ih =>
    cases k with
    | zero => exact .cons h r
    | succ k => simpa using ih k
theorem PairsIn.take {news : List (Addr × Obj)} {vs : List Value} {ps : List (Array UInt8 × Array UInt8)} (h : PairsIn news vs ps) (k : Nat) : PairsIn news (vs.take k) (ps.take k) := by
  induction h generalizing k with
  | nil => simp; exact .nil
  | cons h r ih =>
    cases k with
    | zero => simp; exact .nil
    | succ k => simpa using .cons h (ih k)
theorem PairsIn.snoc {news : List (Addr × Obj)} {vs : List Value} {ps : List (Array UInt8 × Array UInt8)} {p : Array UInt8 × Array UInt8} (h : PairsIn news vs (ps ++ [p])) : ∃ ws v, vs = ws ++ [v] ∧ PairsIn news ws ps ∧ PairIn news v p := by
  induction ps generalizing vs with
  | nil =>
    cases h with
    | cons h r => cases r; exact ⟨[], _, rfl, .nil, h⟩
  | cons q ps ih =>
    cases h with
    | cons h r =>
      obtain ⟨ws, v, rfl, hr, hv⟩ := ih r
      exact ⟨_ :: ws, v, rfl, .cons h hr, hv⟩
theorem find_list {f : Nat → Bool} : ∀ (n k : Nat), (((List.range n).map (· + k)).find? f = none ∧ ∀ i, k ≤ i → i < k + n → f i = false) ∨ ∃ i, ((List.range n).map (· + k)).find? f = some i ∧ k ≤ i ∧ i < k + n ∧ f i = true
  | 0, k => .inl ⟨rfl, fun i h1 h2 => absurd h2 (by (first | k_extra "ar" | lia | omega))⟩
  | n + 1, k => by
    rw [List.range_succ, List.map_append, List.find?_append]
    rcases find_list (f := f) n k with ⟨e, h⟩ | ⟨i, e, h1, h2, h3⟩
    · rw [e]
      by_cases q : f (n + k) = true
      · exact .inr ⟨n + k, by simp [q], by (first | k_extra "ar" | lia | omega), by (first | k_extra "ar" | lia | omega), q⟩
      · refine .inl ⟨by simp [q], fun i h1 h2 => ?_⟩
        by_cases q2 : i = n + k
        · subst q2; simpa using q
        · exact h i h1 (by (first | k_extra "ar" | lia | omega))
    · exact .inr ⟨i, by rw [e]; rfl, h1, by (first | k_extra "ar" | lia | omega), h3⟩
theorem fnd_range (b c : Array UInt8) (k : Nat) (hc : 0 < c.size) : fnd b c k = -1 ∨ ((k : Int) ≤ fnd b c k ∧ fnd b c k + c.size ≤ b.size) := by
  unfold fnd Builtin.Bytes.find?
  rcases find_list (f := fun i => b.extract i (i + c.size) == c) (b.size + 1 - (k + c.size)) k with ⟨e, _⟩ | ⟨i, e, h1, h2, _⟩
  · rw [e]; exact .inl rfl
  · rw [e]; right; simp only; (first | k_extra "ar" | lia | omega)
abbrev hEnd (b : Array UInt8) (k : Int) : Int := fnd b #[10] k.toNat
abbrev hRow (b : Array UInt8) (k : Int) : Array UInt8 := b.extract k.toNat (hEnd b k).toNat
abbrev hLead (b : Array UInt8) (k : Int) : Bool := ((hRow b k).extract 0 (Int.toNat 1)).toList == #[32].toList
abbrev hBlank (b : Array UInt8) (k : Int) : Int := fnd (hRow b k) #[32] 0
/-- what object_heads reads from a place on -/
def headsF : Nat → Array UInt8 → List (Array UInt8 × Array UInt8) → Int → Option (List (Array UInt8 × Array UInt8) × Array UInt8)
  | 0, _, _, _ => none
  | f + 1, b, hs, k =>
    if hEnd b k < 0 then none else
    if hEnd b k = k then some (hs, b.extract (hEnd b k + 1).toNat b.size) else
    if hLead b k = true then
      match hs.getLast? with
      | none => none
      | some p => headsF f b (hs.dropLast ++ [(p.1, p.2 ++ #[10] ++ (hRow b k).extract (Int.toNat 1) (hRow b k).size)]) (hEnd b k + 1)
    else if hBlank b k < 1 then none
    else headsF f b (hs ++ [((hRow b k).extract 0 (hBlank b k).toNat, (hRow b k).extract (hBlank b k + 1).toNat (hRow b k).size)]) (hEnd b k + 1)
def headsOf (b : Array UInt8) : Option (List (Array UInt8 × Array UInt8) × Array UInt8) := if 0 ≤ fnd b #[0] 0 then none else headsF (b.size + 1) b [] 0
section
variable {b : Array UInt8} {k : Int} {f : Nat} {hs : List (Array UInt8 × Array UInt8)} {p : Array UInt8 × Array UInt8}
theorem heads_of (h : ¬ 0 ≤ fnd b #[0] 0) (hf : headsF (f + 1) b hs k = headsF (b.size + 1) b [] 0) : headsOf b = headsF (f + 1) b hs k := by
  unfold headsOf
  rw [if_neg h, hf]
theorem hf_1 (h : hEnd b k < 0) : headsF (f + 1) b hs k = none := by
  unfold headsF
  rw [if_pos h]
theorem hf_2 (h : ¬ hEnd b k < 0) (h2 : hEnd b k = k) : headsF (f + 1) b hs k = some (hs, b.extract (hEnd b k + 1).toNat b.size) := by
  unfold headsF
  rw [if_neg h, if_pos h2]
theorem hf_3 (h : ¬ hEnd b k < 0) (h2 : hEnd b k ≠ k) (h3 : hLead b k = true) : headsF (f + 1) b [] k = none := by
  unfold headsF
  rw [if_neg h, if_neg h2, if_pos h3]
  rfl
theorem hf_4 (h : ¬ hEnd b k < 0) (h2 : hEnd b k ≠ k) (h3 : hLead b k = true) : headsF (f + 1) b (hs ++ [p]) k = headsF f b (hs ++ [(p.1, p.2 ++ #[10] ++ (hRow b k).extract (Int.toNat 1) (hRow b k).size)]) (hEnd b k + 1) := by
  conv => lhs; unfold headsF
  rw [if_neg h, if_neg h2, if_pos h3]
  simp
theorem hf_5 (h : ¬ hEnd b k < 0) (h2 : hEnd b k ≠ k) (h3 : hLead b k = false) (h4 : hBlank b k < 1) : headsF (f + 1) b hs k = none := by
  unfold headsF
  rw [if_neg h, if_neg h2, if_neg (ne_true_of_eq_false h3), if_pos h4]
theorem hf_6 (h : ¬ hEnd b k < 0) (h2 : hEnd b k ≠ k) (h3 : hLead b k = false) (h4 : ¬ hBlank b k < 1) : headsF (f + 1) b hs k = headsF f b (hs ++ [((hRow b k).extract 0 (hBlank b k).toNat, (hRow b k).extract (hBlank b k + 1).toNat (hRow b k).size)]) (hEnd b k + 1) := by
  conv => lhs; unfold headsF
  rw [if_neg h, if_neg h2, if_neg (ne_true_of_eq_false h3), if_neg h4]
end
structure HS where
  vs : List Value
  n : Nat
  hs : List (Array UInt8 × Array UInt8)
  tl : List (Addr × Obj)
  k : Int
  t : Tok
  fuel : Nat
theorem ne_all {d c : Nat} : ∀ {l : List (Addr × Obj)}, AllLt d l → d ≤ c → ∀ p ∈ l, @Ne Nat p.1 c
  | [], _, _, _, h => nomatch h
  | _ :: _, x, hc, p, h => by
    rcases List.mem_cons.mp h with rfl | h
    · exact Nat.ne_of_lt (Nat.lt_of_lt_of_le x.1 hc)
    · exact ne_all x.2 hc p h
theorem ne_all2 {d c : Nat} {l : List (Addr × Obj)} (h : ∀ p ∈ l, @LT.lt Nat _ p.1 d) (hc : d ≤ c) : ∀ p ∈ l, @Ne Nat p.1 c := fun p hp => Nat.ne_of_lt (Nat.lt_of_lt_of_le (h p hp) hc)
theorem room_d {dp a b R : Nat} (h : dp + b < R) (hab : Nat.ble (1 + a) b = true) : dp + 1 + a < R := by
  have := Nat.le_of_ble_eq_true hab
  (first | k_extra "ar" | lia | omega)
theorem room_u {un a b R : Nat} (h : un + b < R) (hab : Nat.ble (3 + a) b = true) : un + 3 + a < R := by
  have := Nat.le_of_ble_eq_true hab
  (first | k_extra "ar" | lia | omega)
theorem room_0 {dp b R : Nat} (h : dp + b < R) : dp < R := Nat.lt_of_le_of_lt (Nat.le_add_right _ _) h

end Mine
end

section
open PySem PySem.W PyProof.Rows PySem.Calls PySem.Spec
namespace Mine
def FJ2 {σ : Type} (x y : Str) (m₀ : Str → Option Value) (stored : List Str) (ps : σ → List (Str × Value)) (led : σ → List (Addr × Obj)) (P : Nat → σ → Prop) (i : Nat) (m' : Str → Option Value) (nx : List (Addr × Obj)) : Prop :=
  ∃ c, P i c ∧ nx = led c ∧ (∀ p ∈ ps c, m' p.1 = some p.2) ∧ ∀ z, z ≠ x → z ≠ y → (∀ p ∈ ps c, z ≠ p.1) → stored.contains z = false → m' z = m₀ z
section
variable {prog : Program} {w : World} {A : Around} {s : Shared} {env : Env} {h₀ : Heap}
theorem forLoop_pair {R : Result → Shared → Prop} {x y : Str} {px py tp : Pos} {kk : Nat} {body : List Stmt} {I l : Addr} {vs : List Value} {nn : Nat} {prs : List (Array UInt8 × Array UInt8)} {m : Str → Option Value}
    {news : List (Addr × Obj)} (hh : A.handled = none) (hI : I ≠ l) (hx : env.kindOf x = some .local) (hy : env.kindOf y = some .local)
    (hp : (env.scope.kind == .class || (env.scope.kind == .module && env.locals != env.globals)) = false)
    (hLI : env.locals ≠ I) (hI0 : h₀.get? I = none) (hnw : ∀ p ∈ news, p.1 ≠ I)
    (hst : s.heap.IsListIter I l 0) (F : Fr h₀ env.locals s.heap m) (N : News h₀ env.locals s.heap news)
    (J : Nat → (Str → Option Value) → List (Addr × Obj) → Prop) (h0 : J 0 m news) (hl : ∀ i m nx, J i m nx → (l, W.listOf vs.toArray nn) ∈ nx) (hpr : ∀ i m nx, J i m nx → PairsIn nx vs prs)
    (step : ∀ i q t1 t2 m₁ news₁ s₁ oI, (∃ h tk, s₁ = { s with heap := h, toks := tk }) → prs[i]? = some q → J i m₁ news₁ → (∀ p ∈ news₁, p.1 ≠ I) →
      Fr h₀ env.locals s₁.heap (fun z => if z = y then some (.bytes q.2 t2) else if z = x then some (.bytes q.1 t1) else m₁ z) → News h₀ env.locals s₁.heap (news₁ ++ [(I, oI)]) →
      wpAny (model prog w) A (execs body env) (InvPostG h₀ env.locals (J (i + 1)) [(I, oI)] s₁ (fun f s' => R (.ok f) s')) (notedBy (model prog w) A env fun e s' => R (.error e) s') s₁)
    (hR : ∀ h' tk m' news', Fr h₀ env.locals h' m' → News h₀ env.locals h' news' → J vs.length m' news' → R (.ok .next) { s with heap := h', toks := tk }) :
    codeAny (model prog w) A (.forLoop (.Tuple [.Name x px, .Name y py] kk tp) (.ref I) body [] env) R s := by
  have W := Walks.list (prog := prog) (w := w) hh I l (Ne.symm hI) vs.toArray
  refine codeAny_forLoop_any
    (fun k s' => ∃ h' tk m' news' i, s' = { s with heap := h', toks := tk } ∧ h'.IsListIter I l i ∧ Fr h₀ env.locals h' m' ∧ News h₀ env.locals h' news' ∧ (∀ p ∈ news', p.1 ≠ I) ∧ J i m' news' ∧ i ≤ vs.length ∧ k = vs.length + 1 - i) ?_ (vs.length + 1)
    ⟨s.heap, s.toks, m, news, 0, rfl, hst, F, N, hnw, h0, Nat.zero_le _, rfl⟩
  rintro k s' ⟨h', tk, m', news', i, rfl, hst', F', N', hnw', hJ, hi, rfl⟩
  have hls : h'.IsList l vs.toArray := ⟨_, (N' _ (hl _ _ _ hJ)).1, rfl, nn, rfl⟩
  have next : ∀ h₁ : Heap, (∀ b o, b ∉ [I] → h'.get? b = some o → h₁.get? b = some o) → Fr h₀ env.locals h₁ m' ∧ News h₀ env.locals h₁ news' := fun h₁ hk₁ =>
    ⟨⟨F'.ns.at' fun o e => hk₁ _ o (by simpa using hLI) e, fun b o e => hk₁ b o (by intro hb; rw [List.mem_singleton.mp hb, hI0] at e; cases e) (F'.keep b o e), F'.above⟩, fun p hp => ⟨hk₁ _ _ (by simpa using hnw' p hp) (N' p hp).1, (N' p hp).2⟩⟩
  by_cases hlt : i < vs.length
  · refine W.item i _ _ _ (by simpa using hlt) ⟨hst', hls⟩ fun v h₁ tk₁ hP hst₁ hk₁ => ?_
    obtain ⟨F₁, N₁⟩ := next h₁ hk₁
    obtain ⟨q, hq, a9, t1, t2, rfl, hm⟩ := (hpr _ _ _ hJ).at (show vs[i]? = some v by simpa using hP)
    refine wpAny_letOwnedTupleGo_listiter hst₁.1 ?_
    refine kcp_assign hh ⟨_, (N₁ _ hm).1, rfl, _, rfl⟩ hx hy hp F₁.ns (fun h₂ tk₂ hn₂ hk₂ => ?_)
    have hL0 : h₀.get? env.locals = none := Heap.get?_none_of_le F₁.above
    have F₂ : Fr h₀ env.locals h₂ (fun z => if z = y then some (.bytes q.2 t2) else if z = x then some (.bytes q.1 t1) else m' z) := ⟨hn₂, fun b o e => hk₂ b o (fun z => by rw [z, hL0] at e; cases e) (F₁.keep b o e), F₁.above⟩
    obtain ⟨oI, hoI, rI⟩ := hst₁.1
    have N₂ : News h₀ env.locals h₂ (news' ++ [(I, oI)]) := fun p hp => by
      rcases List.mem_append.mp hp with hp | hp
      · exact ⟨hk₂ _ _ (N₁ p hp).2.1 (N₁ p hp).1, (N₁ p hp).2⟩
      · rw [List.mem_singleton.mp hp]
        exact ⟨hk₂ _ _ (Ne.symm hLI) hoI, Ne.symm hLI, hI0⟩
    refine wpAny_mono (step i q t1 t2 m' news' _ oI ⟨_, _, rfl⟩ hq hJ hnw' F₂ N₂) (fun f s₃ h₃ => ?_) fun _ _ e => e
    have fin : InvEndG h₀ env.locals (J (i + 1)) [(I, oI)] { s with heap := h₂, toks := tk₂ } s₃ → ∃ k', k' < vs.length + 1 - i ∧ ∃ h' tk m' news' i, s₃ = { s with heap := h', toks := tk } ∧ h'.IsListIter I l i ∧ Fr h₀ env.locals h' m' ∧ News h₀ env.locals h' news' ∧ (∀ p ∈ news', p.1 ≠ I) ∧ J i m' news' ∧ i ≤ vs.length ∧ k' = vs.length + 1 - i := by
      rintro ⟨h₃', tk₃, m₃, nw₃, nx, rfl, F₃, N₃, hn, ho, ha, hj⟩
      refine ⟨vs.length + 1 - (i + 1), by (first | k_extra "ar" | lia | omega), h₃', tk₃, m₃, nx, i + 1, rfl, ⟨oI, (N₃ _ (ho _ (List.mem_singleton.mpr rfl))).1, rI⟩, F₃, fun p hp => N₃ p (hn p hp), fun p hp e => ?_, hj, hlt, rfl⟩
      exact ha (I, oI) (List.mem_singleton.mpr rfl) p.1 (List.mem_map.mpr ⟨p, hp, rfl⟩) e.symm
    cases f with
    | ret v => exact h₃
    | brk => exact h₃
    | cont => exact fin h₃
    | next => exact fin h₃
  · have hin : i = vs.length := by (first | k_extra "ar" | lia | omega)
    subst hin
    refine W.done _ _ _ (by simpa using (⟨hst', hls⟩ : _ ∧ _)) fun h₁ tk₁ hk₁ => wpAny_execs_nil ?_
    obtain ⟨F₁, N₁⟩ := next h₁ hk₁
    exact hR h₁ tk₁ m' news' F₁ N₁ hJ
variable {E : Value → Shared → Prop} {Q : Flow → Shared → Prop}
/-- for a, b in a list of pairs -/
theorem For_pairs {σ : Type} {x y : Str} {px py tp pos : Pos} {kk : Nat} {iter : PySem.Expr} {body : List Stmt} (hh : A.handled = none) (hx : env.kindOf x = some .local) (hy : env.kindOf y = some .local)
    (hp : (env.scope.kind == .class || (env.scope.kind == .module && env.locals != env.globals)) = false)
    (h : wpAny (model prog w) A (eval iter env) (fun xv s₁ => ∃ (l : Addr) (vs : List Value) (nn : Nat) (prs : List (Array UInt8 × Array UInt8)) (m₀ : Str → Option Value) (news : List (Addr × Obj)) (stored : List Str) (ps : σ → List (Str × Value)) (led : σ → List (Addr × Obj)) (P : Nat → σ → Prop) (c₀ : σ),
      xv = .ref l ∧ Fr h₀ env.locals s₁.heap m₀ ∧ News h₀ env.locals s₁.heap news ∧ P 0 c₀ ∧ (∀ p ∈ ps c₀, m₀ p.1 = some p.2) ∧ (∀ p ∈ led c₀, p ∈ news) ∧ (∀ i c, P i c → (l, W.listOf vs.toArray nn) ∈ led c ∧ PairsIn (led c) vs prs) ∧
      (∀ i q t1 t2 c (u : Str → Option Value) h tk own, prs[i]? = some q → P i c → OwnOff own ((led c).map (·.1)) →
        Fr h₀ env.locals h (fun z => if z = y then some (.bytes q.2 t2) else if z = x then some (.bytes q.1 t1) else kstB (fun z => if stored.contains z then u z else m₀ z) (ps c) z) → News h₀ env.locals h (led c ++ own) →
        wpAny (model prog w) A (execs body env) (InvPostG h₀ env.locals (FJ2 x y m₀ stored ps led P (i + 1)) own { s₁ with heap := h, toks := tk } Q) E { s₁ with heap := h, toks := tk }) ∧
      (∀ c (u : Str → Option Value) h tk, P vs.length c → Fr h₀ env.locals h (fun z => if z = y then u z else if z = x then u z else kstB (fun z => if stored.contains z then u z else m₀ z) (ps c) z) → News h₀ env.locals h (led c) → Q .next { s₁ with heap := h, toks := tk })) E s)
    (hs : ∀ x, foldedSetIterable iter env x = pure x := by intro _; rfl)
    (hE : PassesOwn (model prog w) A env E := by passes_own) :
    wpAny (model prog w) A (exec (.For (.Tuple [.Name x px, .Name y py] kk tp) iter body [] pos) env) Q E s := by
  refine wpAny_For (wpAny_mono h (fun xv s₁ h₁ => ?_) fun _ _ e => e) hs
  obtain ⟨l, vs, nn, prs, m₀, news, stored, ps, led, P, c₀, rfl, F, N, h0, hk, hsub, hled, turn, done⟩ := h₁
  have hol := (N _ (hsub _ (hled _ _ h0).1)).1
  have hls : s₁.heap.IsList l vs.toArray := ⟨_, hol, rfl, nn, rfl⟩
  have hne : l ≠ s₁.heap.objs.size := Nat.ne_of_lt (Heap.lt_size hol)
  refine wpAny_pyIter_list hls ?_
  have fr : ∀ {v1 v2 : Option Value} {c : σ} {m₁ : Str → Option Value}, (∀ p ∈ ps c, m₁ p.1 = some p.2) → (∀ z, z ≠ x → z ≠ y → (∀ p ∈ ps c, z ≠ p.1) → stored.contains z = false → m₁ z = m₀ z) →
      (fun z => if z = y then v2 else if z = x then v1 else kstB (fun z => if stored.contains z then m₁ z else m₀ z) (ps c) z) = fun z => if z = y then v2 else if z = x then v1 else m₁ z := by
    intro v1 v2 c m₁ h1 h2
    funext z
    by_cases q1 : z = y
    · rw [if_pos q1, if_pos q1]
    · by_cases q2 : z = x
      · rw [if_neg q1, if_neg q1, if_pos q2, if_pos q2]
      · rw [if_neg q1, if_neg q1, if_neg q2, if_neg q2]
        refine kstB_eq h1 fun hn => ?_
        cases h3 : stored.contains z with
        | true => rfl
        | false => exact (h2 z q2 q1 hn h3).symm
  refine forLoop_pair (h₀ := h₀) (l := l) (vs := vs) (nn := nn) (prs := prs) (R := fun r s' => match r with | .ok f => Q f s' | .error e => cameBackBy (model prog w) A env E e s') (m := m₀) (news := led c₀) hh (Ne.symm hne) hx hy hp (Nat.ne_of_lt F.ns.lt) (next_is_new F) (fun p hp => Nat.ne_of_lt (Heap.lt_size (N p (hsub p hp)).1)) ⟨_, Heap.get?_push_size _ rfl, rfl, rfl⟩ (F.push _) (fun p hp => ⟨Heap.get?_push_of_some _ (N p (hsub p hp)).1, (N p (hsub p hp)).2⟩)
    (FJ2 x y m₀ stored ps led P) ⟨c₀, h0, rfl, hk, fun _ _ _ _ _ => rfl⟩ (fun i m nx hj => by obtain ⟨c, hc, rfl, _⟩ := hj; exact (hled _ _ hc).1) (fun i m nx hj => by obtain ⟨c, hc, rfl, _⟩ := hj; exact (hled _ _ hc).2) ?_ ?_
  · rintro i q t1 t2 m₁ nx s₂ oI ⟨h, tk, rfl⟩ hq ⟨c, hP, rfl, h1, h2⟩ hnI F₁ N₁
    refine wpAny_passesOwn hE ?_
    rw [← fr h1 h2] at F₁
    exact turn i q t1 t2 c m₁ h tk [(_, oI)] hq hP (fun p hp b hb e => by rw [List.mem_singleton.mp hp] at e; obtain ⟨p', hp', rfl⟩ := List.mem_map.mp hb; exact hnI p' hp' e.symm) F₁ N₁
  · rintro h tk m₁ nx F₁ N₁ ⟨c, hP, rfl, h1, h2⟩
    have e : m₁ = fun z => if z = y then m₁ z else if z = x then m₁ z else m₁ z := by funext z; split <;> first | rfl | (split <;> rfl)
    rw [e] at F₁
    have e2 : (fun z => if z = y then m₁ z else if z = x then m₁ z else kstB (fun z => if stored.contains z then m₁ z else m₀ z) (ps c) z) = fun z => if z = y then m₁ z else if z = x then m₁ z else m₁ z := by
      funext z
      exact congrFun (fr (v1 := m₁ z) (v2 := m₁ z) h1 h2) z
    rw [← e2] at F₁
    exact done c m₁ h tk hP F₁ N₁
theorem forP_end {σ : Type} {x y : Str} {m₀ : Str → Option Value} {stored : List Str} {ps : σ → List (Str × Value)} {led : σ → List (Addr × Obj)} {P : Nat → σ → Prop} {i : Nat} {own nw : List (Addr × Obj)} {L : Addr} {m' : Str → Option Value} {s₁ : Shared} {h' : Heap} {tk : Nat} (c : σ) (hP : P i c) (F : Fr h₀ L h' m') (N : News h₀ L h' nw)
    (hk : ∀ p ∈ ps c, m' p.1 = some p.2) (hm : ∀ z, z ≠ x → z ≠ y → (∀ p ∈ ps c, z ≠ p.1) → stored.contains z = false → m' z = m₀ z)
    (hn : ∀ p ∈ led c, p ∈ nw) (ho : ∀ p ∈ own, p ∈ nw) (ha : OwnOff own ((led c).map (·.1))) : InvEndG h₀ L (FJ2 x y m₀ stored ps led P i) own s₁ { s₁ with heap := h', toks := tk } :=
  InvEndG.intro F N ⟨c, hP, rfl, hk, hm⟩ ha hn ho
end
end Mine
end

section
open PySem PySem.W PyProof.Rows PySem.Calls PySem.MeetsSeq
namespace Mine
theorem eqg_bytes (x y : Array UInt8) (t u : Tok) : EqGives (.bytes x t) (.bytes y u) (x.toList == y.toList) := by
  intro prog w A E s Q h
  unfold eqBool
  refine wpAny_holding ?_
  refine wpAny_ite_split (fun hab => ?_) (fun hab => ?_)
  · have e : x = y := by have := eq_of_beq hab; injection this
    subst e
    exact wpAny_bind (wpAny_rule (wpAny_pure (by simpa using h)))
  · exact wpAny_bind (richCompare_gives (typeIs_bytes s x t) (typeIs_bytes s y u) FB.slot_bytes_eq FB.entry_bytes_eq (FB.args_bytes_eq_2 _ _) (gives_bytes_eq x y t u) (by simp [Made.takes]) (wpAny_truthy_bool h))
def bTree : Array UInt8 := [116, 114, 101, 101].toArray
def bParent : Array UInt8 := [112, 97, 114, 101, 110, 116].toArray
def bAuthor : Array UInt8 := [97, 117, 116, 104, 111, 114].toArray
def bCommitter : Array UInt8 := [99, 111, 109, 109, 105, 116, 116, 101, 114].toArray
/-- one of the four keys -/
def isHead (key : Array UInt8) : Bool := bTree.toList == key.toList || (bParent.toList == key.toList || (bAuthor.toList == key.toList || (bCommitter.toList == key.toList || false)))
theorem in_heads {w : World} {A : Around} {E Q : Value → Shared → Prop} {s : Shared} {key : Array UInt8} {t : Tok} (X : (K w.params).In s.heap) (h : Q (.bool (isHead key)) s) : wpAny (model PR w) A (compareOp .In (.bytes key t) (.ref (nat_lit 100))) Q E s := by
  have e : s.heap.get? 100 = some { cls := .type "tuple", dict := none, data := .seq [Value.bytes [116, 114, 101, 101].toArray (nat_lit 310), Value.bytes [112, 97, 114, 101, 110, 116].toArray (nat_lit 311), Value.bytes [97, 117, 116, 104, 111, 114].toArray (nat_lit 312), Value.bytes [99, 111, 109, 109, 105, 116, 116, 101, 114].toArray (nat_lit 313)].toArray 0, slots := #[] } := X _ _ (by kernel_rfl)
  refine PySem.SeqRoads2.in_tuple (fun v => match v with | .bytes b _ => b.toList == key.toList | _ => false) ?_ e ?_
  · intro y hy
    simp only [List.mem_toArray, List.mem_cons, List.not_mem_nil, or_false] at hy
    rcases hy with rfl | rfl | rfl | rfl <;> exact eqg_bytes _ _ _ _
  · have e2 : ([Value.bytes [116, 114, 101, 101].toArray (nat_lit 310), Value.bytes [112, 97, 114, 101, 110, 116].toArray (nat_lit 311), Value.bytes [97, 117, 116, 104, 111, 114].toArray (nat_lit 312), Value.bytes [99, 111, 109, 109, 105, 116, 116, 101, 114].toArray (nat_lit 313)].toArray.any fun v => match v with | .bytes b _ => b.toList == key.toList | _ => false) = isHead key := by
      rw [List.any_toArray]
      rfl
    rw [e2]
    exact h
end Mine
end

section
open PySem PySem.W PyProof.Rows PySem.Calls
namespace Mine
theorem fill_all : PySem.Challenge.rw_pb0110_01 = PySem.Challenge.rw_pb0110_01 → K = K → True := by
  k_fill
  intros; trivial

theorem reg_all0 : True := by
  k_with_none
  k_with "szb" => (first | with_reducible assumption | exact app_le (by k_extra "szb") (by k_extra "szb") | exact ext_le (by k_extra "szb") | exact (show _ ≤ 100 from by decide))
  k_with "cell_enter" => ((refine' code_def ?k1 ?k2 ?k3 ?k4 ?k5 ?kA ?kF ?kK ?k6 ?k7 ?k8 ?k9 ?kB ?_ ?c2 ?c3 ?c4 ?c5; (case kA => exact rfl); (case kF => exact rfl); (case kK => assumption); (case k1 => k_asm); (case k2 => k_asm); (case k3 => k_asm); (case k4 => k_asm); (case k5 => k_asm); (case k6 => k_is); (case k7 => k_is); (case k8 => ktr_room); (case k9 => first | exact BindsTo.of_eq rfl | exact binds_K (by k_in) rfl (by k_is) rfl rfl rfl); (case c5 => decide); (case kB => exact locs rfl); (case c2 => exact rfl); (case c3 => exact rfl); (case c4 => exact rfl); k_whole; intro g'zz L'zz h'zz FG'zz F'zz N'zz B'zz X'zz T'zz; (try dsimp only); (try k_lift B'zz); (try k_fold)))
  k_with "exec Raise some none" => (k_here; (with_reducible show wpAny _ _ (exec (Stmt.Raise (some (Expr.Call (Expr.Name ("BadObject" : Str) _) (_ :: _) [] _)) none _) _) _ _ _); k_dflt (refine' raise_bad ?hh ?_; (case hh => rfl); k_whole))
  k_with "BadEnd" => (k_here; k_dflt (refine' BadEnd.intro ?kF ?kX ?kN ?_; (case kF => k_asm); (case kX => k_in); (case kN => k_asm); k_whole))
  k_with "exec Raise some none" => (k_here; (with_reducible show wpAny _ _ (exec (Stmt.Raise (some (Expr.Call (Expr.Name ("BadObject" : Str) _) [Expr.Constant (Const.str _) _ _] [] _)) none _) _) _ _ _); k_dflt (refine' raise_const ?kB ?kF ?kX ?kN ?kT ?kk ?kd ?ku ?kx ?_; (case kB => k_asm); (case kF => k_asm); (case kX => k_in); (case kN => k_asm); (case kT => k_asm); (case kk => first | with_reducible assumption | exact rfl); (case kd => ktr_room); (case ku => ktr_room); (case kx => exact rfl); k_whole); intro eXzz tXzz dXzz hXzz tkXzz FXzz NXzz neXzz)
  k_with "call ref" => (k_here; (with_reducible show wpAny _ _ (call (Value.ref (nat_lit 52)) _) _ _ _); k_dflt (refine' bad_call ?kB ?kF ?kX ?kN ?kT ?kk ?kd ?ku  ?_; (case kB => k_asm); (case kF => k_asm); (case kX => k_in); (case kN => k_asm); (case kT => k_asm); (case kk => first | with_reducible assumption | exact rfl); (case kd => ktr_room); (case ku => ktr_room);  k_whole); intro eXzz tXzz dXzz hXzz tkXzz FXzz NXzz neXzz)
  k_with "leaving ref" => (k_here; k_dflt (refine' leave_bad ?kB ?kF ?kN ?kne ?_ ?kk; (case kB => k_asm); (case kF => k_asm); (case kN => k_asm); (case kne => k_asm); (case kk => exact rfl); k_whole); intro hRzz RRzz UUzz)
  k_with "leaving ref" => (k_here; k_dflt (refine' leave_X ?kB ?kF ?kR ?kU ?_; (case kB => k_asm); (case kR => assumption); (case kU => assumption); (case kF => k_asm); k_whole); intro hRzz RRzz UUzz)
  k_with "getMethod bytes" => (k_here; first | ((with_reducible show wpAny _ _ (getMethod _ (Str.ofString "find") _) _ _ _); k_dflt (refine m_find ?_)) | ((with_reducible show wpAny _ _ (getMethod _ (Str.ofString "split") _) _ _ _); k_dflt (refine m_split ?_)) | ((with_reducible show wpAny _ _ (getMethod _ (Str.ofString "join") _) _ _ _); k_dflt (refine m_join ?_)) | ((with_reducible show wpAny _ _ (getMethod _ (Str.ofString "replace") _) _ _ _); k_dflt (refine m_replace ?_)))
  k_with "compareOp In int bytes" => (k_here; (with_reducible refine in_bytes ?h0 ?h1 ?_); (case h0 => (first | k_extra "ar" | lia | omega)); (case h1 => (first | k_extra "ar" | lia | omega)))
  k_with "compareOp NotIn int bytes" => (k_here; (with_reducible refine notIn_bytes ?h0 ?h1 ?_); (case h0 => (first | k_extra "ar" | lia | omega)); (case h1 => (first | k_extra "ar" | lia | omega)))
  k_with "call builtin:bytes.find" => (k_here; (with_reducible refine find2 ?h0 ?_); (case h0 => first | decide | (simp; done)); intro tXzz kXzz)
  k_with "call builtin:bytes.find" => (k_here; (with_reducible refine find3 ?h0 ?h1 ?_); (case h0 => (first | k_extra "ar" | lia | omega)); (case h1 => first | decide | (simp; done)); intro tXzz kXzz)
  k_with "call builtin:len" => (k_here; (with_reducible show wpAny _ _ (call (Value.builtin "len") [Value.bytes _ _]) _ _ _); (refine len_bytes (by (first | k_extra "ar" | lia | omega)) ?_))
  k_with "k_intsEnd" => (first | (first | k_extra "ar" | lia | omega) | ((try simp only [List.size_toArray, List.length_cons, List.length_nil, Array.size_append, Array.size_extract]); (first | k_extra "ar" | lia | omega)))
  k_with "binaryOp Add bytes bytes" => (k_here; (with_reducible show wpAny _ _ (binaryOp Operator.Add (Value.bytes _ _) (Value.bytes _ _)) _ _ _); (refine add_my (by first | k_dflt (exact sz_line (by k_extra "szb") (by k_extra "szb") (by first | rfl | decide)) | k_intsEnd) ?_); intro tXzz kXzz zXzz; (try simp only [List.size_toArray, List.length_cons, List.length_nil] at zXzz))
  k_with "subscriptTail" => (k_here; (with_reducible show wpAny _ _ (subscriptTail _ _ (Value.bytes _ _) (Value.int _ _)) _ _ _); (refine item_my (by k_intsEnd) (by k_intsEnd) (by k_intsEnd) ?_); intro tXzz kXzz loXzz hiXzz)
  k_with "subscriptTail" => (k_here; (with_reducible show wpAny _ _ (subscriptTail _ (Expr.Slice _ _ none _) (Value.bytes _ _) (Value.ref _)) _ _ _); (with_reducible rename Fr _ _ _ _ => F'zz); (with_reducible rename News _ _ _ _ => N'zz); (refine' slice_my (s := ⟨_, _, _, _, _⟩) ?hb F'zz N'zz (by constructor) (by constructor) ?hz ?_; (case hb => first | (refine picked_both ?_ ?_ <;> (first | k_extra "ar" | lia | omega)) | (refine picked_lo ?_; (first | k_extra "ar" | lia | omega)) | (refine picked_hi ?_; (first | k_extra "ar" | lia | omega)) | exact picked_neg (k := 1) rfl (by decide) | exact picked_neg (k := 2) rfl (by decide) | exact picked_neg (k := 6) rfl (by decide)); (case hz => k_intsEnd)); clear F'zz N'zz; intro hXzz tXzz kXzz FXzz NXzz zXzz)
  k_with "eval ListComp" => (k_here; k_extra "mycomp"; k_dflt (refine ListComp_V (F₀ := by k_asm) (by with_unfolding_all rfl) (by decide) (by rfl) (by decide) (by rfl) ?_))
  k_with "exec Assign cons ListComp" => (k_here; k_extra "mycomp"; k_dflt (refine Assign_ListComp_V (F₀ := by k_asm) (by rfl) (by with_unfolding_all rfl) (by with_unfolding_all rfl) (by decide) (by rfl) (by decide) (by rfl) (by rfl) (by rfl) ?_))
  k_with "call builtin:list.append" => (k_here; (with_reducible show wpAny _ _ (call (Value.builtin _) [Value.ref _, _]) _ _ _); k_dflt (refine' append_K ?k1 ?k2 ?k3 ?_ ?z; (case k1 => k_asm); (case k2 => k_asm); (case k3 => first | exact Upd.head (by assumption) | exact Upd.head (fun p hp => Nat.ne_of_lt ((by assumption : ∀ p ∈ _, p.1 < _) p hp))); (case z => first | size_fits | (rw [PySem.sizeLine_eq]; simp only [List.push_toArray, List.size_toArray, List.length_append, List.length_cons, List.length_nil]; (first | k_extra "ar" | lia | omega))); k_whole); intro h'zz F'zz N'zz; (try simp only [List.push_toArray, List.append_assoc, List.cons_append, List.nil_append] at N'zz); (try k_sweep))
  k_with "call ref" => (k_here; (first | (with_reducible show wpAny _ _ (call (Value.ref (nat_lit 138)) _) _ _ _) | (with_reducible show wpAny _ _ (call (Value.ref (nat_lit 208)) _) _ _ _) | (with_reducible show wpAny _ _ (call (Value.ref (nat_lit 243)) _) _ _ _)); k_dflt (refine' call_cls ?k1 ?k2 ?k3 ?k4 ?k5 ?k6 ?_; (case k1 => k_asm); (case k2 => k_in); (case k3 => k_asm); (case k4 => k_is); (case k5 => k_is); (case k6 => k_is); k_whole; intro x'zz d'zz h'zz F'zz N'zz l1zz l2zz; (try k_lt l1zz); (try k_lt2 l2zz); cell_enter))
  k_with "call builtin:bytes.split" => (k_here; k_dflt (refine' split_bytes ?kF ?kN ?hb ?h1 ?h2 ?_; (case kF => k_asm); (case kN => k_asm); (case hb => decide); (case h1 => exact split_h1 (by k_intsEnd)); (case h2 => exact split_h2 (by k_intsEnd))); intro lXzz vsXzz hXzz kXzz bXzz FXzz NXzz ltXzz)
  k_with "call builtin:bytes.join" => (k_here; k_dflt (refine' join_bytes ?kl ?kv ?h1 ?h2 ?_; (case kl => exact News.isList (by k_asm) (by k_mem)); (case kv => with_reducible assumption); (case h1 => with_reducible assumption); (case h2 => with_reducible assumption)); intro tXzz kXzz)
  k_with "call builtin:bytes.replace" => (k_here; k_dflt (refine' replace_bytes ?hb ?h1 ?h2 ?_; (case hb => decide); (case h1 => exact repl_h1 (by k_intsEnd) (by decide)); (case h2 => exact repl_h2 (by k_intsEnd) (by decide))); intro tXzz kXzz)
  k_with "call builtin:len" => (k_here; (with_reducible show wpAny _ _ (call (Value.builtin "len") [Value.ref _]) _ _ _); k_extra "mylen"; k_dflt (refine' len_my ?kl ?kf ?_; (case kl => exact News.isList (by k_asm) (by k_mem)); (case kf => (first | k_extra "ar" | lia | omega))); intro tXzz kXzz)
  k_with "ktr_room" => (first | ((with_reducible show _ + 1 + _ < recursionLimit); exact room_d (by with_reducible assumption) rfl) | ((with_reducible show _ + 3 + _ < cLine); exact room_u (by with_reducible assumption) rfl) | exact room_0 (by with_reducible assumption))
  k_with "nb1" => (first | ((fail_if_success (fail_if_success (with_reducible apply nb_dec; decide))); exact Nat.le_refl _) | with_reducible assumption | (with_reducible apply And.left; with_reducible assumption) | (with_reducible apply And.right; with_reducible assumption) | (with_reducible apply Nat.le_of_lt; with_reducible assumption) | ((with_reducible apply Nat.add_le_add) <;> k_extra "nb1") | ((with_reducible apply nb_tarr) <;> k_extra "nb1") | ((with_reducible apply nb_push) <;> k_extra "nb1") | ((with_reducible apply nb_cons) <;> k_extra "nb1") | ((with_reducible apply nb_lapp) <;> k_extra "nb1") | ((with_reducible apply nb_take) <;> k_extra "nb1") | ((with_reducible apply nb_drop) <;> k_extra "nb1") | ((with_reducible apply nb_map) <;> k_extra "nb1") | ((with_reducible apply nb_app) <;> k_extra "nb1") | ((with_reducible apply nb_ext) <;> k_extra "nb1") | ((with_reducible apply nb_minr) <;> k_extra "nb1") | ((with_reducible apply nb_minl) <;> k_extra "nb1") | ((with_reducible apply nb_sub) <;> k_extra "nb1") | ((with_reducible apply Nat.mul_le_mul) <;> k_extra "nb1") | with_reducible exact nb_nil)
  k_with "nb" => (first | ((fail_if_success (fail_if_success (with_reducible apply nb_dec; decide))); exact Nat.le_refl _) | with_reducible assumption | (with_reducible apply And.left; with_reducible assumption) | (with_reducible apply And.right; with_reducible assumption) | (with_reducible apply Nat.le_of_lt; with_reducible assumption) | ((with_reducible apply Nat.add_le_add) <;> k_extra "nb") | ((with_reducible apply nb_tarr) <;> k_extra "nb") | ((with_reducible apply nb_push) <;> k_extra "nb") | ((with_reducible apply nb_cons) <;> k_extra "nb") | ((with_reducible apply nb_lapp) <;> k_extra "nb") | ((with_reducible apply nb_take) <;> k_extra "nb") | ((with_reducible apply nb_drop) <;> k_extra "nb") | ((with_reducible apply nb_map) <;> k_extra "nb") | ((with_reducible apply nb_app) <;> k_extra "nb") | ((with_reducible apply nb_ext) <;> k_extra "nb") | ((with_reducible apply nb_minr) <;> k_extra "nb") | ((with_reducible apply nb_minl) <;> k_extra "nb") | ((with_reducible apply nb_sub) <;> k_extra "nb") | ((with_reducible apply Nat.mul_le_mul) <;> k_extra "nb") | with_reducible exact nb_nil | (with_reducible apply nb_eq; with_reducible assumption; k_extra "nb1"))
  k_with "lt" => (first | with_reducible assumption | (with_reducible apply And.left; first | with_reducible assumption | (with_reducible apply And.right; (first | with_reducible assumption | (with_reducible apply And.right; (first | with_reducible assumption | (with_reducible apply And.right; (first | with_reducible assumption | (with_reducible apply And.right; (first | with_reducible assumption | (with_reducible apply And.right; (first | with_reducible assumption | (with_reducible apply And.right; (first | with_reducible assumption | (with_reducible apply And.right; (first | with_reducible assumption | (with_reducible apply And.right; (first | with_reducible assumption | (with_reducible apply And.right; with_reducible assumption)))))))))))))))))))
  k_with "ar" => (first | with_reducible assumption | (with_reducible apply nb_top; k_extra "nb"; decide) | (with_reducible apply nb_lt; k_extra "nb"; decide) | (with_reducible apply ib63; k_extra "nb"; decide) | (with_reducible apply Nat.ne_of_lt; k_extra "lt") | (with_reducible apply Nat.ne_of_gt; k_extra "lt") | (with_reducible apply Nat.le_of_lt; k_extra "lt") | with_reducible exact Int.natCast_nonneg _)
  k_with "k_ne" => ((refine neN ?_; (try dsimp only); first | (with_reducible apply Nat.ne_of_lt; k_extra "lt") | (with_reducible apply Nat.ne_of_gt; k_extra "lt")))
  k_with "k_size" => (k_extra "ar")
  k_with "size_fits" => (first | (with_reducible apply nb_size; k_extra "nb"; decide) | (with_reducible apply nb_top; k_extra "nb"; decide))
  k_with "memr" => (first | with_reducible exact List.mem_cons_self | (with_reducible refine List.mem_cons_of_mem _ ?_; k_extra "memr"))
  k_with "k_mem" => (k_extra "memr")
  k_with "k_in" => (first | k_in_fast | assumption | exact Frag.In.keeps (by k_asm) (Fr.keep (by k_asm)))
  trivial

theorem reg_fold_RSE : True := by
  k_with "execs cons" => (k_here; (try ((with_reducible rename Fr _ _ _ (fun _ => @ite _ _ _ _ _) => Fzz); revert Fzz; refine withFrame (P := fun z => Fr _ _ _ z → _) _ ?_; intro mzz Fzz)); (with_reducible refine wpAny_execs_cons ?_); (try dsimp only); skip)
  k_with "cell_enter" => ((refine' code_def ?k1 ?k2 ?k3 ?k4 ?k5 ?kA ?kF ?kK ?k6 ?k7 ?k8 ?k9 ?kB ?_ ?c2 ?c3 ?c4 ?c5; (case kA => exact rfl); (case kF => exact rfl); (case kK => assumption); (case k1 => k_asm); (case k2 => k_asm); (case k3 => k_asm); (case k4 => k_asm); (case k5 => k_asm); (case k6 => k_is); (case k7 => k_is); (case k8 => ktr_room); (case k9 => first | exact BindsTo.of_eq rfl | exact binds_K (by k_in) rfl (by k_is) rfl rfl rfl); (case c5 => decide); (case kB => exact locs rfl); (case c2 => exact rfl); (case c3 => exact rfl); (case c4 => exact rfl); k_whole; intro g'zz L'zz h'zz FG'zz F'zz N'zz B'zz X'zz T'zz; (try dsimp only); (try k_lift B'zz); (try (refine withFrame (P := fun z => wpAny _ z _ _ _ _) _ ?_; intro Azz; (try dsimp only))); (try k_fold)))
  trivial

section
variable {w : World} {dp un : Nat} {gd : Option (List Code)} {cn : Str} {cs : Scope} {a : Addr} {ccd : Value} {cl : List (Str × Addr)} {outer : List Env} {A₀ : Around} {base h₀ : Heap} {L : Addr} {m : Str → Option Value} {hp0 : Heap} {gs0 : Array GenState} {dr0 : Drawn} {tk0 : Nat} {os0 : OsState} {Q E : Value → Shared → Prop} {news : List (Addr × Obj)} {p : Program} {loose : List Str} {mean : ExcName → Option Value} {mg mb : Str → Option Value}

set_option maxHeartbeats 4000000 in
/-- raise BadObject of a text that stands there -/
theorem raise_const (B : Below A₀ base outer h₀) (F : Fr h₀ L hp0 m) (X : (K w.params).In h₀) (N : News h₀ L hp0 news) (T : Top p loose mean mg mb h₀) (hk : cs.kind = .function)
   (hd : dp + 10 < recursionLimit) (hu : un + 100 < cLine) {x : Str} {k : Nat} {p1 p2 p3 p4 : Pos} {Q : Flow → Shared → Prop}
  (hx : (envX cn cs L a ccd cl).kindOf (Str.ofString "BadObject") = some .globalImplicit)
  (h1 : ∀ e t d h' tk', Fr h₀ L h' m → News h₀ L h' ((e, excD t d) :: news) → (∀ p ∈ news, p.1 ≠ e) → E (.ref e) (Shared.mk h' gs0 dr0 tk' os0)) :
  wpAny (model PR w) (ktrTop dp un gd cn cs L a ccd cl outer) (exec (.Raise (some (.Call (.Name (Str.ofString "BadObject") p1) [.Constant (.str x) k p2] [] p3)) none p4) (envX cn cs L a ccd cl)) Q E (Shared.mk hp0 gs0 dr0 tk0 os0) := by
  refine raise_bad rfl ?_
  repeat' (first | ((fail_if_success (with_reducible show wpAny _ _ (eval (Expr.Name _ _) _) _ _ _)); first | (k_unfold; (try dsimp only)) | (k_end; wrow_close) | walk1 | (dsimp only; walk1) | (leave1; try dsimp only)))
  refine nameX_K (by k_asm) (by k_in) (topRead_of T) (by k_is) ?_ hk hx (by decide)
  k_steps
  exact h1 _ _ _ _ _ (by assumption) (by assumption) (by assumption)
end


theorem reg_fold_NUM : True := by
  k_with "execs cons" => (k_here; (with_reducible refine wpAny_execs_cons ?_); (try dsimp only); skip)
  k_with "cell_enter" => ((refine' code_def ?k1 ?k2 ?k3 ?k4 ?k5 ?kA ?kF ?kK ?k6 ?k7 ?k8 ?k9 ?kB ?_ ?c2 ?c3 ?c4 ?c5; (case kA => exact rfl); (case kF => exact rfl); (case kK => assumption); (case k1 => k_asm); (case k2 => k_asm); (case k3 => k_asm); (case k4 => k_asm); (case k5 => k_asm); (case k6 => k_is); (case k7 => k_is); (case k8 => ktr_room); (case k9 => first | exact BindsTo.of_eq rfl | exact binds_K (by k_in) rfl (by k_is) rfl rfl rfl); (case c5 => decide); (case kB => exact locs rfl); (case c2 => exact rfl); (case c3 => exact rfl); (case c4 => exact rfl); k_whole; intro g'zz L'zz h'zz FG'zz F'zz N'zz B'zz X'zz T'zz; (try dsimp only); (try k_lift B'zz); (try k_fold)))
  trivial

/-- decimal digits, as number_by reads them -/
def digsN : List Int → Int → Option Int
  | [], n => some n
  | c :: r, n => if 0 ≤ c - 48 ∧ c - 48 < 10 then digsN r (10 * n + (c - 48)) else none
theorem digsN_snoc : ∀ (l : List Int) (c n : Int), digsN (l ++ [c]) n = (digsN l n).bind fun k => if 0 ≤ c - 48 ∧ c - 48 < 10 then some (10 * k + (c - 48)) else none
  | [], c, n => by simp [digsN]
  | d :: r, c, n => by
    rw [List.cons_append]
    unfold digsN
    split
    · exact digsN_snoc r c _
    · rfl
theorem digsN_append : ∀ (l r : List Int) (n : Int), digsN (l ++ r) n = (digsN l n).bind (digsN r)
  | [], r, n => rfl
  | d :: l, r, n => by
    rw [List.cons_append]
    unfold digsN
    split
    · exact digsN_append l r _
    · rfl
theorem dn_step {pre : List Int} {n c : Int} (h : digsN pre 0 = some n) (h0 : 0 ≤ c - 48) (h1 : c - 48 < 10) : digsN (pre ++ [c]) 0 = some (10 * n + (c - 48)) := by
  rw [digsN_snoc, h]
  exact if_pos ⟨h0, h1⟩
theorem dn_stop {l pre post : List Int} {n c : Int} (e : l = pre ++ c :: post) (h : digsN pre 0 = some n) (hc : ¬ (0 ≤ c - 48 ∧ c - 48 < 10)) : digsN l 0 = none := by
  rw [e, digsN_append, h]
  exact if_neg hc
section
variable {w : World} {dp un : Nat} {gd : Option (List Code)} {cn : Str} {cs : Scope} {a : Addr} {ccd : Value} {cl : List (Str × Addr)} {outer : List Env} {A₀ : Around} {base h₀ : Heap} {L : Addr} {m : Str → Option Value} {hp0 : Heap} {gs0 : Array GenState} {dr0 : Drawn} {tk0 : Nat} {os0 : OsState} {Q E : Value → Shared → Prop} {news : List (Addr × Obj)} {p : Program} {loose : List Str} {mean : ExcName → Option Value} {mg mb : Str → Option Value}

set_option maxHeartbeats 2000000 in
theorem c_number_by (B : Below A₀ base outer h₀) (F : Fr h₀ L hp0 m) (X : (K w.params).In h₀) (N : News h₀ L hp0 news) (T : Top p loose mean mg mb h₀) (hk : cs.kind = .function)
   (hd : dp + 1 < recursionLimit) (hu : un + 8 < cLine) {b : Array UInt8} {tb tb2 : Tok} (hl : b.size ≤ 100000)
  (h1 : ∀ n (t : Tok) h' tk', b.size ≠ 0 → digsN ((b.toList.map fun c => (c.toNat : Int))) 0 = some n → Fr h₀ L h' m → News h₀ L h' news → Q (.int n t) (Shared.mk h' gs0 dr0 tk' os0))
  (h2 : ∀ h' tk', b.size = 0 ∨ digsN ((b.toList.map fun c => (c.toNat : Int))) 0 = none → Fr h₀ L h' m → News h₀ L h' news → Q .none (Shared.mk h' gs0 dr0 tk' os0)) :
  wpAny (model PR w) (ktrTop dp un gd cn cs L a ccd cl outer) (call (.ref (nat_lit 92)) [.bytes b tb, .int 10 tb2]) Q E (Shared.mk hp0 gs0 dr0 tk0 os0) := by
  k_with "pyIter bytes" => k_state (fun pre n => digsN pre 0 = some n ∧ 0 ≤ n) "number"
  k_with "state" => (first | exact ⟨rfl, by (first | k_extra "ar" | lia | omega)⟩ | exact ⟨dn_step (by assumption) (by (first | k_extra "ar" | lia | omega)) (by (first | k_extra "ar" | lia | omega)), by (first | k_extra "ar" | lia | omega)⟩)
  refine wpAny_call ?_
  k_dflt cell_enter
  k_steps
  all_goals first
    | exact h2 _ _ (.inr (dn_stop kEq (by assumption) (by (first | k_extra "ar" | lia | omega)))) (by assumption) (by first | assumption | exact cb_drop (by assumption) (by first | (intro qz hz; (repeat (first | (with_reducible exact hz) | (with_reducible refine List.mem_cons_of_mem _ ?_))); done) | ((repeat' (first | exact List.forall_mem_nil _ | (with_reducible refine List.forall_mem_cons.mpr ?_; refine ⟨by k_mem, ?_⟩))); all_goals (intro qz hz; repeat (first | (with_reducible exact hz) | refine List.mem_cons_of_mem _ ?_)); done) | (intro p hp; simp [hp]; done)))
    | exact h2 _ _ (.inl (by (first | k_extra "ar" | lia | omega))) (by assumption) (by first | assumption | exact cb_drop (by assumption) (by first | (intro qz hz; (repeat (first | (with_reducible exact hz) | (with_reducible refine List.mem_cons_of_mem _ ?_))); done) | ((repeat' (first | exact List.forall_mem_nil _ | (with_reducible refine List.forall_mem_cons.mpr ?_; refine ⟨by k_mem, ?_⟩))); all_goals (intro qz hz; repeat (first | (with_reducible exact hz) | refine List.mem_cons_of_mem _ ?_)); done) | (intro p hp; simp [hp]; done)))
    | exact h1 _ _ _ _ (by (first | k_extra "ar" | lia | omega)) (by assumption) (by assumption) (by first | assumption | exact cb_drop (by assumption) (by first | (intro qz hz; (repeat (first | (with_reducible exact hz) | (with_reducible refine List.mem_cons_of_mem _ ?_))); done) | ((repeat' (first | exact List.forall_mem_nil _ | (with_reducible refine List.forall_mem_cons.mpr ?_; refine ⟨by k_mem, ?_⟩))); all_goals (intro qz hz; repeat (first | (with_reducible exact hz) | refine List.mem_cons_of_mem _ ?_)); done) | (intro p hp; simp [hp]; done)))
    | exact h2 _ _ (.inl (by simp_all; done)) (by assumption) (by first | assumption | exact cb_drop (by assumption) (by first | (intro qz hz; (repeat (first | (with_reducible exact hz) | (with_reducible refine List.mem_cons_of_mem _ ?_))); done) | ((repeat' (first | exact List.forall_mem_nil _ | (with_reducible refine List.forall_mem_cons.mpr ?_; refine ⟨by k_mem, ?_⟩))); all_goals (intro qz hz; repeat (first | (with_reducible exact hz) | refine List.mem_cons_of_mem _ ?_)); done) | (intro p hp; simp [hp]; done)))
end
theorem reg_c_number_by : True := by
  k_with "call ref" => (k_here; (with_reducible show wpAny _ _ (call (Value.ref (nat_lit 92)) _) _ _ _); k_dflt (refine' c_number_by ?kB ?kF ?kX ?kN ?kT ?kk ?kd ?ku ?hl ?_ ?_; (case kB => k_asm); (case kF => k_asm); (case kX => k_in); (case kN => k_asm); (case kT => k_asm); (case kk => first | with_reducible assumption | exact rfl); (case kd => ktr_room); (case ku => ktr_room); (case hl => (first | k_extra "ar" | lia | omega)); k_whole); intro nXzz tXzz hXzz tkXzz e0zz eXzz FXzz NXzz; rotate_left; intro hXzz tkXzz eXzz FXzz NXzz; rotate_left)
  trivial
section
variable {w : World} {dp un : Nat} {gd : Option (List Code)} {cn : Str} {cs : Scope} {a : Addr} {ccd : Value} {cl : List (Str × Addr)} {outer : List Env} {A₀ : Around} {base h₀ : Heap} {L : Addr} {m : Str → Option Value} {hp0 : Heap} {gs0 : Array GenState} {dr0 : Drawn} {tk0 : Nat} {os0 : OsState} {Q E : Value → Shared → Prop} {news : List (Addr × Obj)} {p : Program} {loose : List Str} {mean : ExcName → Option Value} {mg mb : Str → Option Value}

/-- what number_of gives -/
def numOf (b : Array UInt8) : Option Int := if 1 < b.size ∧ at8 b 0 = 48 then none else if b.size = 0 then none else digsN (b.toList.map fun c => (c.toNat : Int)) 0
set_option maxHeartbeats 2000000 in
theorem c_number_of (B : Below A₀ base outer h₀) (F : Fr h₀ L hp0 m) (X : (K w.params).In h₀) (N : News h₀ L hp0 news) (T : Top p loose mean mg mb h₀) (hk : cs.kind = .function)
   (hd : dp + 10 < recursionLimit) (hu : un + 100 < cLine) {b : Array UInt8} {tb : Tok} (hl : b.size ≤ 100000)
  (h1 : ∀ n (t : Tok) h' tk', numOf b = some n → Fr h₀ L h' m → News h₀ L h' news → Q (.int n t) (Shared.mk h' gs0 dr0 tk' os0))
  (h2 : ∀ h' tk', numOf b = none → Fr h₀ L h' m → News h₀ L h' news → Q .none (Shared.mk h' gs0 dr0 tk' os0)) :
  wpAny (model PR w) (ktrTop dp un gd cn cs L a ccd cl outer) (call (.ref (nat_lit 99)) [.bytes b tb]) Q E (Shared.mk hp0 gs0 dr0 tk0 os0) := by
  refine wpAny_call ?_
  k_dflt cell_enter
  k_steps
  all_goals first
    | (refine h2 _ _ ?nm (by assumption) (by first | assumption | exact cb_drop (by assumption) (by first | (intro qz hz; (repeat (first | (with_reducible exact hz) | (with_reducible refine List.mem_cons_of_mem _ ?_))); done) | ((repeat' (first | exact List.forall_mem_nil _ | (with_reducible refine List.forall_mem_cons.mpr ?_; refine ⟨by k_mem, ?_⟩))); all_goals (intro qz hz; repeat (first | (with_reducible exact hz) | refine List.mem_cons_of_mem _ ?_)); done) | (intro p hp; simp [hp]; done))); case nm => first | (unfold numOf; simp_all; done) | (unfold numOf; (try simp only [Int.toNat_zero] at *); grind))
    | (refine h1 _ _ _ _ ?nm (by assumption) (by first | assumption | exact cb_drop (by assumption) (by first | (intro qz hz; (repeat (first | (with_reducible exact hz) | (with_reducible refine List.mem_cons_of_mem _ ?_))); done) | ((repeat' (first | exact List.forall_mem_nil _ | (with_reducible refine List.forall_mem_cons.mpr ?_; refine ⟨by k_mem, ?_⟩))); all_goals (intro qz hz; repeat (first | (with_reducible exact hz) | refine List.mem_cons_of_mem _ ?_)); done) | (intro p hp; simp [hp]; done))); case nm => first | (unfold numOf; simp_all; done) | (unfold numOf; (try simp only [Int.toNat_zero] at *); grind))
end
theorem reg_c_number_of : True := by
  k_with "call ref" => (k_here; (with_reducible show wpAny _ _ (call (Value.ref (nat_lit 99)) _) _ _ _); k_dflt (refine' c_number_of ?kB ?kF ?kX ?kN ?kT ?kk ?kd ?ku ?hl ?_ ?_; (case kB => k_asm); (case kF => k_asm); (case kX => k_in); (case kN => k_asm); (case kT => k_asm); (case kk => first | with_reducible assumption | exact rfl); (case kd => ktr_room); (case ku => ktr_room); (case hl => k_intsEnd); k_whole); intro nXzz tXzz hXzz tkXzz eXzz FXzz NXzz; rotate_left; intro hXzz tkXzz eXzz FXzz NXzz; rotate_left)
  trivial


theorem reg_all1 : True := by
  k_with_none
  k_with "szb" => (first | with_reducible assumption | exact app_le (by k_extra "szb") (by k_extra "szb") | exact ext_le (by k_extra "szb") | exact (show _ ≤ 100 from by decide))
  k_with "cell_enter" => ((refine' code_def ?k1 ?k2 ?k3 ?k4 ?k5 ?kA ?kF ?kK ?k6 ?k7 ?k8 ?k9 ?kB ?_ ?c2 ?c3 ?c4 ?c5; (case kA => exact rfl); (case kF => exact rfl); (case kK => assumption); (case k1 => k_asm); (case k2 => k_asm); (case k3 => k_asm); (case k4 => k_asm); (case k5 => k_asm); (case k6 => k_is); (case k7 => k_is); (case k8 => ktr_room); (case k9 => first | exact BindsTo.of_eq rfl | exact binds_K (by k_in) rfl (by k_is) rfl rfl rfl); (case c5 => decide); (case kB => exact locs rfl); (case c2 => exact rfl); (case c3 => exact rfl); (case c4 => exact rfl); k_whole; intro g'zz L'zz h'zz FG'zz F'zz N'zz B'zz X'zz T'zz; (try dsimp only); (try k_lift B'zz); (try k_fold)))
  k_with "exec Raise some none" => (k_here; (with_reducible show wpAny _ _ (exec (Stmt.Raise (some (Expr.Call (Expr.Name ("BadObject" : Str) _) (_ :: _) [] _)) none _) _) _ _ _); k_dflt (refine' raise_bad ?hh ?_; (case hh => rfl); k_whole))
  k_with "BadEnd" => (k_here; k_dflt (refine' BadEnd.intro ?kF ?kX ?kN ?_; (case kF => k_asm); (case kX => k_in); (case kN => k_asm); k_whole))
  k_with "exec Raise some none" => (k_here; (with_reducible show wpAny _ _ (exec (Stmt.Raise (some (Expr.Call (Expr.Name ("BadObject" : Str) _) [Expr.Constant (Const.str _) _ _] [] _)) none _) _) _ _ _); k_dflt (refine' raise_const ?kB ?kF ?kX ?kN ?kT ?kk ?kd ?ku ?kx ?_; (case kB => k_asm); (case kF => k_asm); (case kX => k_in); (case kN => k_asm); (case kT => k_asm); (case kk => first | with_reducible assumption | exact rfl); (case kd => ktr_room); (case ku => ktr_room); (case kx => exact rfl); k_whole); intro eXzz tXzz dXzz hXzz tkXzz FXzz NXzz neXzz)
  k_with "call ref" => (k_here; (with_reducible show wpAny _ _ (call (Value.ref (nat_lit 52)) _) _ _ _); k_dflt (refine' bad_call ?kB ?kF ?kX ?kN ?kT ?kk ?kd ?ku  ?_; (case kB => k_asm); (case kF => k_asm); (case kX => k_in); (case kN => k_asm); (case kT => k_asm); (case kk => first | with_reducible assumption | exact rfl); (case kd => ktr_room); (case ku => ktr_room);  k_whole); intro eXzz tXzz dXzz hXzz tkXzz FXzz NXzz neXzz)
  k_with "leaving ref" => (k_here; k_dflt (refine' leave_bad ?kB ?kF ?kN ?kne ?_ ?kk; (case kB => k_asm); (case kF => k_asm); (case kN => k_asm); (case kne => k_asm); (case kk => exact rfl); k_whole); intro hRzz RRzz UUzz)
  k_with "leaving ref" => (k_here; k_dflt (refine' leave_X ?kB ?kF ?kR ?kU ?_; (case kB => k_asm); (case kR => assumption); (case kU => assumption); (case kF => k_asm); k_whole); intro hRzz RRzz UUzz)
  k_with "getMethod bytes" => (k_here; first | ((with_reducible show wpAny _ _ (getMethod _ (Str.ofString "find") _) _ _ _); k_dflt (refine m_find ?_)) | ((with_reducible show wpAny _ _ (getMethod _ (Str.ofString "split") _) _ _ _); k_dflt (refine m_split ?_)) | ((with_reducible show wpAny _ _ (getMethod _ (Str.ofString "join") _) _ _ _); k_dflt (refine m_join ?_)) | ((with_reducible show wpAny _ _ (getMethod _ (Str.ofString "replace") _) _ _ _); k_dflt (refine m_replace ?_)))
  k_with "compareOp In int bytes" => (k_here; (with_reducible refine in_bytes ?h0 ?h1 ?_); (case h0 => (first | k_extra "ar" | lia | omega)); (case h1 => (first | k_extra "ar" | lia | omega)))
  k_with "compareOp NotIn int bytes" => (k_here; (with_reducible refine notIn_bytes ?h0 ?h1 ?_); (case h0 => (first | k_extra "ar" | lia | omega)); (case h1 => (first | k_extra "ar" | lia | omega)))
  k_with "call builtin:bytes.find" => (k_here; (with_reducible refine find2 ?h0 ?_); (case h0 => first | decide | (simp; done)); intro tXzz kXzz)
  k_with "call builtin:bytes.find" => (k_here; (with_reducible refine find3 ?h0 ?h1 ?_); (case h0 => (first | k_extra "ar" | lia | omega)); (case h1 => first | decide | (simp; done)); intro tXzz kXzz)
  k_with "call builtin:len" => (k_here; (with_reducible show wpAny _ _ (call (Value.builtin "len") [Value.bytes _ _]) _ _ _); (refine len_bytes (by (first | k_extra "ar" | lia | omega)) ?_))
  k_with "k_intsEnd" => (first | (first | k_extra "ar" | lia | omega) | ((try simp only [List.size_toArray, List.length_cons, List.length_nil, Array.size_append, Array.size_extract]); (first | k_extra "ar" | lia | omega)))
  k_with "binaryOp Add bytes bytes" => (k_here; (with_reducible show wpAny _ _ (binaryOp Operator.Add (Value.bytes _ _) (Value.bytes _ _)) _ _ _); (refine add_my (by first | k_dflt (exact sz_line (by k_extra "szb") (by k_extra "szb") (by first | rfl | decide)) | k_intsEnd) ?_); intro tXzz kXzz zXzz; (try simp only [List.size_toArray, List.length_cons, List.length_nil] at zXzz))
  k_with "subscriptTail" => (k_here; (with_reducible show wpAny _ _ (subscriptTail _ _ (Value.bytes _ _) (Value.int _ _)) _ _ _); (refine item_my (by k_intsEnd) (by k_intsEnd) (by k_intsEnd) ?_); intro tXzz kXzz loXzz hiXzz)
  k_with "subscriptTail" => (k_here; (with_reducible show wpAny _ _ (subscriptTail _ (Expr.Slice _ _ none _) (Value.bytes _ _) (Value.ref _)) _ _ _); (with_reducible rename Fr _ _ _ _ => F'zz); (with_reducible rename News _ _ _ _ => N'zz); (refine' slice_my (s := ⟨_, _, _, _, _⟩) ?hb F'zz N'zz (by constructor) (by constructor) ?hz ?_; (case hb => first | (refine picked_both ?_ ?_ <;> (first | k_extra "ar" | lia | omega)) | (refine picked_lo ?_; (first | k_extra "ar" | lia | omega)) | (refine picked_hi ?_; (first | k_extra "ar" | lia | omega)) | exact picked_neg (k := 1) rfl (by decide) | exact picked_neg (k := 2) rfl (by decide) | exact picked_neg (k := 6) rfl (by decide)); (case hz => k_intsEnd)); clear F'zz N'zz; intro hXzz tXzz kXzz FXzz NXzz zXzz)
  k_with "eval ListComp" => (k_here; k_extra "mycomp"; k_dflt (refine ListComp_V (F₀ := by k_asm) (by with_unfolding_all rfl) (by decide) (by rfl) (by decide) (by rfl) ?_))
  k_with "exec Assign cons ListComp" => (k_here; k_extra "mycomp"; k_dflt (refine Assign_ListComp_V (F₀ := by k_asm) (by rfl) (by with_unfolding_all rfl) (by with_unfolding_all rfl) (by decide) (by rfl) (by decide) (by rfl) (by rfl) (by rfl) ?_))
  k_with "call builtin:list.append" => (k_here; (with_reducible show wpAny _ _ (call (Value.builtin _) [Value.ref _, _]) _ _ _); k_dflt (refine' append_K ?k1 ?k2 ?k3 ?_ ?z; (case k1 => k_asm); (case k2 => k_asm); (case k3 => first | exact Upd.head (by assumption) | exact Upd.head (fun p hp => Nat.ne_of_lt ((by assumption : ∀ p ∈ _, p.1 < _) p hp))); (case z => first | size_fits | (rw [PySem.sizeLine_eq]; simp only [List.push_toArray, List.size_toArray, List.length_append, List.length_cons, List.length_nil]; (first | k_extra "ar" | lia | omega))); k_whole); intro h'zz F'zz N'zz; (try simp only [List.push_toArray, List.append_assoc, List.cons_append, List.nil_append] at N'zz); (try k_sweep))
  k_with "call ref" => (k_here; (first | (with_reducible show wpAny _ _ (call (Value.ref (nat_lit 138)) _) _ _ _) | (with_reducible show wpAny _ _ (call (Value.ref (nat_lit 208)) _) _ _ _) | (with_reducible show wpAny _ _ (call (Value.ref (nat_lit 243)) _) _ _ _)); k_dflt (refine' call_cls ?k1 ?k2 ?k3 ?k4 ?k5 ?k6 ?_; (case k1 => k_asm); (case k2 => k_in); (case k3 => k_asm); (case k4 => k_is); (case k5 => k_is); (case k6 => k_is); k_whole; intro x'zz d'zz h'zz F'zz N'zz l1zz l2zz; (try k_lt l1zz); (try k_lt2 l2zz); cell_enter))
  k_with "call builtin:bytes.split" => (k_here; k_dflt (refine' split_bytes ?kF ?kN ?hb ?h1 ?h2 ?_; (case kF => k_asm); (case kN => k_asm); (case hb => decide); (case h1 => exact split_h1 (by k_intsEnd)); (case h2 => exact split_h2 (by k_intsEnd))); intro lXzz vsXzz hXzz kXzz bXzz FXzz NXzz ltXzz)
  k_with "call builtin:bytes.join" => (k_here; k_dflt (refine' join_bytes ?kl ?kv ?h1 ?h2 ?_; (case kl => exact News.isList (by k_asm) (by k_mem)); (case kv => with_reducible assumption); (case h1 => with_reducible assumption); (case h2 => with_reducible assumption)); intro tXzz kXzz)
  k_with "call builtin:bytes.replace" => (k_here; k_dflt (refine' replace_bytes ?hb ?h1 ?h2 ?_; (case hb => decide); (case h1 => exact repl_h1 (by k_intsEnd) (by decide)); (case h2 => exact repl_h2 (by k_intsEnd) (by decide))); intro tXzz kXzz)
  k_with "call builtin:len" => (k_here; (with_reducible show wpAny _ _ (call (Value.builtin "len") [Value.ref _]) _ _ _); k_extra "mylen"; k_dflt (refine' len_my ?kl ?kf ?_; (case kl => exact News.isList (by k_asm) (by k_mem)); (case kf => (first | k_extra "ar" | lia | omega))); intro tXzz kXzz)
  k_with "ktr_room" => (first | ((with_reducible show _ + 1 + _ < recursionLimit); exact room_d (by with_reducible assumption) rfl) | ((with_reducible show _ + 3 + _ < cLine); exact room_u (by with_reducible assumption) rfl) | exact room_0 (by with_reducible assumption))
  k_with "nb1" => (first | ((fail_if_success (fail_if_success (with_reducible apply nb_dec; decide))); exact Nat.le_refl _) | with_reducible assumption | (with_reducible apply And.left; with_reducible assumption) | (with_reducible apply And.right; with_reducible assumption) | (with_reducible apply Nat.le_of_lt; with_reducible assumption) | ((with_reducible apply Nat.add_le_add) <;> k_extra "nb1") | ((with_reducible apply nb_tarr) <;> k_extra "nb1") | ((with_reducible apply nb_push) <;> k_extra "nb1") | ((with_reducible apply nb_cons) <;> k_extra "nb1") | ((with_reducible apply nb_lapp) <;> k_extra "nb1") | ((with_reducible apply nb_take) <;> k_extra "nb1") | ((with_reducible apply nb_drop) <;> k_extra "nb1") | ((with_reducible apply nb_map) <;> k_extra "nb1") | ((with_reducible apply nb_app) <;> k_extra "nb1") | ((with_reducible apply nb_ext) <;> k_extra "nb1") | ((with_reducible apply nb_minr) <;> k_extra "nb1") | ((with_reducible apply nb_minl) <;> k_extra "nb1") | ((with_reducible apply nb_sub) <;> k_extra "nb1") | ((with_reducible apply Nat.mul_le_mul) <;> k_extra "nb1") | with_reducible exact nb_nil)
  k_with "nb" => (first | ((fail_if_success (fail_if_success (with_reducible apply nb_dec; decide))); exact Nat.le_refl _) | with_reducible assumption | (with_reducible apply And.left; with_reducible assumption) | (with_reducible apply And.right; with_reducible assumption) | (with_reducible apply Nat.le_of_lt; with_reducible assumption) | ((with_reducible apply Nat.add_le_add) <;> k_extra "nb") | ((with_reducible apply nb_tarr) <;> k_extra "nb") | ((with_reducible apply nb_push) <;> k_extra "nb") | ((with_reducible apply nb_cons) <;> k_extra "nb") | ((with_reducible apply nb_lapp) <;> k_extra "nb") | ((with_reducible apply nb_take) <;> k_extra "nb") | ((with_reducible apply nb_drop) <;> k_extra "nb") | ((with_reducible apply nb_map) <;> k_extra "nb") | ((with_reducible apply nb_app) <;> k_extra "nb") | ((with_reducible apply nb_ext) <;> k_extra "nb") | ((with_reducible apply nb_minr) <;> k_extra "nb") | ((with_reducible apply nb_minl) <;> k_extra "nb") | ((with_reducible apply nb_sub) <;> k_extra "nb") | ((with_reducible apply Nat.mul_le_mul) <;> k_extra "nb") | with_reducible exact nb_nil | (with_reducible apply nb_eq; with_reducible assumption; k_extra "nb1"))
  k_with "lt" => (first | with_reducible assumption | (with_reducible apply And.left; first | with_reducible assumption | (with_reducible apply And.right; (first | with_reducible assumption | (with_reducible apply And.right; (first | with_reducible assumption | (with_reducible apply And.right; (first | with_reducible assumption | (with_reducible apply And.right; (first | with_reducible assumption | (with_reducible apply And.right; (first | with_reducible assumption | (with_reducible apply And.right; (first | with_reducible assumption | (with_reducible apply And.right; (first | with_reducible assumption | (with_reducible apply And.right; (first | with_reducible assumption | (with_reducible apply And.right; with_reducible assumption)))))))))))))))))))
  k_with "ar" => (first | with_reducible assumption | (with_reducible apply nb_top; k_extra "nb"; decide) | (with_reducible apply nb_lt; k_extra "nb"; decide) | (with_reducible apply ib63; k_extra "nb"; decide) | (with_reducible apply Nat.ne_of_lt; k_extra "lt") | (with_reducible apply Nat.ne_of_gt; k_extra "lt") | (with_reducible apply Nat.le_of_lt; k_extra "lt") | with_reducible exact Int.natCast_nonneg _)
  k_with "k_ne" => ((refine neN ?_; (try dsimp only); first | (with_reducible apply Nat.ne_of_lt; k_extra "lt") | (with_reducible apply Nat.ne_of_gt; k_extra "lt")))
  k_with "k_size" => (k_extra "ar")
  k_with "size_fits" => (first | (with_reducible apply nb_size; k_extra "nb"; decide) | (with_reducible apply nb_top; k_extra "nb"; decide))
  k_with "memr" => (first | with_reducible exact List.mem_cons_self | (with_reducible refine List.mem_cons_of_mem _ ?_; k_extra "memr"))
  k_with "k_mem" => (k_extra "memr")
  k_with "k_in" => (first | k_in_fast | assumption | exact Frag.In.keeps (by k_asm) (Fr.keep (by k_asm)))
  k_with "call ref" => (k_here; (with_reducible show wpAny _ _ (call (Value.ref (nat_lit 92)) _) _ _ _); k_dflt (refine' c_number_by ?kB ?kF ?kX ?kN ?kT ?kk ?kd ?ku ?hl ?_ ?_; (case kB => k_asm); (case kF => k_asm); (case kX => k_in); (case kN => k_asm); (case kT => k_asm); (case kk => first | with_reducible assumption | exact rfl); (case kd => ktr_room); (case ku => ktr_room); (case hl => (first | k_extra "ar" | lia | omega)); k_whole); intro nXzz tXzz hXzz tkXzz e0zz eXzz FXzz NXzz; rotate_left; intro hXzz tkXzz eXzz FXzz NXzz; rotate_left)
  k_with "call ref" => (k_here; (with_reducible show wpAny _ _ (call (Value.ref (nat_lit 99)) _) _ _ _); k_dflt (refine' c_number_of ?kB ?kF ?kX ?kN ?kT ?kk ?kd ?ku ?hl ?_ ?_; (case kB => k_asm); (case kF => k_asm); (case kX => k_in); (case kN => k_asm); (case kT => k_asm); (case kk => first | with_reducible assumption | exact rfl); (case kd => ktr_room); (case ku => ktr_room); (case hl => k_intsEnd); k_whole); intro nXzz tXzz hXzz tkXzz eXzz FXzz NXzz; rotate_left; intro hXzz tkXzz eXzz FXzz NXzz; rotate_left)
  trivial

theorem reg_fold_TXT : True := by
  k_with "execs cons" => (k_here; (try k_fold); (try ((with_reducible rename Fr _ _ _ (fun _ => @ite _ _ _ _ _) => Fzz); revert Fzz; refine withFrame (P := fun z => Fr _ _ _ z → _) _ ?_; intro mzz Fzz)); (with_reducible refine wpAny_execs_cons ?_); (try dsimp only); (try k_fold))
  k_with "cell_enter" => ((refine' code_def ?k1 ?k2 ?k3 ?k4 ?k5 ?kA ?kF ?kK ?k6 ?k7 ?k8 ?k9 ?kB ?_ ?c2 ?c3 ?c4 ?c5; (case kA => exact rfl); (case kF => exact rfl); (case kK => assumption); (case k1 => k_asm); (case k2 => k_asm); (case k3 => k_asm); (case k4 => k_asm); (case k5 => k_asm); (case k6 => k_is); (case k7 => k_is); (case k8 => ktr_room); (case k9 => first | exact BindsTo.of_eq rfl | exact binds_K (by k_in) rfl (by k_is) rfl rfl rfl); (case c5 => decide); (case kB => exact locs rfl); (case c2 => exact rfl); (case c3 => exact rfl); (case c4 => exact rfl); k_whole; intro g'zz L'zz h'zz FG'zz F'zz N'zz B'zz X'zz T'zz; (try dsimp only); (try k_lift B'zz); (try (refine withFrame (P := fun z => wpAny _ z _ _ _ _) _ ?_; intro Azz; (try dsimp only))); (try k_fold)))
  trivial

/-- the text with these codes -/
def txt (l : List Nat) : Str := ⟨l.toArray⟩
def cod (b : Array UInt8) : List Nat := b.toList.map (·.toNat)
theorem join_txt : ∀ l : List Nat, Txt.join (Str.ofString "") (l.map fun c => (⟨#[c]⟩ : Str)) = txt l := by
  intro l
  show Builtin.Str.glued (Str.ofString "") _ = _
  rw [StrLaws.glued_eq_join]
  have e : Str.ofString "" = ⟨#[]⟩ := by decide
  rw [e]
  induction l with
  | nil => rfl
  | cons c r ih =>
    cases r with
    | nil => rfl
    | cons d r =>
      show (⟨#[c]⟩ : Str) ++ ⟨#[]⟩ ++ Str.join ⟨#[]⟩ (((d :: r).map fun c => (⟨#[c]⟩ : Str))) = _
      rw [ih]
      show (⟨(#[c] ++ #[]) ++ (d :: r).toArray⟩ : Str) = ⟨(c :: d :: r).toArray⟩
      congr 1
      simp
theorem strs_snoc {y : Str} {t : Tok} : ∀ {vs : List Value} {ys : List Str}, StrsAre vs ys → StrsAre (vs ++ [.str y t]) (ys ++ [y])
  | _, _, .nil => .cons y t .nil
  | _, _, .cons z u r => .cons z u (strs_snoc r)
theorem ints_snoc {y : Int} {t : Tok} : ∀ {vs : List Value} {ys : List Int}, IntsAre vs ys → IntsAre (vs ++ [.int y t]) (ys ++ [y])
  | _, _, .nil => .cons y t .nil
  | _, _, .cons z u r => .cons z u (ints_snoc r)
theorem sum_ones (l : List Nat) : ((l.map fun c => (⟨#[c]⟩ : Str)).map (·.length)).sum = l.length := by
  induction l with
  | nil => rfl
  | cons c r ih => simp only [List.map_cons, List.sum_cons, List.length_cons]; rw [ih]; show 1 + _ = _; (first | k_extra "ar" | lia | omega)
theorem take_snoc {α : Type} {l : List α} {i : Nat} {c : α} (h : l[i]? = some c) : l.take (i + 1) = l.take i ++ [c] := by
  rw [List.take_add_one, h]; rfl
section
variable {w : World} {dp un : Nat} {gd : Option (List Code)} {cn : Str} {cs : Scope} {a : Addr} {ccd : Value} {cl : List (Str × Addr)} {outer : List Env} {A₀ : Around} {base h₀ : Heap} {L : Addr} {m : Str → Option Value} {hp0 : Heap} {gs0 : Array GenState} {dr0 : Drawn} {tk0 : Nat} {os0 : OsState} {Q E : Value → Shared → Prop} {news : List (Addr × Obj)} {p : Program} {loose : List Str} {mean : ExcName → Option Value} {mg mb : Str → Option Value}

set_option maxHeartbeats 2000000 in
theorem c_text_of (B : Below A₀ base outer h₀) (F : Fr h₀ L hp0 m) (X : (K w.params).In h₀) (N : News h₀ L hp0 news) (T : Top p loose mean mg mb h₀) (hk : cs.kind = .function)
   (hd : dp + 10 < recursionLimit) (hu : un + 100 < cLine) {b : Array UInt8} {tb : Tok} (hl : b.size ≤ 100000)
  (h1 : ∀ (t : Tok) h' tk', Fr h₀ L h' m → News h₀ L h' news → Q (.str (txt (cod b)) t) (Shared.mk h' gs0 dr0 tk' os0)) :
  wpAny (model PR w) (ktrTop dp un gd cn cs L a ccd cl outer) (call (.ref (nat_lit 59)) [.bytes b tb]) Q E (Shared.mk hp0 gs0 dr0 tk0 os0) := by
  refine wpAny_call ?_
  k_dflt cell_enter
  k_with "mycomp" => skip
  k_steps
  refine Or.inl ⟨_, _, _, rfl, rfl, by k_asm, by k_asm, by (rw [PySem.sizeLine_eq]; (first | k_extra "ar" | lia | omega)), ?_⟩
  rintro _ ⟨g9, rfl⟩
  refine comp_inv (R := fun i ys nx => nx = news ∧ StrsAre ys (((cod b).take i).map fun c => (⟨#[c]⟩ : Str))) ⟨rfl, .nil⟩ ?_ ?_
  · rintro i v ys nx I oI C oC D m₂ h tk E' hi ⟨c, u, hc, rfl⟩ ⟨rfl, hy⟩ hC hx F1 N1 off ne
    have hlt := c.toNat_lt
    have hc' : (cod b)[i]? = some c.toNat := by simp [cod, hc]
    k_steps
    refine LCg.CompEnd.intro (by k_asm) (by k_asm) _ (fun _ h => h) off trivial ⟨rfl, ?_⟩
    rw [take_snoc hc', List.map_append]
    exact strs_snoc hy
  · rintro ys nx ⟨rfl, hy⟩
    have e : b.size = (cod b).length := by simp [cod]
    rw [e, List.take_length] at hy
    unfold LCg.FinE
    intro D h tk F1 N1 o1
    k_steps
    refine join_list (News.isList N1 (List.mem_cons_self ..)) hy (by rw [sum_ones, List.length_map]; show _ + _ * 0 ≤ _; (first | k_extra "ar" | lia | omega)) ?_
    intro t' k'
    rw [join_txt]
    k_steps
    all_goals exact h1 _ _ _ (by assumption) (by first | assumption | exact cb_drop (by assumption) (by first | (intro qz hz; (repeat (first | (with_reducible exact hz) | (with_reducible refine List.mem_cons_of_mem _ ?_))); done) | ((repeat' (first | exact List.forall_mem_nil _ | (with_reducible refine List.forall_mem_cons.mpr ?_; refine ⟨by k_mem, ?_⟩))); all_goals (intro qz hz; repeat (first | (with_reducible exact hz) | refine List.mem_cons_of_mem _ ?_)); done) | (intro p hp; simp [hp]; done)))
end


theorem reg_all2 : True := by
  k_with_none
  k_with "szb" => (first | with_reducible assumption | exact app_le (by k_extra "szb") (by k_extra "szb") | exact ext_le (by k_extra "szb") | exact (show _ ≤ 100 from by decide))
  k_with "cell_enter" => ((refine' code_def ?k1 ?k2 ?k3 ?k4 ?k5 ?kA ?kF ?kK ?k6 ?k7 ?k8 ?k9 ?kB ?_ ?c2 ?c3 ?c4 ?c5; (case kA => exact rfl); (case kF => exact rfl); (case kK => assumption); (case k1 => k_asm); (case k2 => k_asm); (case k3 => k_asm); (case k4 => k_asm); (case k5 => k_asm); (case k6 => k_is); (case k7 => k_is); (case k8 => ktr_room); (case k9 => first | exact BindsTo.of_eq rfl | exact binds_K (by k_in) rfl (by k_is) rfl rfl rfl); (case c5 => decide); (case kB => exact locs rfl); (case c2 => exact rfl); (case c3 => exact rfl); (case c4 => exact rfl); k_whole; intro g'zz L'zz h'zz FG'zz F'zz N'zz B'zz X'zz T'zz; (try dsimp only); (try k_lift B'zz); (try k_fold)))
  k_with "exec Raise some none" => (k_here; (with_reducible show wpAny _ _ (exec (Stmt.Raise (some (Expr.Call (Expr.Name ("BadObject" : Str) _) (_ :: _) [] _)) none _) _) _ _ _); k_dflt (refine' raise_bad ?hh ?_; (case hh => rfl); k_whole))
  k_with "BadEnd" => (k_here; k_dflt (refine' BadEnd.intro ?kF ?kX ?kN ?_; (case kF => k_asm); (case kX => k_in); (case kN => k_asm); k_whole))
  k_with "exec Raise some none" => (k_here; (with_reducible show wpAny _ _ (exec (Stmt.Raise (some (Expr.Call (Expr.Name ("BadObject" : Str) _) [Expr.Constant (Const.str _) _ _] [] _)) none _) _) _ _ _); k_dflt (refine' raise_const ?kB ?kF ?kX ?kN ?kT ?kk ?kd ?ku ?kx ?_; (case kB => k_asm); (case kF => k_asm); (case kX => k_in); (case kN => k_asm); (case kT => k_asm); (case kk => first | with_reducible assumption | exact rfl); (case kd => ktr_room); (case ku => ktr_room); (case kx => exact rfl); k_whole); intro eXzz tXzz dXzz hXzz tkXzz FXzz NXzz neXzz)
  k_with "call ref" => (k_here; (with_reducible show wpAny _ _ (call (Value.ref (nat_lit 52)) _) _ _ _); k_dflt (refine' bad_call ?kB ?kF ?kX ?kN ?kT ?kk ?kd ?ku  ?_; (case kB => k_asm); (case kF => k_asm); (case kX => k_in); (case kN => k_asm); (case kT => k_asm); (case kk => first | with_reducible assumption | exact rfl); (case kd => ktr_room); (case ku => ktr_room);  k_whole); intro eXzz tXzz dXzz hXzz tkXzz FXzz NXzz neXzz)
  k_with "leaving ref" => (k_here; k_dflt (refine' leave_bad ?kB ?kF ?kN ?kne ?_ ?kk; (case kB => k_asm); (case kF => k_asm); (case kN => k_asm); (case kne => k_asm); (case kk => exact rfl); k_whole); intro hRzz RRzz UUzz)
  k_with "leaving ref" => (k_here; k_dflt (refine' leave_X ?kB ?kF ?kR ?kU ?_; (case kB => k_asm); (case kR => assumption); (case kU => assumption); (case kF => k_asm); k_whole); intro hRzz RRzz UUzz)
  k_with "getMethod bytes" => (k_here; first | ((with_reducible show wpAny _ _ (getMethod _ (Str.ofString "find") _) _ _ _); k_dflt (refine m_find ?_)) | ((with_reducible show wpAny _ _ (getMethod _ (Str.ofString "split") _) _ _ _); k_dflt (refine m_split ?_)) | ((with_reducible show wpAny _ _ (getMethod _ (Str.ofString "join") _) _ _ _); k_dflt (refine m_join ?_)) | ((with_reducible show wpAny _ _ (getMethod _ (Str.ofString "replace") _) _ _ _); k_dflt (refine m_replace ?_)))
  k_with "compareOp In int bytes" => (k_here; (with_reducible refine in_bytes ?h0 ?h1 ?_); (case h0 => (first | k_extra "ar" | lia | omega)); (case h1 => (first | k_extra "ar" | lia | omega)))
  k_with "compareOp NotIn int bytes" => (k_here; (with_reducible refine notIn_bytes ?h0 ?h1 ?_); (case h0 => (first | k_extra "ar" | lia | omega)); (case h1 => (first | k_extra "ar" | lia | omega)))
  k_with "call builtin:bytes.find" => (k_here; (with_reducible refine find2 ?h0 ?_); (case h0 => first | decide | (simp; done)); intro tXzz kXzz)
  k_with "call builtin:bytes.find" => (k_here; (with_reducible refine find3 ?h0 ?h1 ?_); (case h0 => (first | k_extra "ar" | lia | omega)); (case h1 => first | decide | (simp; done)); intro tXzz kXzz)
  k_with "call builtin:len" => (k_here; (with_reducible show wpAny _ _ (call (Value.builtin "len") [Value.bytes _ _]) _ _ _); (refine len_bytes (by (first | k_extra "ar" | lia | omega)) ?_))
  k_with "k_intsEnd" => (first | (first | k_extra "ar" | lia | omega) | ((try simp only [List.size_toArray, List.length_cons, List.length_nil, Array.size_append, Array.size_extract]); (first | k_extra "ar" | lia | omega)))
  k_with "binaryOp Add bytes bytes" => (k_here; (with_reducible show wpAny _ _ (binaryOp Operator.Add (Value.bytes _ _) (Value.bytes _ _)) _ _ _); (refine add_my (by first | k_dflt (exact sz_line (by k_extra "szb") (by k_extra "szb") (by first | rfl | decide)) | k_intsEnd) ?_); intro tXzz kXzz zXzz; (try simp only [List.size_toArray, List.length_cons, List.length_nil] at zXzz))
  k_with "subscriptTail" => (k_here; (with_reducible show wpAny _ _ (subscriptTail _ _ (Value.bytes _ _) (Value.int _ _)) _ _ _); (refine item_my (by k_intsEnd) (by k_intsEnd) (by k_intsEnd) ?_); intro tXzz kXzz loXzz hiXzz)
  k_with "subscriptTail" => (k_here; (with_reducible show wpAny _ _ (subscriptTail _ (Expr.Slice _ _ none _) (Value.bytes _ _) (Value.ref _)) _ _ _); (with_reducible rename Fr _ _ _ _ => F'zz); (with_reducible rename News _ _ _ _ => N'zz); (refine' slice_my (s := ⟨_, _, _, _, _⟩) ?hb F'zz N'zz (by constructor) (by constructor) ?hz ?_; (case hb => first | (refine picked_both ?_ ?_ <;> (first | k_extra "ar" | lia | omega)) | (refine picked_lo ?_; (first | k_extra "ar" | lia | omega)) | (refine picked_hi ?_; (first | k_extra "ar" | lia | omega)) | exact picked_neg (k := 1) rfl (by decide) | exact picked_neg (k := 2) rfl (by decide) | exact picked_neg (k := 6) rfl (by decide)); (case hz => k_intsEnd)); clear F'zz N'zz; intro hXzz tXzz kXzz FXzz NXzz zXzz)
  k_with "eval ListComp" => (k_here; k_extra "mycomp"; k_dflt (refine ListComp_V (F₀ := by k_asm) (by with_unfolding_all rfl) (by decide) (by rfl) (by decide) (by rfl) ?_))
  k_with "exec Assign cons ListComp" => (k_here; k_extra "mycomp"; k_dflt (refine Assign_ListComp_V (F₀ := by k_asm) (by rfl) (by with_unfolding_all rfl) (by with_unfolding_all rfl) (by decide) (by rfl) (by decide) (by rfl) (by rfl) (by rfl) ?_))
  k_with "call builtin:list.append" => (k_here; (with_reducible show wpAny _ _ (call (Value.builtin _) [Value.ref _, _]) _ _ _); k_dflt (refine' append_K ?k1 ?k2 ?k3 ?_ ?z; (case k1 => k_asm); (case k2 => k_asm); (case k3 => first | exact Upd.head (by assumption) | exact Upd.head (fun p hp => Nat.ne_of_lt ((by assumption : ∀ p ∈ _, p.1 < _) p hp))); (case z => first | size_fits | (rw [PySem.sizeLine_eq]; simp only [List.push_toArray, List.size_toArray, List.length_append, List.length_cons, List.length_nil]; (first | k_extra "ar" | lia | omega))); k_whole); intro h'zz F'zz N'zz; (try simp only [List.push_toArray, List.append_assoc, List.cons_append, List.nil_append] at N'zz); (try k_sweep))
  k_with "call ref" => (k_here; (first | (with_reducible show wpAny _ _ (call (Value.ref (nat_lit 138)) _) _ _ _) | (with_reducible show wpAny _ _ (call (Value.ref (nat_lit 208)) _) _ _ _) | (with_reducible show wpAny _ _ (call (Value.ref (nat_lit 243)) _) _ _ _)); k_dflt (refine' call_cls ?k1 ?k2 ?k3 ?k4 ?k5 ?k6 ?_; (case k1 => k_asm); (case k2 => k_in); (case k3 => k_asm); (case k4 => k_is); (case k5 => k_is); (case k6 => k_is); k_whole; intro x'zz d'zz h'zz F'zz N'zz l1zz l2zz; (try k_lt l1zz); (try k_lt2 l2zz); cell_enter))
  k_with "call builtin:bytes.split" => (k_here; k_dflt (refine' split_bytes ?kF ?kN ?hb ?h1 ?h2 ?_; (case kF => k_asm); (case kN => k_asm); (case hb => decide); (case h1 => exact split_h1 (by k_intsEnd)); (case h2 => exact split_h2 (by k_intsEnd))); intro lXzz vsXzz hXzz kXzz bXzz FXzz NXzz ltXzz)
  k_with "call builtin:bytes.join" => (k_here; k_dflt (refine' join_bytes ?kl ?kv ?h1 ?h2 ?_; (case kl => exact News.isList (by k_asm) (by k_mem)); (case kv => with_reducible assumption); (case h1 => with_reducible assumption); (case h2 => with_reducible assumption)); intro tXzz kXzz)
  k_with "call builtin:bytes.replace" => (k_here; k_dflt (refine' replace_bytes ?hb ?h1 ?h2 ?_; (case hb => decide); (case h1 => exact repl_h1 (by k_intsEnd) (by decide)); (case h2 => exact repl_h2 (by k_intsEnd) (by decide))); intro tXzz kXzz)
  k_with "call builtin:len" => (k_here; (with_reducible show wpAny _ _ (call (Value.builtin "len") [Value.ref _]) _ _ _); k_extra "mylen"; k_dflt (refine' len_my ?kl ?kf ?_; (case kl => exact News.isList (by k_asm) (by k_mem)); (case kf => (first | k_extra "ar" | lia | omega))); intro tXzz kXzz)
  k_with "ktr_room" => (first | ((with_reducible show _ + 1 + _ < recursionLimit); exact room_d (by with_reducible assumption) rfl) | ((with_reducible show _ + 3 + _ < cLine); exact room_u (by with_reducible assumption) rfl) | exact room_0 (by with_reducible assumption))
  k_with "nb1" => (first | ((fail_if_success (fail_if_success (with_reducible apply nb_dec; decide))); exact Nat.le_refl _) | with_reducible assumption | (with_reducible apply And.left; with_reducible assumption) | (with_reducible apply And.right; with_reducible assumption) | (with_reducible apply Nat.le_of_lt; with_reducible assumption) | ((with_reducible apply Nat.add_le_add) <;> k_extra "nb1") | ((with_reducible apply nb_tarr) <;> k_extra "nb1") | ((with_reducible apply nb_push) <;> k_extra "nb1") | ((with_reducible apply nb_cons) <;> k_extra "nb1") | ((with_reducible apply nb_lapp) <;> k_extra "nb1") | ((with_reducible apply nb_take) <;> k_extra "nb1") | ((with_reducible apply nb_drop) <;> k_extra "nb1") | ((with_reducible apply nb_map) <;> k_extra "nb1") | ((with_reducible apply nb_app) <;> k_extra "nb1") | ((with_reducible apply nb_ext) <;> k_extra "nb1") | ((with_reducible apply nb_minr) <;> k_extra "nb1") | ((with_reducible apply nb_minl) <;> k_extra "nb1") | ((with_reducible apply nb_sub) <;> k_extra "nb1") | ((with_reducible apply Nat.mul_le_mul) <;> k_extra "nb1") | with_reducible exact nb_nil)
  k_with "nb" => (first | ((fail_if_success (fail_if_success (with_reducible apply nb_dec; decide))); exact Nat.le_refl _) | with_reducible assumption | (with_reducible apply And.left; with_reducible assumption) | (with_reducible apply And.right; with_reducible assumption) | (with_reducible apply Nat.le_of_lt; with_reducible assumption) | ((with_reducible apply Nat.add_le_add) <;> k_extra "nb") | ((with_reducible apply nb_tarr) <;> k_extra "nb") | ((with_reducible apply nb_push) <;> k_extra "nb") | ((with_reducible apply nb_cons) <;> k_extra "nb") | ((with_reducible apply nb_lapp) <;> k_extra "nb") | ((with_reducible apply nb_take) <;> k_extra "nb") | ((with_reducible apply nb_drop) <;> k_extra "nb") | ((with_reducible apply nb_map) <;> k_extra "nb") | ((with_reducible apply nb_app) <;> k_extra "nb") | ((with_reducible apply nb_ext) <;> k_extra "nb") | ((with_reducible apply nb_minr) <;> k_extra "nb") | ((with_reducible apply nb_minl) <;> k_extra "nb") | ((with_reducible apply nb_sub) <;> k_extra "nb") | ((with_reducible apply Nat.mul_le_mul) <;> k_extra "nb") | with_reducible exact nb_nil | (with_reducible apply nb_eq; with_reducible assumption; k_extra "nb1"))
  k_with "lt" => (first | with_reducible assumption | (with_reducible apply And.left; first | with_reducible assumption | (with_reducible apply And.right; (first | with_reducible assumption | (with_reducible apply And.right; (first | with_reducible assumption | (with_reducible apply And.right; (first | with_reducible assumption | (with_reducible apply And.right; (first | with_reducible assumption | (with_reducible apply And.right; (first | with_reducible assumption | (with_reducible apply And.right; (first | with_reducible assumption | (with_reducible apply And.right; (first | with_reducible assumption | (with_reducible apply And.right; (first | with_reducible assumption | (with_reducible apply And.right; with_reducible assumption)))))))))))))))))))
  k_with "ar" => (first | with_reducible assumption | (with_reducible apply nb_top; k_extra "nb"; decide) | (with_reducible apply nb_lt; k_extra "nb"; decide) | (with_reducible apply ib63; k_extra "nb"; decide) | (with_reducible apply Nat.ne_of_lt; k_extra "lt") | (with_reducible apply Nat.ne_of_gt; k_extra "lt") | (with_reducible apply Nat.le_of_lt; k_extra "lt") | with_reducible exact Int.natCast_nonneg _)
  k_with "k_ne" => ((refine neN ?_; (try dsimp only); first | (with_reducible apply Nat.ne_of_lt; k_extra "lt") | (with_reducible apply Nat.ne_of_gt; k_extra "lt")))
  k_with "k_size" => (k_extra "ar")
  k_with "size_fits" => (first | (with_reducible apply nb_size; k_extra "nb"; decide) | (with_reducible apply nb_top; k_extra "nb"; decide))
  k_with "memr" => (first | with_reducible exact List.mem_cons_self | (with_reducible refine List.mem_cons_of_mem _ ?_; k_extra "memr"))
  k_with "k_mem" => (k_extra "memr")
  k_with "k_in" => (first | k_in_fast | assumption | exact Frag.In.keeps (by k_asm) (Fr.keep (by k_asm)))
  k_with "call ref" => (k_here; (with_reducible show wpAny _ _ (call (Value.ref (nat_lit 92)) _) _ _ _); k_dflt (refine' c_number_by ?kB ?kF ?kX ?kN ?kT ?kk ?kd ?ku ?hl ?_ ?_; (case kB => k_asm); (case kF => k_asm); (case kX => k_in); (case kN => k_asm); (case kT => k_asm); (case kk => first | with_reducible assumption | exact rfl); (case kd => ktr_room); (case ku => ktr_room); (case hl => (first | k_extra "ar" | lia | omega)); k_whole); intro nXzz tXzz hXzz tkXzz e0zz eXzz FXzz NXzz; rotate_left; intro hXzz tkXzz eXzz FXzz NXzz; rotate_left)
  k_with "call ref" => (k_here; (with_reducible show wpAny _ _ (call (Value.ref (nat_lit 99)) _) _ _ _); k_dflt (refine' c_number_of ?kB ?kF ?kX ?kN ?kT ?kk ?kd ?ku ?hl ?_ ?_; (case kB => k_asm); (case kF => k_asm); (case kX => k_in); (case kN => k_asm); (case kT => k_asm); (case kk => first | with_reducible assumption | exact rfl); (case kd => ktr_room); (case ku => ktr_room); (case hl => k_intsEnd); k_whole); intro nXzz tXzz hXzz tkXzz eXzz FXzz NXzz; rotate_left; intro hXzz tkXzz eXzz FXzz NXzz; rotate_left)
  trivial

theorem reg_fold_TXT2 : True := by
  k_with "execs cons" => (k_here; (try k_fold); (try ((with_reducible rename Fr _ _ _ (fun _ => @ite _ _ _ _ _) => Fzz); revert Fzz; refine withFrame (P := fun z => Fr _ _ _ z → _) _ ?_; intro mzz Fzz)); (with_reducible refine wpAny_execs_cons ?_); (try dsimp only); (try k_fold))
  k_with "cell_enter" => ((refine' code_def ?k1 ?k2 ?k3 ?k4 ?k5 ?kA ?kF ?kK ?k6 ?k7 ?k8 ?k9 ?kB ?_ ?c2 ?c3 ?c4 ?c5; (case kA => exact rfl); (case kF => exact rfl); (case kK => assumption); (case k1 => k_asm); (case k2 => k_asm); (case k3 => k_asm); (case k4 => k_asm); (case k5 => k_asm); (case k6 => k_is); (case k7 => k_is); (case k8 => ktr_room); (case k9 => first | exact BindsTo.of_eq rfl | exact binds_K (by k_in) rfl (by k_is) rfl rfl rfl); (case c5 => decide); (case kB => exact locs rfl); (case c2 => exact rfl); (case c3 => exact rfl); (case c4 => exact rfl); k_whole; intro g'zz L'zz h'zz FG'zz F'zz N'zz B'zz X'zz T'zz; (try dsimp only); (try k_lift B'zz); (try (refine withFrame (P := fun z => wpAny _ z _ _ _ _) _ ?_; intro Azz; (try dsimp only))); (try k_fold)))
  trivial

section
variable {w : World} {dp un : Nat} {gd : Option (List Code)} {cn : Str} {cs : Scope} {a : Addr} {ccd : Value} {cl : List (Str × Addr)} {outer : List Env} {A₀ : Around} {base h₀ : Heap} {L : Addr} {m : Str → Option Value} {hp0 : Heap} {gs0 : Array GenState} {dr0 : Drawn} {tk0 : Nat} {os0 : OsState} {Q E : Value → Shared → Prop} {news : List (Addr × Obj)} {p : Program} {loose : List Str} {mean : ExcName → Option Value} {mg mb : Str → Option Value}

set_option maxHeartbeats 2000000 in
theorem c_octets_of (B : Below A₀ base outer h₀) (F : Fr h₀ L hp0 m) (X : (K w.params).In h₀) (N : News h₀ L hp0 news) (T : Top p loose mean mg mb h₀) (hk : cs.kind = .function)
   (hd : dp + 10 < recursionLimit) (hu : un + 100 < cLine) {l : List Nat} {tb : Tok} (hl : l.length ≤ 100000) (hlo : ∀ c ∈ l, c < 256)
  (h1 : ∀ (t : Tok) h' tk', Fr h₀ L h' m → News h₀ L h' news → Q (.bytes (l.map (·.toUInt8)).toArray t) (Shared.mk h' gs0 dr0 tk' os0)) :
  wpAny (model PR w) (ktrTop dp un gd cn cs L a ccd cl outer) (call (.ref (nat_lit 64)) [.str (txt l) tb]) Q E (Shared.mk hp0 gs0 dr0 tk0 os0) := by
  refine wpAny_call ?_
  k_dflt cell_enter
  k_with "mycomp" => skip
  k_steps
  refine Or.inr ⟨_, _, _, rfl, rfl, by k_asm, by k_asm, by (rw [PySem.sizeLine_eq]; show l.toArray.size ≤ _; rw [List.size_toArray]; (first | k_extra "ar" | lia | omega)), ?_⟩
  rintro _ ⟨g9, rfl⟩
  refine comp_inv (R := fun i ys nx => nx = news ∧ IntsAre ys ((l.take i).map fun c : Nat => (c : Int))) ⟨rfl, .nil⟩ ?_ ?_
  · rintro i v ys nx I oI C oC D m₂ h tk E' hi ⟨c, u, hc, rfl⟩ ⟨rfl, hy⟩ hC hx F1 N1 off ne
    have hc' : l[i]? = some c := by simpa [txt] using hc
    k_steps
    refine LCg.CompEnd.intro (by k_asm) (by k_asm) _ (fun _ h => h) off trivial ⟨rfl, ?_⟩
    rw [take_snoc hc', List.map_append]
    exact ints_snoc hy
  · rintro ys nx ⟨rfl, hy⟩
    have e : (txt l).cps.size = l.length := by simp [txt]
    rw [e, List.take_length] at hy
    unfold LCg.FinA
    intro D h tk F1 N1 o1
    k_steps
    refine for_inv (σ := Unit) (nn := ys.length) [] (fun _ => []) (fun _ => (D, LCg.lst ys) :: nx) (fun _ _ => True) () rfl (fun _ _ _ => List.mem_cons_self ..) (by k_asm) (by k_asm) trivial (by kst_all) (fun _ h => h) ?_ ?_
    · rintro i v c u h tk own hv - hoff F2 N2
      dsimp only [kstB] at F2
      obtain ⟨n, t, rfl, hn⟩ := IntsAre.at (by assumption) i v hv
      have hn' : n < 256 := by
        obtain ⟨c, hc, rfl⟩ := List.mem_map.mp (List.mem_of_getElem? hn)
        have := hlo c hc
        (first | k_extra "ar" | lia | omega)
      k_steps
      all_goals exact for_end () trivial (by k_asm) (by k_asm) (by kst_all) (by first | kst_same | (dsimp +zetaDelta only; kst_same)) (fun p hp => List.mem_append.mpr (.inl hp)) (fun p hp => List.mem_append.mpr (.inr hp)) (by assumption)
    · rintro c u h tk - F2 N2
      dsimp only [kstB] at F2
      k_steps
      refine bytes_K (by k_asm) (by k_asm) (News.isList (by k_asm) (by k_mem)) (by assumption) ?_ ?_ rfl ?_
      · intro n hn
        obtain ⟨c, hc, rfl⟩ := List.mem_map.mp hn
        have := hlo c hc
        (first | k_extra "ar" | lia | omega)
      · have := IntsAre.length (by assumption)
        rw [this, PySem.sizeLine_eq, List.length_map]
        (first | k_extra "ar" | lia | omega)
      · intro h' t' k' F3 N3 _
        rw [List.map_map]
        have N4 := cb_drop N3 (fun p hp => List.mem_cons_of_mem _ hp)
        k_steps
        all_goals exact h1 _ _ _ (by assumption) (by first | assumption | exact cb_drop (by assumption) (by first | (intro qz hz; (repeat (first | (with_reducible exact hz) | (with_reducible refine List.mem_cons_of_mem _ ?_))); done) | ((repeat' (first | exact List.forall_mem_nil _ | (with_reducible refine List.forall_mem_cons.mpr ?_; refine ⟨by k_mem, ?_⟩))); all_goals (intro qz hz; repeat (first | (with_reducible exact hz) | refine List.mem_cons_of_mem _ ?_)); done) | (intro p hp; simp [hp]; done)))
end
theorem reg_c_octets_of : True := by
  k_with "call ref" => (k_here; (with_reducible show wpAny _ _ (call (Value.ref (nat_lit 64)) _) _ _ _); k_dflt (refine' c_octets_of ?kB ?kF ?kX ?kN ?kT ?kk ?kd ?ku ?hl ?hlo ?_; (case kB => k_asm); (case kF => k_asm); (case kX => k_in); (case kN => k_asm); (case kT => k_asm); (case kk => first | with_reducible assumption | exact rfl); (case kd => ktr_room); (case ku => ktr_room); (case hl => k_intsEnd); (case hlo => assumption); k_whole); intro tXzz hXzz tkXzz FXzz NXzz)
  trivial
theorem reg_c_text_of : True := by
  k_with "call ref" => (k_here; (with_reducible show wpAny _ _ (call (Value.ref (nat_lit 59)) _) _ _ _); k_dflt (refine' c_text_of ?kB ?kF ?kX ?kN ?kT ?kk ?kd ?ku ?hl ?_; (case kB => k_asm); (case kF => k_asm); (case kX => k_in); (case kN => k_asm); (case kT => k_asm); (case kk => first | with_reducible assumption | exact rfl); (case kd => ktr_room); (case ku => ktr_room); (case hl => k_intsEnd); k_whole); intro tXzz hXzz tkXzz FXzz NXzz)
  trivial


theorem reg_all3 : True := by
  k_with_none
  k_with "szb" => (first | with_reducible assumption | exact app_le (by k_extra "szb") (by k_extra "szb") | exact ext_le (by k_extra "szb") | exact (show _ ≤ 100 from by decide))
  k_with "cell_enter" => ((refine' code_def ?k1 ?k2 ?k3 ?k4 ?k5 ?kA ?kF ?kK ?k6 ?k7 ?k8 ?k9 ?kB ?_ ?c2 ?c3 ?c4 ?c5; (case kA => exact rfl); (case kF => exact rfl); (case kK => assumption); (case k1 => k_asm); (case k2 => k_asm); (case k3 => k_asm); (case k4 => k_asm); (case k5 => k_asm); (case k6 => k_is); (case k7 => k_is); (case k8 => ktr_room); (case k9 => first | exact BindsTo.of_eq rfl | exact binds_K (by k_in) rfl (by k_is) rfl rfl rfl); (case c5 => decide); (case kB => exact locs rfl); (case c2 => exact rfl); (case c3 => exact rfl); (case c4 => exact rfl); k_whole; intro g'zz L'zz h'zz FG'zz F'zz N'zz B'zz X'zz T'zz; (try dsimp only); (try k_lift B'zz); (try k_fold)))
  k_with "exec Raise some none" => (k_here; (with_reducible show wpAny _ _ (exec (Stmt.Raise (some (Expr.Call (Expr.Name ("BadObject" : Str) _) (_ :: _) [] _)) none _) _) _ _ _); k_dflt (refine' raise_bad ?hh ?_; (case hh => rfl); k_whole))
  k_with "BadEnd" => (k_here; k_dflt (refine' BadEnd.intro ?kF ?kX ?kN ?_; (case kF => k_asm); (case kX => k_in); (case kN => k_asm); k_whole))
  k_with "exec Raise some none" => (k_here; (with_reducible show wpAny _ _ (exec (Stmt.Raise (some (Expr.Call (Expr.Name ("BadObject" : Str) _) [Expr.Constant (Const.str _) _ _] [] _)) none _) _) _ _ _); k_dflt (refine' raise_const ?kB ?kF ?kX ?kN ?kT ?kk ?kd ?ku ?kx ?_; (case kB => k_asm); (case kF => k_asm); (case kX => k_in); (case kN => k_asm); (case kT => k_asm); (case kk => first | with_reducible assumption | exact rfl); (case kd => ktr_room); (case ku => ktr_room); (case kx => exact rfl); k_whole); intro eXzz tXzz dXzz hXzz tkXzz FXzz NXzz neXzz)
  k_with "call ref" => (k_here; (with_reducible show wpAny _ _ (call (Value.ref (nat_lit 52)) _) _ _ _); k_dflt (refine' bad_call ?kB ?kF ?kX ?kN ?kT ?kk ?kd ?ku  ?_; (case kB => k_asm); (case kF => k_asm); (case kX => k_in); (case kN => k_asm); (case kT => k_asm); (case kk => first | with_reducible assumption | exact rfl); (case kd => ktr_room); (case ku => ktr_room);  k_whole); intro eXzz tXzz dXzz hXzz tkXzz FXzz NXzz neXzz)
  k_with "leaving ref" => (k_here; k_dflt (refine' leave_bad ?kB ?kF ?kN ?kne ?_ ?kk; (case kB => k_asm); (case kF => k_asm); (case kN => k_asm); (case kne => k_asm); (case kk => exact rfl); k_whole); intro hRzz RRzz UUzz)
  k_with "leaving ref" => (k_here; k_dflt (refine' leave_X ?kB ?kF ?kR ?kU ?_; (case kB => k_asm); (case kR => assumption); (case kU => assumption); (case kF => k_asm); k_whole); intro hRzz RRzz UUzz)
  k_with "getMethod bytes" => (k_here; first | ((with_reducible show wpAny _ _ (getMethod _ (Str.ofString "find") _) _ _ _); k_dflt (refine m_find ?_)) | ((with_reducible show wpAny _ _ (getMethod _ (Str.ofString "split") _) _ _ _); k_dflt (refine m_split ?_)) | ((with_reducible show wpAny _ _ (getMethod _ (Str.ofString "join") _) _ _ _); k_dflt (refine m_join ?_)) | ((with_reducible show wpAny _ _ (getMethod _ (Str.ofString "replace") _) _ _ _); k_dflt (refine m_replace ?_)))
  k_with "compareOp In int bytes" => (k_here; (with_reducible refine in_bytes ?h0 ?h1 ?_); (case h0 => (first | k_extra "ar" | lia | omega)); (case h1 => (first | k_extra "ar" | lia | omega)))
  k_with "compareOp NotIn int bytes" => (k_here; (with_reducible refine notIn_bytes ?h0 ?h1 ?_); (case h0 => (first | k_extra "ar" | lia | omega)); (case h1 => (first | k_extra "ar" | lia | omega)))
  k_with "call builtin:bytes.find" => (k_here; (with_reducible refine find2 ?h0 ?_); (case h0 => first | decide | (simp; done)); intro tXzz kXzz)
  k_with "call builtin:bytes.find" => (k_here; (with_reducible refine find3 ?h0 ?h1 ?_); (case h0 => (first | k_extra "ar" | lia | omega)); (case h1 => first | decide | (simp; done)); intro tXzz kXzz)
  k_with "call builtin:len" => (k_here; (with_reducible show wpAny _ _ (call (Value.builtin "len") [Value.bytes _ _]) _ _ _); (refine len_bytes (by (first | k_extra "ar" | lia | omega)) ?_))
  k_with "k_intsEnd" => (first | (first | k_extra "ar" | lia | omega) | ((try simp only [List.size_toArray, List.length_cons, List.length_nil, Array.size_append, Array.size_extract]); (first | k_extra "ar" | lia | omega)))
  k_with "binaryOp Add bytes bytes" => (k_here; (with_reducible show wpAny _ _ (binaryOp Operator.Add (Value.bytes _ _) (Value.bytes _ _)) _ _ _); (refine add_my (by first | k_dflt (exact sz_line (by k_extra "szb") (by k_extra "szb") (by first | rfl | decide)) | k_intsEnd) ?_); intro tXzz kXzz zXzz; (try simp only [List.size_toArray, List.length_cons, List.length_nil] at zXzz))
  k_with "subscriptTail" => (k_here; (with_reducible show wpAny _ _ (subscriptTail _ _ (Value.bytes _ _) (Value.int _ _)) _ _ _); (refine item_my (by k_intsEnd) (by k_intsEnd) (by k_intsEnd) ?_); intro tXzz kXzz loXzz hiXzz)
  k_with "subscriptTail" => (k_here; (with_reducible show wpAny _ _ (subscriptTail _ (Expr.Slice _ _ none _) (Value.bytes _ _) (Value.ref _)) _ _ _); (with_reducible rename Fr _ _ _ _ => F'zz); (with_reducible rename News _ _ _ _ => N'zz); (refine' slice_my (s := ⟨_, _, _, _, _⟩) ?hb F'zz N'zz (by constructor) (by constructor) ?hz ?_; (case hb => first | (refine picked_both ?_ ?_ <;> (first | k_extra "ar" | lia | omega)) | (refine picked_lo ?_; (first | k_extra "ar" | lia | omega)) | (refine picked_hi ?_; (first | k_extra "ar" | lia | omega)) | exact picked_neg (k := 1) rfl (by decide) | exact picked_neg (k := 2) rfl (by decide) | exact picked_neg (k := 6) rfl (by decide)); (case hz => k_intsEnd)); clear F'zz N'zz; intro hXzz tXzz kXzz FXzz NXzz zXzz)
  k_with "eval ListComp" => (k_here; k_extra "mycomp"; k_dflt (refine ListComp_V (F₀ := by k_asm) (by with_unfolding_all rfl) (by decide) (by rfl) (by decide) (by rfl) ?_))
  k_with "exec Assign cons ListComp" => (k_here; k_extra "mycomp"; k_dflt (refine Assign_ListComp_V (F₀ := by k_asm) (by rfl) (by with_unfolding_all rfl) (by with_unfolding_all rfl) (by decide) (by rfl) (by decide) (by rfl) (by rfl) (by rfl) ?_))
  k_with "call builtin:list.append" => (k_here; (with_reducible show wpAny _ _ (call (Value.builtin _) [Value.ref _, _]) _ _ _); k_dflt (refine' append_K ?k1 ?k2 ?k3 ?_ ?z; (case k1 => k_asm); (case k2 => k_asm); (case k3 => first | exact Upd.head (by assumption) | exact Upd.head (fun p hp => Nat.ne_of_lt ((by assumption : ∀ p ∈ _, p.1 < _) p hp))); (case z => first | size_fits | (rw [PySem.sizeLine_eq]; simp only [List.push_toArray, List.size_toArray, List.length_append, List.length_cons, List.length_nil]; (first | k_extra "ar" | lia | omega))); k_whole); intro h'zz F'zz N'zz; (try simp only [List.push_toArray, List.append_assoc, List.cons_append, List.nil_append] at N'zz); (try k_sweep))
  k_with "call ref" => (k_here; (first | (with_reducible show wpAny _ _ (call (Value.ref (nat_lit 138)) _) _ _ _) | (with_reducible show wpAny _ _ (call (Value.ref (nat_lit 208)) _) _ _ _) | (with_reducible show wpAny _ _ (call (Value.ref (nat_lit 243)) _) _ _ _)); k_dflt (refine' call_cls ?k1 ?k2 ?k3 ?k4 ?k5 ?k6 ?_; (case k1 => k_asm); (case k2 => k_in); (case k3 => k_asm); (case k4 => k_is); (case k5 => k_is); (case k6 => k_is); k_whole; intro x'zz d'zz h'zz F'zz N'zz l1zz l2zz; (try k_lt l1zz); (try k_lt2 l2zz); cell_enter))
  k_with "call builtin:bytes.split" => (k_here; k_dflt (refine' split_bytes ?kF ?kN ?hb ?h1 ?h2 ?_; (case kF => k_asm); (case kN => k_asm); (case hb => decide); (case h1 => exact split_h1 (by k_intsEnd)); (case h2 => exact split_h2 (by k_intsEnd))); intro lXzz vsXzz hXzz kXzz bXzz FXzz NXzz ltXzz)
  k_with "call builtin:bytes.join" => (k_here; k_dflt (refine' join_bytes ?kl ?kv ?h1 ?h2 ?_; (case kl => exact News.isList (by k_asm) (by k_mem)); (case kv => with_reducible assumption); (case h1 => with_reducible assumption); (case h2 => with_reducible assumption)); intro tXzz kXzz)
  k_with "call builtin:bytes.replace" => (k_here; k_dflt (refine' replace_bytes ?hb ?h1 ?h2 ?_; (case hb => decide); (case h1 => exact repl_h1 (by k_intsEnd) (by decide)); (case h2 => exact repl_h2 (by k_intsEnd) (by decide))); intro tXzz kXzz)
  k_with "call builtin:len" => (k_here; (with_reducible show wpAny _ _ (call (Value.builtin "len") [Value.ref _]) _ _ _); k_extra "mylen"; k_dflt (refine' len_my ?kl ?kf ?_; (case kl => exact News.isList (by k_asm) (by k_mem)); (case kf => (first | k_extra "ar" | lia | omega))); intro tXzz kXzz)
  k_with "ktr_room" => (first | ((with_reducible show _ + 1 + _ < recursionLimit); exact room_d (by with_reducible assumption) rfl) | ((with_reducible show _ + 3 + _ < cLine); exact room_u (by with_reducible assumption) rfl) | exact room_0 (by with_reducible assumption))
  k_with "nb1" => (first | ((fail_if_success (fail_if_success (with_reducible apply nb_dec; decide))); exact Nat.le_refl _) | with_reducible assumption | (with_reducible apply And.left; with_reducible assumption) | (with_reducible apply And.right; with_reducible assumption) | (with_reducible apply Nat.le_of_lt; with_reducible assumption) | ((with_reducible apply Nat.add_le_add) <;> k_extra "nb1") | ((with_reducible apply nb_tarr) <;> k_extra "nb1") | ((with_reducible apply nb_push) <;> k_extra "nb1") | ((with_reducible apply nb_cons) <;> k_extra "nb1") | ((with_reducible apply nb_lapp) <;> k_extra "nb1") | ((with_reducible apply nb_take) <;> k_extra "nb1") | ((with_reducible apply nb_drop) <;> k_extra "nb1") | ((with_reducible apply nb_map) <;> k_extra "nb1") | ((with_reducible apply nb_app) <;> k_extra "nb1") | ((with_reducible apply nb_ext) <;> k_extra "nb1") | ((with_reducible apply nb_minr) <;> k_extra "nb1") | ((with_reducible apply nb_minl) <;> k_extra "nb1") | ((with_reducible apply nb_sub) <;> k_extra "nb1") | ((with_reducible apply Nat.mul_le_mul) <;> k_extra "nb1") | with_reducible exact nb_nil)
  k_with "nb" => (first | ((fail_if_success (fail_if_success (with_reducible apply nb_dec; decide))); exact Nat.le_refl _) | with_reducible assumption | (with_reducible apply And.left; with_reducible assumption) | (with_reducible apply And.right; with_reducible assumption) | (with_reducible apply Nat.le_of_lt; with_reducible assumption) | ((with_reducible apply Nat.add_le_add) <;> k_extra "nb") | ((with_reducible apply nb_tarr) <;> k_extra "nb") | ((with_reducible apply nb_push) <;> k_extra "nb") | ((with_reducible apply nb_cons) <;> k_extra "nb") | ((with_reducible apply nb_lapp) <;> k_extra "nb") | ((with_reducible apply nb_take) <;> k_extra "nb") | ((with_reducible apply nb_drop) <;> k_extra "nb") | ((with_reducible apply nb_map) <;> k_extra "nb") | ((with_reducible apply nb_app) <;> k_extra "nb") | ((with_reducible apply nb_ext) <;> k_extra "nb") | ((with_reducible apply nb_minr) <;> k_extra "nb") | ((with_reducible apply nb_minl) <;> k_extra "nb") | ((with_reducible apply nb_sub) <;> k_extra "nb") | ((with_reducible apply Nat.mul_le_mul) <;> k_extra "nb") | with_reducible exact nb_nil | (with_reducible apply nb_eq; with_reducible assumption; k_extra "nb1"))
  k_with "lt" => (first | with_reducible assumption | (with_reducible apply And.left; first | with_reducible assumption | (with_reducible apply And.right; (first | with_reducible assumption | (with_reducible apply And.right; (first | with_reducible assumption | (with_reducible apply And.right; (first | with_reducible assumption | (with_reducible apply And.right; (first | with_reducible assumption | (with_reducible apply And.right; (first | with_reducible assumption | (with_reducible apply And.right; (first | with_reducible assumption | (with_reducible apply And.right; (first | with_reducible assumption | (with_reducible apply And.right; (first | with_reducible assumption | (with_reducible apply And.right; with_reducible assumption)))))))))))))))))))
  k_with "ar" => (first | with_reducible assumption | (with_reducible apply nb_top; k_extra "nb"; decide) | (with_reducible apply nb_lt; k_extra "nb"; decide) | (with_reducible apply ib63; k_extra "nb"; decide) | (with_reducible apply Nat.ne_of_lt; k_extra "lt") | (with_reducible apply Nat.ne_of_gt; k_extra "lt") | (with_reducible apply Nat.le_of_lt; k_extra "lt") | with_reducible exact Int.natCast_nonneg _)
  k_with "k_ne" => ((refine neN ?_; (try dsimp only); first | (with_reducible apply Nat.ne_of_lt; k_extra "lt") | (with_reducible apply Nat.ne_of_gt; k_extra "lt")))
  k_with "k_size" => (k_extra "ar")
  k_with "size_fits" => (first | (with_reducible apply nb_size; k_extra "nb"; decide) | (with_reducible apply nb_top; k_extra "nb"; decide))
  k_with "memr" => (first | with_reducible exact List.mem_cons_self | (with_reducible refine List.mem_cons_of_mem _ ?_; k_extra "memr"))
  k_with "k_mem" => (k_extra "memr")
  k_with "k_in" => (first | k_in_fast | assumption | exact Frag.In.keeps (by k_asm) (Fr.keep (by k_asm)))
  k_with "call ref" => (k_here; (with_reducible show wpAny _ _ (call (Value.ref (nat_lit 92)) _) _ _ _); k_dflt (refine' c_number_by ?kB ?kF ?kX ?kN ?kT ?kk ?kd ?ku ?hl ?_ ?_; (case kB => k_asm); (case kF => k_asm); (case kX => k_in); (case kN => k_asm); (case kT => k_asm); (case kk => first | with_reducible assumption | exact rfl); (case kd => ktr_room); (case ku => ktr_room); (case hl => (first | k_extra "ar" | lia | omega)); k_whole); intro nXzz tXzz hXzz tkXzz e0zz eXzz FXzz NXzz; rotate_left; intro hXzz tkXzz eXzz FXzz NXzz; rotate_left)
  k_with "call ref" => (k_here; (with_reducible show wpAny _ _ (call (Value.ref (nat_lit 99)) _) _ _ _); k_dflt (refine' c_number_of ?kB ?kF ?kX ?kN ?kT ?kk ?kd ?ku ?hl ?_ ?_; (case kB => k_asm); (case kF => k_asm); (case kX => k_in); (case kN => k_asm); (case kT => k_asm); (case kk => first | with_reducible assumption | exact rfl); (case kd => ktr_room); (case ku => ktr_room); (case hl => k_intsEnd); k_whole); intro nXzz tXzz hXzz tkXzz eXzz FXzz NXzz; rotate_left; intro hXzz tkXzz eXzz FXzz NXzz; rotate_left)
  k_with "call ref" => (k_here; (with_reducible show wpAny _ _ (call (Value.ref (nat_lit 64)) _) _ _ _); k_dflt (refine' c_octets_of ?kB ?kF ?kX ?kN ?kT ?kk ?kd ?ku ?hl ?hlo ?_; (case kB => k_asm); (case kF => k_asm); (case kX => k_in); (case kN => k_asm); (case kT => k_asm); (case kk => first | with_reducible assumption | exact rfl); (case kd => ktr_room); (case ku => ktr_room); (case hl => k_intsEnd); (case hlo => assumption); k_whole); intro tXzz hXzz tkXzz FXzz NXzz)
  k_with "call ref" => (k_here; (with_reducible show wpAny _ _ (call (Value.ref (nat_lit 59)) _) _ _ _); k_dflt (refine' c_text_of ?kB ?kF ?kX ?kN ?kT ?kk ?kd ?ku ?hl ?_; (case kB => k_asm); (case kF => k_asm); (case kX => k_in); (case kN => k_asm); (case kT => k_asm); (case kk => first | with_reducible assumption | exact rfl); (case kd => ktr_room); (case ku => ktr_room); (case hl => k_intsEnd); k_whole); intro tXzz hXzz tkXzz FXzz NXzz)
  trivial

theorem reg_fold_HEX : True := by
  k_with "execs cons" => (k_here; (try k_fold); (try ((with_reducible rename Fr _ _ _ (fun _ => @ite _ _ _ _ _) => Fzz); revert Fzz; refine withFrame (P := fun z => Fr _ _ _ z → _) _ ?_; intro mzz Fzz)); (with_reducible refine wpAny_execs_cons ?_); (try dsimp only); (try k_fold))
  k_with "cell_enter" => ((refine' code_def ?k1 ?k2 ?k3 ?k4 ?k5 ?kA ?kF ?kK ?k6 ?k7 ?k8 ?k9 ?kB ?_ ?c2 ?c3 ?c4 ?c5; (case kA => exact rfl); (case kF => exact rfl); (case kK => assumption); (case k1 => k_asm); (case k2 => k_asm); (case k3 => k_asm); (case k4 => k_asm); (case k5 => k_asm); (case k6 => k_is); (case k7 => k_is); (case k8 => ktr_room); (case k9 => first | exact BindsTo.of_eq rfl | exact binds_K (by k_in) rfl (by k_is) rfl rfl rfl); (case c5 => decide); (case kB => exact locs rfl); (case c2 => exact rfl); (case c3 => exact rfl); (case c4 => exact rfl); k_whole; intro g'zz L'zz h'zz FG'zz F'zz N'zz B'zz X'zz T'zz; (try dsimp only); (try k_lift B'zz); (try (refine withFrame (P := fun z => wpAny _ z _ _ _ _) _ ?_; intro Azz; (try dsimp only))); (try k_fold)))
  trivial

def hexSign (k : Nat) : Nat := if k < 10 then 48 + k else 87 + k
def hexL (l : List UInt8) : List Nat := l.flatMap fun c => [hexSign (c.toNat / 16), hexSign (c.toNat % 16)]
theorem hexL_snoc (l : List UInt8) (c : UInt8) : hexL (l ++ [c]) = hexL l ++ [hexSign (c.toNat / 16)] ++ [hexSign (c.toNat % 16)] := by simp [hexL]
theorem hexL_len (l : List UInt8) : (hexL l).length = 2 * l.length := by
  induction l with
  | nil => rfl
  | cons c r ih =>
    have : hexL (c :: r) = [hexSign (c.toNat / 16), hexSign (c.toNat % 16)] ++ hexL r := by simp [hexL]
    rw [this, List.length_append, ih]
    simp
    (first | k_extra "ar" | lia | omega)
section
variable {prog : Program} {w : World} {A : Around} {E : Value → Shared → Prop} {s : Shared} {value slice : PySem.Expr} {x : Str} {i : Int} {t u : Tok} {c : Nat} {Q : Value → Shared → Prop}
theorem item_sign (h0 : 0 ≤ i) (h1 : i < 9223372036854775808) (hc : x.cps[i.toNat]? = some c) (h : ∀ t' k, Q (.str ⟨#[c]⟩ t') { s with toks := k })
    (hs : subscripted slice false (.str x t) (.int i u) = operate [.str x t, .int i u] (getItem (.str x t) (.int i u)) := by with_unfolding_all rfl)
    (ht : ∀ r, letTemporaryGo value (.str x t) r = pure () := by intro _; with_unfolding_all rfl) :
    wpAny (model prog w) A (subscriptTail value slice (.str x t) (.int i u)) Q E s := by
  refine tail_of_ItemOn ⟨"str", _, F.slot_str_getitem.lookup, typeIs_str _ _ _, P.getItem_str (c := c) ?_ ?_ (h _ _)⟩ hs ht
  · simp; (first | k_extra "ar" | lia | omega)
  · have hlt : i.toNat < x.cps.size := (Array.getElem?_eq_some_iff.mp hc).1
    have e : seqIndex? i x.length = some i.toNat := by
      unfold seqIndex? Str.length
      have : i < (x.cps.size : Int) := by (first | k_extra "ar" | lia | omega)
      simp [show ¬ i < 0 by (first | k_extra "ar" | lia | omega), this, h0]
    rw [e]
    exact hc
end
theorem sign_at {k : Nat} (h : k < 16) : (Str.ofString "0123456789abcdef").cps[k]? = some (hexSign k) := by
  have key : ∀ k : Fin 16, (Str.ofString "0123456789abcdef").cps[k.1]? = some (hexSign k.1) := by decide
  exact key ⟨k, h⟩
theorem and15 {k : Nat} (h : k < 256) : Builtin.bitAnd (k : Int) 15 = ((k % 16 : Nat) : Int) := by
  have key : ∀ k : Fin 256, Builtin.bitAnd ((k.1 : Nat) : Int) 15 = ((k.1 % 16 : Nat) : Int) := by decide +kernel
  exact key ⟨k, h⟩
section
variable {w : World} {dp un : Nat} {gd : Option (List Code)} {cn : Str} {cs : Scope} {a : Addr} {ccd : Value} {cl : List (Str × Addr)} {outer : List Env} {A₀ : Around} {base h₀ : Heap} {L : Addr} {m : Str → Option Value} {hp0 : Heap} {gs0 : Array GenState} {dr0 : Drawn} {tk0 : Nat} {os0 : OsState} {Q E : Value → Shared → Prop} {news : List (Addr × Obj)} {p : Program} {loose : List Str} {mean : ExcName → Option Value} {mg mb : Str → Option Value}

set_option maxHeartbeats 2000000 in
theorem c_hex_of (B : Below A₀ base outer h₀) (F : Fr h₀ L hp0 m) (X : (K w.params).In h₀) (N : News h₀ L hp0 news) (T : Top p loose mean mg mb h₀) (hk : cs.kind = .function)
   (hd : dp + 10 < recursionLimit) (hu : un + 100 < cLine) {b : Array UInt8} {tb : Tok} (hl : b.size ≤ 10000)
  (h1 : ∀ (t : Tok) h' tk', Fr h₀ L h' m → News h₀ L h' news → Q (.str (txt (hexL b.toList)) t) (Shared.mk h' gs0 dr0 tk' os0)) :
  wpAny (model PR w) (ktrTop dp un gd cn cs L a ccd cl outer) (call (.ref (nat_lit 71)) [.bytes b tb]) Q E (Shared.mk hp0 gs0 dr0 tk0 os0) := by
  refine wpAny_call ?_
  k_dflt cell_enter
  k_steps
  refine forB_inv (σ := List Value × Nat) [] (fun _ => []) (fun c => (_, W.listOf c.1.toArray c.2) :: news) (fun i c => StrsAre c.1 ((hexL (b.toList.take i)).map fun c => (⟨#[c]⟩ : Str))) ([], 0) rfl (by k_asm) (by k_asm) .nil (by kst_all) (fun _ h => h) ?_ ?_
  · rintro i k t ⟨vs, n⟩ u h tk own hk hy hoff F2 N2
    dsimp only [kstB] at F2
    have hlt := k.toNat_lt
    dsimp only at hy N2
    have hvs : vs.length ≤ 20000 := by
      rw [StrsAre.len_eq hy, List.length_map, hexL_len, List.length_take, Array.length_toList]
      (first | k_extra "ar" | lia | omega)
    have off' : ∀ p ∈ news ++ own, @Ne Nat p.1 _ := fun p hp => (List.mem_append.mp hp).elim (fun q => Nat.ne_of_lt ((by assumption : ∀ p ∈ news, p.1 < _) p q)) fun q => hoff p q _ (List.mem_cons_self ..)
    rw [List.cons_append] at N2
    k_steps
    have e1 : ((k.toNat : Int).fdiv (2 ^ Int.toNat 4)) = ((k.toNat / 16 : Nat) : Int) := by
      rw [Int.fdiv_eq_ediv_of_nonneg _ (by decide)]
      rfl
    refine item_sign (c := hexSign (k.toNat / 16)) (by rw [e1]; (first | k_extra "ar" | lia | omega)) (by rw [e1]; (first | k_extra "ar" | lia | omega)) (by rw [e1]; exact sign_at (by (first | k_extra "ar" | lia | omega))) ?_
    intro t1 k1
    k_steps
    have e2 := and15 hlt
    refine item_sign (c := hexSign (k.toNat % 16)) (by rw [e2]; (first | k_extra "ar" | lia | omega)) (by rw [e2]; (first | k_extra "ar" | lia | omega)) (by rw [e2]; exact sign_at (by (first | k_extra "ar" | lia | omega))) ?_
    intro t2 k2
    k_steps
    rename News _ _ _ _ => N9
    refine for_end (vs ++ ([.str ⟨#[hexSign (k.toNat / 16)]⟩ t1] ++ [.str ⟨#[hexSign (k.toNat % 16)]⟩ t2]), n + 1 + 1) ?_ (by k_asm) N9 (by kst_all) (by first | kst_same | (dsimp +zetaDelta only; kst_same)) (fun p hp => by rcases List.mem_cons.mp hp with rfl | hp; exact List.mem_cons_self ..; exact List.mem_cons_of_mem _ (List.mem_append.mpr (.inl hp))) (fun p hp => List.mem_cons_of_mem _ (List.mem_append.mpr (.inr hp))) hoff
    have hk' : b.toList[i]? = some k := by simpa using hk
    dsimp only
    rw [take_snoc hk', hexL_snoc, List.map_append, List.map_append, ← List.append_assoc]
    exact strs_snoc (strs_snoc (by assumption))
  · rintro ⟨vs, n⟩ u h tk hy F2 N2
    dsimp only [kstB] at F2
    dsimp only at hy N2
    rw [show b.size = b.toList.length from rfl, List.take_length] at hy
    k_steps
    refine join_list (News.isList (by k_asm) (List.mem_cons_self ..)) (by assumption) (by rw [sum_ones, List.length_map, hexL_len]; show _ + _ * 0 ≤ _; rw [Array.length_toList]; (first | k_extra "ar" | lia | omega)) ?_
    intro t' k'
    rw [join_txt]
    have N4 := cb_drop N2 (fun p hp => List.mem_cons_of_mem _ hp)
    k_steps
    all_goals exact h1 _ _ _ (by assumption) (by first | assumption | exact cb_drop (by assumption) (by first | (intro qz hz; (repeat (first | (with_reducible exact hz) | (with_reducible refine List.mem_cons_of_mem _ ?_))); done) | ((repeat' (first | exact List.forall_mem_nil _ | (with_reducible refine List.forall_mem_cons.mpr ?_; refine ⟨by k_mem, ?_⟩))); all_goals (intro qz hz; repeat (first | (with_reducible exact hz) | refine List.mem_cons_of_mem _ ?_)); done) | (intro p hp; simp [hp]; done)))
end
theorem reg_c_hex_of : True := by
  k_with "call ref" => (k_here; (with_reducible show wpAny _ _ (call (Value.ref (nat_lit 71)) _) _ _ _); k_dflt (refine' c_hex_of ?kB ?kF ?kX ?kN ?kT ?kk ?kd ?ku ?hl ?_; (case kB => k_asm); (case kF => k_asm); (case kX => k_in); (case kN => k_asm); (case kT => k_asm); (case kk => first | with_reducible assumption | exact rfl); (case kd => ktr_room); (case ku => ktr_room); (case hl => k_intsEnd); k_whole); intro tXzz hXzz tkXzz FXzz NXzz)
  trivial


def hexVal (c : Nat) : Nat := if c < 58 then c - 48 else c - 87
def isHex (c : Nat) : Prop := (48 ≤ c ∧ c < 58) ∨ (97 ≤ c ∧ c < 103)
theorem isHex_lt {c : Nat} (h : isHex c) : c < 256 := by unfold isHex at h; (first | k_extra "ar" | lia | omega)
theorem hexVal_lt {c : Nat} (h : isHex c) : hexVal c < 16 := by unfold isHex at h; unfold hexVal; split <;> (first | k_extra "ar" | lia | omega)
theorem find_hex {c : Nat} (h : isHex c) : ((Txt.find (Str.ofString "0123456789abcdef") ⟨#[c]⟩ : Int)) = (hexVal c : Nat) := by
  have key : ∀ c : Fin 103, (48 ≤ c.1 ∧ c.1 < 58) ∨ (97 ≤ c.1 ∧ c.1 < 103) → ((Txt.find (Str.ofString "0123456789abcdef") ⟨#[c.1]⟩ : Int)) = ((hexVal c.1 : Nat) : Int) := by decide +kernel
  exact key ⟨c, by unfold isHex at h; (first | k_extra "ar" | lia | omega)⟩ h
def uns : List Nat → List Nat
  | a :: b :: r => (16 * hexVal a + hexVal b) :: uns r
  | _ => []
theorem uns_get : ∀ (l : List Nat) (i : Nat) (a b : Nat), l[2 * i]? = some a → l[2 * i + 1]? = some b → (uns l)[i]? = some (16 * hexVal a + hexVal b)
  | [], i, a, b, h, _ => by simp at h
  | [x], i, a, b, _, h => by simp at h
  | x :: y :: r, 0, a, b, h1, h2 => by
    simp at h1 h2
    subst h1 h2
    rfl
  | x :: y :: r, i + 1, a, b, h1, h2 => by
    have e1 : 2 * (i + 1) = 2 * i + 1 + 1 := by (first | k_extra "ar" | lia | omega)
    have e2 : 2 * (i + 1) + 1 = (2 * i + 1) + 1 + 1 := by (first | k_extra "ar" | lia | omega)
    rw [e1] at h1
    rw [e2] at h2
    simp only [List.getElem?_cons_succ] at h1 h2
    show (_ :: uns r)[i + 1]? = _
    rw [List.getElem?_cons_succ]
    exact uns_get r i a b h1 h2
theorem uns_len : ∀ l : List Nat, (uns l).length = l.length / 2
  | [] => rfl
  | [_] => by simp [uns]
  | _ :: _ :: r => by
    show (uns r).length + 1 = (r.length + 2) / 2
    rw [uns_len r]
    (first | k_extra "ar" | lia | omega)
theorem uns_lt : ∀ l : List Nat, (∀ c ∈ l, isHex c) → ∀ n ∈ uns l, n < 256
  | [], _, n, h => by simp [uns] at h
  | [_], _, n, h => by simp [uns] at h
  | a :: b :: r, hl, n, h => by
    rcases List.mem_cons.mp h with rfl | h
    · have h1 := hexVal_lt (hl a (by simp))
      have h2 := hexVal_lt (hl b (by simp))
      (first | k_extra "ar" | lia | omega)
    · exact uns_lt r (fun c hc => hl c (by simp [hc])) n h
section
variable {w : World} {dp un : Nat} {gd : Option (List Code)} {cn : Str} {cs : Scope} {a : Addr} {ccd : Value} {cl : List (Str × Addr)} {outer : List Env} {A₀ : Around} {base h₀ : Heap} {L : Addr} {m : Str → Option Value} {hp0 : Heap} {gs0 : Array GenState} {dr0 : Drawn} {tk0 : Nat} {os0 : OsState} {Q E : Value → Shared → Prop} {news : List (Addr × Obj)} {p : Program} {loose : List Str} {mean : ExcName → Option Value} {mg mb : Str → Option Value}

set_option maxHeartbeats 2000000 in
theorem c_hex_digit (B : Below A₀ base outer h₀) (F : Fr h₀ L hp0 m) (X : (K w.params).In h₀) (N : News h₀ L hp0 news) (T : Top p loose mean mg mb h₀) (hk : cs.kind = .function)
   (hd : dp + 10 < recursionLimit) (hu : un + 100 < cLine) {c : Nat} {tb : Tok} (hc : isHex c)
  (h1 : ∀ (t : Tok) h' tk', Fr h₀ L h' m → News h₀ L h' news → Q (.int (hexVal c : Nat) t) (Shared.mk h' gs0 dr0 tk' os0)) :
  wpAny (model PR w) (ktrTop dp un gd cn cs L a ccd cl outer) (call (.ref (nat_lit 78)) [.str ⟨#[c]⟩ tb]) Q E (Shared.mk hp0 gs0 dr0 tk0 os0) := by
  have hf := find_hex hc
  refine wpAny_call ?_
  k_dflt cell_enter
  k_steps
  all_goals first
    | (exfalso; (first | k_extra "ar" | lia | omega))
    | (rw [hf]; exact h1 _ _ _ (by assumption) (by first | assumption | exact cb_drop (by assumption) (by first | (intro qz hz; (repeat (first | (with_reducible exact hz) | (with_reducible refine List.mem_cons_of_mem _ ?_))); done) | ((repeat' (first | exact List.forall_mem_nil _ | (with_reducible refine List.forall_mem_cons.mpr ?_; refine ⟨by k_mem, ?_⟩))); all_goals (intro qz hz; repeat (first | (with_reducible exact hz) | refine List.mem_cons_of_mem _ ?_)); done) | (intro p hp; simp [hp]; done))))
end
theorem reg_c_hex_digit : True := by
  k_with "call ref" => (k_here; (with_reducible show wpAny _ _ (call (Value.ref (nat_lit 78)) _) _ _ _); k_dflt (refine' c_hex_digit ?kB ?kF ?kX ?kN ?kT ?kk ?kd ?ku ?hc ?_; (case kB => k_asm); (case kF => k_asm); (case kX => k_in); (case kN => k_asm); (case kT => k_asm); (case kk => first | with_reducible assumption | exact rfl); (case kd => ktr_room); (case ku => ktr_room); (case hc => assumption); k_whole); intro tXzz hXzz tkXzz FXzz NXzz)
  trivial
theorem item_one {x : Str} {i : Int} {c : Nat} (h0 : 0 ≤ i) (hc : x.cps[i.toNat]? = some c) : Txt.item x i = ⟨#[c]⟩ := by
  have hlt : i.toNat < x.cps.size := (Array.getElem?_eq_some_iff.mp hc).1
  have e : seqIndex? i x.length = some i.toNat := by
    unfold seqIndex? Str.length
    have : i < (x.cps.size : Int) := by (first | k_extra "ar" | lia | omega)
    simp [show ¬ i < 0 by (first | k_extra "ar" | lia | omega), this, h0]
  unfold Txt.item Txt.charAt
  simp [e, hc]
theorem range2_size (k : Nat) : Builtin.Range.rangeSize 0 ((2 * k : Nat) : Int) 2 = (k : Int) := by
  rw [rangeSize_pos (by decide) (by (first | k_extra "ar" | lia | omega))]
  (first | k_extra "ar" | lia | omega)
theorem range2_small {k : Nat} (h : k ≤ 10000) : Builtin.Range.small 0 ((2 * k : Nat) : Int) 2 = true := by
  unfold Builtin.Range.small
  rw [range2_size]
  unfold Builtin.Range.rangeFitsLong
  have e : (2 : Int) ^ 63 = 9223372036854775808 := by decide
  rw [e, if_pos (by decide)]
  rw [decide_eq_true (by (first | k_extra "ar" | lia | omega)), decide_eq_true (by (first | k_extra "ar" | lia | omega)), decide_eq_true (by (first | k_extra "ar" | lia | omega)), decide_eq_true (by (first | k_extra "ar" | lia | omega)), decide_eq_true (by (first | k_extra "ar" | lia | omega)), decide_eq_true (by (first | k_extra "ar" | lia | omega)), decide_eq_true (by (first | k_extra "ar" | lia | omega))]
  simp
  (first | k_extra "ar" | lia | omega)
section
variable {w : World} {dp un : Nat} {gd : Option (List Code)} {cn : Str} {cs : Scope} {a : Addr} {ccd : Value} {cl : List (Str × Addr)} {outer : List Env} {A₀ : Around} {base h₀ : Heap} {L : Addr} {m : Str → Option Value} {hp0 : Heap} {gs0 : Array GenState} {dr0 : Drawn} {tk0 : Nat} {os0 : OsState} {Q E : Value → Shared → Prop} {news : List (Addr × Obj)} {p : Program} {loose : List Str} {mean : ExcName → Option Value} {mg mb : Str → Option Value}

set_option maxHeartbeats 2000000 in
theorem c_octets_of_hex (B : Below A₀ base outer h₀) (F : Fr h₀ L hp0 m) (X : (K w.params).In h₀) (N : News h₀ L hp0 news) (T : Top p loose mean mg mb h₀) (hk : cs.kind = .function)
   (hd : dp + 20 < recursionLimit) (hu : un + 200 < cLine) {l : List Nat} {k : Nat} {tb : Tok} (hk2 : l.length = 2 * k) (hl : k ≤ 10000) (hx : ∀ c ∈ l, isHex c)
  (h1 : ∀ (t : Tok) h' tk', Fr h₀ L h' m → News h₀ L h' news → Q (.bytes ((uns l).map (·.toUInt8)).toArray t) (Shared.mk h' gs0 dr0 tk' os0)) :
  wpAny (model PR w) (ktrTop dp un gd cn cs L a ccd cl outer) (call (.ref (nat_lit 85)) [.str (txt l) tb]) Q E (Shared.mk hp0 gs0 dr0 tk0 os0) := by
  have hlen : (txt l).length = 2 * k := by simp [txt, Str.length, hk2]
  have hmod : Int.fmod (((txt l).length : Nat) : Int) 2 = 0 := by
    rw [hlen, Int.fmod_eq_emod_of_nonneg _ (by decide)]
    (first | k_extra "ar" | lia | omega)
  refine wpAny_call ?_
  k_dflt cell_enter
  k_steps
  · exfalso
    (first | k_extra "ar" | lia | omega)
  refine forR_inv (n := k) (σ := List Value × Nat) [Str.ofString "high", Str.ofString "low"] (fun _ => []) (fun c => (_, W.listOf c.1.toArray c.2) :: news) (fun i c => IntsAre c.1 (((uns l).take i).map fun c : Nat => (c : Int))) ([], 0) rfl (by assumption) (by rw [hlen]; exact range2_small hl) (by rw [hlen]; exact range2_size k) (by k_asm) (by k_asm) .nil (by kst_all) (fun _ h => h) ?_ ?_
  · rintro i t ⟨vs, n⟩ u h tk own hi hy hoff F2 N2
    dsimp only [kstB] at F2
    dsimp only at hy N2
    have g1 : ∃ a, l[2 * i]? = some a := ⟨_, List.getElem?_eq_getElem (by (first | k_extra "ar" | lia | omega))⟩
    have g2 : ∃ a, l[2 * i + 1]? = some a := ⟨_, List.getElem?_eq_getElem (by (first | k_extra "ar" | lia | omega))⟩
    obtain ⟨a1, ha1⟩ := g1
    obtain ⟨a2, ha2⟩ := g2
    have x1 := hx a1 (List.mem_of_getElem? ha1)
    have x2 := hx a2 (List.mem_of_getElem? ha2)
    have v1 := hexVal_lt x1
    have v2 := hexVal_lt x2
    have hun := uns_get l i a1 a2 ha1 ha2
    have hvs : vs.length ≤ 20000 := by
      rw [IntsAre.length hy, List.length_map, List.length_take]
      (first | k_extra "ar" | lia | omega)
    have off' : ∀ p ∈ news ++ own, @Ne Nat p.1 _ := fun p hp => (List.mem_append.mp hp).elim (fun q => Nat.ne_of_lt ((by assumption : ∀ p ∈ news, p.1 < _) p q)) fun q => hoff p q _ (List.mem_cons_self ..)
    rw [List.cons_append] at N2
    k_steps
    have e1 : (0 + (i : Int) * 2).toNat = 2 * i := by (first | k_extra "ar" | lia | omega)
    rw [item_one (x := txt l) (i := 0 + (i : Int) * 2) (c := a1) (by (first | k_extra "ar" | lia | omega)) (by rw [e1]; simpa [txt] using ha1)]
    k_steps
    have e2 : (0 + (i : Int) * 2 + 1).toNat = 2 * i + 1 := by (first | k_extra "ar" | lia | omega)
    rw [item_one (x := txt l) (i := 0 + (i : Int) * 2 + 1) (c := a2) (by (first | k_extra "ar" | lia | omega)) (by rw [e2]; simpa [txt] using ha2)]
    k_steps
    rename News _ _ _ _ => N9
    refine for_end (vs ++ [.int (16 * (hexVal a1 : Nat) + (hexVal a2 : Nat)) _], n + 1) ?_ (by k_asm) N9 (by kst_all) (by first | kst_same | (dsimp +zetaDelta only; kst_same)) (fun p hp => by rcases List.mem_cons.mp hp with rfl | hp; exact List.mem_cons_self ..; exact List.mem_cons_of_mem _ (List.mem_append.mpr (.inl hp))) (fun p hp => List.mem_cons_of_mem _ (List.mem_append.mpr (.inr hp))) hoff
    dsimp only
    rw [take_snoc hun, List.map_append]
    exact ints_snoc (by assumption)
  · rintro ⟨vs, n⟩ u h tk hy F2 N2
    dsimp only [kstB] at F2
    dsimp only at hy N2
    rw [List.take_of_length_le (by rw [uns_len]; (first | k_extra "ar" | lia | omega))] at hy
    k_steps
    refine bytes_K (by k_asm) (by k_asm) (News.isList (by k_asm) (by k_mem)) (by assumption) ?_ ?_ rfl ?_
    · intro n hn
      obtain ⟨c, hc, rfl⟩ := List.mem_map.mp hn
      have := uns_lt l hx c hc
      (first | k_extra "ar" | lia | omega)
    · have := IntsAre.length (by assumption)
      rw [this, PySem.sizeLine_eq, List.length_map, uns_len]
      (first | k_extra "ar" | lia | omega)
    · intro h' t' k' F3 N3 _
      rw [List.map_map]
      have N4 := cb_drop N3 (fun p hp => List.mem_cons_of_mem _ hp)
      k_steps
      all_goals exact h1 _ _ _ (by assumption) (by first | assumption | exact cb_drop (by assumption) (by first | (intro qz hz; (repeat (first | (with_reducible exact hz) | (with_reducible refine List.mem_cons_of_mem _ ?_))); done) | ((repeat' (first | exact List.forall_mem_nil _ | (with_reducible refine List.forall_mem_cons.mpr ?_; refine ⟨by k_mem, ?_⟩))); all_goals (intro qz hz; repeat (first | (with_reducible exact hz) | refine List.mem_cons_of_mem _ ?_)); done) | (intro p hp; simp [hp]; done)))
end
theorem reg_c_octets_of_hex : True := by
  k_with "call ref" => (k_here; (with_reducible show wpAny _ _ (call (Value.ref (nat_lit 85)) _) _ _ _); k_dflt (refine' c_octets_of_hex ?kB ?kF ?kX ?kN ?kT ?kk ?kd ?ku ?hk2 ?hl ?hx ?_; (case kB => k_asm); (case kF => k_asm); (case kX => k_in); (case kN => k_asm); (case kT => k_asm); (case kk => first | with_reducible assumption | exact rfl); (case kd => ktr_room); (case ku => ktr_room); (case hk2 => assumption); (case hl => k_intsEnd); (case hx => assumption); k_whole); intro tXzz hXzz tkXzz FXzz NXzz)
  trivial


/-- all signs stand in b -/
def allIn (b c : Array UInt8) : Bool := b.toList.all fun k => c.contains k
section
variable {w : World} {dp un : Nat} {gd : Option (List Code)} {cn : Str} {cs : Scope} {a : Addr} {ccd : Value} {cl : List (Str × Addr)} {outer : List Env} {A₀ : Around} {base h₀ : Heap} {L : Addr} {m : Str → Option Value} {hp0 : Heap} {gs0 : Array GenState} {dr0 : Drawn} {tk0 : Nat} {os0 : OsState} {Q E : Value → Shared → Prop} {news : List (Addr × Obj)} {p : Program} {loose : List Str} {mean : ExcName → Option Value} {mg mb : Str → Option Value}

set_option maxHeartbeats 2000000 in
theorem c_are_all (B : Below A₀ base outer h₀) (F : Fr h₀ L hp0 m) (X : (K w.params).In h₀) (N : News h₀ L hp0 news) (T : Top p loose mean mg mb h₀) (hk : cs.kind = .function)
   (hd : dp + 10 < recursionLimit) (hu : un + 100 < cLine) {b c : Array UInt8} {tb tc : Tok} (hl : b.size ≤ 100000)
  (h1 : ∀ h' tk', Fr h₀ L h' m → News h₀ L h' news → Q (.bool (allIn b c)) (Shared.mk h' gs0 dr0 tk' os0)) :
  wpAny (model PR w) (ktrTop dp un gd cn cs L a ccd cl outer) (call (.ref (nat_lit 114)) [.bytes b tb, .bytes c tc]) Q E (Shared.mk hp0 gs0 dr0 tk0 os0) := by
  refine wpAny_call ?_
  k_dflt cell_enter
  k_steps
  refine forB_inv (σ := Unit) [] (fun _ => []) (fun _ => news) (fun i _ => (b.toList.take i).all (fun k => c.contains k) = true) () rfl (by k_asm) (by k_asm) rfl (by kst_all) (fun _ h => h) ?_ ?_
  · rintro i k t - u h tk own hk hy hoff F2 N2
    have hlt := k.toNat_lt
    have e1 : ((k.toNat : Int)).toNat.toUInt8 = k := by simp
    have hk' : b.toList[i]? = some k := by simpa using hk
    dsimp only [kstB] at F2
    k_steps
    all_goals rw [e1] at *
    all_goals first
      | exact for_end () (by rw [take_snoc hk', List.all_append, hy]; simp_all) (by k_asm) (by k_asm) (by kst_all) (by first | kst_same | (dsimp +zetaDelta only; kst_same)) (fun p hp => List.mem_append.mpr (.inl hp)) (fun p hp => List.mem_append.mpr (.inr hp)) hoff
      | (have e : allIn b c = false := by
          unfold allIn
          rw [List.all_eq_false]
          exact ⟨k, List.mem_of_getElem? hk', by simp_all⟩
         rw [e] at h1
         exact h1 _ _ (by assumption) (by first | assumption | exact cb_drop (by assumption) (by first | (intro qz hz; (repeat (first | (with_reducible exact hz) | (with_reducible refine List.mem_cons_of_mem _ ?_))); done) | ((repeat' (first | exact List.forall_mem_nil _ | (with_reducible refine List.forall_mem_cons.mpr ?_; refine ⟨by k_mem, ?_⟩))); all_goals (intro qz hz; repeat (first | (with_reducible exact hz) | refine List.mem_cons_of_mem _ ?_)); done) | (intro p hp; simp [hp]; done))))
  · rintro - u h tk hy F2 N2
    dsimp only [kstB] at F2
    rw [show b.size = b.toList.length from rfl, List.take_length] at hy
    have e : allIn b c = true := hy
    rw [e] at h1
    k_steps
    all_goals exact h1 _ _ (by assumption) (by first | assumption | exact cb_drop (by assumption) (by first | (intro qz hz; (repeat (first | (with_reducible exact hz) | (with_reducible refine List.mem_cons_of_mem _ ?_))); done) | ((repeat' (first | exact List.forall_mem_nil _ | (with_reducible refine List.forall_mem_cons.mpr ?_; refine ⟨by k_mem, ?_⟩))); all_goals (intro qz hz; repeat (first | (with_reducible exact hz) | refine List.mem_cons_of_mem _ ?_)); done) | (intro p hp; simp [hp]; done)))
set_option maxHeartbeats 2000000 in
theorem c_has_sign (B : Below A₀ base outer h₀) (F : Fr h₀ L hp0 m) (X : (K w.params).In h₀) (N : News h₀ L hp0 news) (T : Top p loose mean mg mb h₀) (hk : cs.kind = .function)
   (hd : dp + 10 < recursionLimit) (hu : un + 100 < cLine) {b c : Array UInt8} {tb tc : Tok} (hl : c.size ≤ 100000)
  (h1 : ∀ h' tk', Fr h₀ L h' m → News h₀ L h' news → Q (.bool (c.toList.any fun k => decide (0 ≤ fnd b #[k] 0))) (Shared.mk h' gs0 dr0 tk' os0)) :
  wpAny (model PR w) (ktrTop dp un gd cn cs L a ccd cl outer) (call (.ref (nat_lit 107)) [.bytes b tb, .bytes c tc]) Q E (Shared.mk hp0 gs0 dr0 tk0 os0) := by
  refine wpAny_call ?_
  k_dflt cell_enter
  k_steps
  refine forB_inv (σ := Unit) [] (fun _ => []) (fun _ => news) (fun i _ => (c.toList.take i).any (fun k => decide (0 ≤ fnd b #[k] 0)) = false) () rfl (by k_asm) (by k_asm) rfl (by kst_all) (fun _ h => h) ?_ ?_
  · rintro i k t - u h tk own hk hy hoff F2 N2
    have hlt := k.toNat_lt
    have e1 : ((k.toNat : Int)).toNat.toUInt8 = k := by simp
    have hk' : c.toList[i]? = some k := by simpa using hk
    dsimp only [kstB] at F2
    k_steps
    all_goals rw [e1] at *
    all_goals first
      | exact for_end () (by rw [take_snoc hk', List.any_append, hy]; simp_all) (by k_asm) (by k_asm) (by kst_all) (by first | kst_same | (dsimp +zetaDelta only; kst_same)) (fun p hp => by simp [hp]) (fun p hp => by simp [hp]) hoff
      | (have e : (c.toList.any fun k => decide (0 ≤ fnd b #[k] 0)) = true := by
          rw [List.any_eq_true]
          exact ⟨k, List.mem_of_getElem? hk', by simp_all⟩
         rw [e] at h1
         exact h1 _ _ (by assumption) (by first | assumption | exact cb_drop (by assumption) (by first | (intro qz hz; (repeat (first | (with_reducible exact hz) | (with_reducible refine List.mem_cons_of_mem _ ?_))); done) | ((repeat' (first | exact List.forall_mem_nil _ | (with_reducible refine List.forall_mem_cons.mpr ?_; refine ⟨by k_mem, ?_⟩))); all_goals (intro qz hz; repeat (first | (with_reducible exact hz) | refine List.mem_cons_of_mem _ ?_)); done) | (intro p hp; simp [hp]; done))))
  · rintro - u h tk hy F2 N2
    dsimp only [kstB] at F2
    rw [show c.size = c.toList.length from rfl, List.take_length] at hy
    rw [hy] at h1
    k_steps
    all_goals exact h1 _ _ (by assumption) (by first | assumption | exact cb_drop (by assumption) (by first | (intro qz hz; (repeat (first | (with_reducible exact hz) | (with_reducible refine List.mem_cons_of_mem _ ?_))); done) | ((repeat' (first | exact List.forall_mem_nil _ | (with_reducible refine List.forall_mem_cons.mpr ?_; refine ⟨by k_mem, ?_⟩))); all_goals (intro qz hz; repeat (first | (with_reducible exact hz) | refine List.mem_cons_of_mem _ ?_)); done) | (intro p hp; simp [hp]; done)))
end
theorem reg_c_are_all : True := by
  k_with "call ref" => (k_here; (with_reducible show wpAny _ _ (call (Value.ref (nat_lit 114)) _) _ _ _); k_dflt (refine' c_are_all ?kB ?kF ?kX ?kN ?kT ?kk ?kd ?ku ?hl ?_; (case kB => k_asm); (case kF => k_asm); (case kX => k_in); (case kN => k_asm); (case kT => k_asm); (case kk => first | with_reducible assumption | exact rfl); (case kd => ktr_room); (case ku => ktr_room); (case hl => k_intsEnd); k_whole); intro hXzz tkXzz FXzz NXzz)
  trivial
theorem reg_c_has_sign : True := by
  k_with "call ref" => (k_here; (with_reducible show wpAny _ _ (call (Value.ref (nat_lit 107)) _) _ _ _); k_dflt (refine' c_has_sign ?kB ?kF ?kX ?kN ?kT ?kk ?kd ?ku ?hl ?_; (case kB => k_asm); (case kF => k_asm); (case kX => k_in); (case kN => k_asm); (case kT => k_asm); (case kk => first | with_reducible assumption | exact rfl); (case kd => ktr_room); (case ku => ktr_room); (case hl => k_intsEnd); k_whole); intro hXzz tkXzz FXzz NXzz)
  trivial


def hexB : Array UInt8 := [48, 49, 50, 51, 52, 53, 54, 55, 56, 57, 97, 98, 99, 100, 101, 102].toArray
def unhexB (b : Array UInt8) : Array UInt8 := ((uns (cod b)).map (·.toUInt8)).toArray
/-- what object_head_id gives -/
def idOf (b : Array UInt8) (k : Nat) : Option (Array UInt8) := if b.size = 2 * k ∧ allIn b hexB = true then some (unhexB b) else none
theorem hex_in (k : UInt8) (h : hexB.contains k = true) : isHex k.toNat := by
  have h' : hexB.contains k = true → (48 ≤ k.toNat ∧ k.toNat < 58) ∨ (97 ≤ k.toNat ∧ k.toNat < 103) := by
    intro h
    simp [hexB] at h
    rcases h with h | h | h | h | h | h | h | h | h | h | h | h | h | h | h | h <;> subst h <;> decide
  exact h' h
theorem allIn_hex {b : Array UInt8} (h : allIn b hexB = true) : ∀ c ∈ cod b, isHex c := by
  intro c hc
  obtain ⟨k, hk, rfl⟩ := List.mem_map.mp hc
  exact hex_in k (List.all_eq_true.mp h k hk)
theorem cod_len (b : Array UInt8) : (cod b).length = b.size := by simp [cod]
section
variable {w : World} {dp un : Nat} {gd : Option (List Code)} {cn : Str} {cs : Scope} {a : Addr} {ccd : Value} {cl : List (Str × Addr)} {outer : List Env} {A₀ : Around} {base h₀ : Heap} {L : Addr} {m : Str → Option Value} {hp0 : Heap} {gs0 : Array GenState} {dr0 : Drawn} {tk0 : Nat} {os0 : OsState} {Q E : Value → Shared → Prop} {news : List (Addr × Obj)} {p : Program} {loose : List Str} {mean : ExcName → Option Value} {mg mb : Str → Option Value}

set_option maxHeartbeats 2000000 in
theorem c_head_id (B : Below A₀ base outer h₀) (F : Fr h₀ L hp0 m) (X : (K w.params).In h₀) (N : News h₀ L hp0 news) (T : Top p loose mean mg mb h₀) (hk : cs.kind = .function)
   (hd : dp + 40 < recursionLimit) (hu : un + 400 < cLine) {b : Array UInt8} {k : Nat} {tb tc : Tok} (hl : b.size ≤ 10000) (hk2 : k ≤ 100)
  (h1 : ∀ t h' tk', idOf b k = some (unhexB b) → Fr h₀ L h' m → News h₀ L h' news → Q (.bytes (unhexB b) t) (Shared.mk h' gs0 dr0 tk' os0))
  (hE : idOf b k = none → ∀ e h' tk' g, RaisedN base (envX cn cs L a ccd cl :: outer) e (.ref (nat_lit 52)) news h' → g.UpToSlots h' → Fr h₀ L g m → E (.ref e) (Shared.mk h' gs0 dr0 tk' os0)) :
  wpAny (model PR w) (ktrTop dp un gd cn cs L a ccd cl outer) (call (.ref (nat_lit 163)) [.bytes b tb, .int (k : Int) tc]) Q E (Shared.mk hp0 gs0 dr0 tk0 os0) := by
  have ea : allIn b hexB = true → ∀ c ∈ cod b, isHex c := allIn_hex
  have el := cod_len b
  refine wpAny_call ?_
  k_dflt cell_enter
  k_steps
  · exact hE (by exact if_neg (by (first | k_extra "ar" | lia | omega))) _ _ _ _ (by first | assumption | exact raisedN_sub (by assumption) (by first | (intro qz hz; (repeat (first | (with_reducible exact hz) | (with_reducible refine List.mem_cons_of_mem _ ?_))); done) | ((repeat' (first | exact List.forall_mem_nil _ | (with_reducible refine List.forall_mem_cons.mpr ?_; refine ⟨by k_mem, ?_⟩))); all_goals (intro qz hz; repeat (first | (with_reducible exact hz) | refine List.mem_cons_of_mem _ ?_)); done) | (intro p hp; simp [hp]; done))) (by assumption) (by assumption)
  · refine c_octets_of_hex (k := k) (by k_asm) (by k_asm) (by k_in) (by k_asm) (by k_asm) (by first | with_reducible assumption | exact rfl) (by ktr_room) (by ktr_room) (by (first | k_extra "ar" | lia | omega)) (by (first | k_extra "ar" | lia | omega)) (ea (by assumption)) ?_
    intro t1 h1' tk1 F1 N1
    k_steps
    all_goals exact h1 _ _ _ (if_pos ⟨by (first | k_extra "ar" | lia | omega), by assumption⟩) (by assumption) (by first | assumption | exact cb_drop (by assumption) (by first | (intro qz hz; (repeat (first | (with_reducible exact hz) | (with_reducible refine List.mem_cons_of_mem _ ?_))); done) | ((repeat' (first | exact List.forall_mem_nil _ | (with_reducible refine List.forall_mem_cons.mpr ?_; refine ⟨by k_mem, ?_⟩))); all_goals (intro qz hz; repeat (first | (with_reducible exact hz) | refine List.mem_cons_of_mem _ ?_)); done) | (intro p hp; simp [hp]; done)))
  · exact hE (by exact if_neg (fun q => by have := q.2; simp_all [hexB])) _ _ _ _ (by first | assumption | exact raisedN_sub (by assumption) (by first | (intro qz hz; (repeat (first | (with_reducible exact hz) | (with_reducible refine List.mem_cons_of_mem _ ?_))); done) | ((repeat' (first | exact List.forall_mem_nil _ | (with_reducible refine List.forall_mem_cons.mpr ?_; refine ⟨by k_mem, ?_⟩))); all_goals (intro qz hz; repeat (first | (with_reducible exact hz) | refine List.mem_cons_of_mem _ ?_)); done) | (intro p hp; simp [hp]; done))) (by assumption) (by assumption)
end
theorem reg_c_head_id : True := by
  k_with "call ref" => (k_here; (with_reducible show wpAny _ _ (call (Value.ref (nat_lit 163)) _) _ _ _); k_dflt (refine' c_head_id ?kB ?kF ?kX ?kN ?kT ?kk ?kd ?ku ?hl ?hk2 ?_ ?_; (case kB => k_asm); (case kF => k_asm); (case kX => k_in); (case kN => k_asm); (case kT => k_asm); (case kk => first | with_reducible assumption | exact rfl); (case kd => ktr_room); (case ku => ktr_room); (case hl => k_intsEnd); (case hk2 => (first | k_extra "ar" | lia | omega)); k_whole); intro tXzz hXzz tkXzz eXzz FXzz NXzz; rotate_left; intro eXzz xXzz hXzz tkXzz gXzz RXzz UXzz FXzz; rotate_left)
  trivial


abbrev perD (w : World) (k1 k2 k3 k4 : Tok) (n e : Array UInt8) (i : Int) (z : Array UInt8) (t1 t2 t3 t4 : Tok) : Obj :=
  dictOf [⟨PyData.keyHash w.params (Str.ofString "name"), .str (Str.ofString "name") k1, .bytes n t1⟩, ⟨PyData.keyHash w.params (Str.ofString "email"), .str (Str.ofString "email") k2, .bytes e t2⟩,
    ⟨PyData.keyHash w.params (Str.ofString "when"), .str (Str.ofString "when") k3, .int i t3⟩, ⟨PyData.keyHash w.params (Str.ofString "zone"), .str (Str.ofString "zone") k4, .bytes z t4⟩] 4
section
variable {w : World} {dp un : Nat} {gd : Option (List Code)} {cn : Str} {cs : Scope} {a : Addr} {ccd : Value} {cl : List (Str × Addr)} {outer : List Env} {A₀ : Around} {base h₀ : Heap} {L : Addr} {m : Str → Option Value} {hp0 : Heap} {gs0 : Array GenState} {dr0 : Drawn} {tk0 : Nat} {os0 : OsState} {Q E : Value → Shared → Prop} {news : List (Addr × Obj)} {p : Program} {loose : List Str} {mean : ExcName → Option Value} {mg mb : Str → Option Value}

set_option maxHeartbeats 4000000 in
theorem c_person_lt (B : Below A₀ base outer h₀) (F : Fr h₀ L hp0 m) (X : (K w.params).In h₀) (N : News h₀ L hp0 news) (T : Top p loose mean mg mb h₀) (hk : cs.kind = .function)
   (hd : dp + 20 < recursionLimit) (hu : un + 200 < cLine) {n e z : Array UInt8} {i : Int} {t1 t2 t3 t4 : Tok}
  (h1 : ∀ (x d : Addr) k1 k2 k3 k4 h' tk', (∀ q ∈ news, @LT.lt Nat _ q.1 d) → @LT.lt Nat _ d x → Fr h₀ L h' m → News h₀ L h' ((x, instObj 138 d) :: (d, dictOf [⟨PyData.keyHash w.params (Str.ofString "name"), .str (Str.ofString "name") k1, .bytes n t1⟩, ⟨PyData.keyHash w.params (Str.ofString "email"), .str (Str.ofString "email") k2, .bytes e t2⟩,
    ⟨PyData.keyHash w.params (Str.ofString "when"), .str (Str.ofString "when") k3, .int i t3⟩, ⟨PyData.keyHash w.params (Str.ofString "zone"), .str (Str.ofString "zone") k4, .bytes z t4⟩] 4) :: news) → Q (.ref x) (Shared.mk h' gs0 dr0 tk' os0)) :
  wpAny (model PR w) (ktrTop dp un gd cn cs L a ccd cl outer) (call (.ref (nat_lit 138)) [.bytes n t1, .bytes e t2, .int i t3, .bytes z t4]) Q E (Shared.mk hp0 gs0 dr0 tk0 os0) := by
  k_steps
  all_goals exact h1 _ _ _ _ _ _ _ _ (by assumption) (by assumption) (by assumption) (by assumption)
theorem c_person (B : Below A₀ base outer h₀) (F : Fr h₀ L hp0 m) (X : (K w.params).In h₀) (N : News h₀ L hp0 news) (T : Top p loose mean mg mb h₀) (hk : cs.kind = .function)
   (hd : dp + 20 < recursionLimit) (hu : un + 200 < cLine) {n e z : Array UInt8} {i : Int} {t1 t2 t3 t4 : Tok}
  (h1 : ∀ x d k1 k2 k3 k4 h' tk', Fr h₀ L h' m → News h₀ L h' ((x, instObj 138 d) :: (d, perD w k1 k2 k3 k4 n e i z t1 t2 t3 t4) :: news) → Q (.ref x) (Shared.mk h' gs0 dr0 tk' os0)) :
  wpAny (model PR w) (ktrTop dp un gd cn cs L a ccd cl outer) (call (.ref (nat_lit 138)) [.bytes n t1, .bytes e t2, .int i t3, .bytes z t4]) Q E (Shared.mk hp0 gs0 dr0 tk0 os0) :=
  c_person_lt B F X N T hk hd hu fun x d k1 k2 k3 k4 h' tk' _ _ F' N' => h1 x d k1 k2 k3 k4 h' tk' F' N'
end
theorem reg_c_person : True := by
  k_with "call ref" => (k_here; (with_reducible show wpAny _ _ (call (Value.ref (nat_lit 138)) _) _ _ _); k_dflt (refine' c_person ?kB ?kF ?kX ?kN ?kT ?kk ?kd ?ku  ?_; (case kB => k_asm); (case kF => k_asm); (case kX => k_in); (case kN => k_asm); (case kT => k_asm); (case kk => first | with_reducible assumption | exact rfl); (case kd => ktr_room); (case ku => ktr_room);  k_whole); intro xXzz dXzz k1Xzz k2Xzz k3Xzz k4Xzz hXzz tkXzz FXzz NXzz)
  trivial


theorem reg_fold_PER : True := by
  k_with "execs cons" => (k_here; (try ((with_reducible rename Fr _ _ _ (fun _ => @ite _ _ _ _ _) => Fzz); revert Fzz; refine withFrame (P := fun z => Fr _ _ _ z → _) _ ?_; intro mzz Fzz)); (with_reducible refine wpAny_execs_cons ?_); (try dsimp only); skip)
  k_with "cell_enter" => ((refine' code_def ?k1 ?k2 ?k3 ?k4 ?k5 ?kA ?kF ?kK ?k6 ?k7 ?k8 ?k9 ?kB ?_ ?c2 ?c3 ?c4 ?c5; (case kA => exact rfl); (case kF => exact rfl); (case kK => assumption); (case k1 => k_asm); (case k2 => k_asm); (case k3 => k_asm); (case k4 => k_asm); (case k5 => k_asm); (case k6 => k_is); (case k7 => k_is); (case k8 => ktr_room); (case k9 => first | exact BindsTo.of_eq rfl | exact binds_K (by k_in) rfl (by k_is) rfl rfl rfl); (case c5 => decide); (case kB => exact locs rfl); (case c2 => exact rfl); (case c3 => exact rfl); (case c4 => exact rfl); k_whole; intro g'zz L'zz h'zz FG'zz F'zz N'zz B'zz X'zz T'zz; (try dsimp only); (try k_lift B'zz); (try (refine withFrame (P := fun z => wpAny _ z _ _ _ _) _ ?_; intro Azz; (try dsimp only))); (try k_fold)))
  trivial

abbrev pStart (b : Array UInt8) : Int := fnd b #[32, 60] 0
abbrev pRest (b : Array UInt8) : Array UInt8 := b.extract (pStart b + 2).toNat b.size
abbrev pEnd (b : Array UInt8) : Int := fnd (pRest b) #[62, 32] 0
abbrev pName (b : Array UInt8) : Array UInt8 := b.extract 0 (pStart b).toNat
abbrev pMail (b : Array UInt8) : Array UInt8 := (pRest b).extract 0 (pEnd b).toNat
abbrev pTail (b : Array UInt8) : Array UInt8 := (pRest b).extract (pEnd b + 2).toNat (pRest b).size
abbrev pOdd (b : Array UInt8) : Bool := #[60, 62, 10, 0].toList.any fun k => decide (0 ≤ fnd (pName b ++ pMail b) #[k] 0)
abbrev pBlank (b : Array UInt8) : Int := fnd (pTail b) #[32] 0
abbrev pNum (b : Array UInt8) : Option Int := numOf ((pTail b).extract 0 (pBlank b).toNat)
abbrev pZone (b : Array UInt8) : Array UInt8 := (pTail b).extract (pBlank b + 1).toNat (pTail b).size
abbrev pSign (b : Array UInt8) : Bool := #[43, 45].contains (at8 (pZone b) (Int.toNat 0)).toNat.toUInt8
abbrev pDigs (b : Array UInt8) : Bool := allIn ((pZone b).extract (Int.toNat 1) (pZone b).size) #[48, 49, 50, 51, 52, 53, 54, 55, 56, 57]
/-- what read_person gives -/
def personOf (b : Array UInt8) : Option (Array UInt8 × Array UInt8 × Int × Array UInt8) :=
  if pStart b < 0 then none else if pEnd b < 0 then none else if pOdd b = true then none else if pBlank b < 0 then none else
  match pNum b with
  | none => none
  | some i => if ((pZone b).size : Int) ≠ 5 then none else if pSign b = false then none else if pDigs b = false then none else some (pName b, pMail b, i, pZone b)
section
variable {b : Array UInt8} {i : Int}
theorem po1 (h1 : pStart b < 0) : personOf b = none := if_pos h1
theorem po2 (h1 : ¬ pStart b < 0) (h2 : pEnd b < 0) : personOf b = none := (if_neg h1).trans (if_pos h2)
theorem po3 (h1 : ¬ pStart b < 0) (h2 : ¬ pEnd b < 0) (h3 : pOdd b = true) : personOf b = none := (if_neg h1).trans ((if_neg h2).trans (if_pos h3))
theorem po4 (h1 : ¬ pStart b < 0) (h2 : ¬ pEnd b < 0) (h3 : pOdd b = false) (h4 : pBlank b < 0) : personOf b = none := (if_neg h1).trans ((if_neg h2).trans ((if_neg (ne_true_of_eq_false h3)).trans (if_pos h4)))
theorem po_at (h1 : ¬ pStart b < 0) (h2 : ¬ pEnd b < 0) (h3 : pOdd b = false) (h4 : ¬ pBlank b < 0) : personOf b = match pNum b with
  | none => none
  | some i => if ((pZone b).size : Int) ≠ 5 then none else if pSign b = false then none else if pDigs b = false then none else some (pName b, pMail b, i, pZone b) := by
  unfold personOf
  rw [if_neg h1, if_neg h2, if_neg (ne_true_of_eq_false h3), if_neg h4]
theorem po5 (h1 : ¬ pStart b < 0) (h2 : ¬ pEnd b < 0) (h3 : pOdd b = false) (h4 : ¬ pBlank b < 0) (h5 : pNum b = none) : personOf b = none := by rw [po_at h1 h2 h3 h4, h5]
theorem po6 (h1 : ¬ pStart b < 0) (h2 : ¬ pEnd b < 0) (h3 : pOdd b = false) (h4 : ¬ pBlank b < 0) (h5 : pNum b = some i) (h6 : ((pZone b).size : Int) ≠ 5) : personOf b = none := by rw [po_at h1 h2 h3 h4, h5]; exact if_pos h6
theorem po7 (h1 : ¬ pStart b < 0) (h2 : ¬ pEnd b < 0) (h3 : pOdd b = false) (h4 : ¬ pBlank b < 0) (h5 : pNum b = some i) (h6 : ((pZone b).size : Int) = 5) (h7 : pSign b = false) : personOf b = none := by rw [po_at h1 h2 h3 h4, h5]; exact (if_neg (fun q => q h6)).trans (if_pos h7)
theorem po8 (h1 : ¬ pStart b < 0) (h2 : ¬ pEnd b < 0) (h3 : pOdd b = false) (h4 : ¬ pBlank b < 0) (h5 : pNum b = some i) (h6 : ((pZone b).size : Int) = 5) (h7 : pSign b = true) (h8 : pDigs b = false) : personOf b = none := by
  rw [po_at h1 h2 h3 h4, h5]; exact (if_neg (fun q => q h6)).trans ((if_neg (by rw [h7]; exact Bool.noConfusion)).trans (if_pos h8))
theorem po9 (h1 : ¬ pStart b < 0) (h2 : ¬ pEnd b < 0) (h3 : pOdd b = false) (h4 : ¬ pBlank b < 0) (h5 : pNum b = some i) (h6 : ((pZone b).size : Int) = 5) (h7 : pSign b = true) (h8 : pDigs b = true) : personOf b = some (pName b, pMail b, i, pZone b) := by
  rw [po_at h1 h2 h3 h4, h5]; exact (if_neg (fun q => q h6)).trans ((if_neg (by rw [h7]; exact Bool.noConfusion)).trans (if_neg (by rw [h8]; exact Bool.noConfusion)))
end
section
variable {w : World} {dp un : Nat} {gd : Option (List Code)} {cn : Str} {cs : Scope} {a : Addr} {ccd : Value} {cl : List (Str × Addr)} {outer : List Env} {A₀ : Around} {base h₀ : Heap} {L : Addr} {m : Str → Option Value} {hp0 : Heap} {gs0 : Array GenState} {dr0 : Drawn} {tk0 : Nat} {os0 : OsState} {Q E : Value → Shared → Prop} {news : List (Addr × Obj)} {p : Program} {loose : List Str} {mean : ExcName → Option Value} {mg mb : Str → Option Value}

set_option maxHeartbeats 8000000 in
theorem c_read_person (B : Below A₀ base outer h₀) (F : Fr h₀ L hp0 m) (X : (K w.params).In h₀) (N : News h₀ L hp0 news) (T : Top p loose mean mg mb h₀) (hk : cs.kind = .function)
   (hd : dp + 40 < recursionLimit) (hu : un + 400 < cLine) {b : Array UInt8} {tb : Tok} (hl : b.size ≤ 10000)
  (h1 : ∀ n e i z, personOf b = some (n, e, i, z) → ∀ x d k1 k2 k3 k4 t1 t2 t3 t4 h' tk', Fr h₀ L h' m → News h₀ L h' ((x, instObj 138 d) :: (d, perD w k1 k2 k3 k4 n e i z t1 t2 t3 t4) :: news) → Q (.ref x) (Shared.mk h' gs0 dr0 tk' os0))
  (hE : personOf b = none → ∀ e h' tk' g, RaisedN base (envX cn cs L a ccd cl :: outer) e (.ref (nat_lit 52)) news h' → g.UpToSlots h' → Fr h₀ L g m → E (.ref e) (Shared.mk h' gs0 dr0 tk' os0)) :
  wpAny (model PR w) (ktrTop dp un gd cn cs L a ccd cl outer) (call (.ref (nat_lit 149)) [.bytes b tb]) Q E (Shared.mk hp0 gs0 dr0 tk0 os0) := by
  refine wpAny_call ?_
  k_dflt cell_enter
  k_steps
  all_goals first
    | exact hE (by with_reducible exact po1 (by assumption)) _ _ _ _ (by first | assumption | exact raisedN_sub (by assumption) (by first | (intro qz hz; (repeat (first | (with_reducible exact hz) | (with_reducible refine List.mem_cons_of_mem _ ?_))); done) | ((repeat' (first | exact List.forall_mem_nil _ | (with_reducible refine List.forall_mem_cons.mpr ?_; refine ⟨by k_mem, ?_⟩))); all_goals (intro qz hz; repeat (first | (with_reducible exact hz) | refine List.mem_cons_of_mem _ ?_)); done) | (intro p hp; simp [hp]; done))) (by assumption) (by assumption)
    | exact hE (by with_reducible exact po2 (by assumption) (by assumption)) _ _ _ _ (by first | assumption | exact raisedN_sub (by assumption) (by first | (intro qz hz; (repeat (first | (with_reducible exact hz) | (with_reducible refine List.mem_cons_of_mem _ ?_))); done) | ((repeat' (first | exact List.forall_mem_nil _ | (with_reducible refine List.forall_mem_cons.mpr ?_; refine ⟨by k_mem, ?_⟩))); all_goals (intro qz hz; repeat (first | (with_reducible exact hz) | refine List.mem_cons_of_mem _ ?_)); done) | (intro p hp; simp [hp]; done))) (by assumption) (by assumption)
    | exact hE (by with_reducible exact po3 (by assumption) (by assumption) (by assumption)) _ _ _ _ (by first | assumption | exact raisedN_sub (by assumption) (by first | (intro qz hz; (repeat (first | (with_reducible exact hz) | (with_reducible refine List.mem_cons_of_mem _ ?_))); done) | ((repeat' (first | exact List.forall_mem_nil _ | (with_reducible refine List.forall_mem_cons.mpr ?_; refine ⟨by k_mem, ?_⟩))); all_goals (intro qz hz; repeat (first | (with_reducible exact hz) | refine List.mem_cons_of_mem _ ?_)); done) | (intro p hp; simp [hp]; done))) (by assumption) (by assumption)
    | exact hE (by with_reducible exact po4 (by assumption) (by assumption) (by assumption) (by assumption)) _ _ _ _ (by first | assumption | exact raisedN_sub (by assumption) (by first | (intro qz hz; (repeat (first | (with_reducible exact hz) | (with_reducible refine List.mem_cons_of_mem _ ?_))); done) | ((repeat' (first | exact List.forall_mem_nil _ | (with_reducible refine List.forall_mem_cons.mpr ?_; refine ⟨by k_mem, ?_⟩))); all_goals (intro qz hz; repeat (first | (with_reducible exact hz) | refine List.mem_cons_of_mem _ ?_)); done) | (intro p hp; simp [hp]; done))) (by assumption) (by assumption)
    | exact hE (by with_reducible exact po5 (by assumption) (by assumption) (by assumption) (by assumption) (by assumption)) _ _ _ _ (by first | assumption | exact raisedN_sub (by assumption) (by first | (intro qz hz; (repeat (first | (with_reducible exact hz) | (with_reducible refine List.mem_cons_of_mem _ ?_))); done) | ((repeat' (first | exact List.forall_mem_nil _ | (with_reducible refine List.forall_mem_cons.mpr ?_; refine ⟨by k_mem, ?_⟩))); all_goals (intro qz hz; repeat (first | (with_reducible exact hz) | refine List.mem_cons_of_mem _ ?_)); done) | (intro p hp; simp [hp]; done))) (by assumption) (by assumption)
    | exact hE (by with_reducible exact po6 (by assumption) (by assumption) (by assumption) (by assumption) (by assumption) (by assumption)) _ _ _ _ (by first | assumption | exact raisedN_sub (by assumption) (by first | (intro qz hz; (repeat (first | (with_reducible exact hz) | (with_reducible refine List.mem_cons_of_mem _ ?_))); done) | ((repeat' (first | exact List.forall_mem_nil _ | (with_reducible refine List.forall_mem_cons.mpr ?_; refine ⟨by k_mem, ?_⟩))); all_goals (intro qz hz; repeat (first | (with_reducible exact hz) | refine List.mem_cons_of_mem _ ?_)); done) | (intro p hp; simp [hp]; done))) (by assumption) (by assumption)
    | exact hE (by with_reducible exact po7 (by assumption) (by assumption) (by assumption) (by assumption) (by assumption) (by assumption) (by assumption)) _ _ _ _ (by first | assumption | exact raisedN_sub (by assumption) (by first | (intro qz hz; (repeat (first | (with_reducible exact hz) | (with_reducible refine List.mem_cons_of_mem _ ?_))); done) | ((repeat' (first | exact List.forall_mem_nil _ | (with_reducible refine List.forall_mem_cons.mpr ?_; refine ⟨by k_mem, ?_⟩))); all_goals (intro qz hz; repeat (first | (with_reducible exact hz) | refine List.mem_cons_of_mem _ ?_)); done) | (intro p hp; simp [hp]; done))) (by assumption) (by assumption)
    | exact hE (by with_reducible exact po8 (by assumption) (by assumption) (by assumption) (by assumption) (by assumption) (by assumption) (by assumption) (by assumption)) _ _ _ _ (by first | assumption | exact raisedN_sub (by assumption) (by first | (intro qz hz; (repeat (first | (with_reducible exact hz) | (with_reducible refine List.mem_cons_of_mem _ ?_))); done) | ((repeat' (first | exact List.forall_mem_nil _ | (with_reducible refine List.forall_mem_cons.mpr ?_; refine ⟨by k_mem, ?_⟩))); all_goals (intro qz hz; repeat (first | (with_reducible exact hz) | refine List.mem_cons_of_mem _ ?_)); done) | (intro p hp; simp [hp]; done))) (by assumption) (by assumption)
    | exact h1 _ _ _ _ (by with_reducible exact po9 (by assumption) (by assumption) (by assumption) (by assumption) (by assumption) (by assumption) (by assumption) (by assumption)) _ _ _ _ _ _ _ _ _ _ _ _ (by assumption) (by first | assumption | exact cb_drop (by assumption) (List.forall_mem_cons.mpr ⟨List.mem_cons_self .., List.forall_mem_cons.mpr ⟨List.mem_cons_of_mem _ (List.mem_cons_self ..), by intro p hp; simp [hp]; done⟩⟩))
end
theorem reg_c_read_person : True := by
  k_with "call ref" => (k_here; (with_reducible show wpAny _ _ (call (Value.ref (nat_lit 149)) _) _ _ _); k_dflt (refine' c_read_person ?kB ?kF ?kX ?kN ?kT ?kk ?kd ?ku ?hl ?_ ?_; (case kB => k_asm); (case kF => k_asm); (case kX => k_in); (case kN => k_asm); (case kT => k_asm); (case kk => first | with_reducible assumption | exact rfl); (case kd => ktr_room); (case ku => ktr_room); (case hl => k_intsEnd); k_whole); intro nXzz eXzz iXzz zXzz vXzz xXzz dXzz k1Xzz k2Xzz k3Xzz k4Xzz t1Xzz t2Xzz t3Xzz t4Xzz hXzz tkXzz FXzz NXzz; rotate_left; intro vXzz eXzz hXzz tkXzz gXzz RXzz UXzz FXzz; rotate_left)
  trivial


theorem reg_fold_HROW : True := by
  k_with "execs cons" => (k_here; (try k_fold); (try ((with_reducible rename Fr _ _ _ (fun _ => @ite _ _ _ _ _) => Fzz); revert Fzz; refine withFrame (P := fun z => Fr _ _ _ z → _) _ ?_; intro mzz Fzz)); (with_reducible refine wpAny_execs_cons ?_); (try dsimp only); (try k_fold))
  k_with "cell_enter" => ((refine' code_def ?k1 ?k2 ?k3 ?k4 ?k5 ?kA ?kF ?kK ?k6 ?k7 ?k8 ?k9 ?kB ?_ ?c2 ?c3 ?c4 ?c5; (case kA => exact rfl); (case kF => exact rfl); (case kK => assumption); (case k1 => k_asm); (case k2 => k_asm); (case k3 => k_asm); (case k4 => k_asm); (case k5 => k_asm); (case k6 => k_is); (case k7 => k_is); (case k8 => ktr_room); (case k9 => first | exact BindsTo.of_eq rfl | exact binds_K (by k_in) rfl (by k_is) rfl rfl rfl); (case c5 => decide); (case kB => exact locs rfl); (case c2 => exact rfl); (case c3 => exact rfl); (case c4 => exact rfl); k_whole; intro g'zz L'zz h'zz FG'zz F'zz N'zz B'zz X'zz T'zz; (try dsimp only); (try k_lift B'zz); (try (refine withFrame (P := fun z => wpAny _ z _ _ _ _) _ ?_; intro Azz; (try dsimp only))); (try k_fold)))
  trivial

/-- a head's row -/
def rowOf (k v : Array UInt8) : Array UInt8 := k ++ #[32] ++ repl v #[10] #[10, 32] ++ #[10]
theorem repl_size (v : Array UInt8) : (repl v #[10] #[10, 32]).size ≤ 2 * v.size := by
  rw [repl_eq]
  simp only [List.size_toArray]
  exact subst_len 10 [10, 32] (by decide) v.toList
theorem splitB_sum (v : Array UInt8) (c : UInt8) : (splitB v #[c]).length ≤ v.size + 1 ∧ ((splitB v #[c]).map Array.size).sum ≤ v.size := by
  rw [splitB_eq]
  obtain ⟨h1, h2, h3⟩ := split_bound c v.toList []
  refine ⟨by simpa using h1, ?_⟩
  have e : (List.map Array.size (List.map List.toArray (splitA c [] v.toList))) = (splitA c [] v.toList).map List.length := by
    rw [List.map_map]; congr 1
  rw [e]
  simpa using h2
section
variable {w : World} {dp un : Nat} {gd : Option (List Code)} {cn : Str} {cs : Scope} {a : Addr} {ccd : Value} {cl : List (Str × Addr)} {outer : List Env} {A₀ : Around} {base h₀ : Heap} {L : Addr} {m : Str → Option Value} {hp0 : Heap} {gs0 : Array GenState} {dr0 : Drawn} {tk0 : Nat} {os0 : OsState} {Q E : Value → Shared → Prop} {news : List (Addr × Obj)} {p : Program} {loose : List Str} {mean : ExcName → Option Value} {mg mb : Str → Option Value}

set_option maxHeartbeats 4000000 in
theorem c_head_row (B : Below A₀ base outer h₀) (F : Fr h₀ L hp0 m) (X : (K w.params).In h₀) (N : News h₀ L hp0 news) (T : Top p loose mean mg mb h₀) (hk : cs.kind = .function)
   (hd : dp + 40 < recursionLimit) (hu : un + 400 < cLine) {k v : Array UInt8} {tb tc : Tok} (hk2 : k.size ≤ 10000) (hv : v.size ≤ 10000)
  (h1 : ∀ t h' tk', Fr h₀ L h' m → News h₀ L h' news → Q (.bytes (rowOf k v) t) (Shared.mk h' gs0 dr0 tk' os0)) :
  wpAny (model PR w) (ktrTop dp un gd cn cs L a ccd cl outer) (call (.ref (nat_lit 156)) [.bytes k tb, .bytes v tc]) Q E (Shared.mk hp0 gs0 dr0 tk0 os0) := by
  refine wpAny_call ?_
  k_dflt cell_enter
  k_steps
  have b1 := splitB_sum v 10
  have b2 := repl_size v
  have j1 : (#[10, 32] : Array UInt8).size * ((splitB v #[10]).length - 1) + ((splitB v #[10]).map Array.size).sum ≤ 16777216 := by
    have e : (#[10, 32] : Array UInt8).size = 2 := rfl
    rw [e]
    (first | k_extra "ar" | lia | omega)
  have j2 : (Builtin.Bytes.joined #[10, 32] (splitB v #[10])).size ≤ 16777216 := by
    rw [join_splitB]; (first | k_extra "ar" | lia | omega)
  refine join_bytes (News.isList (by k_asm) (by k_mem)) (by assumption) j1 j2 ?_
  intro tJ kJ
  rw [join_splitB]
  clear j1 j2 b1
  rename News _ _ _ _ => N9
  have N8 := cb_drop N9 (fun p hp => List.mem_cons_of_mem _ hp)
  k_steps
  all_goals first | exact h1 _ _ _ (by assumption) (by first | assumption | exact cb_drop (by assumption) (by first | (intro qz hz; (repeat (first | (with_reducible exact hz) | (with_reducible refine List.mem_cons_of_mem _ ?_))); done) | ((repeat' (first | exact List.forall_mem_nil _ | (with_reducible refine List.forall_mem_cons.mpr ?_; refine ⟨by k_mem, ?_⟩))); all_goals (intro qz hz; repeat (first | (with_reducible exact hz) | refine List.mem_cons_of_mem _ ?_)); done) | (intro p hp; simp [hp]; done)))
end
theorem reg_c_head_row : True := by
  k_with "call ref" => (k_here; (with_reducible show wpAny _ _ (call (Value.ref (nat_lit 156)) _) _ _ _); k_dflt (refine' c_head_row ?kB ?kF ?kX ?kN ?kT ?kk ?kd ?ku ?hk2 ?hv ?_; (case kB => k_asm); (case kF => k_asm); (case kX => k_in); (case kN => k_asm); (case kT => k_asm); (case kk => first | with_reducible assumption | exact rfl); (case kd => ktr_room); (case ku => ktr_room); (case hk2 => k_intsEnd); (case hv => k_intsEnd); k_whole); intro tXzz hXzz tkXzz FXzz NXzz)
  trivial


theorem reg_fold_HDS : True := by
  k_with "execs cons" => (k_here; (try ((with_reducible rename Fr _ _ _ (fun _ => @ite _ _ _ _ _) => Fzz); revert Fzz; refine withFrame (P := fun z => Fr _ _ _ z → _) _ ?_; intro mzz Fzz)); (with_reducible refine wpAny_execs_cons ?_); (try dsimp only); skip)
  k_with "cell_enter" => ((refine' code_def ?k1 ?k2 ?k3 ?k4 ?k5 ?kA ?kF ?kK ?k6 ?k7 ?k8 ?k9 ?kB ?_ ?c2 ?c3 ?c4 ?c5; (case kA => exact rfl); (case kF => exact rfl); (case kK => assumption); (case k1 => k_asm); (case k2 => k_asm); (case k3 => k_asm); (case k4 => k_asm); (case k5 => k_asm); (case k6 => k_is); (case k7 => k_is); (case k8 => ktr_room); (case k9 => first | exact BindsTo.of_eq rfl | exact binds_K (by k_in) rfl (by k_is) rfl rfl rfl); (case c5 => decide); (case kB => exact locs rfl); (case c2 => exact rfl); (case c3 => exact rfl); (case c4 => exact rfl); k_whole; intro g'zz L'zz h'zz FG'zz F'zz N'zz B'zz X'zz T'zz; (try dsimp only); (try k_lift B'zz); (try (refine withFrame (P := fun z => wpAny _ z _ _ _ _) _ ?_; intro Azz; (try dsimp only))); (try k_fold)))
  trivial

theorem row_size {b : Array UInt8} {k : Int} (h0 : 0 ≤ k) (hr : fnd b #[10] k.toNat = -1 ∨ ((k.toNat : Int) ≤ fnd b #[10] k.toNat ∧ fnd b #[10] k.toNat + 1 ≤ b.size)) (h : ¬ fnd b #[10] k.toNat < 0) : ((b.extract k.toNat (fnd b #[10] k.toNat).toNat).size : Int) = fnd b #[10] k.toNat - k := by
  generalize fnd b #[10] k.toNat = e at hr h ⊢
  rw [Array.size_extract, Nat.min_eq_left (by (first | k_extra "ar" | lia | omega))]
  (first | k_extra "ar" | lia | omega)
section
variable {w : World} {dp un : Nat} {gd : Option (List Code)} {cn : Str} {cs : Scope} {a : Addr} {ccd : Value} {cl : List (Str × Addr)} {outer : List Env} {A₀ : Around} {base h₀ : Heap} {L : Addr} {m : Str → Option Value} {hp0 : Heap} {gs0 : Array GenState} {dr0 : Drawn} {tk0 : Nat} {os0 : OsState} {Q E : Value → Shared → Prop} {news : List (Addr × Obj)} {p : Program} {loose : List Str} {mean : ExcName → Option Value} {mg mb : Str → Option Value}

set_option maxHeartbeats 8000000 in
theorem c_object_heads (B : Below A₀ base outer h₀) (F : Fr h₀ L hp0 m) (X : (K w.params).In h₀) (N : News h₀ L hp0 news) (T : Top p loose mean mg mb h₀) (hk : cs.kind = .function)
   (hd : dp + 40 < recursionLimit) (hu : un + 400 < cLine) {b : Array UInt8} {tb : Tok} (hl : b.size ≤ 10000)
  (h1 : ∀ hs msg, headsOf b = some (hs, msg) → ∀ D H vs n tl t h' tk', Fr h₀ L h' m → News h₀ L h' ((D, { cls := .type "tuple", data := .seq [Value.ref H, Value.bytes msg t].toArray }) :: (H, W.listOf vs.toArray n) :: (tl ++ news)) → PairsIn tl vs hs → (∀ p ∈ hs, p.1.size ≤ b.size ∧ p.2.size ≤ b.size) → msg.size ≤ b.size → vs.length ≤ b.size → Q (.ref D) (Shared.mk h' gs0 dr0 tk' os0))
  (hE : headsOf b = none → ∀ e h' tk' g, RaisedN base (envX cn cs L a ccd cl :: outer) e (.ref (nat_lit 52)) news h' → g.UpToSlots h' → Fr h₀ L g m → E (.ref e) (Shared.mk h' gs0 dr0 tk' os0)) :
  wpAny (model PR w) (ktrTop dp un gd cn cs L a ccd cl outer) (call (.ref (nat_lit 170)) [.bytes b tb]) Q E (Shared.mk hp0 gs0 dr0 tk0 os0) := by
  refine wpAny_call ?_
  k_dflt cell_enter
  repeat' (first | ((fail_if_success (with_reducible show wpAny _ _ (exec (Stmt.While _ _ _ _) _) _ _ _)); first | (k_unfold; (try dsimp only)) | (k_end; wrow_close) | walk1 | (dsimp only; walk1) | (leave1; try dsimp only)))
  · exact hE (by exact if_pos (by assumption)) _ _ _ _ (by first | assumption | exact raisedN_sub (by assumption) (by first | (intro qz hz; (repeat (first | (with_reducible exact hz) | (with_reducible refine List.mem_cons_of_mem _ ?_))); done) | ((repeat' (first | exact List.forall_mem_nil _ | (with_reducible refine List.forall_mem_cons.mpr ?_; refine ⟨by k_mem, ?_⟩))); all_goals (intro qz hz; repeat (first | (with_reducible exact hz) | refine List.mem_cons_of_mem _ ?_)); done) | (intro p hp; simp [hp]; done))) (by assumption) (by assumption)
  · rename News _ _ _ _ => N0
    replace N0 := cb_drop N0 (fun p hp => List.mem_cons_of_mem _ hp)
    k_with "mylen" => skip
    refine ksw_while (σ := HS) (fun c => (_, W.listOf c.vs.toArray c.n) :: (c.tl ++ news)) (fun c => [(Str.ofString "at", .int c.k c.t)]) (fun _ => True) [Str.ofString "end", Str.ofString "row", Str.ofString "key", Str.ofString "value", Str.ofString "blank"]
      (fun c => PairsIn c.tl c.vs c.hs ∧ headsF c.fuel b c.hs c.k = headsF (b.size + 1) b [] 0 ∧ (b.size : Int) + 1 ≤ c.fuel + c.k ∧ (0 ≤ c.k ∧ c.k ≤ b.size) ∧ (c.vs.length : Int) ≤ c.k ∧ (∀ p ∈ c.tl ++ news, @Ne Nat p.1 _) ∧ ∀ p ∈ c.hs, (p.1.size : Int) ≤ c.k ∧ (p.2.size : Int) ≤ c.k) (·.fuel) ⟨[], 0, [], [], 0, _, b.size + 1⟩ (by k_asm) N0 trivial (by kst_all) ⟨.nil, rfl, by dsimp only; (first | k_extra "ar" | lia | omega), ⟨by dsimp only; (first | k_extra "ar" | lia | omega), by dsimp only; (first | k_extra "ar" | lia | omega)⟩, by simp, fun p hp => Nat.ne_of_lt ((by assumption : ∀ p ∈ news, p.1 < _) p (by simpa using hp)), fun p hp => nomatch hp⟩ ?_
    rintro ⟨vs, n, hs, tl, k, t, fuel⟩ u h tk - ⟨hp, hf, hfu, ⟨hk0, hk9⟩, hvs, hoff, hsz⟩ F2 N2
    dsimp only [kstB] at F2
    dsimp only at N2 hp hf hfu hk0 hk9 hvs hoff hsz
    have hr := fnd_range b #[10] k.toNat (by decide)
    have e1 : ((#[10] : Array UInt8).size : Int) = 1 := rfl
    rw [e1] at hr
    obtain ⟨f, rfl⟩ : ∃ f, fuel = f + 1 := ⟨fuel - 1, by (first | k_extra "ar" | lia | omega)⟩
    repeat' (first | ((fail_if_success (with_reducible show wpAny _ _ (subscriptTail _ _ (Value.ref _) (Value.int _ _)) _ _ _)); first | (k_unfold; (try dsimp only)) | (k_end; wrow_close) | walk1 | (dsimp only; walk1) | (leave1; try dsimp only)))
    · exact hE (by rw [heads_of (by assumption) (by assumption)]; exact hf_1 (by assumption)) _ _ _ _ (by first | assumption | exact raisedN_sub (by assumption) (by first | (intro qz hz; (repeat (first | (with_reducible exact hz) | (with_reducible refine List.mem_cons_of_mem _ ?_))); done) | ((repeat' (first | exact List.forall_mem_nil _ | (with_reducible refine List.forall_mem_cons.mpr ?_; refine ⟨by k_mem, ?_⟩))); all_goals (intro qz hz; repeat (first | (with_reducible exact hz) | refine List.mem_cons_of_mem _ ?_)); done) | (intro p hp; simp [hp]; done))) (by assumption) (by assumption)
    · exact h1 _ _ (by rw [heads_of (by assumption) (by assumption)]; exact hf_2 (by assumption) (by assumption)) _ _ _ _ _ _ _ _ (by assumption) (by assumption) (by assumption) (fun p hp => by have := (by assumption : ∀ p ∈ hs, (p.1.size : Int) ≤ k ∧ (p.2.size : Int) ≤ k) p hp; (first | k_extra "ar" | lia | omega)) (by assumption) (by (first | k_extra "ar" | lia | omega))
    · obtain rfl : hs = [] := List.eq_nil_of_length_eq_zero (by rw [← PairsIn.length (by assumption)]; (first | k_extra "ar" | lia | omega))
      exact hE (by rw [heads_of (by assumption) (by assumption)]; exact hf_3 (by assumption) (by assumption) (by assumption)) _ _ _ _ (by first | assumption | exact raisedN_sub (by assumption) (by first | (intro qz hz; (repeat (first | (with_reducible exact hz) | (with_reducible refine List.mem_cons_of_mem _ ?_))); done) | ((repeat' (first | exact List.forall_mem_nil _ | (with_reducible refine List.forall_mem_cons.mpr ?_; refine ⟨by k_mem, ?_⟩))); all_goals (intro qz hz; repeat (first | (with_reducible exact hz) | refine List.mem_cons_of_mem _ ?_)); done) | (intro p hp; simp [hp]; done))) (by assumption) (by assumption)
    · have hne : hs ≠ [] := by
        intro e
        subst e
        have h9 := PairsIn.length (by assumption : PairsIn tl vs [])
        have h8 : ([] : List (Array UInt8 × Array UInt8)).length = 0 := rfl
        (first | k_extra "ar" | lia | omega)
      obtain ⟨hs', p, rfl⟩ : ∃ hs' p, hs = hs' ++ [p] := ⟨hs.dropLast, hs.getLast hne, (List.dropLast_concat_getLast hne).symm⟩
      have hsn := PairsIn.snoc (by assumption : PairsIn tl vs (hs' ++ [p]))
      obtain ⟨ws, v, rfl, hw, a9, t1, t2, rfl, hm⟩ := hsn
      have hsz9 := (by assumption : ∀ q ∈ hs' ++ [p], (q.1.size : Int) ≤ k ∧ (q.2.size : Int) ≤ k)
      have hsp := hsz9 p (by simp)
      have hrow := row_size hk0 hr (by assumption)
      rename News _ _ _ _ => N9
      replace N9 := cb_drop (news := (_, W.listOf (ws ++ [Value.ref a9]).toArray n) :: (a9, { cls := .type "tuple", data := .seq [Value.bytes p.1 t1, Value.bytes p.2 t2].toArray }) :: (tl ++ news)) N9 (List.forall_mem_cons.mpr ⟨List.mem_cons_of_mem _ (List.mem_cons_self ..), List.forall_mem_cons.mpr ⟨List.mem_cons_of_mem _ (List.mem_cons_of_mem _ (List.mem_append.mpr (.inl hm))), fun q hq => List.mem_cons_of_mem _ (List.mem_cons_of_mem _ hq)⟩⟩)
      refine sub_last (News.isList N9 (List.mem_cons_self ..)) ?_
      repeat' (first | ((fail_if_success (with_reducible show wpAny _ _ (setItem _ _ _) _ _ _)); first | (k_unfold; (try dsimp only)) | (k_end; wrow_close) | walk1 | (dsimp only; walk1) | (leave1; try dsimp only)))
      rename News _ _ _ _ => N8
      replace N8 := cb_drop (news := (_, W.listOf (ws ++ [Value.ref a9]).toArray n) :: (_, { cls := .type "tuple", data := .seq [Value.bytes _ _, Value.bytes _ _].toArray }) :: (tl ++ news)) N8 (List.forall_mem_cons.mpr ⟨List.mem_cons_of_mem _ (List.mem_cons_self ..), List.forall_mem_cons.mpr ⟨List.mem_cons_self .., fun q hq => List.mem_cons_of_mem _ (List.mem_cons_of_mem _ (List.mem_cons_of_mem _ hq))⟩⟩)
      refine set_last (by k_asm) N8 (Upd.head (List.forall_mem_cons.mpr ⟨Nat.ne_of_gt (by (first | k_extra "ar" | lia | omega)), by assumption⟩)) ?_
      intro h8 F8 N7
      k_steps
      rename News _ _ _ _ => N6
      refine ksw_end ⟨ws ++ [_], n, hs' ++ [(p.1, p.2 ++ #[10] ++ (hRow b k).extract (Int.toNat 1) (hRow b k).size)], (_, _) :: tl, _, _, f⟩ (by k_asm) N6 (by intro q hq; exact hq) trivial (by kst_all) (by intro z h2 h3; simp only [List.forall_mem_cons, List.not_mem_nil, false_implies, implies_true, and_true, ne_eq] at h2; simp only [List.contains_cons, List.contains_nil, Bool.or_false, Bool.or_eq_false_iff, beq_eq_false_iff_ne, ne_eq] at h3; (first | (simp [h2, h3]; done) | (simp +zetaDelta [h2, h3]; done))) ?_ (by dsimp only; (first | k_extra "ar" | lia | omega))
      have hp9 : ∀ y, PairsIn (y :: tl) ws hs' := fun y => PairsIn.mono (fun q hq => List.mem_cons_of_mem _ hq) hw
      have hl9 := PairsIn.length (by assumption : PairsIn tl (ws ++ [Value.ref a9]) (hs' ++ [p]))
      have hl8 := (by assumption : (((ws ++ [Value.ref a9]).length : Nat) : Int) ≤ k)
      refine ⟨PairsIn.append (hp9 _) (PairsIn.one ⟨_, _, _, rfl, List.mem_cons_self ..⟩), ?_, ?_, ?_, ?_, ?_, ?_⟩
      · rw [← (by assumption : headsF (f + 1) b (hs' ++ [p]) k = headsF (b.size + 1) b [] 0)]
        exact (hf_4 (by assumption) (by assumption) (by assumption)).symm
      · dsimp only; (first | k_extra "ar" | lia | omega)
      · dsimp only; (first | k_extra "ar" | lia | omega)
      · dsimp only; rw [List.length_append, List.length_singleton] at hl8 ⊢; (first | k_extra "ar" | lia | omega)
      · exact List.forall_mem_cons.mpr ⟨Nat.ne_of_gt (by (first | k_extra "ar" | lia | omega)), by assumption⟩
      · intro q hq
        rcases List.mem_append.mp hq with hq | hq
        · have := hsz9 q (List.mem_append.mpr (.inl hq))
          dsimp only
          (first | k_extra "ar" | lia | omega)
        · rw [List.mem_singleton.mp hq]
          dsimp only
          have hrow' : ((hRow b k).size : Int) = hEnd b k - k := hrow
          have e0 : hEnd b k = fnd b #[10] k.toNat := rfl
          have e5 : ((hRow b k).extract (Int.toNat 1) (hRow b k).size).size = (hRow b k).size - 1 := by rw [Array.size_extract, Nat.min_self]; rfl
          have e3 : (#[10] : Array UInt8).size = 1 := rfl
          have e6 : (p.2 ++ #[10] ++ (hRow b k).extract (Int.toNat 1) (hRow b k).size).size = p.2.size + 1 + ((hRow b k).size - 1) := by rw [Array.size_append, Array.size_append, e5, e3]
          rw [e6]
          clear e6 e5 e3
          exact ⟨by (first | k_extra "ar" | lia | omega), by (first | k_extra "ar" | lia | omega)⟩
    · exact hE (by rw [heads_of (by assumption) (by assumption)]; exact hf_5 (by assumption) (by assumption) (by assumption) (by assumption)) _ _ _ _ (by first | assumption | exact raisedN_sub (by assumption) (by first | (intro qz hz; (repeat (first | (with_reducible exact hz) | (with_reducible refine List.mem_cons_of_mem _ ?_))); done) | ((repeat' (first | exact List.forall_mem_nil _ | (with_reducible refine List.forall_mem_cons.mpr ?_; refine ⟨by k_mem, ?_⟩))); all_goals (intro qz hz; repeat (first | (with_reducible exact hz) | refine List.mem_cons_of_mem _ ?_)); done) | (intro p hp; simp [hp]; done))) (by assumption) (by assumption)
    · have hrow := row_size hk0 hr (by assumption)
      rename News _ _ _ _ => N9
      replace N9 := cb_drop (news := (_, W.listOf vs.toArray n) :: (_, { cls := .type "tuple", data := .seq [Value.bytes _ _, Value.bytes _ _].toArray }) :: (tl ++ news)) N9 (List.forall_mem_cons.mpr ⟨List.mem_cons_of_mem _ (List.mem_cons_of_mem _ (List.mem_cons_self ..)), List.forall_mem_cons.mpr ⟨List.mem_cons_self .., fun q hq => List.mem_cons_of_mem _ (List.mem_cons_of_mem _ (List.mem_cons_of_mem _ hq))⟩⟩)
      refine append_K (by k_asm) N9 (Upd.head (List.forall_mem_cons.mpr ⟨Nat.ne_of_gt (by (first | k_extra "ar" | lia | omega)), by assumption⟩)) ?_ (by rw [PySem.sizeLine_eq, List.size_toArray]; (first | k_extra "ar" | lia | omega))
      intro h8 F8 N8
      rw [List.push_toArray] at N8
      k_steps
      rename News _ _ _ _ => N7
      refine ksw_end ⟨vs ++ [_], n + 1, hs ++ [((hRow b k).extract 0 (hBlank b k).toNat, (hRow b k).extract (hBlank b k + 1).toNat (hRow b k).size)], (_, _) :: tl, _, _, f⟩ (by k_asm) N7 (by intro q hq; exact hq) trivial (by kst_all) (by intro z h2 h3; simp only [List.forall_mem_cons, List.not_mem_nil, false_implies, implies_true, and_true, ne_eq] at h2; simp only [List.contains_cons, List.contains_nil, Bool.or_false, Bool.or_eq_false_iff, beq_eq_false_iff_ne, ne_eq] at h3; (first | (simp [h2, h3]; done) | (simp +zetaDelta [h2, h3]; done))) ?_ (by dsimp only; (first | k_extra "ar" | lia | omega))
      have hp9 : ∀ y, PairsIn (y :: tl) vs hs := fun y => PairsIn.mono (fun q hq => List.mem_cons_of_mem _ hq) (by assumption : PairsIn tl vs hs)
      refine ⟨PairsIn.append (hp9 _) (PairsIn.one ⟨_, _, _, rfl, List.mem_cons_self ..⟩), ?_, ?_, ?_, ?_, ?_, ?_⟩
      · rw [← (by assumption : headsF (f + 1) b hs k = headsF (b.size + 1) b [] 0)]
        exact (hf_6 (by assumption) (by assumption) (by assumption) (by assumption)).symm
      · dsimp only; (first | k_extra "ar" | lia | omega)
      · dsimp only; (first | k_extra "ar" | lia | omega)
      · dsimp only; rw [List.length_append, List.length_singleton]; (first | k_extra "ar" | lia | omega)
      · exact List.forall_mem_cons.mpr ⟨Nat.ne_of_gt (by (first | k_extra "ar" | lia | omega)), by assumption⟩
      · intro q hq
        rcases List.mem_append.mp hq with hq | hq
        · have := (by assumption : ∀ q ∈ hs, (q.1.size : Int) ≤ k ∧ (q.2.size : Int) ≤ k) q hq
          dsimp only
          (first | k_extra "ar" | lia | omega)
        · rw [List.mem_singleton.mp hq]
          dsimp only
          have hrow' : ((hRow b k).size : Int) = hEnd b k - k := hrow
          have e0 : hEnd b k = fnd b #[10] k.toNat := rfl
          have e5 : ∀ i j, ((hRow b k).extract i j).size ≤ (hRow b k).size := fun i j => by rw [Array.size_extract]; (first | k_extra "ar" | lia | omega)
          have q1 := e5 0 (hBlank b k).toNat
          have q2 := e5 (hBlank b k + 1).toNat (hRow b k).size
          (first | k_extra "ar" | lia | omega)
end
theorem reg_c_object_heads : True := by
  k_with "call ref" => (k_here; (with_reducible show wpAny _ _ (call (Value.ref (nat_lit 170)) _) _ _ _); k_dflt (refine' c_object_heads ?kB ?kF ?kX ?kN ?kT ?kk ?kd ?ku ?hl ?_ ?_; (case kB => k_asm); (case kF => k_asm); (case kX => k_in); (case kN => k_asm); (case kT => k_asm); (case kk => first | with_reducible assumption | exact rfl); (case kd => ktr_room); (case ku => ktr_room); (case hl => k_intsEnd); k_whole); intro hsXzz msgXzz eXzz DXzz HXzz vsXzz nXzz tlXzz tXzz hXzz tkXzz FXzz NXzz pXzz szXzz mXzz lXzz; rotate_left; intro eXzz xXzz hXzz tkXzz gXzz RXzz UXzz FXzz; rotate_left)
  trivial


theorem reg_all4 : True := by
  k_with_none
  k_with "szb" => (first | with_reducible assumption | exact app_le (by k_extra "szb") (by k_extra "szb") | exact ext_le (by k_extra "szb") | exact (show _ ≤ 100 from by decide))
  k_with "cell_enter" => ((refine' code_def ?k1 ?k2 ?k3 ?k4 ?k5 ?kA ?kF ?kK ?k6 ?k7 ?k8 ?k9 ?kB ?_ ?c2 ?c3 ?c4 ?c5; (case kA => exact rfl); (case kF => exact rfl); (case kK => assumption); (case k1 => k_asm); (case k2 => k_asm); (case k3 => k_asm); (case k4 => k_asm); (case k5 => k_asm); (case k6 => k_is); (case k7 => k_is); (case k8 => ktr_room); (case k9 => first | exact BindsTo.of_eq rfl | exact binds_K (by k_in) rfl (by k_is) rfl rfl rfl); (case c5 => decide); (case kB => exact locs rfl); (case c2 => exact rfl); (case c3 => exact rfl); (case c4 => exact rfl); k_whole; intro g'zz L'zz h'zz FG'zz F'zz N'zz B'zz X'zz T'zz; (try dsimp only); (try k_lift B'zz); (try k_fold)))
  k_with "exec Raise some none" => (k_here; (with_reducible show wpAny _ _ (exec (Stmt.Raise (some (Expr.Call (Expr.Name ("BadObject" : Str) _) (_ :: _) [] _)) none _) _) _ _ _); k_dflt (refine' raise_bad ?hh ?_; (case hh => rfl); k_whole))
  k_with "BadEnd" => (k_here; k_dflt (refine' BadEnd.intro ?kF ?kX ?kN ?_; (case kF => k_asm); (case kX => k_in); (case kN => k_asm); k_whole))
  k_with "exec Raise some none" => (k_here; (with_reducible show wpAny _ _ (exec (Stmt.Raise (some (Expr.Call (Expr.Name ("BadObject" : Str) _) [Expr.Constant (Const.str _) _ _] [] _)) none _) _) _ _ _); k_dflt (refine' raise_const ?kB ?kF ?kX ?kN ?kT ?kk ?kd ?ku ?kx ?_; (case kB => k_asm); (case kF => k_asm); (case kX => k_in); (case kN => k_asm); (case kT => k_asm); (case kk => first | with_reducible assumption | exact rfl); (case kd => ktr_room); (case ku => ktr_room); (case kx => exact rfl); k_whole); intro eXzz tXzz dXzz hXzz tkXzz FXzz NXzz neXzz)
  k_with "call ref" => (k_here; (with_reducible show wpAny _ _ (call (Value.ref (nat_lit 52)) _) _ _ _); k_dflt (refine' bad_call ?kB ?kF ?kX ?kN ?kT ?kk ?kd ?ku  ?_; (case kB => k_asm); (case kF => k_asm); (case kX => k_in); (case kN => k_asm); (case kT => k_asm); (case kk => first | with_reducible assumption | exact rfl); (case kd => ktr_room); (case ku => ktr_room);  k_whole); intro eXzz tXzz dXzz hXzz tkXzz FXzz NXzz neXzz)
  k_with "leaving ref" => (k_here; k_dflt (refine' leave_bad ?kB ?kF ?kN ?kne ?_ ?kk; (case kB => k_asm); (case kF => k_asm); (case kN => k_asm); (case kne => k_asm); (case kk => exact rfl); k_whole); intro hRzz RRzz UUzz)
  k_with "leaving ref" => (k_here; k_dflt (refine' leave_X ?kB ?kF ?kR ?kU ?_; (case kB => k_asm); (case kR => assumption); (case kU => assumption); (case kF => k_asm); k_whole); intro hRzz RRzz UUzz)
  k_with "getMethod bytes" => (k_here; first | ((with_reducible show wpAny _ _ (getMethod _ (Str.ofString "find") _) _ _ _); k_dflt (refine m_find ?_)) | ((with_reducible show wpAny _ _ (getMethod _ (Str.ofString "split") _) _ _ _); k_dflt (refine m_split ?_)) | ((with_reducible show wpAny _ _ (getMethod _ (Str.ofString "join") _) _ _ _); k_dflt (refine m_join ?_)) | ((with_reducible show wpAny _ _ (getMethod _ (Str.ofString "replace") _) _ _ _); k_dflt (refine m_replace ?_)))
  k_with "compareOp In int bytes" => (k_here; (with_reducible refine in_bytes ?h0 ?h1 ?_); (case h0 => (first | k_extra "ar" | lia | omega)); (case h1 => (first | k_extra "ar" | lia | omega)))
  k_with "compareOp NotIn int bytes" => (k_here; (with_reducible refine notIn_bytes ?h0 ?h1 ?_); (case h0 => (first | k_extra "ar" | lia | omega)); (case h1 => (first | k_extra "ar" | lia | omega)))
  k_with "call builtin:bytes.find" => (k_here; (with_reducible refine find2 ?h0 ?_); (case h0 => first | decide | (simp; done)); intro tXzz kXzz)
  k_with "call builtin:bytes.find" => (k_here; (with_reducible refine find3 ?h0 ?h1 ?_); (case h0 => (first | k_extra "ar" | lia | omega)); (case h1 => first | decide | (simp; done)); intro tXzz kXzz)
  k_with "call builtin:len" => (k_here; (with_reducible show wpAny _ _ (call (Value.builtin "len") [Value.bytes _ _]) _ _ _); (refine len_bytes (by (first | k_extra "ar" | lia | omega)) ?_))
  k_with "k_intsEnd" => (first | (first | k_extra "ar" | lia | omega) | ((try simp only [List.size_toArray, List.length_cons, List.length_nil, Array.size_append, Array.size_extract]); (first | k_extra "ar" | lia | omega)))
  k_with "binaryOp Add bytes bytes" => (k_here; (with_reducible show wpAny _ _ (binaryOp Operator.Add (Value.bytes _ _) (Value.bytes _ _)) _ _ _); (refine add_my (by first | k_dflt (exact sz_line (by k_extra "szb") (by k_extra "szb") (by first | rfl | decide)) | k_intsEnd) ?_); intro tXzz kXzz zXzz; (try simp only [List.size_toArray, List.length_cons, List.length_nil] at zXzz))
  k_with "subscriptTail" => (k_here; (with_reducible show wpAny _ _ (subscriptTail _ _ (Value.bytes _ _) (Value.int _ _)) _ _ _); (refine item_my (by k_intsEnd) (by k_intsEnd) (by k_intsEnd) ?_); intro tXzz kXzz loXzz hiXzz)
  k_with "subscriptTail" => (k_here; (with_reducible show wpAny _ _ (subscriptTail _ (Expr.Slice _ _ none _) (Value.bytes _ _) (Value.ref _)) _ _ _); (with_reducible rename Fr _ _ _ _ => F'zz); (with_reducible rename News _ _ _ _ => N'zz); (refine' slice_my (s := ⟨_, _, _, _, _⟩) ?hb F'zz N'zz (by constructor) (by constructor) ?hz ?_; (case hb => first | (refine picked_both ?_ ?_ <;> (first | k_extra "ar" | lia | omega)) | (refine picked_lo ?_; (first | k_extra "ar" | lia | omega)) | (refine picked_hi ?_; (first | k_extra "ar" | lia | omega)) | exact picked_neg (k := 1) rfl (by decide) | exact picked_neg (k := 2) rfl (by decide) | exact picked_neg (k := 6) rfl (by decide)); (case hz => k_intsEnd)); clear F'zz N'zz; intro hXzz tXzz kXzz FXzz NXzz zXzz)
  k_with "eval ListComp" => (k_here; k_extra "mycomp"; k_dflt (refine ListComp_V (F₀ := by k_asm) (by with_unfolding_all rfl) (by decide) (by rfl) (by decide) (by rfl) ?_))
  k_with "exec Assign cons ListComp" => (k_here; k_extra "mycomp"; k_dflt (refine Assign_ListComp_V (F₀ := by k_asm) (by rfl) (by with_unfolding_all rfl) (by with_unfolding_all rfl) (by decide) (by rfl) (by decide) (by rfl) (by rfl) (by rfl) ?_))
  k_with "call builtin:list.append" => (k_here; (with_reducible show wpAny _ _ (call (Value.builtin _) [Value.ref _, _]) _ _ _); k_dflt (refine' append_K ?k1 ?k2 ?k3 ?_ ?z; (case k1 => k_asm); (case k2 => k_asm); (case k3 => first | exact Upd.head (by assumption) | exact Upd.head (fun p hp => Nat.ne_of_lt ((by assumption : ∀ p ∈ _, p.1 < _) p hp))); (case z => first | size_fits | (rw [PySem.sizeLine_eq]; simp only [List.push_toArray, List.size_toArray, List.length_append, List.length_cons, List.length_nil]; (first | k_extra "ar" | lia | omega))); k_whole); intro h'zz F'zz N'zz; (try simp only [List.push_toArray, List.append_assoc, List.cons_append, List.nil_append] at N'zz); (try k_sweep))
  k_with "call ref" => (k_here; (first | (with_reducible show wpAny _ _ (call (Value.ref (nat_lit 138)) _) _ _ _) | (with_reducible show wpAny _ _ (call (Value.ref (nat_lit 208)) _) _ _ _) | (with_reducible show wpAny _ _ (call (Value.ref (nat_lit 243)) _) _ _ _)); k_dflt (refine' call_cls ?k1 ?k2 ?k3 ?k4 ?k5 ?k6 ?_; (case k1 => k_asm); (case k2 => k_in); (case k3 => k_asm); (case k4 => k_is); (case k5 => k_is); (case k6 => k_is); k_whole; intro x'zz d'zz h'zz F'zz N'zz l1zz l2zz; (try k_lt l1zz); (try k_lt2 l2zz); cell_enter))
  k_with "call builtin:bytes.split" => (k_here; k_dflt (refine' split_bytes ?kF ?kN ?hb ?h1 ?h2 ?_; (case kF => k_asm); (case kN => k_asm); (case hb => decide); (case h1 => exact split_h1 (by k_intsEnd)); (case h2 => exact split_h2 (by k_intsEnd))); intro lXzz vsXzz hXzz kXzz bXzz FXzz NXzz ltXzz)
  k_with "call builtin:bytes.join" => (k_here; k_dflt (refine' join_bytes ?kl ?kv ?h1 ?h2 ?_; (case kl => exact News.isList (by k_asm) (by k_mem)); (case kv => with_reducible assumption); (case h1 => with_reducible assumption); (case h2 => with_reducible assumption)); intro tXzz kXzz)
  k_with "call builtin:bytes.replace" => (k_here; k_dflt (refine' replace_bytes ?hb ?h1 ?h2 ?_; (case hb => decide); (case h1 => exact repl_h1 (by k_intsEnd) (by decide)); (case h2 => exact repl_h2 (by k_intsEnd) (by decide))); intro tXzz kXzz)
  k_with "call builtin:len" => (k_here; (with_reducible show wpAny _ _ (call (Value.builtin "len") [Value.ref _]) _ _ _); k_extra "mylen"; k_dflt (refine' len_my ?kl ?kf ?_; (case kl => exact News.isList (by k_asm) (by k_mem)); (case kf => (first | k_extra "ar" | lia | omega))); intro tXzz kXzz)
  k_with "ktr_room" => (first | ((with_reducible show _ + 1 + _ < recursionLimit); exact room_d (by with_reducible assumption) rfl) | ((with_reducible show _ + 3 + _ < cLine); exact room_u (by with_reducible assumption) rfl) | exact room_0 (by with_reducible assumption))
  k_with "nb1" => (first | ((fail_if_success (fail_if_success (with_reducible apply nb_dec; decide))); exact Nat.le_refl _) | with_reducible assumption | (with_reducible apply And.left; with_reducible assumption) | (with_reducible apply And.right; with_reducible assumption) | (with_reducible apply Nat.le_of_lt; with_reducible assumption) | ((with_reducible apply Nat.add_le_add) <;> k_extra "nb1") | ((with_reducible apply nb_tarr) <;> k_extra "nb1") | ((with_reducible apply nb_push) <;> k_extra "nb1") | ((with_reducible apply nb_cons) <;> k_extra "nb1") | ((with_reducible apply nb_lapp) <;> k_extra "nb1") | ((with_reducible apply nb_take) <;> k_extra "nb1") | ((with_reducible apply nb_drop) <;> k_extra "nb1") | ((with_reducible apply nb_map) <;> k_extra "nb1") | ((with_reducible apply nb_app) <;> k_extra "nb1") | ((with_reducible apply nb_ext) <;> k_extra "nb1") | ((with_reducible apply nb_minr) <;> k_extra "nb1") | ((with_reducible apply nb_minl) <;> k_extra "nb1") | ((with_reducible apply nb_sub) <;> k_extra "nb1") | ((with_reducible apply Nat.mul_le_mul) <;> k_extra "nb1") | with_reducible exact nb_nil)
  k_with "nb" => (first | ((fail_if_success (fail_if_success (with_reducible apply nb_dec; decide))); exact Nat.le_refl _) | with_reducible assumption | (with_reducible apply And.left; with_reducible assumption) | (with_reducible apply And.right; with_reducible assumption) | (with_reducible apply Nat.le_of_lt; with_reducible assumption) | ((with_reducible apply Nat.add_le_add) <;> k_extra "nb") | ((with_reducible apply nb_tarr) <;> k_extra "nb") | ((with_reducible apply nb_push) <;> k_extra "nb") | ((with_reducible apply nb_cons) <;> k_extra "nb") | ((with_reducible apply nb_lapp) <;> k_extra "nb") | ((with_reducible apply nb_take) <;> k_extra "nb") | ((with_reducible apply nb_drop) <;> k_extra "nb") | ((with_reducible apply nb_map) <;> k_extra "nb") | ((with_reducible apply nb_app) <;> k_extra "nb") | ((with_reducible apply nb_ext) <;> k_extra "nb") | ((with_reducible apply nb_minr) <;> k_extra "nb") | ((with_reducible apply nb_minl) <;> k_extra "nb") | ((with_reducible apply nb_sub) <;> k_extra "nb") | ((with_reducible apply Nat.mul_le_mul) <;> k_extra "nb") | with_reducible exact nb_nil | (with_reducible apply nb_eq; with_reducible assumption; k_extra "nb1"))
  k_with "lt" => (first | with_reducible assumption | (with_reducible apply And.left; first | with_reducible assumption | (with_reducible apply And.right; (first | with_reducible assumption | (with_reducible apply And.right; (first | with_reducible assumption | (with_reducible apply And.right; (first | with_reducible assumption | (with_reducible apply And.right; (first | with_reducible assumption | (with_reducible apply And.right; (first | with_reducible assumption | (with_reducible apply And.right; (first | with_reducible assumption | (with_reducible apply And.right; (first | with_reducible assumption | (with_reducible apply And.right; (first | with_reducible assumption | (with_reducible apply And.right; with_reducible assumption)))))))))))))))))))
  k_with "ar" => (first | with_reducible assumption | (with_reducible apply nb_top; k_extra "nb"; decide) | (with_reducible apply nb_lt; k_extra "nb"; decide) | (with_reducible apply ib63; k_extra "nb"; decide) | (with_reducible apply Nat.ne_of_lt; k_extra "lt") | (with_reducible apply Nat.ne_of_gt; k_extra "lt") | (with_reducible apply Nat.le_of_lt; k_extra "lt") | with_reducible exact Int.natCast_nonneg _)
  k_with "k_ne" => ((refine neN ?_; (try dsimp only); first | (with_reducible apply Nat.ne_of_lt; k_extra "lt") | (with_reducible apply Nat.ne_of_gt; k_extra "lt")))
  k_with "k_size" => (k_extra "ar")
  k_with "size_fits" => (first | (with_reducible apply nb_size; k_extra "nb"; decide) | (with_reducible apply nb_top; k_extra "nb"; decide))
  k_with "memr" => (first | with_reducible exact List.mem_cons_self | (with_reducible refine List.mem_cons_of_mem _ ?_; k_extra "memr"))
  k_with "k_mem" => (k_extra "memr")
  k_with "k_in" => (first | k_in_fast | assumption | exact Frag.In.keeps (by k_asm) (Fr.keep (by k_asm)))
  k_with "call ref" => (k_here; (with_reducible show wpAny _ _ (call (Value.ref (nat_lit 92)) _) _ _ _); k_dflt (refine' c_number_by ?kB ?kF ?kX ?kN ?kT ?kk ?kd ?ku ?hl ?_ ?_; (case kB => k_asm); (case kF => k_asm); (case kX => k_in); (case kN => k_asm); (case kT => k_asm); (case kk => first | with_reducible assumption | exact rfl); (case kd => ktr_room); (case ku => ktr_room); (case hl => (first | k_extra "ar" | lia | omega)); k_whole); intro nXzz tXzz hXzz tkXzz e0zz eXzz FXzz NXzz; rotate_left; intro hXzz tkXzz eXzz FXzz NXzz; rotate_left)
  k_with "call ref" => (k_here; (with_reducible show wpAny _ _ (call (Value.ref (nat_lit 99)) _) _ _ _); k_dflt (refine' c_number_of ?kB ?kF ?kX ?kN ?kT ?kk ?kd ?ku ?hl ?_ ?_; (case kB => k_asm); (case kF => k_asm); (case kX => k_in); (case kN => k_asm); (case kT => k_asm); (case kk => first | with_reducible assumption | exact rfl); (case kd => ktr_room); (case ku => ktr_room); (case hl => k_intsEnd); k_whole); intro nXzz tXzz hXzz tkXzz eXzz FXzz NXzz; rotate_left; intro hXzz tkXzz eXzz FXzz NXzz; rotate_left)
  k_with "call ref" => (k_here; (with_reducible show wpAny _ _ (call (Value.ref (nat_lit 64)) _) _ _ _); k_dflt (refine' c_octets_of ?kB ?kF ?kX ?kN ?kT ?kk ?kd ?ku ?hl ?hlo ?_; (case kB => k_asm); (case kF => k_asm); (case kX => k_in); (case kN => k_asm); (case kT => k_asm); (case kk => first | with_reducible assumption | exact rfl); (case kd => ktr_room); (case ku => ktr_room); (case hl => k_intsEnd); (case hlo => assumption); k_whole); intro tXzz hXzz tkXzz FXzz NXzz)
  k_with "call ref" => (k_here; (with_reducible show wpAny _ _ (call (Value.ref (nat_lit 59)) _) _ _ _); k_dflt (refine' c_text_of ?kB ?kF ?kX ?kN ?kT ?kk ?kd ?ku ?hl ?_; (case kB => k_asm); (case kF => k_asm); (case kX => k_in); (case kN => k_asm); (case kT => k_asm); (case kk => first | with_reducible assumption | exact rfl); (case kd => ktr_room); (case ku => ktr_room); (case hl => k_intsEnd); k_whole); intro tXzz hXzz tkXzz FXzz NXzz)
  k_with "call ref" => (k_here; (with_reducible show wpAny _ _ (call (Value.ref (nat_lit 71)) _) _ _ _); k_dflt (refine' c_hex_of ?kB ?kF ?kX ?kN ?kT ?kk ?kd ?ku ?hl ?_; (case kB => k_asm); (case kF => k_asm); (case kX => k_in); (case kN => k_asm); (case kT => k_asm); (case kk => first | with_reducible assumption | exact rfl); (case kd => ktr_room); (case ku => ktr_room); (case hl => k_intsEnd); k_whole); intro tXzz hXzz tkXzz FXzz NXzz)
  k_with "call ref" => (k_here; (with_reducible show wpAny _ _ (call (Value.ref (nat_lit 78)) _) _ _ _); k_dflt (refine' c_hex_digit ?kB ?kF ?kX ?kN ?kT ?kk ?kd ?ku ?hc ?_; (case kB => k_asm); (case kF => k_asm); (case kX => k_in); (case kN => k_asm); (case kT => k_asm); (case kk => first | with_reducible assumption | exact rfl); (case kd => ktr_room); (case ku => ktr_room); (case hc => assumption); k_whole); intro tXzz hXzz tkXzz FXzz NXzz)
  k_with "call ref" => (k_here; (with_reducible show wpAny _ _ (call (Value.ref (nat_lit 85)) _) _ _ _); k_dflt (refine' c_octets_of_hex ?kB ?kF ?kX ?kN ?kT ?kk ?kd ?ku ?hk2 ?hl ?hx ?_; (case kB => k_asm); (case kF => k_asm); (case kX => k_in); (case kN => k_asm); (case kT => k_asm); (case kk => first | with_reducible assumption | exact rfl); (case kd => ktr_room); (case ku => ktr_room); (case hk2 => assumption); (case hl => k_intsEnd); (case hx => assumption); k_whole); intro tXzz hXzz tkXzz FXzz NXzz)
  k_with "call ref" => (k_here; (with_reducible show wpAny _ _ (call (Value.ref (nat_lit 114)) _) _ _ _); k_dflt (refine' c_are_all ?kB ?kF ?kX ?kN ?kT ?kk ?kd ?ku ?hl ?_; (case kB => k_asm); (case kF => k_asm); (case kX => k_in); (case kN => k_asm); (case kT => k_asm); (case kk => first | with_reducible assumption | exact rfl); (case kd => ktr_room); (case ku => ktr_room); (case hl => k_intsEnd); k_whole); intro hXzz tkXzz FXzz NXzz)
  k_with "call ref" => (k_here; (with_reducible show wpAny _ _ (call (Value.ref (nat_lit 107)) _) _ _ _); k_dflt (refine' c_has_sign ?kB ?kF ?kX ?kN ?kT ?kk ?kd ?ku ?hl ?_; (case kB => k_asm); (case kF => k_asm); (case kX => k_in); (case kN => k_asm); (case kT => k_asm); (case kk => first | with_reducible assumption | exact rfl); (case kd => ktr_room); (case ku => ktr_room); (case hl => k_intsEnd); k_whole); intro hXzz tkXzz FXzz NXzz)
  k_with "call ref" => (k_here; (with_reducible show wpAny _ _ (call (Value.ref (nat_lit 163)) _) _ _ _); k_dflt (refine' c_head_id ?kB ?kF ?kX ?kN ?kT ?kk ?kd ?ku ?hl ?hk2 ?_ ?_; (case kB => k_asm); (case kF => k_asm); (case kX => k_in); (case kN => k_asm); (case kT => k_asm); (case kk => first | with_reducible assumption | exact rfl); (case kd => ktr_room); (case ku => ktr_room); (case hl => k_intsEnd); (case hk2 => (first | k_extra "ar" | lia | omega)); k_whole); intro tXzz hXzz tkXzz eXzz FXzz NXzz; rotate_left; intro eXzz xXzz hXzz tkXzz gXzz RXzz UXzz FXzz; rotate_left)
  k_with "call ref" => (k_here; (with_reducible show wpAny _ _ (call (Value.ref (nat_lit 138)) _) _ _ _); k_dflt (refine' c_person ?kB ?kF ?kX ?kN ?kT ?kk ?kd ?ku  ?_; (case kB => k_asm); (case kF => k_asm); (case kX => k_in); (case kN => k_asm); (case kT => k_asm); (case kk => first | with_reducible assumption | exact rfl); (case kd => ktr_room); (case ku => ktr_room);  k_whole); intro xXzz dXzz k1Xzz k2Xzz k3Xzz k4Xzz hXzz tkXzz FXzz NXzz)
  k_with "call ref" => (k_here; (with_reducible show wpAny _ _ (call (Value.ref (nat_lit 149)) _) _ _ _); k_dflt (refine' c_read_person ?kB ?kF ?kX ?kN ?kT ?kk ?kd ?ku ?hl ?_ ?_; (case kB => k_asm); (case kF => k_asm); (case kX => k_in); (case kN => k_asm); (case kT => k_asm); (case kk => first | with_reducible assumption | exact rfl); (case kd => ktr_room); (case ku => ktr_room); (case hl => k_intsEnd); k_whole); intro nXzz eXzz iXzz zXzz vXzz xXzz dXzz k1Xzz k2Xzz k3Xzz k4Xzz t1Xzz t2Xzz t3Xzz t4Xzz hXzz tkXzz FXzz NXzz; rotate_left; intro vXzz eXzz hXzz tkXzz gXzz RXzz UXzz FXzz; rotate_left)
  k_with "call ref" => (k_here; (with_reducible show wpAny _ _ (call (Value.ref (nat_lit 156)) _) _ _ _); k_dflt (refine' c_head_row ?kB ?kF ?kX ?kN ?kT ?kk ?kd ?ku ?hk2 ?hv ?_; (case kB => k_asm); (case kF => k_asm); (case kX => k_in); (case kN => k_asm); (case kT => k_asm); (case kk => first | with_reducible assumption | exact rfl); (case kd => ktr_room); (case ku => ktr_room); (case hk2 => k_intsEnd); (case hv => k_intsEnd); k_whole); intro tXzz hXzz tkXzz FXzz NXzz)
  k_with "call ref" => (k_here; (with_reducible show wpAny _ _ (call (Value.ref (nat_lit 170)) _) _ _ _); k_dflt (refine' c_object_heads ?kB ?kF ?kX ?kN ?kT ?kk ?kd ?ku ?hl ?_ ?_; (case kB => k_asm); (case kF => k_asm); (case kX => k_in); (case kN => k_asm); (case kT => k_asm); (case kk => first | with_reducible assumption | exact rfl); (case kd => ktr_room); (case ku => ktr_room); (case hl => k_intsEnd); k_whole); intro hsXzz msgXzz eXzz DXzz HXzz vsXzz nXzz tlXzz tXzz hXzz tkXzz FXzz NXzz pXzz szXzz mXzz lXzz; rotate_left; intro eXzz xXzz hXzz tkXzz gXzz RXzz UXzz FXzz; rotate_left)
  trivial

theorem reg_fold_OHW : True := by
  k_with "execs cons" => (k_here; (try k_fold); (try ((with_reducible rename Fr _ _ _ (fun _ => @ite _ _ _ _ _) => Fzz); revert Fzz; refine withFrame (P := fun z => Fr _ _ _ z → _) _ ?_; intro mzz Fzz)); (with_reducible refine wpAny_execs_cons ?_); (try dsimp only); (try k_fold))
  k_with "cell_enter" => ((refine' code_def ?k1 ?k2 ?k3 ?k4 ?k5 ?kA ?kF ?kK ?k6 ?k7 ?k8 ?k9 ?kB ?_ ?c2 ?c3 ?c4 ?c5; (case kA => exact rfl); (case kF => exact rfl); (case kK => assumption); (case k1 => k_asm); (case k2 => k_asm); (case k3 => k_asm); (case k4 => k_asm); (case k5 => k_asm); (case k6 => k_is); (case k7 => k_is); (case k8 => ktr_room); (case k9 => first | exact BindsTo.of_eq rfl | exact binds_K (by k_in) rfl (by k_is) rfl rfl rfl); (case c5 => decide); (case kB => exact locs rfl); (case c2 => exact rfl); (case c3 => exact rfl); (case c4 => exact rfl); k_whole; intro g'zz L'zz h'zz FG'zz F'zz N'zz B'zz X'zz T'zz; (try dsimp only); (try k_lift B'zz); (try (refine withFrame (P := fun z => wpAny _ z _ _ _ _) _ ?_; intro Azz; (try dsimp only))); (try k_fold)))
  trivial

abbrev hwD (w : World) (k1 k2 : Tok) (H : Addr) (k : Int) (t : Tok) : Obj :=
  dictOf [⟨PyData.keyHash w.params (Str.ofString "heads"), .str (Str.ofString "heads") k1, .ref H⟩, ⟨PyData.keyHash w.params (Str.ofString "at"), .str (Str.ofString "at") k2, .int k t⟩] 2
/-- the next head has this key -/
def nextIs (hs : List (Array UInt8 × Array UInt8)) (k : Int) (key : Array UInt8) : Bool := match hs[k.toNat]? with
  | some p => p.1.toList == key.toList
  | none => false
theorem lt_of_all {d : Addr} : ∀ {l : List (Addr × Obj)}, AllLt d l → ∀ p ∈ l, @LT.lt Nat _ p.1 d
  | [], _, _, h => nomatch h
  | _ :: _, x, p, h => by
    rcases List.mem_cons.mp h with rfl | h
    · exact x.1
    · exact lt_of_all x.2 p h
section
variable {w : World} {dp un : Nat} {gd : Option (List Code)} {cn : Str} {cs : Scope} {a : Addr} {ccd : Value} {cl : List (Str × Addr)} {outer : List Env} {A₀ : Around} {base h₀ : Heap} {L : Addr} {m : Str → Option Value} {hp0 : Heap} {gs0 : Array GenState} {dr0 : Drawn} {tk0 : Nat} {os0 : OsState} {Q E : Value → Shared → Prop} {news : List (Addr × Obj)} {p : Program} {loose : List Str} {mean : ExcName → Option Value} {mg mb : Str → Option Value}

set_option maxHeartbeats 4000000 in
theorem c_walk (B : Below A₀ base outer h₀) (F : Fr h₀ L hp0 m) (X : (K w.params).In h₀) (N : News h₀ L hp0 news) (T : Top p loose mean mg mb h₀) (hk : cs.kind = .function)
   (hd : dp + 20 < recursionLimit) (hu : un + 200 < cLine) {H : Addr}
  (h1 : ∀ x d k1 k2 t h' tk', Fr h₀ L h' m → News h₀ L h' ((x, instObj 208 d) :: (d, hwD w k1 k2 H 0 t) :: news) → (∀ p ∈ news, @LT.lt Nat _ p.1 d) → @LT.lt Nat _ d x → Q (.ref x) (Shared.mk h' gs0 dr0 tk' os0)) :
  wpAny (model PR w) (ktrTop dp un gd cn cs L a ccd cl outer) (call (.ref (nat_lit 208)) [.ref H]) Q E (Shared.mk hp0 gs0 dr0 tk0 os0) := by
  k_steps
  all_goals exact h1 _ _ _ _ _ _ _ (by assumption) (by assumption) (by first | assumption | exact lt_of_all (by assumption)) (by assumption)
set_option maxHeartbeats 4000000 in
theorem c_is_next {x d H : Addr} {vs : List Value} {n : Nat} {hs : List (Array UInt8 × Array UInt8)} {k : Int} {t k1 k2 : Tok} {rest : List (Addr × Obj)} {key : Array UInt8} {tb : Tok}
  (B : Below A₀ base outer h₀) (F : Fr h₀ L hp0 m) (X : (K w.params).In h₀) (N : News h₀ L hp0 ((x, instObj 208 d) :: (d, hwD w k1 k2 H k t) :: rest)) (T : Top p loose mean mg mb h₀) (hk : cs.kind = .function)
  (hd : dp + 20 < recursionLimit) (hu : un + 200 < cLine) (hH : (H, W.listOf vs.toArray n) ∈ rest) (hp : PairsIn rest vs hs) (hk0 : 0 ≤ k) (hk9 : k ≤ 10000) (hl : vs.length ≤ 10000)
  (h1 : ∀ h' tk', Fr h₀ L h' m → News h₀ L h' ((x, instObj 208 d) :: (d, hwD w k1 k2 H k t) :: rest) → Q (.bool (nextIs hs k key)) (Shared.mk h' gs0 dr0 tk' os0)) :
  wpAny (model PR w) (ktrTop dp un gd cn cs L a ccd cl outer) (call (.ref (nat_lit 191)) [.ref x, .bytes key tb]) Q E (Shared.mk hp0 gs0 dr0 tk0 os0) := by
  refine wpAny_call ?_
  k_dflt cell_enter
  k_steps
  refine len_my (News.isList (by k_asm) (List.mem_cons_of_mem _ (List.mem_cons_of_mem _ hH))) (by (first | k_extra "ar" | lia | omega)) ?_
  intro t8 k8
  k_steps
  · obtain ⟨v, hv⟩ : ∃ v, vs[k.toNat]? = some v := ⟨_, List.getElem?_eq_getElem (by (first | k_extra "ar" | lia | omega))⟩
    obtain ⟨q, hq, a9, t1, t2, rfl, hm⟩ := PairsIn.at (by assumption : PairsIn rest vs hs) hv
    have e9 : nextIs hs k key = (q.1.toList == key.toList) := by unfold nextIs; rw [hq]
    refine sub_at (News.isList (by k_asm) (List.mem_cons_of_mem _ (List.mem_cons_of_mem _ hH))) (by (first | k_extra "ar" | lia | omega)) (by (first | k_extra "ar" | lia | omega)) hv ?_
    rename News _ _ _ _ => N9
    replace N9 := cb_drop (news := (a9, { cls := .type "tuple", data := .seq [Value.bytes q.1 t1, Value.bytes q.2 t2].toArray }) :: (x, instObj 208 d) :: (d, hwD w k1 k2 H k t) :: rest) N9 (List.forall_mem_cons.mpr ⟨List.mem_cons_of_mem _ (List.mem_cons_of_mem _ hm), fun q hq => hq⟩)
    k_steps
    rw [e9] at h1
    exact h1 _ _ (by assumption) (cb_drop (by assumption) (fun q hq => List.mem_cons_of_mem _ hq))
  · have e9 : nextIs hs k key = false := by
      unfold nextIs
      rw [List.getElem?_eq_none (by rw [← PairsIn.length (by assumption : PairsIn rest vs hs)]; (first | k_extra "ar" | lia | omega))]
    have e8 : decide (k < (vs.length : Int)) = false := decide_eq_false (by (first | k_extra "ar" | lia | omega))
    rw [e9] at h1
    rw [e8]
    exact h1 _ _ (by assumption) (by assumption)
end
theorem reg_c_walk : True := by
  k_with "call ref" => (k_here; (with_reducible show wpAny _ _ (call (Value.ref (nat_lit 208)) _) _ _ _); k_dflt (refine' c_walk ?kB ?kF ?kX ?kN ?kT ?kk ?kd ?ku  ?_; (case kB => k_asm); (case kF => k_asm); (case kX => k_in); (case kN => k_asm); (case kT => k_asm); (case kk => first | with_reducible assumption | exact rfl); (case kd => ktr_room); (case ku => ktr_room);  k_whole); intro xXzz dXzz k1Xzz k2Xzz tXzz hXzz tkXzz FXzz NXzz l1Xzz l2Xzz)
  trivial
theorem reg_c_is_next : True := by
  k_with "call ref" => (k_here; (with_reducible show wpAny _ _ (call (Value.ref (nat_lit 191)) _) _ _ _); k_dflt (refine' c_is_next ?kB ?kF ?kX ?kN ?kT ?kk ?kd ?ku ?hH ?hp ?hk0 ?hk9 ?hl ?_; (case kB => k_asm); (case kF => k_asm); (case kX => k_in); (case kN => k_asm); (case kT => k_asm); (case kk => first | with_reducible assumption | exact rfl); (case kd => ktr_room); (case ku => ktr_room); (case hH => k_asm); (case hp => k_asm); (case hk0 => (first | k_extra "ar" | lia | omega)); (case hk9 => (first | k_extra "ar" | lia | omega)); (case hl => (first | k_extra "ar" | lia | omega)); k_whole); intro hXzz tkXzz FXzz NXzz)
  trivial


section
variable {w : World} {dp un : Nat} {gd : Option (List Code)} {cn : Str} {cs : Scope} {a : Addr} {ccd : Value} {cl : List (Str × Addr)} {outer : List Env} {A₀ : Around} {base h₀ : Heap} {L : Addr} {m : Str → Option Value} {hp0 : Heap} {gs0 : Array GenState} {dr0 : Drawn} {tk0 : Nat} {os0 : OsState} {Q E : Value → Shared → Prop} {news : List (Addr × Obj)} {p : Program} {loose : List Str} {mean : ExcName → Option Value} {mg mb : Str → Option Value}

set_option maxHeartbeats 4000000 in
theorem c_take {x d H : Addr} {vs : List Value} {n : Nat} {hs : List (Array UInt8 × Array UInt8)} {k : Int} {t k1 k2 : Tok} {rest : List (Addr × Obj)} {key : Array UInt8} {tb : Tok}
  (B : Below A₀ base outer h₀) (F : Fr h₀ L hp0 m) (X : (K w.params).In h₀) (N : News h₀ L hp0 ((x, instObj 208 d) :: (d, hwD w k1 k2 H k t) :: rest)) (T : Top p loose mean mg mb h₀) (hk : cs.kind = .function)
  (hd : dp + 40 < recursionLimit) (hu : un + 400 < cLine) (hH : (H, W.listOf vs.toArray n) ∈ rest) (hp : PairsIn rest vs hs) (hk0 : 0 ≤ k) (hk9 : k ≤ 10000) (hl : vs.length ≤ 10000) (hks : key.size ≤ 1000)
  (hx : @Ne Nat x d) (hoff : ∀ q ∈ rest, @Ne Nat q.1 d)
  (h1 : nextIs hs k key = true → ∀ q, hs[k.toNat]? = some q → ∀ t8 t9 h' tk', Fr h₀ L h' m → News h₀ L h' ((x, instObj 208 d) :: (d, hwD w k1 k2 H (k + 1) t9) :: rest) → Q (.bytes q.2 t8) (Shared.mk h' gs0 dr0 tk' os0))
  (hE : nextIs hs k key = false → ∀ e h' tk' g, RaisedN base (envX cn cs L a ccd cl :: outer) e (.ref (nat_lit 52)) rest h' → g.UpToSlots h' → Fr h₀ L g m → E (.ref e) (Shared.mk h' gs0 dr0 tk' os0)) :
  wpAny (model PR w) (ktrTop dp un gd cn cs L a ccd cl outer) (call (.ref (nat_lit 198)) [.ref x, .bytes key tb]) Q E (Shared.mk hp0 gs0 dr0 tk0 os0) := by
  refine wpAny_call ?_
  k_dflt cell_enter
  k_steps
  · k_dflt (refine' set_dict ?k1 ?k2 ?k3 ?k4 ?k5 ?k6 ?k7 ?k8 ?k9 ?k10 ?k11 ?k12 ?k13 ?_; (case k1 => k_asm); (case k2 => k_asm); (case k3 => k_asm); (case k4 => k_inst); (case k5 => exact rfl); (case k6 => k_is); (case k7 => k_is); (case k8 => k_is); (case k9 => k_is); (case k10 => k_get); (case k11 => k_put); (case k12 => exact Upd.tail (by assumption) (Upd.head (by assumption))); (case k13 => exact Nat.le_of_ble_eq_true rfl))
    intro h8 F8 N8
    obtain ⟨q, hq⟩ : ∃ q, hs[k.toNat]? = some q := by
      have e := (by assumption : nextIs hs k key = true)
      unfold nextIs at e
      cases q9 : hs[k.toNat]? with
      | none => rw [q9] at e; cases e
      | some q => exact ⟨q, rfl⟩
    obtain ⟨v, hv, a9, t1, t2, rfl, hm⟩ := PairsIn.get (by assumption : PairsIn rest vs hs) hq
    have hlt : k.toNat < vs.length := (List.getElem?_eq_some_iff.mp hv).1
    k_steps
    refine sub_at (News.isList (by k_asm) (List.mem_cons_of_mem _ (List.mem_cons_of_mem _ hH))) (by (first | k_extra "ar" | lia | omega)) (by (first | k_extra "ar" | lia | omega)) (x := .ref a9) (by rw [show (k + 1 - 1).toNat = k.toNat by (first | k_extra "ar" | lia | omega)]; exact hv) ?_
    rename News _ _ _ _ => N9
    have N7 := cb_drop (news := (a9, { cls := .type "tuple", data := .seq [Value.bytes q.1 t1, Value.bytes q.2 t2].toArray }) :: (x, instObj 208 d) :: (d, hwD w k1 k2 H (k + 1) _) :: rest) N9 (List.forall_mem_cons.mpr ⟨List.mem_cons_of_mem _ (List.mem_cons_of_mem _ hm), fun q hq => hq⟩)
    clear N9
    k_steps
    all_goals exact h1 (by assumption) _ hq _ _ _ _ (by assumption) (cb_drop (by assumption) (fun q hq => List.mem_cons_of_mem _ hq))
  · have e3 : (Str.ofString "no ").length = 3 := by decide
    have e4 : (Str.ofString " in its place").length = 13 := by decide
    have e5 : (txt (cod key)).length = key.size := by simp [txt, Str.length, cod]
    refine SB.add (hsz := by rw [PySem.sizeLine_eq, e3, e5]; (first | k_extra "ar" | lia | omega)) ?_
    intro t7 k7
    k_steps
    all_goals exact hE (by assumption) _ _ _ _ (by first | assumption | exact raisedN_sub (by assumption) (by first | (intro qz hz; (repeat (first | (with_reducible exact hz) | (with_reducible refine List.mem_cons_of_mem _ ?_))); done) | ((repeat' (first | exact List.forall_mem_nil _ | (with_reducible refine List.forall_mem_cons.mpr ?_; refine ⟨by k_mem, ?_⟩))); all_goals (intro qz hz; repeat (first | (with_reducible exact hz) | refine List.mem_cons_of_mem _ ?_)); done) | (intro p hp; simp [hp]; done))) (by assumption) (by assumption)
end
theorem reg_c_take : True := by
  k_with "call ref" => (k_here; (with_reducible show wpAny _ _ (call (Value.ref (nat_lit 198)) _) _ _ _); k_dflt (refine' c_take ?kB ?kF ?kX ?kN ?kT ?kk ?kd ?ku ?hH ?hp ?hk0 ?hk9 ?hl ?hks ?hx ?hoff ?_ ?_; (case kB => k_asm); (case kF => k_asm); (case kX => k_in); (case kN => k_asm); (case kT => k_asm); (case kk => first | with_reducible assumption | exact rfl); (case kd => ktr_room); (case ku => ktr_room); (case hH => k_asm); (case hp => k_asm); (case hk0 => (first | k_extra "ar" | lia | omega)); (case hk9 => (first | k_extra "ar" | lia | omega)); (case hl => (first | k_extra "ar" | lia | omega)); (case hks => k_intsEnd); (case hx => k_asm); (case hoff => k_asm); k_whole); intro vXzz qXzz eXzz t8Xzz t9Xzz hXzz tkXzz FXzz NXzz; rotate_left; intro vXzz eXzz hXzz tkXzz gXzz RXzz UXzz FXzz; rotate_left)
  trivial


section
variable {w : World} {dp un : Nat} {gd : Option (List Code)} {cn : Str} {cs : Scope} {a : Addr} {ccd : Value} {cl : List (Str × Addr)} {outer : List Env} {A₀ : Around} {base h₀ : Heap} {L : Addr} {m : Str → Option Value} {hp0 : Heap} {gs0 : Array GenState} {dr0 : Drawn} {tk0 : Nat} {os0 : OsState} {Q E : Value → Shared → Prop} {news : List (Addr × Obj)} {p : Program} {loose : List Str} {mean : ExcName → Option Value} {mg mb : Str → Option Value}

set_option maxHeartbeats 4000000 in
theorem c_rest {x d H : Addr} {vs : List Value} {n : Nat} {k : Int} {t k1 k2 : Tok} {rest : List (Addr × Obj)}
  (B : Below A₀ base outer h₀) (F : Fr h₀ L hp0 m) (X : (K w.params).In h₀) (N : News h₀ L hp0 ((x, instObj 208 d) :: (d, hwD w k1 k2 H k t) :: rest)) (T : Top p loose mean mg mb h₀) (hk : cs.kind = .function)
  (hd : dp + 40 < recursionLimit) (hu : un + 400 < cLine) (hH : (H, W.listOf vs.toArray n) ∈ rest) (hk0 : 0 ≤ k) (hl : vs.length ≤ 10000)
  (h1 : ∀ D h' tk', Fr h₀ L h' m → News h₀ L h' ((D, W.listOf (vs.drop k.toNat).toArray 0) :: (x, instObj 208 d) :: (d, hwD w k1 k2 H k t) :: rest) → Q (.ref D) (Shared.mk h' gs0 dr0 tk' os0)) :
  wpAny (model PR w) (ktrTop dp un gd cn cs L a ccd cl outer) (call (.ref (nat_lit 205)) [.ref x]) Q E (Shared.mk hp0 gs0 dr0 tk0 os0) := by
  refine wpAny_call ?_
  k_dflt cell_enter
  k_steps
  k_dflt (refine kmk_slice_lit (by k_asm) (by k_asm) (News.isList (by k_asm) (List.mem_cons_of_mem _ (List.mem_cons_of_mem _ hH))) (.int _ _) .none (pick_lo hk0) ?_ (by with_unfolding_all rfl) (by intro _; with_unfolding_all rfl) (by rw [PySem.sizeLine_eq, List.size_toArray]; (first | k_extra "ar" | lia | omega)))
  intro D8 h8 F8 N8 l8
  k_steps
  all_goals exact h1 _ _ _ (by assumption) (by assumption)
end
theorem reg_c_rest : True := by
  k_with "call ref" => (k_here; (with_reducible show wpAny _ _ (call (Value.ref (nat_lit 205)) _) _ _ _); k_dflt (refine' c_rest ?kB ?kF ?kX ?kN ?kT ?kk ?kd ?ku ?hH ?hk0 ?hl ?_; (case kB => k_asm); (case kF => k_asm); (case kX => k_in); (case kN => k_asm); (case kT => k_asm); (case kk => first | with_reducible assumption | exact rfl); (case kd => ktr_room); (case ku => ktr_room); (case hH => k_asm); (case hk0 => (first | k_extra "ar" | lia | omega)); (case hl => (first | k_extra "ar" | lia | omega)); k_whole); intro DXzz hXzz tkXzz FXzz NXzz)
  trivial


abbrev cmD (w : World) (k1 k2 k3 k4 k5 k6 : Tok) (tree : Array UInt8) (t1 : Tok) (ps au co ex : Addr) (msg : Array UInt8) (t6 : Tok) : Obj :=
  dictOf [⟨PyData.keyHash w.params (Str.ofString "tree"), .str (Str.ofString "tree") k1, .bytes tree t1⟩, ⟨PyData.keyHash w.params (Str.ofString "parents"), .str (Str.ofString "parents") k2, .ref ps⟩,
    ⟨PyData.keyHash w.params (Str.ofString "author"), .str (Str.ofString "author") k3, .ref au⟩, ⟨PyData.keyHash w.params (Str.ofString "committer"), .str (Str.ofString "committer") k4, .ref co⟩,
    ⟨PyData.keyHash w.params (Str.ofString "extra"), .str (Str.ofString "extra") k5, .ref ex⟩, ⟨PyData.keyHash w.params (Str.ofString "message"), .str (Str.ofString "message") k6, .bytes msg t6⟩] 6
section
variable {w : World} {dp un : Nat} {gd : Option (List Code)} {cn : Str} {cs : Scope} {a : Addr} {ccd : Value} {cl : List (Str × Addr)} {outer : List Env} {A₀ : Around} {base h₀ : Heap} {L : Addr} {m : Str → Option Value} {hp0 : Heap} {gs0 : Array GenState} {dr0 : Drawn} {tk0 : Nat} {os0 : OsState} {Q E : Value → Shared → Prop} {news : List (Addr × Obj)} {p : Program} {loose : List Str} {mean : ExcName → Option Value} {mg mb : Str → Option Value}

set_option maxHeartbeats 4000000 in
theorem c_commit (B : Below A₀ base outer h₀) (F : Fr h₀ L hp0 m) (X : (K w.params).In h₀) (N : News h₀ L hp0 news) (T : Top p loose mean mg mb h₀) (hk : cs.kind = .function)
   (hd : dp + 20 < recursionLimit) (hu : un + 200 < cLine) {tree msg : Array UInt8} {ps au co ex : Addr} {t1 t6 : Tok}
  (h1 : ∀ x d k1 k2 k3 k4 k5 k6 h' tk', Fr h₀ L h' m → News h₀ L h' ((x, instObj 243 d) :: (d, cmD w k1 k2 k3 k4 k5 k6 tree t1 ps au co ex msg t6) :: news) → Q (.ref x) (Shared.mk h' gs0 dr0 tk' os0)) :
  wpAny (model PR w) (ktrTop dp un gd cn cs L a ccd cl outer) (call (.ref (nat_lit 243)) [.bytes tree t1, .ref ps, .ref au, .ref co, .ref ex, .bytes msg t6]) Q E (Shared.mk hp0 gs0 dr0 tk0 os0) := by
  k_steps
  all_goals exact h1 _ _ _ _ _ _ _ _ _ _ (by assumption) (by assumption)
end
theorem reg_c_commit : True := by
  k_with "call ref" => (k_here; (with_reducible show wpAny _ _ (call (Value.ref (nat_lit 243)) _) _ _ _); k_dflt (refine' c_commit ?kB ?kF ?kX ?kN ?kT ?kk ?kd ?ku  ?_; (case kB => k_asm); (case kF => k_asm); (case kX => k_in); (case kN => k_asm); (case kT => k_asm); (case kk => first | with_reducible assumption | exact rfl); (case kd => ktr_room); (case ku => ktr_room);  k_whole); intro xXzz dXzz k1Xzz k2Xzz k3Xzz k4Xzz k5Xzz k6Xzz hXzz tkXzz FXzz NXzz)
  trivial


/-- the parents' ids, from a head on -/
def parentsF : Nat → List (Array UInt8 × Array UInt8) → Nat → Int → List (Array UInt8) → Option (List (Array UInt8) × Int)
  | 0, _, _, _, _ => none
  | f + 1, hs, k, i, acc => if nextIs hs i bParent = true then
      match hs[i.toNat]? with
      | none => none
      | some q => match idOf q.2 k with
        | none => none
        | some o => parentsF f hs k (i + 1) (acc ++ [o])
    else some (acc, i)
structure CM where
  tree : Array UInt8
  parents : List (Array UInt8)
  author : Array UInt8 × Array UInt8 × Int × Array UInt8
  committer : Array UInt8 × Array UInt8 × Int × Array UInt8
  extra : List (Array UInt8 × Array UInt8)
  msg : Array UInt8
def takeF (hs : List (Array UInt8 × Array UInt8)) (i : Int) (key : Array UInt8) : Option (Array UInt8) := if nextIs hs i key = true then (hs[i.toNat]?).map (·.2) else none
/-- what read_commit gives -/
def commitOf (b : Array UInt8) (k : Nat) : Option CM :=
  (headsOf b).bind fun hm => (takeF hm.1 0 bTree).bind fun v => (idOf v k).bind fun tree => (parentsF (hm.1.length + 1) hm.1 k 1 []).bind fun pi =>
  (takeF hm.1 pi.2 bAuthor).bind fun a => (personOf a).bind fun au => (takeF hm.1 (pi.2 + 1) bCommitter).bind fun c => (personOf c).bind fun co =>
  if (hm.1.drop (pi.2 + 2).toNat).any (fun q => isHead q.1) = true then none else some ⟨tree, pi.1, au, co, hm.1.drop (pi.2 + 2).toNat, hm.2⟩
theorem take_some {hs : List (Array UInt8 × Array UInt8)} {i : Int} {key : Array UInt8} {q : Array UInt8 × Array UInt8} (h : nextIs hs i key = true) (hq : hs[i.toNat]? = some q) : takeF hs i key = some q.2 := by
  unfold takeF
  rw [if_pos h, hq]
  rfl
theorem take_none {hs : List (Array UInt8 × Array UInt8)} {i : Int} {key : Array UInt8} (h : nextIs hs i key = false) : takeF hs i key = none := by
  unfold takeF
  rw [if_neg (by rw [h]; exact Bool.noConfusion)]
section
variable {b v tree a c : Array UInt8} {k : Nat} {hs : List (Array UInt8 × Array UInt8)} {msg : Array UInt8} {pi : List (Array UInt8) × Int} {au co : Array UInt8 × Array UInt8 × Int × Array UInt8}
theorem co1 (h1 : headsOf b = some (hs, msg)) (h2 : takeF hs 0 bTree = none) : commitOf b k = none := by simp [commitOf, h1, h2]
theorem co2 (h1 : headsOf b = some (hs, msg)) (h2 : takeF hs 0 bTree = some v) (h3 : idOf v k = none) : commitOf b k = none := by simp [commitOf, h1, h2, h3]
theorem co3 (h1 : headsOf b = some (hs, msg)) (h2 : takeF hs 0 bTree = some v) (h3 : idOf v k = some tree) (h4 : parentsF (hs.length + 1) hs k 1 [] = none) : commitOf b k = none := by simp [commitOf, h1, h2, h3, h4]
theorem co4 (h1 : headsOf b = some (hs, msg)) (h2 : takeF hs 0 bTree = some v) (h3 : idOf v k = some tree) (h4 : parentsF (hs.length + 1) hs k 1 [] = some pi) (h5 : takeF hs pi.2 bAuthor = none) : commitOf b k = none := by simp [commitOf, h1, h2, h3, h4, h5]
theorem co5 (h1 : headsOf b = some (hs, msg)) (h2 : takeF hs 0 bTree = some v) (h3 : idOf v k = some tree) (h4 : parentsF (hs.length + 1) hs k 1 [] = some pi) (h5 : takeF hs pi.2 bAuthor = some a) (h6 : personOf a = none) : commitOf b k = none := by simp [commitOf, h1, h2, h3, h4, h5, h6]
theorem co6 (h1 : headsOf b = some (hs, msg)) (h2 : takeF hs 0 bTree = some v) (h3 : idOf v k = some tree) (h4 : parentsF (hs.length + 1) hs k 1 [] = some pi) (h5 : takeF hs pi.2 bAuthor = some a) (h6 : personOf a = some au) (h7 : takeF hs (pi.2 + 1) bCommitter = none) : commitOf b k = none := by simp [commitOf, h1, h2, h3, h4, h5, h6, h7]
theorem co7 (h1 : headsOf b = some (hs, msg)) (h2 : takeF hs 0 bTree = some v) (h3 : idOf v k = some tree) (h4 : parentsF (hs.length + 1) hs k 1 [] = some pi) (h5 : takeF hs pi.2 bAuthor = some a) (h6 : personOf a = some au) (h7 : takeF hs (pi.2 + 1) bCommitter = some c) (h8 : personOf c = none) : commitOf b k = none := by simp [commitOf, h1, h2, h3, h4, h5, h6, h7, h8]
end
structure PS where
  ids : List (Array UInt8)
  ws : List Value
  n : Nat
  i : Int
  t : Tok
  fuel : Nat
theorem pf_stop {f k : Nat} {hs : List (Array UInt8 × Array UInt8)} {i : Int} {acc : List (Array UInt8)} (h : nextIs hs i bParent = false) : parentsF (f + 1) hs k i acc = some (acc, i) := by
  unfold parentsF
  rw [if_neg (by rw [h]; exact Bool.noConfusion)]
theorem pf_bad {f k : Nat} {hs : List (Array UInt8 × Array UInt8)} {i : Int} {acc : List (Array UInt8)} {q : Array UInt8 × Array UInt8} (h : nextIs hs i bParent = true) (hq : hs[i.toNat]? = some q) (ho : idOf q.2 k = none) : parentsF (f + 1) hs k i acc = none := by
  unfold parentsF
  rw [if_pos h, hq]
  simp [ho]
theorem pf_on {f k : Nat} {hs : List (Array UInt8 × Array UInt8)} {i : Int} {acc : List (Array UInt8)} {q : Array UInt8 × Array UInt8} {o : Array UInt8} (h : nextIs hs i bParent = true) (hq : hs[i.toNat]? = some q) (ho : idOf q.2 k = some o) : parentsF (f + 1) hs k i acc = parentsF f hs k (i + 1) (acc ++ [o]) := by
  conv => lhs; unfold parentsF
  rw [if_pos h, hq]
  simp [ho]


theorem exLed {h₀ h : Heap} {L : Addr} {nw : List (Addr × Obj)} (N : News h₀ L h nw) : ∃ z, z = nw ∧ News h₀ L h z := ⟨nw, rfl, N⟩
theorem exBase {h₀ h : Heap} {L : Addr} {nw : List (Addr × Obj)} (_ : News h₀ L h nw) : ∃ z, z = h₀ := ⟨_, rfl⟩
theorem off_two {x y d : Addr} {a b : Obj} {r : List (Addr × Obj)} (h1 : @Ne Nat x d) (h2 : @Ne Nat y d) (h : ∀ q ∈ r, @Ne Nat q.1 d) : ∀ q ∈ (x, a) :: (y, b) :: r, @Ne Nat q.1 d := List.forall_mem_cons.mpr ⟨h1, List.forall_mem_cons.mpr ⟨h2, h⟩⟩
theorem news_ne {h₀ h : Heap} {L x y : Addr} {a b : Obj} {nw : List (Addr × Obj)} (N : News h₀ L h nw) (ha : (x, a) ∈ nw) (hb : (y, b) ∈ nw) (q : a ≠ b) : @Ne Nat x y := by
  rintro rfl
  exact q (Option.some.inj ((N _ ha).1.symm.trans (N _ hb).1))
theorem per_ne {w : World} {k1 k2 k3 k4 k5 k6 : Tok} {n e z : Array UInt8} {i k : Int} {t1 t2 t3 t4 t : Tok} {H : Addr} : perD w k1 k2 k3 k4 n e i z t1 t2 t3 t4 ≠ hwD w k5 k6 H k t := by
  intro h
  have h2 := congrArg (fun o : Obj => match o.data with | .dict _ n => n | _ => 0) h
  exact absurd (show (4 : Nat) = 2 from h2) (by decide)
theorem inst_ne {C d : Addr} {l : List DictEntry} {n : Nat} : instObj C d ≠ dictOf l n := by
  intro h
  have h2 := congrArg Obj.cls h
  exact absurd h2 (by intro q; cases q)
section
variable {h₀ h : Heap} {L : Addr} {a b c d : Addr × Obj} {r : List (Addr × Obj)}
theorem n_bca (N : News h₀ L h (a :: b :: c :: r)) : News h₀ L h (b :: c :: a :: r) := cb_drop N (by (repeat' (first | exact List.forall_mem_nil _ | (with_reducible refine List.forall_mem_cons.mpr ?_; refine ⟨by k_mem, ?_⟩))); all_goals (intro qz hz; repeat (first | (with_reducible exact hz) | refine List.mem_cons_of_mem _ ?_)))
theorem n_cab (N : News h₀ L h (a :: b :: c :: r)) : News h₀ L h (c :: a :: b :: r) := cb_drop N (by (repeat' (first | exact List.forall_mem_nil _ | (with_reducible refine List.forall_mem_cons.mpr ?_; refine ⟨by k_mem, ?_⟩))); all_goals (intro qz hz; repeat (first | (with_reducible exact hz) | refine List.mem_cons_of_mem _ ?_)))
theorem n_cdab (N : News h₀ L h (a :: b :: c :: d :: r)) : News h₀ L h (c :: d :: a :: b :: r) := cb_drop N (by (repeat' (first | exact List.forall_mem_nil _ | (with_reducible refine List.forall_mem_cons.mpr ?_; refine ⟨by k_mem, ?_⟩))); all_goals (intro qz hz; repeat (first | (with_reducible exact hz) | refine List.mem_cons_of_mem _ ?_)))
end
theorem bytes_snoc {y : Array UInt8} {t : Tok} : ∀ {vs : List Value} {ys : List (Array UInt8)}, BytesAre vs ys → BytesAre (vs ++ [.bytes y t]) (ys ++ [y])
  | _, _, .nil => .cons .nil
  | _, _, .cons r => .cons (bytes_snoc r)
theorem exName {x d l : Addr} {rest : List (Addr × Obj)} (_ : @LT.lt Nat _ x l ∧ @LT.lt Nat _ d l ∧ AllLt l rest) : ∃ z, z = l := ⟨l, rfl⟩
section
variable {b v tree a c : Array UInt8} {k : Nat} {hs : List (Array UInt8 × Array UInt8)} {msg : Array UInt8} {pi : List (Array UInt8) × Int} {au co : Array UInt8 × Array UInt8 × Int × Array UInt8}
theorem co8 (h1 : headsOf b = some (hs, msg)) (h2 : takeF hs 0 bTree = some v) (h3 : idOf v k = some tree) (h4 : parentsF (hs.length + 1) hs k 1 [] = some pi) (h5 : takeF hs pi.2 bAuthor = some a) (h6 : personOf a = some au) (h7 : takeF hs (pi.2 + 1) bCommitter = some c) (h8 : personOf c = some co) (h9 : (hs.drop (pi.2 + 2).toNat).any (fun q => isHead q.1) = true) : commitOf b k = none := by
  simp only [commitOf, h1, h2, h3, h4, h5, h6, h7, h8, Option.bind_some]
  exact if_pos h9
theorem co9 (h1 : headsOf b = some (hs, msg)) (h2 : takeF hs 0 bTree = some v) (h3 : idOf v k = some tree) (h4 : parentsF (hs.length + 1) hs k 1 [] = some pi) (h5 : takeF hs pi.2 bAuthor = some a) (h6 : personOf a = some au) (h7 : takeF hs (pi.2 + 1) bCommitter = some c) (h8 : personOf c = some co) (h9 : (hs.drop (pi.2 + 2).toNat).any (fun q => isHead q.1) = false) : commitOf b k = some ⟨tree, pi.1, au, co, hs.drop (pi.2 + 2).toNat, msg⟩ := by
  simp only [commitOf, h1, h2, h3, h4, h5, h6, h7, h8, Option.bind_some]
  exact if_neg (by rw [h9]; exact Bool.noConfusion)
end
/-- a person in the ledger -/
def PerIn (w : World) (nw : List (Addr × Obj)) (x : Addr) (q : Array UInt8 × Array UInt8 × Int × Array UInt8) : Prop := ∃ d k1 k2 k3 k4 t1 t2 t3 t4, (x, instObj 138 d) ∈ nw ∧ (d, perD w k1 k2 k3 k4 q.1 q.2.1 q.2.2.1 q.2.2.2 t1 t2 t3 t4) ∈ nw
/-- a commit in the ledger -/
def CmIn (w : World) (nw : List (Addr × Obj)) (x : Addr) (cm : CM) : Prop := ∃ d k1 k2 k3 k4 k5 k6 t1 ps au co ex t6 ws n vs n2, (x, instObj 243 d) ∈ nw ∧ (d, cmD w k1 k2 k3 k4 k5 k6 cm.tree t1 ps au co ex cm.msg t6) ∈ nw ∧ (ps, W.listOf ws.toArray n) ∈ nw ∧ BytesAre ws cm.parents ∧ PerIn w nw au cm.author ∧ PerIn w nw co cm.committer ∧ (ex, W.listOf vs.toArray n2) ∈ nw ∧ PairsIn nw vs cm.extra
theorem cm_in {w : World} {xc dc d10 x1 d1 x2 d2 l9 : Addr} {k1 k2 k3 k4 k5 k6 a1 a2 a3 a4 b1 b2 b3 b4 t1 t2 t3 t4 u1 u2 u3 u4 tt tm : Tok} {tree msg n1 e1 z1 n2 e2 z2 : Array UInt8} {i1 i2 : Int} {ws vs : List Value} {n n' : Nat} {ids : List (Array UInt8)} {ex : List (Array UInt8 × Array UInt8)} {p q r : Addr × Obj} {rest : List (Addr × Obj)}
    (hw : BytesAre ws ids) (hp : PairsIn ((xc, instObj 243 dc) :: (dc, cmD w k1 k2 k3 k4 k5 k6 tree tt l9 x1 x2 d10 msg tm) :: (d10, W.listOf vs.toArray n') :: p :: q :: r :: (x2, instObj 138 d2) :: (d2, perD w b1 b2 b3 b4 n2 e2 i2 z2 u1 u2 u3 u4) :: (x1, instObj 138 d1) :: (d1, perD w a1 a2 a3 a4 n1 e1 i1 z1 t1 t2 t3 t4) :: (l9, W.listOf ws.toArray n) :: rest) vs ex) :
    CmIn w ((xc, instObj 243 dc) :: (dc, cmD w k1 k2 k3 k4 k5 k6 tree tt l9 x1 x2 d10 msg tm) :: (d10, W.listOf vs.toArray n') :: p :: q :: r :: (x2, instObj 138 d2) :: (d2, perD w b1 b2 b3 b4 n2 e2 i2 z2 u1 u2 u3 u4) :: (x1, instObj 138 d1) :: (d1, perD w a1 a2 a3 a4 n1 e1 i1 z1 t1 t2 t3 t4) :: (l9, W.listOf ws.toArray n) :: rest) xc ⟨tree, ids, (n1, e1, i1, z1), (n2, e2, i2, z2), ex, msg⟩ :=
  ⟨dc, k1, k2, k3, k4, k5, k6, tt, l9, x1, x2, d10, tm, ws, n, vs, n', by k_mem, by k_mem, by k_mem, hw, ⟨d1, a1, a2, a3, a4, t1, t2, t3, t4, by k_mem, by k_mem⟩, ⟨d2, b1, b2, b3, b4, u1, u2, u3, u4, by k_mem, by k_mem⟩, by k_mem, hp⟩
theorem any_stop {α : Type} {l : List α} {i : Nat} {q : α} {f : α → Bool} (h : l[i]? = some q) (hf : f q = true) : l.any f = true := List.any_eq_true.mpr ⟨q, List.mem_of_getElem? h, hf⟩
theorem any_on {α : Type} {l : List α} {i : Nat} {q : α} {f : α → Bool} (h : l[i]? = some q) (hp : (l.take i).any f = false) (hf : f q = false) : (l.take (i + 1)).any f = false := by
  rw [take_snoc h, List.any_append, hp]
  simp [hf]
section
variable {w : World} {dp un : Nat} {gd : Option (List Code)} {cn : Str} {cs : Scope} {a : Addr} {ccd : Value} {cl : List (Str × Addr)} {outer : List Env} {A₀ : Around} {base h₀ : Heap} {L : Addr} {m : Str → Option Value} {hp0 : Heap} {gs0 : Array GenState} {dr0 : Drawn} {tk0 : Nat} {os0 : OsState} {Q E : Value → Shared → Prop} {news : List (Addr × Obj)} {p : Program} {loose : List Str} {mean : ExcName → Option Value} {mg mb : Str → Option Value}

set_option maxHeartbeats 8000000 in
theorem c_read_commit (B : Below A₀ base outer h₀) (F : Fr h₀ L hp0 m) (X : (K w.params).In h₀) (N : News h₀ L hp0 news) (T : Top p loose mean mg mb h₀) (hk : cs.kind = .function)
   (hd : dp + 100 < recursionLimit) (hu : un + 2000 < cLine) {b : Array UInt8} {k : Nat} {tb tc : Tok} (hl : b.size ≤ 10000) (hk2 : k ≤ 100)
  (h1 : ∀ cm, commitOf b k = some cm → ∀ x tl h' tk', Fr h₀ L h' m → News h₀ L h' (tl ++ news) → CmIn w tl x cm → Q (.ref x) (Shared.mk h' gs0 dr0 tk' os0))
  (hE : commitOf b k = none → ∀ e h' tk' g, RaisedN base (envX cn cs L a ccd cl :: outer) e (.ref (nat_lit 52)) news h' → g.UpToSlots h' → Fr h₀ L g m → E (.ref e) (Shared.mk h' gs0 dr0 tk' os0)) :
  wpAny (model PR w) (ktrTop dp un gd cn cs L a ccd cl outer) (call (.ref (nat_lit 254)) [.bytes b tb, .int (k : Int) tc]) Q E (Shared.mk hp0 gs0 dr0 tk0 os0) := by
  refine wpAny_call ?_
  k_dflt cell_enter
  repeat' (first | ((fail_if_success (with_reducible show wpAny _ _ (call (Value.ref (nat_lit 170)) _) _ _ _)); first | (k_unfold; (try dsimp only)) | (k_end; wrow_close) | walk1 | (dsimp only; walk1) | (leave1; try dsimp only)))
  refine c_object_heads (by k_asm) (by k_asm) (by k_in) (by k_asm) (by k_asm) (by first | with_reducible assumption | exact rfl) (by ktr_room) (by ktr_room) (by (first | k_extra "ar" | lia | omega)) ?_ ?_
  case refine_2 =>
    intro eH e1 h1' tk1 g1 R1 U1 F1
    k_steps
    all_goals exact hE (by unfold commitOf; rw [eH]; rfl) _ _ _ _ (by first | assumption | exact raisedN_sub (by assumption) (by first | (intro qz hz; (repeat (first | (with_reducible exact hz) | (with_reducible refine List.mem_cons_of_mem _ ?_))); done) | ((repeat' (first | exact List.forall_mem_nil _ | (with_reducible refine List.forall_mem_cons.mpr ?_; refine ⟨by k_mem, ?_⟩))); all_goals (intro qz hz; repeat (first | (with_reducible exact hz) | refine List.mem_cons_of_mem _ ?_)); done) | (intro p hp; simp [hp]; done))) (by assumption) (by assumption)
  intro hs msg eH D H vs n tl t h1' tk1 F1 N1 pX szX mX hlv0
  repeat' (first | ((fail_if_success (with_reducible show wpAny _ _ (call (Value.ref (nat_lit 208)) _) _ _ _)); first | (k_unfold; (try dsimp only)) | (k_end; wrow_close) | walk1 | (dsimp only; walk1) | (leave1; try dsimp only)))
  refine c_walk (by k_asm) (by k_asm) (by k_in) (by k_asm) (by k_asm) (by first | with_reducible assumption | exact rfl) (by ktr_room) (by ktr_room) ?_
  intro x d k1 k2 t2 h2' tk2 F2 N2 l2 lx
  have hlen := PairsIn.length pX
  obtain ⟨rest, hrest⟩ : ∃ r, r = (D, ({ cls := .type "tuple", data := .seq [Value.ref H, Value.bytes msg t].toArray } : Obj)) :: (H, W.listOf vs.toArray n) :: (tl ++ news) := ⟨_, rfl⟩
  have hH : (H, W.listOf vs.toArray n) ∈ rest := by rw [hrest]; exact List.mem_cons_of_mem _ (List.mem_cons_self ..)
  have hp : PairsIn rest vs hs := pX.mono fun q hq => by rw [hrest]; exact List.mem_cons_of_mem _ (List.mem_cons_of_mem _ (List.mem_append.mpr (.inl hq)))
  have hsub : ∀ q ∈ news, q ∈ rest := fun q hq => by rw [hrest]; exact List.mem_cons_of_mem _ (List.mem_cons_of_mem _ (List.mem_append.mpr (.inr hq)))
  have hoff : ∀ q ∈ rest, @Ne Nat q.1 d := fun q hq => Nat.ne_of_lt (l2 q (by rw [hrest] at hq; exact hq))
  have hx : @Ne Nat x d := Nat.ne_of_gt lx
  rw [← hrest] at N2
  clear l2 hrest
  repeat' (first | ((fail_if_success (with_reducible show wpAny _ _ (call (Value.ref (nat_lit 198)) _) _ _ _)); first | (k_unfold; (try dsimp only)) | (k_end; wrow_close) | walk1 | (dsimp only; walk1) | (leave1; try dsimp only)))
  have hlv : vs.length ≤ 10000 := by (first | k_extra "ar" | lia | omega)
  refine c_take (by k_asm) (by k_asm) (by k_in) (by k_asm) (by k_asm) (by first | with_reducible assumption | exact rfl) (by ktr_room) (by ktr_room) hH hp (by (first | k_extra "ar" | lia | omega)) (by (first | k_extra "ar" | lia | omega)) hlv (by decide) hx hoff ?_ ?_
  case refine_2 =>
    intro eT e1 h1' tk1 g1 R1 U1 F1
    replace R1 := raisedN_sub R1 hsub
    k_steps
    all_goals exact hE (by unfold commitOf; rw [eH]; show ((takeF hs 0 bTree).bind _) = none; unfold takeF; rw [show nextIs hs 0 bTree = false from eT]; rfl) _ _ _ _ (by first | assumption | exact raisedN_sub (by assumption) (by first | (intro qz hz; (repeat (first | (with_reducible exact hz) | (with_reducible refine List.mem_cons_of_mem _ ?_))); done) | ((repeat' (first | exact List.forall_mem_nil _ | (with_reducible refine List.forall_mem_cons.mpr ?_; refine ⟨by k_mem, ?_⟩))); all_goals (intro qz hz; repeat (first | (with_reducible exact hz) | refine List.mem_cons_of_mem _ ?_)); done) | (intro p hp; simp [hp]; done))) (by assumption) (by assumption)
  intro eT q hq t8 t9 h3' tk3 F3 N3
  have hq2 : q.2.size ≤ b.size := (szX q (List.mem_of_getElem? hq)).2
  repeat' (first | ((fail_if_success (with_reducible show wpAny _ _ (exec (Stmt.While _ _ _ _) _) _ _ _)); first | (k_unfold; (try dsimp only)) | (k_end; wrow_close) | walk1 | (dsimp only; walk1) | (leave1; try dsimp only)))
  · rename @LT.lt Nat _ x _ ∧ @LT.lt Nat _ d _ ∧ AllLt _ rest => hL1
    obtain ⟨l9, rfl⟩ := exName hL1
    rename News _ _ _ _ => N9
    replace N9 := cb_drop (news := (x, instObj 208 d) :: (d, hwD w k1 k2 H (0 + 1) t9) :: (l9, W.listOf ([] : List Value).toArray 0) :: rest) N9 (List.forall_mem_cons.mpr ⟨List.mem_cons_of_mem _ (List.mem_cons_of_mem _ (List.mem_cons_self ..)), List.forall_mem_cons.mpr ⟨List.mem_cons_of_mem _ (List.mem_cons_of_mem _ (List.mem_cons_of_mem _ (List.mem_cons_self ..))), List.forall_mem_cons.mpr ⟨List.mem_cons_of_mem _ (List.mem_cons_self ..), fun q hq => List.mem_cons_of_mem _ (List.mem_cons_of_mem _ (List.mem_cons_of_mem _ (List.mem_cons_of_mem _ hq)))⟩⟩⟩)
    refine ksw_while (σ := PS) (fun c => (x, instObj 208 d) :: (d, hwD w k1 k2 H c.i c.t) :: (l9, W.listOf c.ws.toArray c.n) :: rest) (fun _ => []) (fun _ => True) []
      (fun c => BytesAre c.ws c.ids ∧ parentsF c.fuel hs k c.i c.ids = parentsF (hs.length + 1) hs k 1 [] ∧ (hs.length : Int) + 2 ≤ c.fuel + c.i ∧ 1 ≤ c.i ∧ (c.ws.length : Int) + 1 ≤ c.i ∧ c.i ≤ hs.length) (·.fuel) ⟨[], [], 0, 0 + 1, t9, hs.length + 1⟩ (by k_asm) N9 trivial (by kst_all) ?_ ?_
    · have h0l : 0 < hs.length := (List.getElem?_eq_some_iff.mp hq).1
      exact ⟨.nil, rfl, by dsimp only; (first | k_extra "ar" | lia | omega), by dsimp only; (first | k_extra "ar" | lia | omega), by dsimp only; rw [List.length_nil]; (first | k_extra "ar" | lia | omega), by dsimp only; (first | k_extra "ar" | lia | omega)⟩
    · rintro ⟨ids, ws, n2, i, ti, fuel⟩ u h tk - ⟨hw, hpf, hfu, hi1, hws, hi9⟩ F5 N5
      dsimp only [kstB] at F5
      dsimp only at N5 hw hpf hfu hi1 hws hi9
      obtain ⟨f, rfl⟩ : ∃ f, fuel = f + 1 := ⟨fuel - 1, by (first | k_extra "ar" | lia | omega)⟩
      repeat' (first | ((fail_if_success (with_reducible show wpAny _ _ (call (Value.ref (nat_lit 191)) _) _ _ _)); first | (k_unfold; (try dsimp only)) | (k_end; wrow_close) | walk1 | (dsimp only; walk1) | (leave1; try dsimp only)))
      refine c_is_next (rest := (l9, W.listOf ws.toArray n2) :: rest) (by k_asm) (by k_asm) (by k_in) (by k_asm) (by k_asm) (by first | with_reducible assumption | exact rfl) (by ktr_room) (by ktr_room) (List.mem_cons_of_mem _ hH) (hp.mono fun q hq => List.mem_cons_of_mem _ hq) (by (first | k_extra "ar" | lia | omega)) (by (first | k_extra "ar" | lia | omega)) hlv ?_
      intro hI tkI FI NI
      rw [show (#[112, 97, 114, 101, 110, 116] : Array UInt8) = bParent from rfl]
      have hoff2 : ∀ q ∈ ((l9, W.listOf ws.toArray n2) :: rest : List (Addr × Obj)), @Ne Nat q.1 d := List.forall_mem_cons.mpr ⟨Nat.ne_of_gt hL1.2.1, hoff⟩
      have hl2 : ∀ q ∈ rest, @Ne Nat q.1 l9 := fun q hq => Nat.ne_of_lt (lt_of_all hL1.2.2 q hq)
      cases hnx : nextIs hs i bParent with
      | true =>
        repeat' (first | ((fail_if_success (with_reducible show wpAny _ _ (call (Value.ref (nat_lit 198)) _) _ _ _)); first | (k_unfold; (try dsimp only)) | (k_end; wrow_close) | walk1 | (dsimp only; walk1) | (leave1; try dsimp only)))
        refine c_take (rest := (l9, W.listOf ws.toArray n2) :: rest) (by k_asm) (by k_asm) (by k_in) (by k_asm) (by k_asm) (by first | with_reducible assumption | exact rfl) (by ktr_room) (by ktr_room) (List.mem_cons_of_mem _ hH) (hp.mono fun q hq => List.mem_cons_of_mem _ hq) (by (first | k_extra "ar" | lia | omega)) (by (first | k_extra "ar" | lia | omega)) hlv (by decide) hx hoff2 ?_ ?_
        case refine_2 => intro e1; exact Bool.noConfusion (hnx.symm.trans (e1 : nextIs hs i bParent = false))
        intro e1 q1 hq1 t81 t91 h6 tk6 F6 N6
        have hq12 : q1.2.size ≤ b.size := (szX q1 (List.mem_of_getElem? hq1)).2
        repeat' (first | ((fail_if_success (with_reducible show wpAny _ _ (call (Value.builtin _) (Value.ref _ :: _)) _ _ _)); first | (k_unfold; (try dsimp only)) | (k_end; wrow_close) | walk1 | (dsimp only; walk1) | (leave1; try dsimp only)))
        · rename idOf q1.2 k = _ => hid
          rename News _ _ _ _ => N8
          replace N8 := n_cab N8
          refine append_K (by k_asm) N8 (Upd.head (List.forall_mem_cons.mpr ⟨Nat.ne_of_lt hL1.1, List.forall_mem_cons.mpr ⟨Nat.ne_of_lt hL1.2.1, hl2⟩⟩)) ?_ (by rw [PySem.sizeLine_eq, List.size_toArray]; (first | k_extra "ar" | lia | omega))
          intro h8 F8 N8
          rw [List.push_toArray] at N8
          k_steps
          rename News _ _ _ _ => N7
          replace N7 := n_bca N7
          have hi8 : i.toNat < hs.length := (List.getElem?_eq_some_iff.mp hq1).1
          refine ksw_end ⟨ids ++ [unhexB q1.2], ws ++ [_], n2 + 1, i + 1, t91, f⟩ (by k_asm) N7 (by intro q hq; exact hq) trivial (by kst_all) (by intro z h2 h3; rfl) ⟨bytes_snoc (by assumption), ?_, by dsimp only; (first | k_extra "ar" | lia | omega), by dsimp only; (first | k_extra "ar" | lia | omega), by dsimp only; rw [List.length_append, List.length_singleton]; (first | k_extra "ar" | lia | omega), by dsimp only; (first | k_extra "ar" | lia | omega)⟩ (by dsimp only; (first | k_extra "ar" | lia | omega))
          dsimp only
          rw [← (by assumption : parentsF (f + 1) hs k i ids = parentsF (hs.length + 1) hs k 1 [])]
          exact (pf_on hnx hq1 hid).symm
        · rename idOf q1.2 k = _ => hid
          exact hE (co3 eH (take_some eT hq) (by assumption) ((by assumption : parentsF (f + 1) hs k i ids = parentsF (hs.length + 1) hs k 1 []).symm.trans (pf_bad hnx hq1 hid))) _ _ _ _ (raisedN_sub (by assumption) (fun p hp => by have hq9 := hsub p hp; first | ((repeat (first | (with_reducible exact hq9) | refine List.mem_cons_of_mem _ ?_)); done) | simp [hq9])) (by assumption) (by assumption)
      | false =>
        have hpi : parentsF (hs.length + 1) hs k 1 [] = some (ids, i) := hpf.symm.trans (pf_stop hnx)
        repeat' (first | ((fail_if_success (with_reducible show wpAny _ _ (call (Value.ref (nat_lit 198)) _) _ _ _)); first | (k_unfold; (try dsimp only)) | (k_end; wrow_close) | walk1 | (dsimp only; walk1) | (leave1; try dsimp only)))
        refine c_take (rest := (l9, W.listOf ws.toArray n2) :: rest) (by k_asm) (by k_asm) (by k_in) (by k_asm) (by k_asm) (by first | with_reducible assumption | exact rfl) (by ktr_room) (by ktr_room) (List.mem_cons_of_mem _ hH) (hp.mono fun q hq => List.mem_cons_of_mem _ hq) (by (first | k_extra "ar" | lia | omega)) (by (first | k_extra "ar" | lia | omega)) hlv (by decide) hx hoff2 ?_ ?_
        case refine_2 =>
          intro eA e1 h1' tk1 g1 R1 U1 F1
          replace R1 := raisedN_sub R1 (fun p hp => List.mem_cons_of_mem _ (hsub p hp))
          k_steps
          all_goals exact hE (by exact co4 eH (take_some eT hq) (by assumption) hpi (take_none eA)) _ _ _ _ (by first | assumption | exact raisedN_sub (by assumption) (by first | (intro qz hz; (repeat (first | (with_reducible exact hz) | (with_reducible refine List.mem_cons_of_mem _ ?_))); done) | ((repeat' (first | exact List.forall_mem_nil _ | (with_reducible refine List.forall_mem_cons.mpr ?_; refine ⟨by k_mem, ?_⟩))); all_goals (intro qz hz; repeat (first | (with_reducible exact hz) | refine List.mem_cons_of_mem _ ?_)); done) | (intro p hp; simp [hp]; done))) (by assumption) (by assumption)
        intro eA q1 hq1 t81 t91 h6 tk6 F6 N6
        have hq12 : q1.2.size ≤ b.size := (szX q1 (List.mem_of_getElem? hq1)).2
        repeat' (first | ((fail_if_success (with_reducible show wpAny _ _ (call (Value.ref (nat_lit 198)) _) _ _ _)); first | (k_unfold; (try dsimp only)) | (k_end; wrow_close) | walk1 | (dsimp only; walk1) | (leave1; try dsimp only)))
        · rename personOf q1.2 = _ => hau
          rename News _ _ _ _ => N9
          replace N9 := n_cdab N9
          have hi8 : i.toNat < hs.length := (List.getElem?_eq_some_iff.mp hq1).1
          refine c_take (by k_asm) (by k_asm) (by k_in) (by k_asm) (by k_asm) (by first | with_reducible assumption | exact rfl) (by ktr_room) (by ktr_room) (List.mem_cons_of_mem _ (List.mem_cons_of_mem _ (List.mem_cons_of_mem _ hH))) (hp.mono fun q hq => List.mem_cons_of_mem _ (List.mem_cons_of_mem _ (List.mem_cons_of_mem _ hq))) (by (first | k_extra "ar" | lia | omega)) (by (first | k_extra "ar" | lia | omega)) hlv (by decide) hx (off_two (news_ne N9 (List.mem_cons_of_mem _ (List.mem_cons_of_mem _ (List.mem_cons_self ..))) (List.mem_cons_of_mem _ (List.mem_cons_self ..)) inst_ne) (news_ne N9 (List.mem_cons_of_mem _ (List.mem_cons_of_mem _ (List.mem_cons_of_mem _ (List.mem_cons_self ..)))) (List.mem_cons_of_mem _ (List.mem_cons_self ..)) per_ne) hoff2) ?_ ?_
          case refine_2 =>
            intro eC e1 h1' tk1 g1 R1 U1 F1
            replace R1 := raisedN_sub R1 (fun p hp => List.mem_cons_of_mem _ (List.mem_cons_of_mem _ (List.mem_cons_of_mem _ (hsub p hp))))
            k_steps
            all_goals exact hE (by exact co6 eH (take_some eT hq) (by assumption) hpi (take_some eA hq1) hau (take_none eC)) _ _ _ _ (by first | assumption | exact raisedN_sub (by assumption) (by first | (intro qz hz; (repeat (first | (with_reducible exact hz) | (with_reducible refine List.mem_cons_of_mem _ ?_))); done) | ((repeat' (first | exact List.forall_mem_nil _ | (with_reducible refine List.forall_mem_cons.mpr ?_; refine ⟨by k_mem, ?_⟩))); all_goals (intro qz hz; repeat (first | (with_reducible exact hz) | refine List.mem_cons_of_mem _ ?_)); done) | (intro p hp; simp [hp]; done))) (by assumption) (by assumption)
          intro eC q2 hq2' t82 t92 h7 tk7 F7 N7
          have hq22 : q2.2.size ≤ b.size := (szX q2 (List.mem_of_getElem? hq2')).2
          repeat' (first | ((fail_if_success (with_reducible show wpAny _ _ (exec (Stmt.For _ _ _ _ _) _) _ _ _)); first | (k_unfold; (try dsimp only)) | (k_end; wrow_close) | walk1 | (dsimp only; walk1) | (leave1; try dsimp only)))
          · rename personOf q2.2 = _ => hco
            rename News _ _ _ _ => N8
            replace N8 := n_cdab N8
            obtain ⟨g9, rfl⟩ := exBase N8
            refine For_pairs (h₀ := g9) (σ := Unit) (by rfl) (by rfl) (by rfl) (by rfl) ?_
            repeat' (first | ((fail_if_success (with_reducible show wpAny _ _ (call (Value.ref (nat_lit 205)) _) _ _ _)); first | (k_unfold; (try dsimp only)) | (k_end; wrow_close) | walk1 | (dsimp only; walk1) | (leave1; try dsimp only)))
            refine c_rest (by k_asm) (by k_asm) (by k_in) (by k_asm) (by k_asm) (by first | with_reducible assumption | exact rfl) (by ktr_room) (by ktr_room) (List.mem_cons_of_mem _ (List.mem_cons_of_mem _ (List.mem_cons_of_mem _ (List.mem_cons_of_mem _ (List.mem_cons_of_mem _ hH))))) (by (first | k_extra "ar" | lia | omega)) hlv ?_
            intro D9 h9 tk9 F9 N9'
            obtain ⟨led, hled, N9''⟩ := exLed N9'
            have pD : PairsIn led (vs.drop (i + 1 + 1).toNat) (hs.drop (i + 1 + 1).toNat) := (hp.mono fun q hq => by rw [hled]; simp [hq]).drop _
            refine ⟨D9, _, 0, _, _, led, [], fun _ => [], fun _ => led, fun j _ => ((hs.drop (i + 1 + 1).toNat).take j).any (fun q => isHead q.1) = false, (), rfl, F9, N9'', rfl, by kst_all, fun _ h => h, fun _ _ _ => ⟨by rw [hled]; exact List.mem_cons_self .., pD⟩, ?_, ?_⟩
            · intro j q5 t1 t2 c0 u h tk own hq5 hP hoff5 F11 N11
              dsimp only [kstB] at F11
              dsimp only at hP N11
              repeat' (first | ((fail_if_success (with_reducible show wpAny _ _ (compareOp CmpOp.In _ _) _ _ _)); first | (k_unfold; (try dsimp only)) | (k_end; wrow_close) | walk1 | (dsimp only; walk1) | (leave1; try dsimp only)))
              refine in_heads ((by k_in : (K w.params).In g9).keeps (Fr.keep (by k_asm))) ?_
              cases hih : isHead q5.1 with
              | true =>
                k_steps
                all_goals exact hE (co8 eH (take_some eT hq) (by assumption) hpi (take_some eA hq1) hau (take_some eC hq2') hco (by rw [show i + 2 = i + 1 + 1 by (first | k_extra "ar" | lia | omega)]; exact any_stop hq5 hih)) _ _ _ _ (raisedN_sub (by assumption) (fun p hp => by rw [hled]; simp [hsub p hp])) (by assumption) (by assumption)
              | false =>
                k_steps
                all_goals exact forP_end c0 (any_on hq5 hP hih) (by k_asm) (by k_asm) (by kst_all) (by intro z h2 h3 _ _; (first | (simp [h2, h3]; done) | (simp +zetaDelta [h2, h3]; done))) (fun p hp => List.mem_append.mpr (.inl hp)) (fun p hp => List.mem_append.mpr (.inr hp)) hoff5
            · intro c0 u h tk hP F11 N11
              dsimp only [kstB] at F11
              dsimp only at hP N11
              dsimp only
              rw [List.take_of_length_le (by rw [List.length_drop, List.length_drop, hlen]; exact Nat.le_refl _)] at hP
              have N12 := N11
              rw [hled] at N12
              replace N12 := n_bca N12
              clear N11 N9'' N9' N8
              repeat' (first | ((fail_if_success (with_reducible show wpAny _ _ (call (Value.ref (nat_lit 205)) _) _ _ _)); first | (k_unfold; (try dsimp only)) | (k_end; wrow_close) | walk1 | (dsimp only; walk1) | (leave1; try dsimp only)))
              refine c_rest (by k_asm) (by k_asm) (by k_in) (by k_asm) (by k_asm) (by first | with_reducible assumption | exact rfl) (by ktr_room) (by ktr_room) (List.mem_cons_of_mem _ (List.mem_cons_of_mem _ (List.mem_cons_of_mem _ (List.mem_cons_of_mem _ (List.mem_cons_of_mem _ (List.mem_cons_of_mem _ hH)))))) (by (first | k_extra "ar" | lia | omega)) hlv ?_
              intro D10 h10 tk10 F10 N10
              k_steps
              rename News _ _ _ _ => N13
              obtain ⟨tl, htl, N14⟩ := exLed N13
              refine h1 _ (co9 eH (take_some eT hq) (by assumption) hpi (take_some eA hq1) hau (take_some eC hq2') hco (by rw [show i + 2 = i + 1 + 1 by (first | k_extra "ar" | lia | omega)]; exact hP)) _ tl _ _ (by assumption) (cb_drop N14 fun p hp => ?_) ?_
              · rcases List.mem_append.mp hp with hp | hp
                · exact hp
                · rw [htl]; simp [hsub p hp]
              · rw [show i + 2 = i + 1 + 1 by (first | k_extra "ar" | lia | omega), htl]
                exact cm_in hw ((hp.mono fun q hq => by simp [hq]).drop _)
          · exact hE (co7 eH (take_some eT hq) (by assumption) hpi (take_some eA hq1) hau (take_some eC hq2') (by assumption)) _ _ _ _ (raisedN_sub (by assumption) (fun p hp => by have hq9 := hsub p hp; first | ((repeat (first | (with_reducible exact hq9) | refine List.mem_cons_of_mem _ ?_)); done) | simp [hq9])) (by assumption) (by assumption)
        · exact hE (co5 eH (take_some eT hq) (by assumption) hpi (take_some eA hq1) (by assumption)) _ _ _ _ (raisedN_sub (by assumption) (fun p hp => by have hq9 := hsub p hp; first | ((repeat (first | (with_reducible exact hq9) | refine List.mem_cons_of_mem _ ?_)); done) | simp [hq9])) (by assumption) (by assumption)
  · exact hE (co2 eH (take_some eT hq) (by assumption)) _ _ _ _ (raisedN_sub (by assumption) (fun p hp => by have hq9 := hsub p hp; first | ((repeat (first | (with_reducible exact hq9) | refine List.mem_cons_of_mem _ ?_)); done) | simp [hq9])) (by assumption) (by assumption)
end


/-- decimal figures -/
def decL (n : Nat) : List Nat := (Nat.toDigits 10 n).map Char.toNat
def decB (n : Nat) : Array UInt8 := ((decL n).map (·.toUInt8)).toArray
theorem dcore_app (b : Nat) : ∀ (f n : Nat) (ds : List Char), Nat.toDigitsCore b f n ds = Nat.toDigitsCore b f n [] ++ ds
  | 0, n, ds => by simp [Nat.toDigitsCore]
  | f + 1, n, ds => by
    unfold Nat.toDigitsCore
    simp only
    split
    · simp
    · rw [dcore_app b f (n / b) (Nat.digitChar (n % b) :: ds), dcore_app b f (n / b) [Nat.digitChar (n % b)]]
      simp
theorem dcore_succ (f n : Nat) : Nat.toDigitsCore 10 (f + 1) n [] = if n / 10 = 0 then [Nat.digitChar (n % 10)] else Nat.toDigitsCore 10 f (n / 10) [] ++ [Nat.digitChar (n % 10)] := by
  conv => lhs; unfold Nat.toDigitsCore
  simp only
  split
  · rfl
  · exact dcore_app 10 f (n / 10) _
theorem dchar (k : Nat) (h : k < 10) : (Nat.digitChar k).toNat = 48 + k := by
  have key : ∀ k : Fin 10, (Nat.digitChar k.1).toNat = 48 + k.1 := by decide
  exact key ⟨k, h⟩
theorem dcore_fig : ∀ (f n : Nat), ∀ c ∈ Nat.toDigitsCore 10 f n [], 48 ≤ c.toNat ∧ c.toNat < 58
  | 0, n, c, h => by simp [Nat.toDigitsCore] at h
  | f + 1, n, c, h => by
    have hd := dchar (n % 10) (Nat.mod_lt _ (by decide))
    have hm : n % 10 < 10 := Nat.mod_lt _ (by decide)
    rw [dcore_succ] at h
    split at h
    · rw [List.mem_singleton.mp h]; (first | k_extra "ar" | lia | omega)
    · rcases List.mem_append.mp h with h | h
      · exact dcore_fig f _ c h
      · rw [List.mem_singleton.mp h]; (first | k_extra "ar" | lia | omega)
theorem dcore_val : ∀ (f n : Nat), n < f → digsN ((Nat.toDigitsCore 10 f n []).map fun c => (c.toNat : Int)) 0 = some (n : Int)
  | 0, n, h => absurd h (Nat.not_lt_zero n)
  | f + 1, n, h => by
    have hd := dchar (n % 10) (Nat.mod_lt _ (by decide))
    have hm : n % 10 < 10 := Nat.mod_lt _ (by decide)
    rw [dcore_succ]
    split
    · simp only [List.map_cons, List.map_nil, digsN]
      rw [if_pos (by (first | k_extra "ar" | lia | omega))]
      congr 1
      (first | k_extra "ar" | lia | omega)
    · rw [List.map_append, List.map_cons, List.map_nil, digsN_snoc, dcore_val f (n / 10) (by (first | k_extra "ar" | lia | omega))]
      simp only [Option.bind_some]
      rw [if_pos (by (first | k_extra "ar" | lia | omega))]
      congr 1
      (first | k_extra "ar" | lia | omega)
theorem dcore_short : ∀ (k f n : Nat), n < 10 ^ (k + 1) → (Nat.toDigitsCore 10 f n []).length ≤ k + 1
  | _, 0, n, _ => by simp [Nat.toDigitsCore]
  | 0, f + 1, n, h => by
    rw [dcore_succ, if_pos (by (first | k_extra "ar" | lia | omega))]
    simp
  | k + 1, f + 1, n, h => by
    rw [dcore_succ]
    split
    · simp
    · have := dcore_short k f (n / 10) (by rw [Nat.pow_succ] at h; (first | k_extra "ar" | lia | omega))
      simp
      (first | k_extra "ar" | lia | omega)
theorem dcore_ne : ∀ (f n : Nat), n < f → Nat.toDigitsCore 10 f n [] ≠ []
  | 0, n, h => absurd h (Nat.not_lt_zero n)
  | f + 1, n, h => by
    rw [dcore_succ]
    split <;> simp
theorem dcore_head : ∀ (f n : Nat), n < f → n ≠ 0 → ∃ c r, Nat.toDigitsCore 10 f n [] = c :: r ∧ c.toNat ≠ 48
  | 0, n, h, _ => absurd h (Nat.not_lt_zero n)
  | f + 1, n, h, hn => by
    have hd := dchar (n % 10) (Nat.mod_lt _ (by decide))
    rw [dcore_succ]
    split
    · exact ⟨_, [], rfl, by (first | k_extra "ar" | lia | omega)⟩
    · obtain ⟨c, r, e, hc⟩ := dcore_head f (n / 10) (by (first | k_extra "ar" | lia | omega)) (by (first | k_extra "ar" | lia | omega))
      rw [e]
      exact ⟨c, _, rfl, hc⟩
theorem decL_fig {n c : Nat} (h : c ∈ decL n) : 48 ≤ c ∧ c < 58 := by
  obtain ⟨d, hd, rfl⟩ := List.mem_map.mp h
  exact dcore_fig _ _ d hd
theorem decL_len {n : Nat} (h : n < 10000000) : (decL n).length ≤ 7 := by
  unfold decL
  rw [List.length_map]
  exact dcore_short 6 _ _ h
theorem decL_pos (n : Nat) : 0 < (decL n).length := by
  unfold decL
  rw [List.length_map]
  exact List.length_pos_iff.mpr (dcore_ne _ _ (Nat.lt_succ_self _))
theorem decB_size (n : Nat) : (decB n).size = (decL n).length := by simp [decB]
theorem decB_cod (n : Nat) : ((decB n).toList.map fun c => (c.toNat : Int)) = (Nat.toDigits 10 n).map fun c => (c.toNat : Int) := by
  unfold decB decL
  simp only [List.map_map]
  apply List.map_congr_left
  intro c hc
  have := dcore_fig _ _ c hc
  show (((c.toNat.toUInt8).toNat : Nat) : Int) = _
  rw [Nat.toUInt8_eq, UInt8.toNat_ofNat_of_lt' (show c.toNat < 256 by (first | k_extra "ar" | lia | omega))]
theorem numOf_dec (n : Nat) : numOf (decB n) = some (n : Int) := by
  unfold numOf
  have hp := decL_pos n
  rw [decB_cod, show (Nat.toDigits 10 n).map (fun c => (c.toNat : Int)) = (Nat.toDigitsCore 10 (n + 1) n []).map fun c => (c.toNat : Int) from rfl, dcore_val _ _ (Nat.lt_succ_self n)]
  rw [if_neg, if_neg (by rw [decB_size]; (first | k_extra "ar" | lia | omega))]
  rintro ⟨h1, h2⟩
  by_cases h : n = 0
  · subst h
    exact absurd h1 (by decide)
  · obtain ⟨c, r, e, hc⟩ := dcore_head (n + 1) n (Nat.lt_succ_self n) h
    have hf := dcore_fig (n + 1) n c (by rw [e]; exact List.mem_cons_self ..)
    have e2 : decB n = (c.toNat.toUInt8 :: r.map fun c => c.toNat.toUInt8).toArray := by
      unfold decB decL
      rw [show Nat.toDigits 10 n = Nat.toDigitsCore 10 (n + 1) n [] from rfl, e]
      simp
    rw [e2] at h2
    have h3 : (c.toNat.toUInt8).toNat = 48 := Int.ofNat.inj (show (((c.toNat.toUInt8).toNat : Nat) : Int) = 48 from h2)
    rw [Nat.toUInt8_eq, UInt8.toNat_ofNat_of_lt' (show c.toNat < 256 by (first | k_extra "ar" | lia | omega))] at h3
    exact hc h3
theorem str_dec (n : Nat) : Str.ofString (toString (n : Int)) = txt (decL n) := by
  rw [Str.ofString_eq_toList]
  unfold txt decL
  show (⟨((Nat.repr n).toList.map Char.toNat).toArray⟩ : Str) = _
  simp [Nat.repr]


/-- a person's octets -/
def perB (q : Array UInt8 × Array UInt8 × Nat × Array UInt8) : Array UInt8 := q.1 ++ #[32, 60] ++ q.2.1 ++ #[62, 32] ++ decB q.2.2.1 ++ #[32] ++ q.2.2.2
section
variable {w : World} {dp un : Nat} {gd : Option (List Code)} {cn : Str} {cs : Scope} {a : Addr} {ccd : Value} {cl : List (Str × Addr)} {outer : List Env} {A₀ : Around} {base h₀ : Heap} {L : Addr} {m : Str → Option Value} {hp0 : Heap} {gs0 : Array GenState} {dr0 : Drawn} {tk0 : Nat} {os0 : OsState} {Q E : Value → Shared → Prop} {news : List (Addr × Obj)} {p : Program} {loose : List Str} {mean : ExcName → Option Value} {mg mb : Str → Option Value}

set_option maxHeartbeats 4000000 in
theorem c_person_octets {x : Addr} {n e z : Array UInt8} {i : Nat} (B : Below A₀ base outer h₀) (F : Fr h₀ L hp0 m) (X : (K w.params).In h₀) (N : News h₀ L hp0 news) (T : Top p loose mean mg mb h₀) (hk : cs.kind = .function)
  (hd : dp + 40 < recursionLimit) (hu : un + 400 < cLine) (hx : PerIn w news x (n, e, (i : Int), z)) (hn : n.size ≤ 1000) (he : e.size ≤ 1000) (hz : z.size ≤ 1000) (hi : i < 10000000)
  (h1 : ∀ t h' tk', Fr h₀ L h' m → News h₀ L h' news → Q (.bytes (perB (n, e, i, z)) t) (Shared.mk h' gs0 dr0 tk' os0)) :
  wpAny (model PR w) (ktrTop dp un gd cn cs L a ccd cl outer) (call (.ref (nat_lit 135)) [.ref x]) Q E (Shared.mk hp0 gs0 dr0 tk0 os0) := by
  obtain ⟨d, k1, k2, k3, k4, t1, t2, t3, t4, hx1, hx2⟩ := hx
  replace N := cb_drop (news := (x, instObj 138 d) :: (d, perD w k1 k2 k3 k4 n e i z t1 t2 t3 t4) :: news) N (List.forall_mem_cons.mpr ⟨hx1, List.forall_mem_cons.mpr ⟨hx2, fun _ h => h⟩⟩)
  have hdl := decL_len hi
  have hds := decB_size i
  refine wpAny_call ?_
  k_dflt cell_enter
  repeat' (first | ((fail_if_success (with_reducible show wpAny _ _ (call (Value.ref (nat_lit 64)) _) _ _ _)); first | (k_unfold; (try dsimp only)) | (k_end; wrow_close) | walk1 | (dsimp only; walk1) | (leave1; try dsimp only)))
  rw [str_dec]
  refine c_octets_of (by k_asm) (by k_asm) (by k_in) (by k_asm) (by k_asm) (by first | with_reducible assumption | exact rfl) (by ktr_room) (by ktr_room) (by (first | k_extra "ar" | lia | omega)) (fun c hc => by have := decL_fig hc; (first | k_extra "ar" | lia | omega)) ?_
  intro t9 h9 tk9 F9 N9
  rw [show ((decL i).map (·.toUInt8)).toArray = decB i from rfl]
  k_steps
  all_goals first | exact h1 _ _ _ (by assumption) (cb_drop (by assumption) (fun q hq => List.mem_cons_of_mem _ (List.mem_cons_of_mem _ hq)))
end
theorem reg_c_person_octets : True := by
  k_with "call ref" => (k_here; (with_reducible show wpAny _ _ (call (Value.ref (nat_lit 135)) _) _ _ _); k_dflt (refine' c_person_octets ?kB ?kF ?kX ?kN ?kT ?kk ?kd ?ku ?hx ?hn ?he ?hz ?hi ?_; (case kB => k_asm); (case kF => k_asm); (case kX => k_in); (case kN => k_asm); (case kT => k_asm); (case kk => first | with_reducible assumption | exact rfl); (case kd => ktr_room); (case ku => ktr_room); (case hx => assumption); (case hn => assumption); (case he => assumption); (case hz => assumption); (case hi => assumption); k_whole); intro tXzz hXzz tkXzz FXzz NXzz)
  trivial


def hexA (b : Array UInt8) : Array UInt8 := ((hexL b.toList).map (·.toUInt8)).toArray
theorem hexL_lt (l : List UInt8) : ∀ c ∈ hexL l, c < 256 := by
  intro c hc
  unfold hexL at hc
  obtain ⟨k, _, hk⟩ := List.mem_flatMap.mp hc
  have e : ∀ j, j < 16 → hexSign j < 256 := by decide
  have := k.toNat_lt
  rcases List.mem_cons.mp hk with rfl | hk
  · exact e _ (by (first | k_extra "ar" | lia | omega))
  · rw [List.mem_singleton.mp hk]; exact e _ (by (first | k_extra "ar" | lia | omega))
theorem hexA_size (b : Array UInt8) : (hexA b).size = 2 * b.size := by simp [hexA, hexL_len]
/-- the rows of a commit -/
def cmTree (b : Array UInt8) : Array UInt8 := #[116, 114, 101, 101, 32] ++ hexA b ++ #[10]
def cmParent (b : Array UInt8) : Array UInt8 := #[112, 97, 114, 101, 110, 116, 32] ++ hexA b ++ #[10]
def cmAuthor (q : Array UInt8 × Array UInt8 × Nat × Array UInt8) : Array UInt8 := #[97, 117, 116, 104, 111, 114, 32] ++ perB q ++ #[10]
def cmCommitter (q : Array UInt8 × Array UInt8 × Nat × Array UInt8) : Array UInt8 := #[99, 111, 109, 109, 105, 116, 116, 101, 114, 32] ++ perB q ++ #[10]
def cmParts (tree : Array UInt8) (ids : List (Array UInt8)) (au co : Array UInt8 × Array UInt8 × Nat × Array UInt8) (ex : List (Array UInt8 × Array UInt8)) (msg : Array UInt8) : List (Array UInt8) :=
  (cmTree tree :: ids.map cmParent) ++ [cmAuthor au] ++ [cmCommitter co] ++ ex.map (fun q => rowOf q.1 q.2) ++ [#[10] ++ msg]
abbrev perI (q : Array UInt8 × Array UInt8 × Nat × Array UInt8) : Array UInt8 × Array UInt8 × Int × Array UInt8 := (q.1, q.2.1, (q.2.2.1 : Int), q.2.2.2)
theorem PerIn.mono {w : World} {nw nw' : List (Addr × Obj)} {x : Addr} {q : Array UInt8 × Array UInt8 × Int × Array UInt8} (h : PerIn w nw x q) (hs : ∀ p ∈ nw, p ∈ nw') : PerIn w nw' x q := by
  obtain ⟨d, k1, k2, k3, k4, t1, t2, t3, t4, a, b⟩ := h
  exact ⟨d, k1, k2, k3, k4, t1, t2, t3, t4, hs _ a, hs _ b⟩
/-- sizes of a person's parts -/
def PerOk (q : Array UInt8 × Array UInt8 × Nat × Array UInt8) : Prop := q.1.size ≤ 1000 ∧ q.2.1.size ≤ 1000 ∧ q.2.2.2.size ≤ 1000 ∧ q.2.2.1 < 10000000
theorem perB_size {q : Array UInt8 × Array UInt8 × Nat × Array UInt8} (h : PerOk q) : (perB q).size ≤ 4000 := by
  obtain ⟨h1, h2, h3, h4⟩ := h
  have := decL_len h4
  have e2 : (#[32, 60] : Array UInt8).size = 2 := rfl
  have e3 : (#[62, 32] : Array UInt8).size = 2 := rfl
  have e4 : (#[32] : Array UInt8).size = 1 := rfl
  unfold perB
  simp only [Array.size_append, decB_size, e2, e3, e4]
  (first | k_extra "ar" | lia | omega)
theorem bytes_at {vs : List Value} {l : List (Array UInt8)} (h : BytesAre vs l) : ∀ {i : Nat} {v : Value}, vs[i]? = some v → ∃ b t, v = .bytes b t ∧ l[i]? = some b := by
  induction h with
  | nil => intro i v e; simp at e
  | cons _ ih =>
    intro i v e
    cases i with
    | zero => simp at e; subst e; exact ⟨_, _, rfl, rfl⟩
    | succ i => simpa using ih (by simpa using e)
theorem exHead {h₀ h : Heap} {L a : Addr} {o : Obj} {r : List (Addr × Obj)} (_ : News h₀ L h ((a, o) :: r)) : ∃ z, z = a := ⟨a, rfl⟩
section
variable {w : World} {dp un : Nat} {gd : Option (List Code)} {cn : Str} {cs : Scope} {a : Addr} {ccd : Value} {cl : List (Str × Addr)} {outer : List Env} {A₀ : Around} {base h₀ : Heap} {L : Addr} {m : Str → Option Value} {hp0 : Heap} {gs0 : Array GenState} {dr0 : Drawn} {tk0 : Nat} {os0 : OsState} {Q E : Value → Shared → Prop} {news : List (Addr × Obj)} {p : Program} {loose : List Str} {mean : ExcName → Option Value} {mg mb : Str → Option Value}

theorem c_octets_hex (B : Below A₀ base outer h₀) (F : Fr h₀ L hp0 m) (X : (K w.params).In h₀) (N : News h₀ L hp0 news) (T : Top p loose mean mg mb h₀) (hk : cs.kind = .function)
   (hd : dp + 10 < recursionLimit) (hu : un + 100 < cLine) {b : Array UInt8} {tb : Tok} (hl : b.size ≤ 10000)
  (h1 : ∀ (t : Tok) h' tk', (hexA b).size = 2 * b.size → Fr h₀ L h' m → News h₀ L h' news → Q (.bytes (hexA b) t) (Shared.mk h' gs0 dr0 tk' os0)) :
  wpAny (model PR w) (ktrTop dp un gd cn cs L a ccd cl outer) (call (.ref (nat_lit 64)) [.str (txt (hexL b.toList)) tb]) Q E (Shared.mk hp0 gs0 dr0 tk0 os0) :=
  c_octets_of B F X N T hk hd hu (by rw [hexL_len, Array.length_toList]; (first | k_extra "ar" | lia | omega)) (hexL_lt _) fun t h' tk' F' N' => h1 t h' tk' (hexA_size b) F' N'
end
theorem reg_c_octets_hex : True := by
  k_with "call ref" => (k_here; (with_reducible show wpAny _ _ (call (Value.ref (nat_lit 64)) _) _ _ _); k_dflt (refine' c_octets_hex ?kB ?kF ?kX ?kN ?kT ?kk ?kd ?ku ?hl ?_; (case kB => k_asm); (case kF => k_asm); (case kX => k_in); (case kN => k_asm); (case kT => k_asm); (case kk => first | with_reducible assumption | exact rfl); (case kd => ktr_room); (case ku => ktr_room); (case hl => k_intsEnd); k_whole); intro tXzz hXzz tkXzz zXzz FXzz NXzz)
  trivial
theorem sum_le {α : Type} {f : α → Nat} {b : Nat} : ∀ {l : List α}, (∀ x ∈ l, f x ≤ b) → (l.map f).sum ≤ l.length * b
  | [], _ => by simp
  | x :: r, h => by
    have h1 := h x (List.mem_cons_self ..)
    have h2 := sum_le (f := f) (l := r) fun y hy => h y (List.mem_cons_of_mem _ hy)
    rw [List.map_cons, List.sum_cons, List.length_cons, Nat.succ_mul]
    (first | k_extra "ar" | lia | omega)
theorem joined_nil (l : List (Array UInt8)) : Builtin.Bytes.joined #[] l = (l.flatMap (·.toList)).toArray := by
  rw [joined_eq]
  congr 1
  cases l with
  | nil => rfl
  | cons p ps =>
    show p.toList ++ ((ps.map (·.toList)).flatMap fun q => [] ++ q) = p.toList ++ ps.flatMap (·.toList)
    congr 1
    rw [List.flatMap_map]
    rfl
theorem joined_size (l : List (Array UInt8)) : (Builtin.Bytes.joined #[] l).size = (l.map Array.size).sum := by
  rw [joined_nil, List.size_toArray, List.length_flatMap]
  congr 1
theorem sum_app (l r : List (Array UInt8)) : ((l ++ r).map Array.size).sum = (l.map Array.size).sum + (r.map Array.size).sum := by
  rw [List.map_append, List.sum_append]
theorem cmParts_sum {tree msg : Array UInt8} {ids : List (Array UInt8)} {qa qc : Array UInt8 × Array UInt8 × Nat × Array UInt8} {ex : List (Array UInt8 × Array UInt8)} (ht : tree.size ≤ 1000) (hm : msg.size ≤ 10000) (hi : ids.length ≤ 1000) (hi2 : ∀ b ∈ ids, b.size ≤ 1000) (hqa : PerOk qa) (hqc : PerOk qc) (he : ex.length ≤ 1000) (he2 : ∀ q ∈ ex, q.1.size ≤ 1000 ∧ q.2.size ≤ 1000) :
    ((cmParts tree ids qa qc ex msg).map Array.size).sum ≤ 6000000 := by
  have s1 := perB_size hqa
  have s2 := perB_size hqc
  have e1 : ∀ b ∈ ids.map cmParent, b.size ≤ 2008 := by
    intro b hb
    obtain ⟨c, hc, rfl⟩ := List.mem_map.mp hb
    have := hi2 c hc
    have e : (#[112, 97, 114, 101, 110, 116, 32] : Array UInt8).size = 7 := rfl
    have e' : (#[10] : Array UInt8).size = 1 := rfl
    simp only [cmParent, Array.size_append, hexA_size, e, e']
    (first | k_extra "ar" | lia | omega)
  have e2 : ∀ b ∈ ex.map (fun q => rowOf q.1 q.2), b.size ≤ 3002 := by
    intro b hb
    obtain ⟨c, hc, rfl⟩ := List.mem_map.mp hb
    have := he2 c hc
    have h2 := repl_size c.2
    have e : (#[32] : Array UInt8).size = 1 := rfl
    have e' : (#[10] : Array UInt8).size = 1 := rfl
    simp only [rowOf, Array.size_append, e, e']
    (first | k_extra "ar" | lia | omega)
  have g1 := sum_le (f := Array.size) e1
  have g2 := sum_le (f := Array.size) e2
  rw [List.length_map] at g1 g2
  have g3 := Nat.mul_le_mul_right 2008 hi
  have g4 := Nat.mul_le_mul_right 3002 he
  unfold cmParts
  simp only [sum_app, List.map_cons, List.sum_cons, List.map_nil, List.sum_nil]
  have f1 : (cmTree tree).size = 2 * tree.size + 6 := by
    have e : (#[116, 114, 101, 101, 32] : Array UInt8).size = 5 := rfl
    have e' : (#[10] : Array UInt8).size = 1 := rfl
    simp only [cmTree, Array.size_append, hexA_size, e, e']
    (first | k_extra "ar" | lia | omega)
  have f2 : (cmAuthor qa).size ≤ 4008 := by
    have e : (#[97, 117, 116, 104, 111, 114, 32] : Array UInt8).size = 7 := rfl
    have e' : (#[10] : Array UInt8).size = 1 := rfl
    simp only [cmAuthor, Array.size_append, e, e']
    (first | k_extra "ar" | lia | omega)
  have f3 : (cmCommitter qc).size ≤ 4011 := by
    have e : (#[99, 111, 109, 109, 105, 116, 116, 101, 114, 32] : Array UInt8).size = 10 := rfl
    have e' : (#[10] : Array UInt8).size = 1 := rfl
    simp only [cmCommitter, Array.size_append, e, e']
    (first | k_extra "ar" | lia | omega)
  have f4 : (#[10] ++ msg).size = 1 + msg.size := by
    have e' : (#[10] : Array UInt8).size = 1 := rfl
    rw [Array.size_append, e']
  rw [List.map_map] at g1 g2 ⊢
  rw [List.map_map]
  (first | k_extra "ar" | lia | omega)
section
variable {w : World} {dp un : Nat} {gd : Option (List Code)} {cn : Str} {cs : Scope} {a : Addr} {ccd : Value} {cl : List (Str × Addr)} {outer : List Env} {A₀ : Around} {base h₀ : Heap} {L : Addr} {m : Str → Option Value} {hp0 : Heap} {gs0 : Array GenState} {dr0 : Drawn} {tk0 : Nat} {os0 : OsState} {Q E : Value → Shared → Prop} {news : List (Addr × Obj)} {p : Program} {loose : List Str} {mean : ExcName → Option Value} {mg mb : Str → Option Value}

set_option maxHeartbeats 8000000 in
theorem c_commit_octets {x : Addr} {tree msg : Array UInt8} {ids : List (Array UInt8)} {qa qc : Array UInt8 × Array UInt8 × Nat × Array UInt8} {ex : List (Array UInt8 × Array UInt8)} (B : Below A₀ base outer h₀) (F : Fr h₀ L hp0 m) (X : (K w.params).In h₀) (N : News h₀ L hp0 news) (T : Top p loose mean mg mb h₀) (hk : cs.kind = .function)
  (hd : dp + 100 < recursionLimit) (hu : un + 1000 < cLine) (hx : CmIn w news x ⟨tree, ids, perI qa, perI qc, ex, msg⟩) (ht : tree.size ≤ 1000) (hm : msg.size ≤ 10000) (hi : ids.length ≤ 1000) (hi2 : ∀ b ∈ ids, b.size ≤ 1000) (hqa : PerOk qa) (hqc : PerOk qc) (he : ex.length ≤ 1000) (he2 : ∀ q ∈ ex, q.1.size ≤ 1000 ∧ q.2.size ≤ 1000)
  (h1 : ∀ t h' tk', Fr h₀ L h' m → News h₀ L h' news → Q (.bytes (Builtin.Bytes.joined #[] (cmParts tree ids qa qc ex msg)) t) (Shared.mk h' gs0 dr0 tk' os0)) :
  wpAny (model PR w) (ktrTop dp un gd cn cs L a ccd cl outer) (call (.ref (nat_lit 233)) [.ref x]) Q E (Shared.mk hp0 gs0 dr0 tk0 os0) := by
  obtain ⟨d, k1, k2, k3, k4, k5, k6, t1, ps, au, co, exa, t6, ws, n, vs, n2, hx1, hx2, hps, hws, hau, hco, hex, hvs⟩ := hx
  dsimp only at hx2 hws hau hco hvs
  have hau9 := hau
  have hco9 := hco
  obtain ⟨da, a1, a2, a3, a4, u1, u2, u3, u4, ha1, ha2⟩ := hau9
  obtain ⟨dc, b1, b2, b3, b4, v1, v2, v3, v4, hc1, hc2⟩ := hco9
  have hsub : ∀ q ∈ news, q ∈ (x, instObj 243 d) :: (d, cmD w k1 k2 k3 k4 k5 k6 tree t1 ps au co exa msg t6) :: (au, instObj 138 da) :: (da, perD w a1 a2 a3 a4 qa.1 qa.2.1 (qa.2.2.1 : Int) qa.2.2.2 u1 u2 u3 u4) :: (co, instObj 138 dc) :: (dc, perD w b1 b2 b3 b4 qc.1 qc.2.1 (qc.2.2.1 : Int) qc.2.2.2 v1 v2 v3 v4) :: news := fun q hq => by simp [hq]
  replace N := cb_drop (news := (x, instObj 243 d) :: (d, cmD w k1 k2 k3 k4 k5 k6 tree t1 ps au co exa msg t6) :: (au, instObj 138 da) :: (da, perD w a1 a2 a3 a4 qa.1 qa.2.1 (qa.2.2.1 : Int) qa.2.2.2 u1 u2 u3 u4) :: (co, instObj 138 dc) :: (dc, perD w b1 b2 b3 b4 qc.1 qc.2.1 (qc.2.2.1 : Int) qc.2.2.2 v1 v2 v3 v4) :: news) N (List.forall_mem_cons.mpr ⟨hx1, List.forall_mem_cons.mpr ⟨hx2, List.forall_mem_cons.mpr ⟨ha1, List.forall_mem_cons.mpr ⟨ha2, List.forall_mem_cons.mpr ⟨hc1, List.forall_mem_cons.mpr ⟨hc2, fun _ h => h⟩⟩⟩⟩⟩⟩)
  have hwl := BytesAre.length hws
  have hvl := PairsIn.length hvs
  refine wpAny_call ?_
  k_dflt cell_enter
  repeat' (first | ((fail_if_success (with_reducible show wpAny _ _ (exec (Stmt.For _ _ _ _ _) _) _ _ _)); first | (k_unfold; (try dsimp only)) | (k_end; wrow_close) | walk1 | (dsimp only; walk1) | (leave1; try dsimp only)))
  rename News _ _ _ _ => N9
  obtain ⟨P9, rfl⟩ := exHead N9
  rename @LT.lt Nat _ x _ ∧ _ => hL1
  have hoffP : ∀ q ∈ (x, instObj 243 d) :: (d, cmD w k1 k2 k3 k4 k5 k6 tree t1 ps au co exa msg t6) :: (au, instObj 138 da) :: (da, perD w a1 a2 a3 a4 qa.1 qa.2.1 (qa.2.2.1 : Int) qa.2.2.2 u1 u2 u3 u4) :: (co, instObj 138 dc) :: (dc, perD w b1 b2 b3 b4 qc.1 qc.2.1 (qc.2.2.1 : Int) qc.2.2.2 v1 v2 v3 v4) :: news, @Ne Nat q.1 P9 := fun q hq => Nat.ne_of_lt (lt_of_all (by exact hL1) q hq)
  obtain ⟨base9, hbase⟩ : ∃ z, z = (x, instObj 243 d) :: (d, cmD w k1 k2 k3 k4 k5 k6 tree t1 ps au co exa msg t6) :: (au, instObj 138 da) :: (da, perD w a1 a2 a3 a4 qa.1 qa.2.1 (qa.2.2.1 : Int) qa.2.2.2 u1 u2 u3 u4) :: (co, instObj 138 dc) :: (dc, perD w b1 b2 b3 b4 qc.1 qc.2.1 (qc.2.2.1 : Int) qc.2.2.2 v1 v2 v3 v4) :: news := ⟨_, rfl⟩
  repeat' (first | ((fail_if_success (with_reducible show wpAny _ _ (pyIter _) _ _ _)); first | (k_unfold; (try dsimp only)) | (k_end; wrow_close) | walk1 | (dsimp only; walk1) | (leave1; try dsimp only)))
  rw [← hbase] at hoffP
  refine for_inv (σ := List Value × Nat) (l := ps) (vs := ws) (nn := n) [] (fun _ => []) (fun c => (P9, W.listOf c.1.toArray c.2) :: base9) (fun i c => BytesAre c.1 (cmTree tree :: (ids.take i).map cmParent)) ([.bytes (#[116, 114, 101, 101, 32] ++ hexA tree ++ #[10]) _], 0) rfl (fun _ _ _ => by rw [hbase]; simp [hps]) (by k_asm) (by k_asm) (.cons .nil) (by kst_all) (fun _ h => by rw [hbase] at h; exact h) ?_ ?_
  · rintro i v ⟨vs', n'⟩ u h tk own hv hP hoff F2 N2
    dsimp only [kstB] at F2
    dsimp only at hP N2
    obtain ⟨b, t, rfl, hb⟩ := bytes_at hws hv
    have hbs := hi2 b (List.mem_of_getElem? hb)
    have hvl' : vs'.length ≤ 3000 := by
      rw [BytesAre.length hP]; simp; (first | k_extra "ar" | lia | omega)
    have off' : ∀ p ∈ base9 ++ own, @Ne Nat p.1 P9 := fun p hp => (List.mem_append.mp hp).elim (hoffP p) fun q => hoff p q _ (List.mem_cons_self ..)
    rw [List.cons_append] at N2
    k_steps
    rename News _ _ _ _ => N8
    refine for_end (vs' ++ [_], n' + 1) ?_ (by k_asm) N8 (by kst_all) (by first | kst_same | (dsimp +zetaDelta only; kst_same)) (fun p hp => by rcases List.mem_cons.mp hp with rfl | hp; exact List.mem_cons_self ..; exact List.mem_cons_of_mem _ (List.mem_append.mpr (.inl hp))) (fun p hp => List.mem_cons_of_mem _ (List.mem_append.mpr (.inr hp))) hoff
    dsimp only
    rw [take_snoc hb, List.map_append, ← List.cons_append]
    exact bytes_snoc (by assumption)
  · rintro ⟨vs', n'⟩ u h tk hP F2 N2
    dsimp only [kstB] at F2
    dsimp only at hP N2
    rw [hwl, List.take_length] at hP
    rw [hbase] at N2
    have hvl' : vs'.length ≤ 3000 := by
      rw [BytesAre.length hP]; simp; (first | k_extra "ar" | lia | omega)
    have sz1 := perB_size hqa
    have sz2 := perB_size hqc
    repeat' (first | ((fail_if_success (with_reducible show wpAny _ _ (call (Value.ref (nat_lit 135)) _) _ _ _)); first | (k_unfold; (try dsimp only)) | (k_end; wrow_close) | walk1 | (dsimp only; walk1) | (leave1; try dsimp only)))
    refine c_person_octets (i := qa.2.2.1) (by k_asm) (by k_asm) (by k_in) (by k_asm) (by k_asm) (by first | with_reducible assumption | exact rfl) (by ktr_room) (by ktr_room) (hau.mono fun q hq => List.mem_cons_of_mem _ (hsub q hq)) hqa.1 hqa.2.1 hqa.2.2.1 hqa.2.2.2 ?_
    intro t8 h8 tk8 F8 N8
    rw [show perB (qa.1, qa.2.1, qa.2.2.1, qa.2.2.2) = perB qa from rfl]
    repeat' (first | ((fail_if_success (with_reducible show wpAny _ _ (call (Value.ref (nat_lit 135)) _) _ _ _)); first | (k_unfold; (try dsimp only)) | (k_end; wrow_close) | walk1 | (dsimp only; walk1) | (leave1; try dsimp only)))
    refine c_person_octets (i := qc.2.2.1) (by k_asm) (by k_asm) (by k_in) (by k_asm) (by k_asm) (by first | with_reducible assumption | exact rfl) (by ktr_room) (by ktr_room) (hco.mono fun q hq => List.mem_cons_of_mem _ (hsub q hq)) hqc.1 hqc.2.1 hqc.2.2.1 hqc.2.2.2 ?_
    intro t8' h8' tk8' F8' N8'
    rw [show perB (qc.1, qc.2.1, qc.2.2.1, qc.2.2.2) = perB qc from rfl]
    repeat' (first | ((fail_if_success (with_reducible show wpAny _ _ (exec (Stmt.For _ _ _ _ _) _) _ _ _)); first | (k_unfold; (try dsimp only)) | (k_end; wrow_close) | walk1 | (dsimp only; walk1) | (leave1; try dsimp only)))
    rename News _ _ _ _ => N7
    rw [List.push_toArray, List.push_toArray] at N7
    obtain ⟨g9, rfl⟩ := exBase N7
    obtain ⟨ws2, n8, hws2, N7, hb2⟩ : ∃ ws2 n8, BytesAre ws2 ((cmTree tree :: ids.map cmParent) ++ [cmAuthor qa] ++ [cmCommitter qc]) ∧ News g9 _ _ ((P9, W.listOf ws2.toArray n8) :: _) ∧ ws2.length ≤ 4000 := ⟨_, _, bytes_snoc (bytes_snoc hP), N7, by simp; (first | k_extra "ar" | lia | omega)⟩
    refine For_pairs (h₀ := g9) (σ := List Value × Nat) (by rfl) (by rfl) (by rfl) (by rfl) ?_
    repeat' (first | ((fail_if_success (with_reducible refine Exists.intro (α := Addr) ?_ ?_)); first | (k_unfold; (try dsimp only)) | (k_end; wrow_close) | walk1 | (dsimp only; walk1) | (leave1; try dsimp only)))
    refine ⟨exa, vs, n2, ex, _, _, [], fun _ => [], fun c => (P9, W.listOf c.1.toArray c.2) :: base9, fun i c => BytesAre c.1 ((cmTree tree :: ids.map cmParent) ++ [cmAuthor qa] ++ [cmCommitter qc] ++ (ex.take i).map (fun q => rowOf q.1 q.2)), (ws2, n8), rfl, (by assumption), N7, by dsimp only; rw [List.take_zero, List.map_nil, List.append_nil]; exact hws2, by kst_all, fun _ h => by rw [hbase] at h; exact h, fun _ _ _ => ⟨by rw [hbase]; simp [hex], hvs.mono fun q hq => List.mem_cons_of_mem _ (by rw [hbase]; exact hsub q hq)⟩, ?_, ?_⟩
    · rintro i q5 t1 t2 ⟨vs9, n9⟩ u h tk own hq5 hP5 hoff5 F5 N5
      dsimp only [kstB] at F5
      dsimp only at hP5 N5
      have hq9 := he2 q5 (List.mem_of_getElem? hq5)
      have hrs := repl_size q5.2
      have off' : ∀ p ∈ base9 ++ own, @Ne Nat p.1 P9 := fun p hp => (List.mem_append.mp hp).elim (hoffP p) fun q => hoff5 p q _ (List.mem_cons_self ..)
      have hvl5 : vs9.length ≤ 10000 := by
        rw [BytesAre.length hP5]; simp; (first | k_extra "ar" | lia | omega)
      rw [List.cons_append] at N5
      k_steps
      rename News _ _ _ _ => N8
      refine forP_end (vs9 ++ [_], n9 + 1) ?_ (by k_asm) N8 (by kst_all) (by intro z h2 h3 _ _; (first | (simp [h2, h3]; done) | (simp +zetaDelta [h2, h3]; done))) (fun p hp => by rcases List.mem_cons.mp hp with rfl | hp; exact List.mem_cons_self ..; exact List.mem_cons_of_mem _ (List.mem_append.mpr (.inl hp))) (fun p hp => List.mem_cons_of_mem _ (List.mem_append.mpr (.inr hp))) hoff5
      dsimp only
      rw [take_snoc hq5, List.map_append, ← List.append_assoc]
      exact bytes_snoc (by assumption)
    · rintro ⟨vs9, n9⟩ u h tk hP5 F5 N5
      dsimp only [kstB] at F5
      dsimp only at hP5 N5
      rw [hvl, List.take_length] at hP5
      rw [hbase] at N5
      rw [hbase] at hoffP
      have hvl5 : vs9.length ≤ 10000 := by
        rw [BytesAre.length hP5]; simp; (first | k_extra "ar" | lia | omega)
      have hsum := cmParts_sum ht hm hi hi2 hqa hqc he he2
      repeat' (first | ((fail_if_success (with_reducible show wpAny _ _ (call (Value.builtin _) [Value.bytes _ _, Value.ref _]) _ _ _)); first | (k_unfold; (try dsimp only)) | (k_end; wrow_close) | walk1 | (dsimp only; walk1) | (leave1; try dsimp only)))
      refine join_bytes (bs := cmParts tree ids qa qc ex msg) (News.isList (by k_asm) (by k_mem)) (bytes_snoc (by assumption)) (by rw [show (#[] : Array UInt8).size = 0 from rfl]; (first | k_extra "ar" | lia | omega)) (by rw [joined_size]; (first | k_extra "ar" | lia | omega)) ?_
      intro tJ kJ
      clear hsum
      k_steps
      all_goals exact h1 _ _ _ (by assumption) (cb_drop (by assumption) (fun q hq => List.mem_cons_of_mem _ (hsub q hq)))
end
theorem reg_c_commit_octets : True := by
  k_with "call ref" => (k_here; (with_reducible show wpAny _ _ (call (Value.ref (nat_lit 233)) _) _ _ _); k_dflt (refine' c_commit_octets ?kB ?kF ?kX ?kN ?kT ?kk ?kd ?ku ?hx ?ht ?hm ?hi ?hi2 ?hqa ?hqc ?he ?he2 ?_; (case kB => k_asm); (case kF => k_asm); (case kX => k_in); (case kN => k_asm); (case kT => k_asm); (case kk => first | with_reducible assumption | exact rfl); (case kd => ktr_room); (case ku => ktr_room); (case hx => assumption); (case ht => (first | k_extra "ar" | lia | omega)); (case hm => (first | k_extra "ar" | lia | omega)); (case hi => (first | k_extra "ar" | lia | omega)); (case hi2 => assumption); (case hqa => assumption); (case hqc => assumption); (case he => (first | k_extra "ar" | lia | omega)); (case he2 => assumption); k_whole); intro tXzz hXzz tkXzz FXzz NXzz)
  trivial


theorem reg_fold_DRW : True := by
  k_with "execs cons" => (k_here; (try k_fold); (try ((with_reducible rename Fr _ _ _ (fun _ => @ite _ _ _ _ _) => Fzz); revert Fzz; refine withFrame (P := fun z => Fr _ _ _ z → _) _ ?_; intro mzz Fzz)); (with_reducible refine wpAny_execs_cons ?_); (try dsimp only); (try k_fold))
  k_with "cell_enter" => ((refine' code_def ?k1 ?k2 ?k3 ?k4 ?k5 ?kA ?kF ?kK ?k6 ?k7 ?k8 ?k9 ?kB ?_ ?c2 ?c3 ?c4 ?c5; (case kA => exact rfl); (case kF => exact rfl); (case kK => assumption); (case k1 => k_asm); (case k2 => k_asm); (case k3 => k_asm); (case k4 => k_asm); (case k5 => k_asm); (case k6 => k_is); (case k7 => k_is); (case k8 => ktr_room); (case k9 => first | exact BindsTo.of_eq rfl | exact binds_K (by k_in) rfl (by k_is) rfl rfl rfl); (case c5 => decide); (case kB => exact locs rfl); (case c2 => exact rfl); (case c3 => exact rfl); (case c4 => exact rfl); k_whole; intro g'zz L'zz h'zz FG'zz F'zz N'zz B'zz X'zz T'zz; (try dsimp only); (try k_lift B'zz); (try k_fold)))
  trivial

/-- the deck between two draws -/
structure DS where
  o : Obj
  ys : List Value
  js : List Int
  n : Nat
  mx : Int
  t : Tok
def DS.Ok (w : World) (l : Addr) (c : DS) : Prop := c.o.IsDictOf (PySem.strKind PR w) [(Str.ofString "left", .ref l), (Str.ofString "mixed", .int c.mx c.t)] ∧ IntsAre c.ys c.js ∧ (∀ j ∈ c.js, 0 ≤ j ∧ j < 1000003) ∧ c.js.length ≤ 40 ∧ 0 ≤ c.mx ∧ c.mx < 1000003
section
variable {w : World} {dp un : Nat} {gd : Option (List Code)} {cn : Str} {cs : Scope} {a : Addr} {ccd : Value} {cl : List (Str × Addr)} {outer : List Env} {A₀ : Around} {base h₀ : Heap} {L : Addr} {m : Str → Option Value} {hp0 : Heap} {gs0 : Array GenState} {dr0 : Drawn} {tk0 : Nat} {os0 : OsState} {Q E : Value → Shared → Prop} {news : List (Addr × Obj)} {p : Program} {loose : List Str} {mean : ExcName → Option Value} {mg mb : Str → Option Value}

set_option maxHeartbeats 4000000 in
theorem c_draw {d l : Addr} {c : DS} {rest : List (Addr × Obj)} {many : Int} {tm : Tok}
  (B : Below A₀ base outer h₀) (F : Fr h₀ L hp0 m) (X : (K w.params).In h₀) (N : News h₀ L hp0 ((d, c.o) :: (l, W.listOf c.ys.toArray c.n) :: rest)) (T : Top p loose mean mg mb h₀) (hk : cs.kind = .function)
  (hd : dp + 10 < recursionLimit) (hu : un + 100 < cLine) (hc : DS.Ok w l c) (hm : 0 < many) (hm2 : many ≤ 1000000) (hdl : @Ne Nat d l) (o1 : ∀ q ∈ rest, @Ne Nat q.1 d) (o2 : ∀ q ∈ rest, @Ne Nat q.1 l)
  (h1 : ∀ r t c' h' tk', 0 ≤ r → r < many → DS.Ok w l c' → Fr h₀ L h' m → News h₀ L h' ((d, c'.o) :: (l, W.listOf c'.ys.toArray c'.n) :: rest) → Q (.int r t) (Shared.mk h' gs0 dr0 tk' os0)) :
  wpAny (model PR w) (ktrTop dp un gd cn cs L a ccd cl outer) (call (.ref (nat_lit 274)) [.ref d, .int many tm]) Q E (Shared.mk hp0 gs0 dr0 tk0 os0) := by
  obtain ⟨o, ys, js, n, mx, t⟩ := c
  obtain ⟨hdo, hi, hj, hlen, hmx0, hmx9⟩ := hc
  dsimp only at hdo hi hj hlen hmx0 hmx9 N
  have hN : ∀ {h : Heap} {g : Heap} {L' l' : Addr} {o' : Obj}, News g L' h ((l', o') :: (d, o) :: (l, W.listOf ys.toArray n) :: rest) → News g L' h ((d, o) :: (l, W.listOf ys.toArray n) :: rest) := fun N => cb_drop N fun q hq => List.mem_cons_of_mem _ hq
  have od : ∀ {o' : Obj}, ∀ q ∈ (l, o') :: rest, @Ne Nat q.1 d := fun {o'} => List.forall_mem_cons.mpr ⟨fun e => hdl e.symm, o1⟩
  refine wpAny_call ?_
  k_dflt cell_enter
  cases hi with
  | nil =>
    repeat' (first | ((fail_if_success (with_reducible show wpAny _ _ (setItem _ _ _) _ _ _)); first | (k_unfold; (try dsimp only)) | (k_end; wrow_close) | walk1 | (dsimp only; walk1) | (leave1; try dsimp only)))
    dsimp only
    rename News _ _ _ _ => N9
    replace N9 := hN N9
    refine kda_set (knd := PySem.strKind _ _) (by k_asm) N9 (.head od) hdo (strKind_is _ _ _ _) (by rw [sizeLine_eq]; exact Nat.le_of_ble_eq_true (by with_unfolding_all rfl)) ?_
    intro h' o' F' N' hd'
    replace hd' : o'.IsDictOf (PySem.strKind PR w) [(Str.ofString "left", .ref l), (Str.ofString "mixed", .int ((mx * 4801 + 97).fmod 1000003) _)] := hd'
    have hx0 : 0 ≤ (mx * 4801 + 97).fmod 1000003 := Int.fmod_nonneg (by (first | k_extra "ar" | lia | omega)) (by decide)
    have hx9 : (mx * 4801 + 97).fmod 1000003 < 1000003 := Int.fmod_lt_of_pos _ (by decide)
    generalize (mx * 4801 + 97).fmod 1000003 = mx2 at hd' hx0 hx9
    k_steps
    all_goals exact h1 _ _ ⟨o', [], [], n, mx2, _⟩ _ _ (Int.fmod_nonneg_of_pos _ hm) (Int.fmod_lt_of_pos _ hm) ⟨hd', .nil, fun _ h => (nomatch h), Nat.zero_le _, hx0, hx9⟩ (by assumption) (by assumption)
  | @cons j t0 ys' js' hi =>
    repeat' (first | ((fail_if_success (with_reducible show wpAny _ _ (call (Value.builtin "list.pop") _) _ _ _)); (fail_if_success (with_reducible show wpAny _ _ (setItem _ _ _) _ _ _)); first | (k_unfold; (try dsimp only)) | (k_end; wrow_close) | walk1 | (dsimp only; walk1) | (leave1; try dsimp only)))
    · exact absurd (by assumption : decide (j :: js' = []) = true) (by simp)
    rename News _ _ _ _ => N9
    rename Fr _ _ _ _ => F9
    replace N9 := hN N9
    refine' kl_popAt (its := (Value.int j t0 :: ys').toArray) (i := 0) (k := 0) (p := []) (y := .int j t0) (q := ys') ?k1 ?k2 rfl ?k3 rfl ?k4 ?k5 ?_
    case k1 => exact F9
    case k2 => exact N9
    case k3 => simp [seqIndex?]
    case k4 => exact Upd.tail (p := (d, o)) hdl (Upd.head o2)
    case k5 => have := IntsAre.length hi; rw [sizeLine_eq]; simp at hlen ⊢; (first | k_extra "ar" | lia | omega)
    intro h' F' N'
    k_steps
    all_goals exact h1 _ _ ⟨o, ys', js', n + 1, mx, t⟩ _ _ (Int.fmod_nonneg_of_pos _ hm) (Int.fmod_lt_of_pos _ hm) ⟨hdo, hi, fun a h => hj a (List.mem_cons_of_mem _ h), by simp at hlen; dsimp only; (first | k_extra "ar" | lia | omega), hmx0, hmx9⟩ (by assumption) (by assumption)
end
theorem reg_c_draw : True := by
  k_with "call ref" => (k_here; (with_reducible show wpAny _ _ (call (Value.ref (nat_lit 274)) _) _ _ _); k_dflt (refine' c_draw ?kB ?kF ?kX ?kN ?kT ?kk ?kd ?ku ?hc ?hm ?hm2 ?hdl ?o1 ?o2 ?_; (case kB => k_asm); (case kF => k_asm); (case kX => k_in); (case kN => k_asm); (case kT => k_asm); (case kk => first | with_reducible assumption | exact rfl); (case kd => ktr_room); (case ku => ktr_room); (case hc => assumption); (case hm => (first | k_extra "ar" | lia | omega)); (case hm2 => (first | k_extra "ar" | lia | omega)); (case hdl => assumption); (case o1 => assumption); (case o2 => assumption); k_whole); intro rXzz tXzz cXzz hXzz tkXzz r0Xzz r9Xzz okXzz FXzz NXzz)
  trivial


theorem reg_fold_DCK : True := by
  k_with "execs cons" => (k_here; (try k_fold); (try ((with_reducible rename Fr _ _ _ (fun _ => @ite _ _ _ _ _) => Fzz); revert Fzz; refine withFrame (P := fun z => Fr _ _ _ z → _) _ ?_; intro mzz Fzz)); (with_reducible refine wpAny_execs_cons ?_); (try dsimp only); (try k_fold))
  k_with "cell_enter" => ((refine' code_def ?k1 ?k2 ?k3 ?k4 ?k5 ?kA ?kF ?kK ?k6 ?k7 ?k8 ?k9 ?kB ?_ ?c2 ?c3 ?c4 ?c5; (case kA => exact rfl); (case kF => exact rfl); (case kK => assumption); (case k1 => k_asm); (case k2 => k_asm); (case k3 => k_asm); (case k4 => k_asm); (case k5 => k_asm); (case k6 => k_is); (case k7 => k_is); (case k8 => ktr_room); (case k9 => first | exact BindsTo.of_eq rfl | exact binds_K (by k_in) rfl (by k_is) rfl rfl rfl); (case c5 => decide); (case kB => exact locs rfl); (case c2 => exact rfl); (case c3 => exact rfl); (case c4 => exact rfl); k_whole; intro g'zz L'zz h'zz FG'zz F'zz N'zz B'zz X'zz T'zz; (try dsimp only); (try k_lift B'zz); (try (refine withFrame (P := fun z => wpAny _ z _ _ _ _) _ ?_; intro Azz; (try dsimp only))); (try k_fold)))
  trivial

theorem off1_mem {D : Addr} : ∀ {l : List (Addr × Obj)}, LCg.Off1 D l → ∀ p ∈ l, @Ne Nat p.1 D
  | [], _, _, h => nomatch h
  | _ :: _, x, p, h => by
    rcases List.mem_cons.mp h with rfl | h
    · exact x.1
    · exact off1_mem x.2 p h
theorem ints_take {vs : List Value} {ns : List Int} (h : IntsAre vs ns) : ∀ k : Nat, IntsAre (vs.take k) (ns.take k) := by
  induction h with
  | nil => intro k; simp; exact .nil
  | cons n t _ ih =>
    intro k
    cases k with
    | zero => exact .nil
    | succ k => exact .cons n t (ih k)
theorem list_keeps {h h' : Heap} {a : Addr} {its : Array Value} (hl : h.IsList a its) (k : ∀ b o, h.get? b = some o → h'.get? b = some o) : h'.IsList a its := by
  obtain ⟨o, e, c, n, d⟩ := hl
  exact ⟨o, k _ _ e, c, n, d⟩
section
variable {w : World} {dp un : Nat} {gd : Option (List Code)} {cn : Str} {cs : Scope} {a : Addr} {ccd : Value} {cl : List (Str × Addr)} {outer : List Env} {A₀ : Around} {base h₀ : Heap} {L : Addr} {m : Str → Option Value} {hp0 : Heap} {gs0 : Array GenState} {dr0 : Drawn} {tk0 : Nat} {os0 : OsState} {Q E : Value → Shared → Prop} {news : List (Addr × Obj)} {p : Program} {loose : List Str} {mean : ExcName → Option Value} {mg mb : Str → Option Value}

set_option maxHeartbeats 4000000 in
theorem c_deck {sa : Addr} {vs : List Value} {ns : List Int} (B : Below A₀ base outer h₀) (F : Fr h₀ L hp0 m) (X : (K w.params).In h₀) (N : News h₀ L hp0 news) (T : Top p loose mean mg mb h₀) (hk : cs.kind = .function)
   (hd : dp + 10 < recursionLimit) (hu : un + 200 < cLine) (hl : h₀.IsList sa vs.toArray) (hi : IntsAre vs ns) (hn : ns.length ≤ 63)
  (h1 : ∀ d l c h' tk', DS.Ok w l c → @Ne Nat d l → (∀ q ∈ news, @Ne Nat q.1 d) → (∀ q ∈ news, @Ne Nat q.1 l) → Fr h₀ L h' m → News h₀ L h' ((d, c.o) :: (l, W.listOf c.ys.toArray c.n) :: news) → Q (.ref d) (Shared.mk h' gs0 dr0 tk' os0)) :
  wpAny (model PR w) (ktrTop dp un gd cn cs L a ccd cl outer) (call (.ref (nat_lit 267)) [.ref sa]) Q E (Shared.mk hp0 gs0 dr0 tk0 os0) := by
  refine wpAny_call ?_
  k_dflt cell_enter
  repeat' (first | ((fail_if_success (with_reducible show wpAny _ _ (eval (Expr.ListComp _ _ _ _) _) _ _ _)); first | (k_unfold; (try dsimp only)) | (k_end; wrow_close) | walk1 | (dsimp only; walk1) | (leave1; try dsimp only)))
  refine LCg.ListComp_U (F₀ := by k_asm) (by with_unfolding_all rfl) (by decide) (by rfl) (by decide) (by rfl) ?_
  repeat' (first | ((fail_if_success (with_reducible show wpAny _ _ (subscriptTail _ _ _ _) _ _ _)); first | (k_unfold; (try dsimp only)) | (k_end; wrow_close) | walk1 | (dsimp only; walk1) | (leave1; try dsimp only)))
  k_dflt (refine kmk_slice_lit (by k_asm) (by k_asm) (list_keeps (list_keeps hl (Fr.keep (by assumption))) (Fr.keep (by assumption))) .none (.int _ _) (pick_hi (by decide)) ?_ (by with_unfolding_all rfl) (by intro _; with_unfolding_all rfl) (by rw [PySem.sizeLine_eq, List.size_toArray]; have := IntsAre.length hi; (first | k_extra "ar" | lia | omega)))
  intro D8 h8 F8 N8 l8
  have hi8 := ints_take hi 40
  have hl8 : (ns.take 40).length ≤ 40 := by rw [List.length_take]; (first | k_extra "ar" | lia | omega)
  have hv8 : (vs.take (Int.toNat 40)).length = (ns.take 40).length := IntsAre.length hi8
  refine LCg.CompSrc.ledger rfl F8 N8 (List.mem_cons_self ..) (by rw [PySem.sizeLine_eq, List.size_toArray]; (first | k_extra "ar" | lia | omega)) fun g => ?_
  refine comp_inv (R := fun i ys nx => nx = _ ∧ ∃ js, IntsAre ys js ∧ js.length = i ∧ ∀ j ∈ js, 0 ≤ j ∧ j < 1000003) ⟨rfl, [], .nil, rfl, fun _ h => nomatch h⟩ ?_ ?_
  · rintro i v ys nx I oI C oC D m₂ h tk E' hi9 hv ⟨rfl, js, hjs, hjl, hjb⟩ hC hx F1 N1 off ne
    obtain ⟨n9, t9, rfl, hn9⟩ := IntsAre.at hi8 i v (by simpa using hv)
    k_steps
    refine LCg.CompEnd.intro (by k_asm) (by k_asm) _ (fun _ h => h) off (.inr ⟨_, List.mem_cons_self .., rfl, _, rfl⟩) ⟨rfl, js ++ [n9.fmod 1000003], ints_snoc hjs, by simp [hjl], ?_⟩
    intro j hj
    rcases List.mem_append.mp hj with hj | hj
    · exact hjb j hj
    · rw [List.mem_singleton.mp hj]
      exact ⟨Int.fmod_nonneg_of_pos _ (by decide), Int.fmod_lt_of_pos _ (by decide)⟩
  · rintro ys nx ⟨rfl, js, hjs, hjl, hjb⟩
    rw [List.size_toArray, hv8] at hjl
    unfold LCg.FinE
    intro D h tk F1 N1 o1
    have hjl2 : js.length ≤ 40 := by (first | k_extra "ar" | lia | omega)
    have hyl := IntsAre.length hjs
    repeat' (first | ((fail_if_success (with_reducible show wpAny _ _ (exec (Stmt.For _ _ _ _ _) _) _ _ _)); first | (k_unfold; (try dsimp only)) | (k_end; wrow_close) | walk1 | (dsimp only; walk1) | (leave1; try dsimp only)))
    rename Fr _ _ _ _ => lF'
    with_unfolding_all refine' For_invVF lF' ?k1 ?k2 ?_
    case k1 => exact rfl
    case k2 => exact rfl
    repeat' (first | ((fail_if_success (with_reducible show wpAny _ _ (pyIter _) _ _ _)); first | (k_unfold; (try dsimp only)) | (k_end; wrow_close) | walk1 | (dsimp only; walk1) | (leave1; try dsimp only)))
    rename News _ _ _ _ => N9
    refine for_inv (σ := Int × Tok) (l := D) (vs := ys) (nn := ys.length) [] (fun c => [(Str.ofString "mixed", .int c.1 c.2)]) (fun _ => (D, LCg.lst ys) :: (D8, W.listOf (vs.take (Int.toNat 40)).toArray 0) :: news) (fun _ c => 0 ≤ c.1 ∧ c.1 < 1000003) (7019, _) rfl (fun _ _ _ => List.mem_cons_self ..) (by k_asm) N9 (by dsimp only; (first | k_extra "ar" | lia | omega)) (by kst_all) (fun _ h => List.mem_cons_of_mem _ h) ?_ ?_
    · rintro i v ⟨mx, tx⟩ u h tk own hv hP hoff F2 N2
      dsimp only [kstB] at F2
      dsimp only at hP
      obtain ⟨n9, t9, rfl, hn9⟩ := IntsAre.at hjs i v hv
      have hb9 := hjb n9 (List.mem_of_getElem? hn9)
      k_steps
      all_goals exact for_end (_, _) ⟨Int.fmod_nonneg_of_pos _ (by decide), Int.fmod_lt_of_pos _ (by decide)⟩ (by k_asm) (by k_asm) (by kst_all) (by first | kst_same | (dsimp +zetaDelta only; kst_same)) (fun p hp => List.mem_append.mpr (.inl hp)) (fun p hp => List.mem_append.mpr (.inr hp)) hoff
    · rintro ⟨mx, tx⟩ u h tk hP F2 N2
      dsimp only [kstB] at F2
      dsimp only at hP
      k_steps
      rename @LT.lt Nat _ D _ ∧ @LT.lt Nat _ D8 _ ∧ AllLt _ news => hL9
      rename Obj.IsDictOf _ _ _ => hd9
      exact h1 _ _ ⟨_, ys, js, ys.length, mx, tx⟩ _ _ ⟨hd9, hjs, hjb, hjl2, hP⟩ (Nat.ne_of_gt hL9.1) (fun q hq => Nat.ne_of_lt (lt_of_all hL9.2.2 q hq)) (fun q hq => off1_mem o1 q (List.mem_cons_of_mem _ hq)) (by assumption) (cb_drop (by assumption) (fun q hq => by rcases List.mem_cons.mp hq with rfl | hq; exact List.mem_cons_self ..; rcases List.mem_cons.mp hq with rfl | hq; exact List.mem_cons_of_mem _ (List.mem_cons_self ..); exact List.mem_cons_of_mem _ (List.mem_cons_of_mem _ (List.mem_cons_of_mem _ hq))))
end
theorem reg_c_deck : True := by
  k_with "call ref" => (k_here; (with_reducible show wpAny _ _ (call (Value.ref (nat_lit 267)) _) _ _ _); k_dflt (refine' c_deck ?kB ?kF ?kX ?kN ?kT ?kk ?kd ?ku ?hl ?hi ?hn ?_; (case kB => k_asm); (case kF => k_asm); (case kX => k_in); (case kN => k_asm); (case kT => k_asm); (case kk => first | with_reducible assumption | exact rfl); (case kd => ktr_room); (case ku => ktr_room); (case hl => assumption); (case hi => assumption); (case hn => (first | k_extra "ar" | lia | omega)); k_whole); intro dXzz lXzz cXzz hXzz tkXzz okXzz neXzz o1Xzz o2Xzz FXzz NXzz)
  trivial


theorem reg_kall : True := by
  k_with "k_all" => (first | with_reducible assumption | exact ne_all (by assumption) (by (first | k_extra "ar" | lia | omega)) | exact ne_all2 (by assumption) (by (first | k_extra "ar" | lia | omega)))
  trivial

theorem range1_size (k : Nat) : Builtin.Range.rangeSize 0 (k : Int) 1 = (k : Int) := by
  rw [rangeSize_pos (by decide) (by (first | k_extra "ar" | lia | omega))]
  (first | k_extra "ar" | lia | omega)
theorem range1_small {k : Nat} (h : k ≤ 10000) : Builtin.Range.small 0 (k : Int) 1 = true := by
  unfold Builtin.Range.small
  rw [range1_size]
  unfold Builtin.Range.rangeFitsLong
  have e : (2 : Int) ^ 63 = 9223372036854775808 := by decide
  rw [e, if_pos (by decide)]
  rw [decide_eq_true (by (first | k_extra "ar" | lia | omega)), decide_eq_true (by (first | k_extra "ar" | lia | omega)), decide_eq_true (by (first | k_extra "ar" | lia | omega)), decide_eq_true (by (first | k_extra "ar" | lia | omega)), decide_eq_true (by (first | k_extra "ar" | lia | omega)), decide_eq_true (by (first | k_extra "ar" | lia | omega)), decide_eq_true (by (first | k_extra "ar" | lia | omega))]
  simp
  (first | k_extra "ar" | lia | omega)
section
variable {w : World} {dp un : Nat} {gd : Option (List Code)} {cn : Str} {cs : Scope} {a : Addr} {ccd : Value} {cl : List (Str × Addr)} {outer : List Env} {A₀ : Around} {base h₀ : Heap} {L : Addr} {m : Str → Option Value} {hp0 : Heap} {gs0 : Array GenState} {dr0 : Drawn} {tk0 : Nat} {os0 : OsState} {Q E : Value → Shared → Prop} {news : List (Addr × Obj)} {p : Program} {loose : List Str} {mean : ExcName → Option Value} {mg mb : Str → Option Value}

set_option maxHeartbeats 4000000 in
theorem c_law_id {d l : Addr} {c : DS} {rest : List (Addr × Obj)} {k : Nat} {tm : Tok}
  (B : Below A₀ base outer h₀) (F : Fr h₀ L hp0 m) (X : (K w.params).In h₀) (N : News h₀ L hp0 ((d, c.o) :: (l, W.listOf c.ys.toArray c.n) :: rest)) (T : Top p loose mean mg mb h₀) (hk : cs.kind = .function)
  (hd : dp + 20 < recursionLimit) (hu : un + 300 < cLine) (hc : DS.Ok w l c) (hk2 : k ≤ 100) (hdl : @Ne Nat d l) (o1 : ∀ q ∈ rest, @Ne Nat q.1 d) (o2 : ∀ q ∈ rest, @Ne Nat q.1 l)
  (h1 : ∀ b t c' h' tk', b.size = k → DS.Ok w l c' → Fr h₀ L h' m → News h₀ L h' ((d, c'.o) :: (l, W.listOf c'.ys.toArray c'.n) :: rest) → Q (.bytes b t) (Shared.mk h' gs0 dr0 tk' os0)) :
  wpAny (model PR w) (ktrTop dp un gd cn cs L a ccd cl outer) (call (.ref (nat_lit 279)) [.ref d, .int (k : Int) tm]) Q E (Shared.mk hp0 gs0 dr0 tk0 os0) := by
  refine wpAny_call ?_
  k_dflt (refine' code_defC ?k1 ?k2 ?k3 ?k4 ?k5 ?kA ?kF ?kK ?k6 ?k7 ?k8 ?k9 ?kB ?kD ?_ ?c2 ?c3 ?c4; (case kA => exact rfl); (case kF => exact rfl); (case kK => assumption); (case k1 => k_asm); (case k2 => k_asm); (case k3 => k_asm); (case k4 => k_asm); (case k5 => k_asm); (case k6 => k_is); (case k7 => k_is); (case k8 => ktr_room); (case k9 => first | exact BindsTo.of_eq rfl | exact binds_K (by k_in) rfl (by k_is) rfl rfl rfl); (case kB => exact rfl); (case kD => decide +kernel); (case c2 => exact rfl); (case c3 => exact rfl); (case c4 => exact rfl); k_whole; intro g' L' h' tk' cells' FG' F' N' Y' B' X' T' l1; (try k_lt l1); k_cells Y'; (try simp only [List.cons_append, List.nil_append] at N'); (try dsimp only); (try k_lift B'); (try k_fold))
  repeat' (first | ((fail_if_success (with_reducible show wpAny _ _ (call (Value.ref (nat_lit 274)) _) _ _ _)); first | (k_unfold; (try dsimp only)) | (k_end; wrow_close) | walk1 | (dsimp only; walk1) | (leave1; try dsimp only)))
  refine c_draw (many := 256) (by k_asm) (by k_asm) (by k_in) (n_bca N') (by k_asm) (by first | with_reducible assumption | exact rfl) (by ktr_room) (by ktr_room) hc (by decide) (by decide) hdl (List.forall_mem_cons.mpr ⟨Nat.ne_of_gt (by (first | k_extra "ar" | lia | omega)), o1⟩) (List.forall_mem_cons.mpr ⟨Nat.ne_of_gt (by (first | k_extra "ar" | lia | omega)), o2⟩) ?_
  intro r t c2 h2 tk2 r0 r9 hc2 F2 N2
  replace N2 := n_cab N2
  obtain ⟨l1a, l1b, l1c⟩ := l1
  k_steps
  all_goals exact h1 _ _ c2 _ _ (by unfold byteArr; rw [List.size_toArray, List.length_map, List.length_map, rangeKs_length]; (first | k_extra "ar" | lia | omega)) hc2 (by assumption) (cb_drop (by assumption) (fun q hq => List.mem_cons_of_mem _ (List.mem_cons_of_mem _ hq)))
end
theorem reg_c_law_id : True := by
  k_with "call ref" => (k_here; (with_reducible show wpAny _ _ (call (Value.ref (nat_lit 279)) _) _ _ _); k_dflt (refine' c_law_id ?kB ?kF ?kX ?kN ?kT ?kk ?kd ?ku ?hc ?hk2 ?hdl ?o1 ?o2 ?_; (case kB => k_asm); (case kF => k_asm); (case kX => k_in); (case kN => k_asm); (case kT => k_asm); (case kk => first | with_reducible assumption | exact rfl); (case kd => ktr_room); (case ku => ktr_room); (case hc => assumption); (case hk2 => (first | k_extra "ar" | lia | omega)); (case hdl => assumption); (case o1 => assumption); (case o2 => assumption); k_whole); intro bXzz tXzz cXzz hXzz tkXzz szXzz okXzz FXzz NXzz)
  trivial


theorem sgn_div {k : Nat} (h : k < 256) : 0 ≤ (k : Int).fdiv 16 ∧ (k : Int).fdiv 16 < 16 ∧ (k : Int).fdiv 16 = ((k / 16 : Nat) : Int) := by
  rw [Int.fdiv_eq_ediv_of_nonneg _ (by decide)]
  (first | k_extra "ar" | lia | omega)
theorem sgn_mod {k : Nat} : 0 ≤ (k : Int).fmod 16 ∧ (k : Int).fmod 16 < 16 ∧ (k : Int).fmod 16 = ((k % 16 : Nat) : Int) := by
  rw [Int.fmod_eq_emod_of_nonneg _ (by decide)]
  (first | k_extra "ar" | lia | omega)
def sgnB : Array UInt8 := #[48, 49, 50, 51, 52, 53, 54, 55, 56, 57, 97, 98, 99, 100, 101, 102]
theorem sgn_one {i : Int} {k : Nat} (e : i = (k : Int)) (h : k < 16) : sgnB.extract i.toNat (i + 1).toNat = #[(hexSign k).toUInt8] := by
  subst e
  have key : ∀ k : Fin 16, sgnB.extract k.1 (k.1 + 1) = #[(hexSign k.1).toUInt8] := by decide
  exact key ⟨k, h⟩
theorem figs_flat (l : List UInt8) : (l.map fun c => #[(hexSign (c.toNat / 16)).toUInt8, (hexSign (c.toNat % 16)).toUInt8]).flatMap (·.toList) = (hexL l).map (·.toUInt8) := by
  induction l with
  | nil => rfl
  | cons c r ih =>
    rw [List.map_cons, List.flatMap_cons, ih]
    have : hexL (c :: r) = [hexSign (c.toNat / 16), hexSign (c.toNat % 16)] ++ hexL r := by simp [hexL]
    rw [this, List.map_append]
    rfl
theorem bytes_len2 {vs : List Value} {l : List (Array UInt8)} (h : BytesAre vs l) : vs.length = l.length := h.length
theorem ext_add_le {b c : Array UInt8} {i j k l : Nat} (hb : b.size ≤ 1000) (hc : c.size ≤ 1000) : (b.extract i j).size + (c.extract k l).size ≤ 16777216 := by
  simp only [Array.size_extract]
  (first | k_extra "ar" | lia | omega)
section
variable {w : World} {dp un : Nat} {gd : Option (List Code)} {cn : Str} {cs : Scope} {a : Addr} {ccd : Value} {cl : List (Str × Addr)} {outer : List Env} {A₀ : Around} {base h₀ : Heap} {L : Addr} {m : Str → Option Value} {hp0 : Heap} {gs0 : Array GenState} {dr0 : Drawn} {tk0 : Nat} {os0 : OsState} {Q E : Value → Shared → Prop} {news : List (Addr × Obj)} {p : Program} {loose : List Str} {mean : ExcName → Option Value} {mg mb : Str → Option Value}

set_option maxHeartbeats 4000000 in
theorem c_figures (B : Below A₀ base outer h₀) (F : Fr h₀ L hp0 m) (X : (K w.params).In h₀) (N : News h₀ L hp0 news) (T : Top p loose mean mg mb h₀) (hk : cs.kind = .function)
   (hd : dp + 20 < recursionLimit) (hu : un + 300 < cLine) {b : Array UInt8} {tb : Tok} (hl : b.size ≤ 1000)
  (h1 : ∀ t h' tk', Fr h₀ L h' m → News h₀ L h' news → Q (.bytes (hexA b) t) (Shared.mk h' gs0 dr0 tk' os0)) :
  wpAny (model PR w) (ktrTop dp un gd cn cs L a ccd cl outer) (call (.ref (nat_lit 284)) [.bytes b tb]) Q E (Shared.mk hp0 gs0 dr0 tk0 os0) := by
  refine wpAny_call ?_
  k_dflt (refine' code_defC ?k1 ?k2 ?k3 ?k4 ?k5 ?kA ?kF ?kK ?k6 ?k7 ?k8 ?k9 ?kB ?kD ?_ ?c2 ?c3 ?c4; (case kA => exact rfl); (case kF => exact rfl); (case kK => assumption); (case k1 => k_asm); (case k2 => k_asm); (case k3 => k_asm); (case k4 => k_asm); (case k5 => k_asm); (case k6 => k_is); (case k7 => k_is); (case k8 => ktr_room); (case k9 => first | exact BindsTo.of_eq rfl | exact binds_K (by k_in) rfl (by k_is) rfl rfl rfl); (case kB => exact rfl); (case kD => decide +kernel); (case c2 => exact rfl); (case c3 => exact rfl); (case c4 => exact rfl); k_whole; intro g' L' h' tk' cells' FG' F' N' Y' B' X' T' l1; (try k_lt l1); k_cells Y'; (try simp only [List.cons_append, List.nil_append] at N'); (try dsimp only); (try k_lift B'); (try k_fold))
  k_with "mycomp" => skip
  k_with "k_intsEnd" => exact ext_add_le (by decide) (by decide)
  k_steps
  refine Or.inl ⟨_, _, _, rfl, rfl, by k_asm, by k_asm, by (rw [PySem.sizeLine_eq]; (first | k_extra "ar" | lia | omega)), ?_⟩
  rintro _ ⟨g9, rfl⟩
  refine comp_inv (R := fun i ys nx => nx = _ ∧ BytesAre ys ((b.toList.take i).map fun c => #[(hexSign (c.toNat / 16)).toUInt8, (hexSign (c.toNat % 16)).toUInt8])) ⟨rfl, .nil⟩ ?_ ?_
  · rintro i v ys nx I oI C oC D m₂ h tk E' hi ⟨c, u, hc, rfl⟩ ⟨rfl, hy⟩ hC hx F1 N1 off ne
    have hlt := c.toNat_lt
    obtain ⟨q1, q2, q3⟩ := sgn_div hlt
    obtain ⟨q4, q5, q6⟩ := sgn_mod (k := c.toNat)
    k_steps
    refine LCg.CompEnd.intro (by k_asm) (by k_asm) _ (fun _ h => h) off trivial ⟨rfl, ?_⟩
    have e1 := sgn_one q3 (show c.toNat / 16 < 16 by (first | k_extra "ar" | lia | omega))
    have e2 := sgn_one q6 (show c.toNat % 16 < 16 by (first | k_extra "ar" | lia | omega))
    unfold sgnB at e1 e2
    rw [e1, e2, take_snoc (show b.toList[i]? = some c by simpa using hc), List.map_append]
    exact bytes_snoc hy
  · rintro ys nx ⟨rfl, hy⟩
    rw [show b.size = b.toList.length from rfl, List.take_length] at hy
    unfold LCg.FinE
    intro D h tk F1 N1 o1
    have hl9 := hy.length
    rw [List.length_map, Array.length_toList] at hl9
    have hsz : (((b.toList.map fun c => #[(hexSign (c.toNat / 16)).toUInt8, (hexSign (c.toNat % 16)).toUInt8]) : List (Array UInt8)).map Array.size).sum ≤ 16777216 := by
      refine Nat.le_trans (sum_le (f := Array.size) (b := 2) ?_) (by rw [List.length_map, Array.length_toList]; (first | k_extra "ar" | lia | omega))
      intro x hx
      obtain ⟨c, _, rfl⟩ := List.mem_map.mp hx
      exact Nat.le_refl _
    repeat' (first | ((fail_if_success (with_reducible show wpAny _ _ (call (Value.builtin _) [Value.bytes _ _, Value.ref _]) _ _ _)); first | (k_unfold; (try dsimp only)) | (k_end; wrow_close) | walk1 | (dsimp only; walk1) | (leave1; try dsimp only)))
    refine join_bytes (News.isList (by k_asm) (by k_mem)) hy (by rw [show (#[] : Array UInt8).size = 0 from rfl]; (first | k_extra "ar" | lia | omega)) (by rw [joined_size]; (first | k_extra "ar" | lia | omega)) ?_
    intro tJ kJ
    rw [joined_nil, figs_flat]
    clear hsz
    k_steps
    all_goals exact h1 _ _ _ (by assumption) (cb_drop (by assumption) (fun q hq => List.mem_cons_of_mem _ (List.mem_cons_of_mem _ hq)))
end
theorem reg_c_figures : True := by
  k_with "call ref" => (k_here; (with_reducible show wpAny _ _ (call (Value.ref (nat_lit 284)) _) _ _ _); k_dflt (refine' c_figures ?kB ?kF ?kX ?kN ?kT ?kk ?kd ?ku ?hl ?_; (case kB => k_asm); (case kF => k_asm); (case kX => k_in); (case kN => k_asm); (case kT => k_asm); (case kk => first | with_reducible assumption | exact rfl); (case kd => ktr_room); (case ku => ktr_room); (case hl => k_intsEnd); k_whole); intro tXzz hXzz tkXzz FXzz NXzz)
  trivial


theorem reg_all5 : True := by
  k_with_none
  k_with "szb" => (first | with_reducible assumption | exact app_le (by k_extra "szb") (by k_extra "szb") | exact ext_le (by k_extra "szb") | exact (show _ ≤ 100 from by decide))
  k_with "cell_enter" => ((refine' code_def ?k1 ?k2 ?k3 ?k4 ?k5 ?kA ?kF ?kK ?k6 ?k7 ?k8 ?k9 ?kB ?_ ?c2 ?c3 ?c4 ?c5; (case kA => exact rfl); (case kF => exact rfl); (case kK => assumption); (case k1 => k_asm); (case k2 => k_asm); (case k3 => k_asm); (case k4 => k_asm); (case k5 => k_asm); (case k6 => k_is); (case k7 => k_is); (case k8 => ktr_room); (case k9 => first | exact BindsTo.of_eq rfl | exact binds_K (by k_in) rfl (by k_is) rfl rfl rfl); (case c5 => decide); (case kB => exact locs rfl); (case c2 => exact rfl); (case c3 => exact rfl); (case c4 => exact rfl); k_whole; intro g'zz L'zz h'zz FG'zz F'zz N'zz B'zz X'zz T'zz; (try dsimp only); (try k_lift B'zz); (try k_fold)))
  k_with "exec Raise some none" => (k_here; (with_reducible show wpAny _ _ (exec (Stmt.Raise (some (Expr.Call (Expr.Name ("BadObject" : Str) _) (_ :: _) [] _)) none _) _) _ _ _); k_dflt (refine' raise_bad ?hh ?_; (case hh => rfl); k_whole))
  k_with "BadEnd" => (k_here; k_dflt (refine' BadEnd.intro ?kF ?kX ?kN ?_; (case kF => k_asm); (case kX => k_in); (case kN => k_asm); k_whole))
  k_with "exec Raise some none" => (k_here; (with_reducible show wpAny _ _ (exec (Stmt.Raise (some (Expr.Call (Expr.Name ("BadObject" : Str) _) [Expr.Constant (Const.str _) _ _] [] _)) none _) _) _ _ _); k_dflt (refine' raise_const ?kB ?kF ?kX ?kN ?kT ?kk ?kd ?ku ?kx ?_; (case kB => k_asm); (case kF => k_asm); (case kX => k_in); (case kN => k_asm); (case kT => k_asm); (case kk => first | with_reducible assumption | exact rfl); (case kd => ktr_room); (case ku => ktr_room); (case kx => exact rfl); k_whole); intro eXzz tXzz dXzz hXzz tkXzz FXzz NXzz neXzz)
  k_with "call ref" => (k_here; (with_reducible show wpAny _ _ (call (Value.ref (nat_lit 52)) _) _ _ _); k_dflt (refine' bad_call ?kB ?kF ?kX ?kN ?kT ?kk ?kd ?ku  ?_; (case kB => k_asm); (case kF => k_asm); (case kX => k_in); (case kN => k_asm); (case kT => k_asm); (case kk => first | with_reducible assumption | exact rfl); (case kd => ktr_room); (case ku => ktr_room);  k_whole); intro eXzz tXzz dXzz hXzz tkXzz FXzz NXzz neXzz)
  k_with "leaving ref" => (k_here; k_dflt (refine' leave_bad ?kB ?kF ?kN ?kne ?_ ?kk; (case kB => k_asm); (case kF => k_asm); (case kN => k_asm); (case kne => k_asm); (case kk => exact rfl); k_whole); intro hRzz RRzz UUzz)
  k_with "leaving ref" => (k_here; k_dflt (refine' leave_X ?kB ?kF ?kR ?kU ?_; (case kB => k_asm); (case kR => assumption); (case kU => assumption); (case kF => k_asm); k_whole); intro hRzz RRzz UUzz)
  k_with "getMethod bytes" => (k_here; first | ((with_reducible show wpAny _ _ (getMethod _ (Str.ofString "find") _) _ _ _); k_dflt (refine m_find ?_)) | ((with_reducible show wpAny _ _ (getMethod _ (Str.ofString "split") _) _ _ _); k_dflt (refine m_split ?_)) | ((with_reducible show wpAny _ _ (getMethod _ (Str.ofString "join") _) _ _ _); k_dflt (refine m_join ?_)) | ((with_reducible show wpAny _ _ (getMethod _ (Str.ofString "replace") _) _ _ _); k_dflt (refine m_replace ?_)))
  k_with "compareOp In int bytes" => (k_here; (with_reducible refine in_bytes ?h0 ?h1 ?_); (case h0 => (first | k_extra "ar" | lia | omega)); (case h1 => (first | k_extra "ar" | lia | omega)))
  k_with "compareOp NotIn int bytes" => (k_here; (with_reducible refine notIn_bytes ?h0 ?h1 ?_); (case h0 => (first | k_extra "ar" | lia | omega)); (case h1 => (first | k_extra "ar" | lia | omega)))
  k_with "call builtin:bytes.find" => (k_here; (with_reducible refine find2 ?h0 ?_); (case h0 => first | decide | (simp; done)); intro tXzz kXzz)
  k_with "call builtin:bytes.find" => (k_here; (with_reducible refine find3 ?h0 ?h1 ?_); (case h0 => (first | k_extra "ar" | lia | omega)); (case h1 => first | decide | (simp; done)); intro tXzz kXzz)
  k_with "call builtin:len" => (k_here; (with_reducible show wpAny _ _ (call (Value.builtin "len") [Value.bytes _ _]) _ _ _); (refine len_bytes (by (first | k_extra "ar" | lia | omega)) ?_))
  k_with "k_intsEnd" => (first | (first | k_extra "ar" | lia | omega) | ((try simp only [List.size_toArray, List.length_cons, List.length_nil, Array.size_append, Array.size_extract]); (first | k_extra "ar" | lia | omega)))
  k_with "binaryOp Add bytes bytes" => (k_here; (with_reducible show wpAny _ _ (binaryOp Operator.Add (Value.bytes _ _) (Value.bytes _ _)) _ _ _); (refine add_my (by first | k_dflt (exact sz_line (by k_extra "szb") (by k_extra "szb") (by first | rfl | decide)) | k_intsEnd) ?_); intro tXzz kXzz zXzz; (try simp only [List.size_toArray, List.length_cons, List.length_nil] at zXzz))
  k_with "subscriptTail" => (k_here; (with_reducible show wpAny _ _ (subscriptTail _ _ (Value.bytes _ _) (Value.int _ _)) _ _ _); (refine item_my (by k_intsEnd) (by k_intsEnd) (by k_intsEnd) ?_); intro tXzz kXzz loXzz hiXzz)
  k_with "subscriptTail" => (k_here; (with_reducible show wpAny _ _ (subscriptTail _ (Expr.Slice _ _ none _) (Value.bytes _ _) (Value.ref _)) _ _ _); (with_reducible rename Fr _ _ _ _ => F'zz); (with_reducible rename News _ _ _ _ => N'zz); (refine' slice_my (s := ⟨_, _, _, _, _⟩) ?hb F'zz N'zz (by constructor) (by constructor) ?hz ?_; (case hb => first | (refine picked_both ?_ ?_ <;> (first | k_extra "ar" | lia | omega)) | (refine picked_lo ?_; (first | k_extra "ar" | lia | omega)) | (refine picked_hi ?_; (first | k_extra "ar" | lia | omega)) | exact picked_neg (k := 1) rfl (by decide) | exact picked_neg (k := 2) rfl (by decide) | exact picked_neg (k := 6) rfl (by decide)); (case hz => k_intsEnd)); clear F'zz N'zz; intro hXzz tXzz kXzz FXzz NXzz zXzz)
  k_with "eval ListComp" => (k_here; k_extra "mycomp"; k_dflt (refine ListComp_V (F₀ := by k_asm) (by with_unfolding_all rfl) (by decide) (by rfl) (by decide) (by rfl) ?_))
  k_with "exec Assign cons ListComp" => (k_here; k_extra "mycomp"; k_dflt (refine Assign_ListComp_V (F₀ := by k_asm) (by rfl) (by with_unfolding_all rfl) (by with_unfolding_all rfl) (by decide) (by rfl) (by decide) (by rfl) (by rfl) (by rfl) ?_))
  k_with "call builtin:list.append" => (k_here; (with_reducible show wpAny _ _ (call (Value.builtin _) [Value.ref _, _]) _ _ _); k_dflt (refine' append_K ?k1 ?k2 ?k3 ?_ ?z; (case k1 => k_asm); (case k2 => k_asm); (case k3 => first | exact Upd.head (by assumption) | exact Upd.head (fun p hp => Nat.ne_of_lt ((by assumption : ∀ p ∈ _, p.1 < _) p hp))); (case z => first | size_fits | (rw [PySem.sizeLine_eq]; simp only [List.push_toArray, List.size_toArray, List.length_append, List.length_cons, List.length_nil]; (first | k_extra "ar" | lia | omega))); k_whole); intro h'zz F'zz N'zz; (try simp only [List.push_toArray, List.append_assoc, List.cons_append, List.nil_append] at N'zz); (try k_sweep))
  k_with "call ref" => (k_here; (first | (with_reducible show wpAny _ _ (call (Value.ref (nat_lit 138)) _) _ _ _) | (with_reducible show wpAny _ _ (call (Value.ref (nat_lit 208)) _) _ _ _) | (with_reducible show wpAny _ _ (call (Value.ref (nat_lit 243)) _) _ _ _)); k_dflt (refine' call_cls ?k1 ?k2 ?k3 ?k4 ?k5 ?k6 ?_; (case k1 => k_asm); (case k2 => k_in); (case k3 => k_asm); (case k4 => k_is); (case k5 => k_is); (case k6 => k_is); k_whole; intro x'zz d'zz h'zz F'zz N'zz l1zz l2zz; (try k_lt l1zz); (try k_lt2 l2zz); cell_enter))
  k_with "call builtin:bytes.split" => (k_here; k_dflt (refine' split_bytes ?kF ?kN ?hb ?h1 ?h2 ?_; (case kF => k_asm); (case kN => k_asm); (case hb => decide); (case h1 => exact split_h1 (by k_intsEnd)); (case h2 => exact split_h2 (by k_intsEnd))); intro lXzz vsXzz hXzz kXzz bXzz FXzz NXzz ltXzz)
  k_with "call builtin:bytes.join" => (k_here; k_dflt (refine' join_bytes ?kl ?kv ?h1 ?h2 ?_; (case kl => exact News.isList (by k_asm) (by k_mem)); (case kv => with_reducible assumption); (case h1 => with_reducible assumption); (case h2 => with_reducible assumption)); intro tXzz kXzz)
  k_with "call builtin:bytes.replace" => (k_here; k_dflt (refine' replace_bytes ?hb ?h1 ?h2 ?_; (case hb => decide); (case h1 => exact repl_h1 (by k_intsEnd) (by decide)); (case h2 => exact repl_h2 (by k_intsEnd) (by decide))); intro tXzz kXzz)
  k_with "call builtin:len" => (k_here; (with_reducible show wpAny _ _ (call (Value.builtin "len") [Value.ref _]) _ _ _); k_extra "mylen"; k_dflt (refine' len_my ?kl ?kf ?_; (case kl => exact News.isList (by k_asm) (by k_mem)); (case kf => (first | k_extra "ar" | lia | omega))); intro tXzz kXzz)
  k_with "ktr_room" => (first | ((with_reducible show _ + 1 + _ < recursionLimit); exact room_d (by with_reducible assumption) rfl) | ((with_reducible show _ + 3 + _ < cLine); exact room_u (by with_reducible assumption) rfl) | exact room_0 (by with_reducible assumption))
  k_with "nb1" => (first | ((fail_if_success (fail_if_success (with_reducible apply nb_dec; decide))); exact Nat.le_refl _) | with_reducible assumption | (with_reducible apply And.left; with_reducible assumption) | (with_reducible apply And.right; with_reducible assumption) | (with_reducible apply Nat.le_of_lt; with_reducible assumption) | ((with_reducible apply Nat.add_le_add) <;> k_extra "nb1") | ((with_reducible apply nb_tarr) <;> k_extra "nb1") | ((with_reducible apply nb_push) <;> k_extra "nb1") | ((with_reducible apply nb_cons) <;> k_extra "nb1") | ((with_reducible apply nb_lapp) <;> k_extra "nb1") | ((with_reducible apply nb_take) <;> k_extra "nb1") | ((with_reducible apply nb_drop) <;> k_extra "nb1") | ((with_reducible apply nb_map) <;> k_extra "nb1") | ((with_reducible apply nb_app) <;> k_extra "nb1") | ((with_reducible apply nb_ext) <;> k_extra "nb1") | ((with_reducible apply nb_minr) <;> k_extra "nb1") | ((with_reducible apply nb_minl) <;> k_extra "nb1") | ((with_reducible apply nb_sub) <;> k_extra "nb1") | ((with_reducible apply Nat.mul_le_mul) <;> k_extra "nb1") | with_reducible exact nb_nil)
  k_with "nb" => (first | ((fail_if_success (fail_if_success (with_reducible apply nb_dec; decide))); exact Nat.le_refl _) | with_reducible assumption | (with_reducible apply And.left; with_reducible assumption) | (with_reducible apply And.right; with_reducible assumption) | (with_reducible apply Nat.le_of_lt; with_reducible assumption) | ((with_reducible apply Nat.add_le_add) <;> k_extra "nb") | ((with_reducible apply nb_tarr) <;> k_extra "nb") | ((with_reducible apply nb_push) <;> k_extra "nb") | ((with_reducible apply nb_cons) <;> k_extra "nb") | ((with_reducible apply nb_lapp) <;> k_extra "nb") | ((with_reducible apply nb_take) <;> k_extra "nb") | ((with_reducible apply nb_drop) <;> k_extra "nb") | ((with_reducible apply nb_map) <;> k_extra "nb") | ((with_reducible apply nb_app) <;> k_extra "nb") | ((with_reducible apply nb_ext) <;> k_extra "nb") | ((with_reducible apply nb_minr) <;> k_extra "nb") | ((with_reducible apply nb_minl) <;> k_extra "nb") | ((with_reducible apply nb_sub) <;> k_extra "nb") | ((with_reducible apply Nat.mul_le_mul) <;> k_extra "nb") | with_reducible exact nb_nil | (with_reducible apply nb_eq; with_reducible assumption; k_extra "nb1"))
  k_with "lt" => (first | with_reducible assumption | (with_reducible apply And.left; first | with_reducible assumption | (with_reducible apply And.right; (first | with_reducible assumption | (with_reducible apply And.right; (first | with_reducible assumption | (with_reducible apply And.right; (first | with_reducible assumption | (with_reducible apply And.right; (first | with_reducible assumption | (with_reducible apply And.right; (first | with_reducible assumption | (with_reducible apply And.right; (first | with_reducible assumption | (with_reducible apply And.right; (first | with_reducible assumption | (with_reducible apply And.right; (first | with_reducible assumption | (with_reducible apply And.right; with_reducible assumption)))))))))))))))))))
  k_with "ar" => (first | with_reducible assumption | (with_reducible apply nb_top; k_extra "nb"; decide) | (with_reducible apply nb_lt; k_extra "nb"; decide) | (with_reducible apply ib63; k_extra "nb"; decide) | (with_reducible apply Nat.ne_of_lt; k_extra "lt") | (with_reducible apply Nat.ne_of_gt; k_extra "lt") | (with_reducible apply Nat.le_of_lt; k_extra "lt") | with_reducible exact Int.natCast_nonneg _)
  k_with "k_ne" => ((refine neN ?_; (try dsimp only); first | (with_reducible apply Nat.ne_of_lt; k_extra "lt") | (with_reducible apply Nat.ne_of_gt; k_extra "lt")))
  k_with "k_size" => (k_extra "ar")
  k_with "size_fits" => (first | (with_reducible apply nb_size; k_extra "nb"; decide) | (with_reducible apply nb_top; k_extra "nb"; decide))
  k_with "memr" => (first | with_reducible exact List.mem_cons_self | (with_reducible refine List.mem_cons_of_mem _ ?_; k_extra "memr"))
  k_with "k_mem" => (k_extra "memr")
  k_with "k_in" => (first | k_in_fast | assumption | exact Frag.In.keeps (by k_asm) (Fr.keep (by k_asm)))
  k_with "call ref" => (k_here; (with_reducible show wpAny _ _ (call (Value.ref (nat_lit 92)) _) _ _ _); k_dflt (refine' c_number_by ?kB ?kF ?kX ?kN ?kT ?kk ?kd ?ku ?hl ?_ ?_; (case kB => k_asm); (case kF => k_asm); (case kX => k_in); (case kN => k_asm); (case kT => k_asm); (case kk => first | with_reducible assumption | exact rfl); (case kd => ktr_room); (case ku => ktr_room); (case hl => (first | k_extra "ar" | lia | omega)); k_whole); intro nXzz tXzz hXzz tkXzz e0zz eXzz FXzz NXzz; rotate_left; intro hXzz tkXzz eXzz FXzz NXzz; rotate_left)
  k_with "call ref" => (k_here; (with_reducible show wpAny _ _ (call (Value.ref (nat_lit 99)) _) _ _ _); k_dflt (refine' c_number_of ?kB ?kF ?kX ?kN ?kT ?kk ?kd ?ku ?hl ?_ ?_; (case kB => k_asm); (case kF => k_asm); (case kX => k_in); (case kN => k_asm); (case kT => k_asm); (case kk => first | with_reducible assumption | exact rfl); (case kd => ktr_room); (case ku => ktr_room); (case hl => k_intsEnd); k_whole); intro nXzz tXzz hXzz tkXzz eXzz FXzz NXzz; rotate_left; intro hXzz tkXzz eXzz FXzz NXzz; rotate_left)
  k_with "call ref" => (k_here; (with_reducible show wpAny _ _ (call (Value.ref (nat_lit 64)) _) _ _ _); k_dflt (refine' c_octets_of ?kB ?kF ?kX ?kN ?kT ?kk ?kd ?ku ?hl ?hlo ?_; (case kB => k_asm); (case kF => k_asm); (case kX => k_in); (case kN => k_asm); (case kT => k_asm); (case kk => first | with_reducible assumption | exact rfl); (case kd => ktr_room); (case ku => ktr_room); (case hl => k_intsEnd); (case hlo => assumption); k_whole); intro tXzz hXzz tkXzz FXzz NXzz)
  k_with "call ref" => (k_here; (with_reducible show wpAny _ _ (call (Value.ref (nat_lit 59)) _) _ _ _); k_dflt (refine' c_text_of ?kB ?kF ?kX ?kN ?kT ?kk ?kd ?ku ?hl ?_; (case kB => k_asm); (case kF => k_asm); (case kX => k_in); (case kN => k_asm); (case kT => k_asm); (case kk => first | with_reducible assumption | exact rfl); (case kd => ktr_room); (case ku => ktr_room); (case hl => k_intsEnd); k_whole); intro tXzz hXzz tkXzz FXzz NXzz)
  k_with "call ref" => (k_here; (with_reducible show wpAny _ _ (call (Value.ref (nat_lit 71)) _) _ _ _); k_dflt (refine' c_hex_of ?kB ?kF ?kX ?kN ?kT ?kk ?kd ?ku ?hl ?_; (case kB => k_asm); (case kF => k_asm); (case kX => k_in); (case kN => k_asm); (case kT => k_asm); (case kk => first | with_reducible assumption | exact rfl); (case kd => ktr_room); (case ku => ktr_room); (case hl => k_intsEnd); k_whole); intro tXzz hXzz tkXzz FXzz NXzz)
  k_with "call ref" => (k_here; (with_reducible show wpAny _ _ (call (Value.ref (nat_lit 78)) _) _ _ _); k_dflt (refine' c_hex_digit ?kB ?kF ?kX ?kN ?kT ?kk ?kd ?ku ?hc ?_; (case kB => k_asm); (case kF => k_asm); (case kX => k_in); (case kN => k_asm); (case kT => k_asm); (case kk => first | with_reducible assumption | exact rfl); (case kd => ktr_room); (case ku => ktr_room); (case hc => assumption); k_whole); intro tXzz hXzz tkXzz FXzz NXzz)
  k_with "call ref" => (k_here; (with_reducible show wpAny _ _ (call (Value.ref (nat_lit 85)) _) _ _ _); k_dflt (refine' c_octets_of_hex ?kB ?kF ?kX ?kN ?kT ?kk ?kd ?ku ?hk2 ?hl ?hx ?_; (case kB => k_asm); (case kF => k_asm); (case kX => k_in); (case kN => k_asm); (case kT => k_asm); (case kk => first | with_reducible assumption | exact rfl); (case kd => ktr_room); (case ku => ktr_room); (case hk2 => assumption); (case hl => k_intsEnd); (case hx => assumption); k_whole); intro tXzz hXzz tkXzz FXzz NXzz)
  k_with "call ref" => (k_here; (with_reducible show wpAny _ _ (call (Value.ref (nat_lit 114)) _) _ _ _); k_dflt (refine' c_are_all ?kB ?kF ?kX ?kN ?kT ?kk ?kd ?ku ?hl ?_; (case kB => k_asm); (case kF => k_asm); (case kX => k_in); (case kN => k_asm); (case kT => k_asm); (case kk => first | with_reducible assumption | exact rfl); (case kd => ktr_room); (case ku => ktr_room); (case hl => k_intsEnd); k_whole); intro hXzz tkXzz FXzz NXzz)
  k_with "call ref" => (k_here; (with_reducible show wpAny _ _ (call (Value.ref (nat_lit 107)) _) _ _ _); k_dflt (refine' c_has_sign ?kB ?kF ?kX ?kN ?kT ?kk ?kd ?ku ?hl ?_; (case kB => k_asm); (case kF => k_asm); (case kX => k_in); (case kN => k_asm); (case kT => k_asm); (case kk => first | with_reducible assumption | exact rfl); (case kd => ktr_room); (case ku => ktr_room); (case hl => k_intsEnd); k_whole); intro hXzz tkXzz FXzz NXzz)
  k_with "call ref" => (k_here; (with_reducible show wpAny _ _ (call (Value.ref (nat_lit 163)) _) _ _ _); k_dflt (refine' c_head_id ?kB ?kF ?kX ?kN ?kT ?kk ?kd ?ku ?hl ?hk2 ?_ ?_; (case kB => k_asm); (case kF => k_asm); (case kX => k_in); (case kN => k_asm); (case kT => k_asm); (case kk => first | with_reducible assumption | exact rfl); (case kd => ktr_room); (case ku => ktr_room); (case hl => k_intsEnd); (case hk2 => (first | k_extra "ar" | lia | omega)); k_whole); intro tXzz hXzz tkXzz eXzz FXzz NXzz; rotate_left; intro eXzz xXzz hXzz tkXzz gXzz RXzz UXzz FXzz; rotate_left)
  k_with "call ref" => (k_here; (with_reducible show wpAny _ _ (call (Value.ref (nat_lit 138)) _) _ _ _); k_dflt (refine' c_person ?kB ?kF ?kX ?kN ?kT ?kk ?kd ?ku  ?_; (case kB => k_asm); (case kF => k_asm); (case kX => k_in); (case kN => k_asm); (case kT => k_asm); (case kk => first | with_reducible assumption | exact rfl); (case kd => ktr_room); (case ku => ktr_room);  k_whole); intro xXzz dXzz k1Xzz k2Xzz k3Xzz k4Xzz hXzz tkXzz FXzz NXzz)
  k_with "call ref" => (k_here; (with_reducible show wpAny _ _ (call (Value.ref (nat_lit 149)) _) _ _ _); k_dflt (refine' c_read_person ?kB ?kF ?kX ?kN ?kT ?kk ?kd ?ku ?hl ?_ ?_; (case kB => k_asm); (case kF => k_asm); (case kX => k_in); (case kN => k_asm); (case kT => k_asm); (case kk => first | with_reducible assumption | exact rfl); (case kd => ktr_room); (case ku => ktr_room); (case hl => k_intsEnd); k_whole); intro nXzz eXzz iXzz zXzz vXzz xXzz dXzz k1Xzz k2Xzz k3Xzz k4Xzz t1Xzz t2Xzz t3Xzz t4Xzz hXzz tkXzz FXzz NXzz; rotate_left; intro vXzz eXzz hXzz tkXzz gXzz RXzz UXzz FXzz; rotate_left)
  k_with "call ref" => (k_here; (with_reducible show wpAny _ _ (call (Value.ref (nat_lit 156)) _) _ _ _); k_dflt (refine' c_head_row ?kB ?kF ?kX ?kN ?kT ?kk ?kd ?ku ?hk2 ?hv ?_; (case kB => k_asm); (case kF => k_asm); (case kX => k_in); (case kN => k_asm); (case kT => k_asm); (case kk => first | with_reducible assumption | exact rfl); (case kd => ktr_room); (case ku => ktr_room); (case hk2 => k_intsEnd); (case hv => k_intsEnd); k_whole); intro tXzz hXzz tkXzz FXzz NXzz)
  k_with "call ref" => (k_here; (with_reducible show wpAny _ _ (call (Value.ref (nat_lit 170)) _) _ _ _); k_dflt (refine' c_object_heads ?kB ?kF ?kX ?kN ?kT ?kk ?kd ?ku ?hl ?_ ?_; (case kB => k_asm); (case kF => k_asm); (case kX => k_in); (case kN => k_asm); (case kT => k_asm); (case kk => first | with_reducible assumption | exact rfl); (case kd => ktr_room); (case ku => ktr_room); (case hl => k_intsEnd); k_whole); intro hsXzz msgXzz eXzz DXzz HXzz vsXzz nXzz tlXzz tXzz hXzz tkXzz FXzz NXzz pXzz szXzz mXzz lXzz; rotate_left; intro eXzz xXzz hXzz tkXzz gXzz RXzz UXzz FXzz; rotate_left)
  k_with "call ref" => (k_here; (with_reducible show wpAny _ _ (call (Value.ref (nat_lit 208)) _) _ _ _); k_dflt (refine' c_walk ?kB ?kF ?kX ?kN ?kT ?kk ?kd ?ku  ?_; (case kB => k_asm); (case kF => k_asm); (case kX => k_in); (case kN => k_asm); (case kT => k_asm); (case kk => first | with_reducible assumption | exact rfl); (case kd => ktr_room); (case ku => ktr_room);  k_whole); intro xXzz dXzz k1Xzz k2Xzz tXzz hXzz tkXzz FXzz NXzz l1Xzz l2Xzz)
  k_with "call ref" => (k_here; (with_reducible show wpAny _ _ (call (Value.ref (nat_lit 191)) _) _ _ _); k_dflt (refine' c_is_next ?kB ?kF ?kX ?kN ?kT ?kk ?kd ?ku ?hH ?hp ?hk0 ?hk9 ?hl ?_; (case kB => k_asm); (case kF => k_asm); (case kX => k_in); (case kN => k_asm); (case kT => k_asm); (case kk => first | with_reducible assumption | exact rfl); (case kd => ktr_room); (case ku => ktr_room); (case hH => k_asm); (case hp => k_asm); (case hk0 => (first | k_extra "ar" | lia | omega)); (case hk9 => (first | k_extra "ar" | lia | omega)); (case hl => (first | k_extra "ar" | lia | omega)); k_whole); intro hXzz tkXzz FXzz NXzz)
  k_with "call ref" => (k_here; (with_reducible show wpAny _ _ (call (Value.ref (nat_lit 198)) _) _ _ _); k_dflt (refine' c_take ?kB ?kF ?kX ?kN ?kT ?kk ?kd ?ku ?hH ?hp ?hk0 ?hk9 ?hl ?hks ?hx ?hoff ?_ ?_; (case kB => k_asm); (case kF => k_asm); (case kX => k_in); (case kN => k_asm); (case kT => k_asm); (case kk => first | with_reducible assumption | exact rfl); (case kd => ktr_room); (case ku => ktr_room); (case hH => k_asm); (case hp => k_asm); (case hk0 => (first | k_extra "ar" | lia | omega)); (case hk9 => (first | k_extra "ar" | lia | omega)); (case hl => (first | k_extra "ar" | lia | omega)); (case hks => k_intsEnd); (case hx => k_asm); (case hoff => k_asm); k_whole); intro vXzz qXzz eXzz t8Xzz t9Xzz hXzz tkXzz FXzz NXzz; rotate_left; intro vXzz eXzz hXzz tkXzz gXzz RXzz UXzz FXzz; rotate_left)
  k_with "call ref" => (k_here; (with_reducible show wpAny _ _ (call (Value.ref (nat_lit 205)) _) _ _ _); k_dflt (refine' c_rest ?kB ?kF ?kX ?kN ?kT ?kk ?kd ?ku ?hH ?hk0 ?hl ?_; (case kB => k_asm); (case kF => k_asm); (case kX => k_in); (case kN => k_asm); (case kT => k_asm); (case kk => first | with_reducible assumption | exact rfl); (case kd => ktr_room); (case ku => ktr_room); (case hH => k_asm); (case hk0 => (first | k_extra "ar" | lia | omega)); (case hl => (first | k_extra "ar" | lia | omega)); k_whole); intro DXzz hXzz tkXzz FXzz NXzz)
  k_with "call ref" => (k_here; (with_reducible show wpAny _ _ (call (Value.ref (nat_lit 243)) _) _ _ _); k_dflt (refine' c_commit ?kB ?kF ?kX ?kN ?kT ?kk ?kd ?ku  ?_; (case kB => k_asm); (case kF => k_asm); (case kX => k_in); (case kN => k_asm); (case kT => k_asm); (case kk => first | with_reducible assumption | exact rfl); (case kd => ktr_room); (case ku => ktr_room);  k_whole); intro xXzz dXzz k1Xzz k2Xzz k3Xzz k4Xzz k5Xzz k6Xzz hXzz tkXzz FXzz NXzz)
  k_with "call ref" => (k_here; (with_reducible show wpAny _ _ (call (Value.ref (nat_lit 135)) _) _ _ _); k_dflt (refine' c_person_octets ?kB ?kF ?kX ?kN ?kT ?kk ?kd ?ku ?hx ?hn ?he ?hz ?hi ?_; (case kB => k_asm); (case kF => k_asm); (case kX => k_in); (case kN => k_asm); (case kT => k_asm); (case kk => first | with_reducible assumption | exact rfl); (case kd => ktr_room); (case ku => ktr_room); (case hx => assumption); (case hn => assumption); (case he => assumption); (case hz => assumption); (case hi => assumption); k_whole); intro tXzz hXzz tkXzz FXzz NXzz)
  k_with "call ref" => (k_here; (with_reducible show wpAny _ _ (call (Value.ref (nat_lit 64)) _) _ _ _); k_dflt (refine' c_octets_hex ?kB ?kF ?kX ?kN ?kT ?kk ?kd ?ku ?hl ?_; (case kB => k_asm); (case kF => k_asm); (case kX => k_in); (case kN => k_asm); (case kT => k_asm); (case kk => first | with_reducible assumption | exact rfl); (case kd => ktr_room); (case ku => ktr_room); (case hl => k_intsEnd); k_whole); intro tXzz hXzz tkXzz zXzz FXzz NXzz)
  k_with "call ref" => (k_here; (with_reducible show wpAny _ _ (call (Value.ref (nat_lit 233)) _) _ _ _); k_dflt (refine' c_commit_octets ?kB ?kF ?kX ?kN ?kT ?kk ?kd ?ku ?hx ?ht ?hm ?hi ?hi2 ?hqa ?hqc ?he ?he2 ?_; (case kB => k_asm); (case kF => k_asm); (case kX => k_in); (case kN => k_asm); (case kT => k_asm); (case kk => first | with_reducible assumption | exact rfl); (case kd => ktr_room); (case ku => ktr_room); (case hx => assumption); (case ht => (first | k_extra "ar" | lia | omega)); (case hm => (first | k_extra "ar" | lia | omega)); (case hi => (first | k_extra "ar" | lia | omega)); (case hi2 => assumption); (case hqa => assumption); (case hqc => assumption); (case he => (first | k_extra "ar" | lia | omega)); (case he2 => assumption); k_whole); intro tXzz hXzz tkXzz FXzz NXzz)
  k_with "call ref" => (k_here; (with_reducible show wpAny _ _ (call (Value.ref (nat_lit 274)) _) _ _ _); k_dflt (refine' c_draw ?kB ?kF ?kX ?kN ?kT ?kk ?kd ?ku ?hc ?hm ?hm2 ?hdl ?o1 ?o2 ?_; (case kB => k_asm); (case kF => k_asm); (case kX => k_in); (case kN => k_asm); (case kT => k_asm); (case kk => first | with_reducible assumption | exact rfl); (case kd => ktr_room); (case ku => ktr_room); (case hc => assumption); (case hm => (first | k_extra "ar" | lia | omega)); (case hm2 => (first | k_extra "ar" | lia | omega)); (case hdl => assumption); (case o1 => assumption); (case o2 => assumption); k_whole); intro rXzz tXzz cXzz hXzz tkXzz r0Xzz r9Xzz okXzz FXzz NXzz)
  k_with "call ref" => (k_here; (with_reducible show wpAny _ _ (call (Value.ref (nat_lit 267)) _) _ _ _); k_dflt (refine' c_deck ?kB ?kF ?kX ?kN ?kT ?kk ?kd ?ku ?hl ?hi ?hn ?_; (case kB => k_asm); (case kF => k_asm); (case kX => k_in); (case kN => k_asm); (case kT => k_asm); (case kk => first | with_reducible assumption | exact rfl); (case kd => ktr_room); (case ku => ktr_room); (case hl => assumption); (case hi => assumption); (case hn => (first | k_extra "ar" | lia | omega)); k_whole); intro dXzz lXzz cXzz hXzz tkXzz okXzz neXzz o1Xzz o2Xzz FXzz NXzz)
  k_with "k_all" => (first | with_reducible assumption | exact ne_all (by assumption) (by (first | k_extra "ar" | lia | omega)) | exact ne_all2 (by assumption) (by (first | k_extra "ar" | lia | omega)))
  k_with "call ref" => (k_here; (with_reducible show wpAny _ _ (call (Value.ref (nat_lit 279)) _) _ _ _); k_dflt (refine' c_law_id ?kB ?kF ?kX ?kN ?kT ?kk ?kd ?ku ?hc ?hk2 ?hdl ?o1 ?o2 ?_; (case kB => k_asm); (case kF => k_asm); (case kX => k_in); (case kN => k_asm); (case kT => k_asm); (case kk => first | with_reducible assumption | exact rfl); (case kd => ktr_room); (case ku => ktr_room); (case hc => assumption); (case hk2 => (first | k_extra "ar" | lia | omega)); (case hdl => assumption); (case o1 => assumption); (case o2 => assumption); k_whole); intro bXzz tXzz cXzz hXzz tkXzz szXzz okXzz FXzz NXzz)
  k_with "call ref" => (k_here; (with_reducible show wpAny _ _ (call (Value.ref (nat_lit 284)) _) _ _ _); k_dflt (refine' c_figures ?kB ?kF ?kX ?kN ?kT ?kk ?kd ?ku ?hl ?_; (case kB => k_asm); (case kF => k_asm); (case kX => k_in); (case kN => k_asm); (case kT => k_asm); (case kk => first | with_reducible assumption | exact rfl); (case kd => ktr_room); (case ku => ktr_room); (case hl => k_intsEnd); k_whole); intro tXzz hXzz tkXzz FXzz NXzz)
  trivial

theorem reg_fold_TBL : True := by
  k_with "execs cons" => (k_here; (try k_fold); (try ((with_reducible rename Fr _ _ _ (fun _ => @ite _ _ _ _ _) => Fzz); revert Fzz; refine withFrame (P := fun z => Fr _ _ _ z → _) _ ?_; intro mzz Fzz)); (with_reducible refine wpAny_execs_cons ?_); (try dsimp only); (try k_fold))
  k_with "cell_enter" => ((refine' code_def ?k1 ?k2 ?k3 ?k4 ?k5 ?kA ?kF ?kK ?k6 ?k7 ?k8 ?k9 ?kB ?_ ?c2 ?c3 ?c4 ?c5; (case kA => exact rfl); (case kF => exact rfl); (case kK => assumption); (case k1 => k_asm); (case k2 => k_asm); (case k3 => k_asm); (case k4 => k_asm); (case k5 => k_asm); (case k6 => k_is); (case k7 => k_is); (case k8 => ktr_room); (case k9 => first | exact BindsTo.of_eq rfl | exact binds_K (by k_in) rfl (by k_is) rfl rfl rfl); (case c5 => decide); (case kB => exact locs rfl); (case c2 => exact rfl); (case c3 => exact rfl); (case c4 => exact rfl); k_whole; intro g'zz L'zz h'zz FG'zz F'zz N'zz B'zz X'zz T'zz; (try dsimp only); (try k_lift B'zz); (try (refine withFrame (P := fun z => wpAny _ z _ _ _ _) _ ?_; intro Azz; (try dsimp only))); (try k_fold)))
  trivial

def lawKeys : List (Array UInt8) := [[101, 110, 99, 111, 100, 105, 110, 103].toArray, [103, 112, 103, 115, 105, 103].toArray, [109, 101, 114, 103, 101, 116, 97, 103].toArray, [120].toArray]
def lawRows : List (Array UInt8) := [[111, 110, 101].toArray, [116, 119, 111, 32, 119, 111, 114, 100, 115].toArray, [].toArray, [32, 97, 104, 101, 97, 100].toArray, [116, 114, 101, 101, 32, 48, 48].toArray]
def lawZones : List (Array UInt8) := [[43, 48, 48, 48, 48].toArray, [45, 48, 55, 51, 48].toArray, [43, 49, 50, 48, 48].toArray]
def lawPeople : List (Array UInt8 × Array UInt8) := [([65, 32, 66].toArray, [97, 64, 98].toArray), ([].toArray, [120].toArray), ([67].toArray, [].toArray), ([68, 32, 69, 32, 70].toArray, [100, 64, 101, 46, 102].toArray)]
section
variable {w : World} {h : Heap}
theorem tab_keys (X : (K w.params).In h) : ∃ vs, IsTup h (nat_lit 255) vs.toArray ∧ BytesAre vs lawKeys := by
  have e := X (nat_lit 255) _ rfl
  exact ⟨_, ⟨_, e, rfl, _, rfl⟩, .cons (.cons (.cons (.cons .nil)))⟩
theorem tab_rows (X : (K w.params).In h) : ∃ vs, IsTup h (nat_lit 256) vs.toArray ∧ BytesAre vs lawRows := by
  have e := X (nat_lit 256) _ rfl
  exact ⟨_, ⟨_, e, rfl, _, rfl⟩, .cons (.cons (.cons (.cons (.cons .nil))))⟩
theorem tab_zones (X : (K w.params).In h) : ∃ vs, IsTup h (nat_lit 262) vs.toArray ∧ BytesAre vs lawZones := by
  have e := X (nat_lit 262) _ rfl
  exact ⟨_, ⟨_, e, rfl, _, rfl⟩, .cons (.cons (.cons .nil))⟩
theorem tab_people (X : (K w.params).In h) : IsTup h (nat_lit 261) [Value.ref (nat_lit 257), .ref (nat_lit 258), .ref (nat_lit 259), .ref (nat_lit 260)].toArray := by
  have e := X (nat_lit 261) _ rfl
  exact ⟨_, e, rfl, _, rfl⟩
/-- a pair at the top -/
def TopPair (h : Heap) (v : Value) (q : Array UInt8 × Array UInt8) : Prop := ∃ a t1 t2, v = .ref a ∧ IsTup h a [Value.bytes q.1 t1, Value.bytes q.2 t2].toArray
theorem tab_person (X : (K w.params).In h) {i : Nat} (hi : i < 4) : ∃ v q, [Value.ref (nat_lit 257), .ref (nat_lit 258), .ref (nat_lit 259), .ref (nat_lit 260)][i]? = some v ∧ q ∈ lawPeople ∧ TopPair h v q := by
  match i, hi with
  | 0, _ =>
    have e := X (nat_lit 257) _ rfl
    exact ⟨_, _, rfl, .head _, _, _, _, rfl, _, e, rfl, _, rfl⟩
  | 1, _ =>
    have e := X (nat_lit 258) _ rfl
    exact ⟨_, _, rfl, .tail _ (.head _), _, _, _, rfl, _, e, rfl, _, rfl⟩
  | 2, _ =>
    have e := X (nat_lit 259) _ rfl
    exact ⟨_, _, rfl, .tail _ (.tail _ (.head _)), _, _, _, rfl, _, e, rfl, _, rfl⟩
  | 3, _ =>
    have e := X (nat_lit 260) _ rfl
    exact ⟨_, _, rfl, .tail _ (.tail _ (.tail _ (.head _))), _, _, _, rfl, _, e, rfl, _, rfl⟩
end
section
variable {prog : Program} {w : World} {A : Around} {E : Value → Shared → Prop} {s : Shared}
theorem sub_tup {value slice : PySem.Expr} {t : Addr} {vs : List Value} {k : Int} {u : Tok} {x : Value} {Q : Value → Shared → Prop} (ht : IsTup s.heap t vs.toArray) (h0 : 0 ≤ k) (hx : vs[k.toNat]? = some x) (hhi : k < 2 ^ 63) (h : Q x s)
    (hs : subscripted slice false (.ref t) (.int k u) = operate [.ref t, .int k u] (getItem (.ref t) (.int k u)) := by with_unfolding_all rfl) :
    wpAny (model prog w) A (subscriptTail value slice (.ref t) (.int k u)) Q E s := by
  have hlt : k.toNat < vs.length := (List.getElem?_eq_some_iff.mp hx).1
  refine item_tupleT (j := k.toNat) ht (Int.le_trans (by decide) h0) hhi ?_ hx h hs
  unfold seqIndex?
  simp [show ¬ k < 0 by (first | k_extra "ar" | lia | omega), h0]
  (first | k_extra "ar" | lia | omega)
/-- an item of a table of bytes -/
theorem sub_tab {value slice : PySem.Expr} {t : Addr} {bs : List (Array UInt8)} {k : Int} {u : Tok} {Q : Value → Shared → Prop} (ht : ∃ vs, IsTup s.heap t vs.toArray ∧ BytesAre vs bs) (h0 : 0 ≤ k) (hk : k < (bs.length : Int)) (hhi : k < 2 ^ 63) (h : ∀ b t', b ∈ bs → Q (.bytes b t') s)
    (hs : subscripted slice false (.ref t) (.int k u) = operate [.ref t, .int k u] (getItem (.ref t) (.int k u)) := by with_unfolding_all rfl) :
    wpAny (model prog w) A (subscriptTail value slice (.ref t) (.int k u)) Q E s := by
  obtain ⟨vs, ht, hv⟩ := ht
  have hl := hv.length
  obtain ⟨x, hx⟩ : ∃ x, vs[k.toNat]? = some x := ⟨_, List.getElem?_eq_getElem (by (first | k_extra "ar" | lia | omega))⟩
  obtain ⟨b, t', rfl, hb⟩ := bytes_at hv hx
  exact sub_tup ht h0 hx hhi (h b t' (List.mem_of_getElem? hb)) hs
end


/-- a value without noughts, and short -/
def Plain (v : Array UInt8) : Prop := v.size ≤ 100 ∧ ∀ c ∈ v.toList, c ≠ 0
section
variable {h₀ h : Heap} {L : Addr} {a b c e x y : Addr × Obj} {r : List (Addr × Obj)}
theorem n_c4 (N : News h₀ L h (a :: b :: c :: e :: x :: y :: r)) : News h₀ L h (x :: y :: a :: b :: c :: e :: r) := cb_drop N (by (repeat' (first | exact List.forall_mem_nil _ | (with_reducible refine List.forall_mem_cons.mpr ?_; refine ⟨by k_mem, ?_⟩))); all_goals (intro qz hz; repeat (first | (with_reducible exact hz) | refine List.mem_cons_of_mem _ ?_)))
theorem n_c4b (N : News h₀ L h (x :: y :: a :: b :: c :: e :: r)) : News h₀ L h (a :: b :: c :: e :: x :: y :: r) := cb_drop N (by (repeat' (first | exact List.forall_mem_nil _ | (with_reducible refine List.forall_mem_cons.mpr ?_; refine ⟨by k_mem, ?_⟩))); all_goals (intro qz hz; repeat (first | (with_reducible exact hz) | refine List.mem_cons_of_mem _ ?_)))
end
theorem exCell {o : Obj} {v : Option Value} (_ : o.data = Data.cell v) : ∃ z, z = o := ⟨o, rfl⟩
theorem off4 {I C D q d : Addr} {oI oC oD oq : Obj} {r : List (Addr × Obj)} (h1 : @Ne Nat I d) (h2 : @Ne Nat C d) (h3 : @Ne Nat D d) (h4 : @Ne Nat q d) (h : ∀ p ∈ r, @Ne Nat p.1 d) : ∀ p ∈ (I, oI) :: (C, oC) :: (D, oD) :: (q, oq) :: r, @Ne Nat p.1 d :=
  List.forall_mem_cons.mpr ⟨h1, List.forall_mem_cons.mpr ⟨h2, List.forall_mem_cons.mpr ⟨h3, List.forall_mem_cons.mpr ⟨h4, h⟩⟩⟩⟩
theorem rows_plain : ∀ x ∈ lawRows, x.size ≤ 9 ∧ ∀ c ∈ x.toList, c ≠ 0 := by decide
theorem joined_plain {bs : List (Array UInt8)} (hb : ∀ x ∈ bs, x ∈ lawRows) (hl : bs.length ≤ 3) : Plain (Builtin.Bytes.joined #[10] bs) := by
  rw [joined_eq]
  have hr := fun x hx => rows_plain x (hb x hx)
  match bs, hl, hr with
  | [], _, _ => exact ⟨by decide, by decide⟩
  | [a], _, hr =>
    obtain ⟨a1, a2⟩ := hr a (by simp)
    refine ⟨by simp [joinL]; (first | k_extra "ar" | lia | omega), ?_⟩
    intro c hc
    simp [joinL] at hc
    exact a2 c (by simpa using hc)
  | [a, b], _, hr =>
    obtain ⟨a1, a2⟩ := hr a (by simp)
    obtain ⟨b1, b2⟩ := hr b (by simp)
    refine ⟨by simp [joinL]; (first | k_extra "ar" | lia | omega), ?_⟩
    intro c hc
    simp [joinL] at hc
    rcases hc with hc | hc | hc
    · exact a2 c (by simpa using hc)
    · subst hc; decide
    · exact b2 c (by simpa using hc)
  | [a, b, e], _, hr =>
    obtain ⟨a1, a2⟩ := hr a (by simp)
    obtain ⟨b1, b2⟩ := hr b (by simp)
    obtain ⟨e1, e2⟩ := hr e (by simp)
    refine ⟨by simp [joinL]; (first | k_extra "ar" | lia | omega), ?_⟩
    intro c hc
    simp [joinL] at hc
    rcases hc with hc | hc | hc | hc | hc
    · exact a2 c (by simpa using hc)
    · subst hc; decide
    · exact b2 c (by simpa using hc)
    · subst hc; decide
    · exact e2 c (by simpa using hc)
section
variable {w : World} {dp un : Nat} {gd : Option (List Code)} {cn : Str} {cs : Scope} {a : Addr} {ccd : Value} {cl : List (Str × Addr)} {outer : List Env} {A₀ : Around} {base h₀ : Heap} {L : Addr} {m : Str → Option Value} {hp0 : Heap} {gs0 : Array GenState} {dr0 : Drawn} {tk0 : Nat} {os0 : OsState} {Q E : Value → Shared → Prop} {news : List (Addr × Obj)} {p : Program} {loose : List Str} {mean : ExcName → Option Value} {mg mb : Str → Option Value}

set_option maxHeartbeats 4000000 in
theorem c_law_lines {d l : Addr} {c : DS} {rest : List (Addr × Obj)} {k : Nat} {tm : Tok}
  (B : Below A₀ base outer h₀) (F : Fr h₀ L hp0 m) (X : (K w.params).In h₀) (N : News h₀ L hp0 ((d, c.o) :: (l, W.listOf c.ys.toArray c.n) :: rest)) (T : Top p loose mean mg mb h₀) (hk : cs.kind = .function)
  (hd : dp + 20 < recursionLimit) (hu : un + 300 < cLine) (hc : DS.Ok w l c) (hk2 : k ≤ 1) (hdl : @Ne Nat d l) (o1 : ∀ q ∈ rest, @Ne Nat q.1 d) (o2 : ∀ q ∈ rest, @Ne Nat q.1 l)
  (h1 : ∀ b t c' h' tk', Plain b → DS.Ok w l c' → Fr h₀ L h' m → News h₀ L h' ((d, c'.o) :: (l, W.listOf c'.ys.toArray c'.n) :: rest) → Q (.bytes b t) (Shared.mk h' gs0 dr0 tk' os0)) :
  wpAny (model PR w) (ktrTop dp un gd cn cs L a ccd cl outer) (call (.ref (nat_lit 289)) [.ref d, .int (k : Int) tm]) Q E (Shared.mk hp0 gs0 dr0 tk0 os0) := by
  refine wpAny_call ?_
  k_dflt (refine' code_defC ?k1 ?k2 ?k3 ?k4 ?k5 ?kA ?kF ?kK ?k6 ?k7 ?k8 ?k9 ?kB ?kD ?_ ?c2 ?c3 ?c4; (case kA => exact rfl); (case kF => exact rfl); (case kK => assumption); (case k1 => k_asm); (case k2 => k_asm); (case k3 => k_asm); (case k4 => k_asm); (case k5 => k_asm); (case k6 => k_is); (case k7 => k_is); (case k8 => ktr_room); (case k9 => first | exact BindsTo.of_eq rfl | exact binds_K (by k_in) rfl (by k_is) rfl rfl rfl); (case kB => exact rfl); (case kD => decide +kernel); (case c2 => exact rfl); (case c3 => exact rfl); (case c4 => exact rfl); k_whole; intro g' L' h' tk' cells' FG' F' N' Y' B' X' T' l1; (try k_lt l1); k_cells Y'; (try simp only [List.cons_append, List.nil_append] at N'); (try dsimp only); (try k_lift B'); (try k_fold))
  obtain ⟨l1a, l1b, l1c⟩ := l1
  repeat' (first | ((fail_if_success (with_reducible show wpAny _ _ (eval (Expr.ListComp _ _ _ _) _) _ _ _)); first | (k_unfold; (try dsimp only)) | (k_end; wrow_close) | walk1 | (dsimp only; walk1) | (leave1; try dsimp only)))
  refine LCg.ListComp_U (F₀ := by k_asm) (by with_unfolding_all rfl) (by decide) (by rfl) (by decide) (by rfl) ?_
  repeat' (first | ((fail_if_success (with_reducible show wpAny _ _ (call (Value.ref (nat_lit 274)) _) _ _ _)); first | (k_unfold; (try dsimp only)) | (k_end; wrow_close) | walk1 | (dsimp only; walk1) | (leave1; try dsimp only)))
  refine c_draw (many := 3) (by k_asm) (by k_asm) (by k_in) (n_bca N') (by k_asm) (by first | with_reducible assumption | exact rfl) (by ktr_room) (by ktr_room) hc (by decide) (by decide) hdl (List.forall_mem_cons.mpr ⟨Nat.ne_of_gt (by (first | k_extra "ar" | lia | omega)), o1⟩) (List.forall_mem_cons.mpr ⟨Nat.ne_of_gt (by (first | k_extra "ar" | lia | omega)), o2⟩) ?_
  intro r t c2 h2 tk2 r0 r9 hc2 F2 N2
  replace N2 := n_cab N2
  repeat' (first | ((fail_if_success (with_reducible show LCg.CompSrc _ _ _ _ _ _ _ _ _ _ _ _ _ _)); (fail_if_success (with_reducible show LCp.SrcLP _ _ _ _ _ _ _ _ _ _ _ _ _ _ _)); first | (k_unfold; (try dsimp only)) | (k_end; wrow_close) | walk1 | (dsimp only; walk1) | (leave1; try dsimp only)))
  rename News _ _ _ _ => N9
  obtain ⟨n9, hn9, hn10⟩ : ∃ n9 : Nat, (k : Int) + r = (n9 : Int) ∧ n9 ≤ 3 := ⟨((k : Int) + r).toNat, by (first | k_extra "ar" | lia | omega), by (first | k_extra "ar" | lia | omega)⟩
  rename IsRange _ _ _ _ _ _ _ _ => hR9
  rw [hn9] at hR9
  refine LCg.CompSrc.range rfl (by k_asm) N9 hR9 (range1_small (by (first | k_extra "ar" | lia | omega))) (range1_size n9) (by rw [PySem.sizeLine_eq]; (first | k_extra "ar" | lia | omega)) fun g => ?_
  rename Obj.data _ = Data.cell (some (.ref d)) => hcell
  obtain ⟨oc, rfl⟩ := exCell hcell
  refine comp_inv (R := fun i ys nx => ∃ c3, DS.Ok w l c3 ∧ nx = (L' + 1, oc) :: (d, c3.o) :: (l, W.listOf c3.ys.toArray c3.n) :: rest ∧ ∃ bs, BytesAre ys bs ∧ bs.length = i ∧ ∀ x ∈ bs, x ∈ lawRows) ⟨c2, hc2, rfl, [], .nil, rfl, fun _ h => nomatch h⟩ ?_ ?_
  · rintro i v ys nx I oI C oC D m₂ h tk E' hi9 ⟨tv, rfl⟩ ⟨c3, hc3, rfl, bs, hbs, hbl, hbm⟩ hC hx F1 N1 off ne
    have off9 := LCg.Off3.mem off
    obtain ⟨p1, p2, p3⟩ := off9 _ (List.mem_cons_of_mem _ (List.mem_cons_self ..))
    obtain ⟨p4, p5, p6⟩ := off9 _ (List.mem_cons_of_mem _ (List.mem_cons_of_mem _ (List.mem_cons_self ..)))
    repeat' (first | ((fail_if_success (with_reducible show wpAny _ _ (call (Value.ref (nat_lit 274)) _) _ _ _)); first | (k_unfold; (try dsimp only)) | (k_end; wrow_close) | walk1 | (dsimp only; walk1) | (leave1; try dsimp only)))
    rename News _ _ _ _ => N8
    refine c_draw (c := c3) (many := 5) (by k_asm) (by k_asm) (by k_in) (n_c4 N8) (by k_asm) (by first | with_reducible assumption | exact rfl) (by ktr_room) (by ktr_room) hc3 (by decide) (by decide) hdl (off4 (Ne.symm p1) (Ne.symm p2) (Ne.symm p3) (Nat.ne_of_gt (by (first | k_extra "ar" | lia | omega))) o1) (off4 (Ne.symm p4) (Ne.symm p5) (Ne.symm p6) (Nat.ne_of_gt (by (first | k_extra "ar" | lia | omega))) o2) ?_
    intro r2 tr2 c4 h4 tk4 r20 r29 hc4 F4 N4
    replace N4 := n_c4b N4
    repeat' (first | ((fail_if_success (with_reducible show wpAny _ _ (subscriptTail _ _ (Value.ref (nat_lit 256)) _) _ _ _)); first | (k_unfold; (try dsimp only)) | (k_end; wrow_close) | walk1 | (dsimp only; walk1) | (leave1; try dsimp only)))
    refine sub_tab (tab_rows ((by k_in : (K w.params).In g').keeps (Fr.keep (by k_asm)))) r20 (by show r2 < 5; (first | k_extra "ar" | lia | omega)) (by (first | k_extra "ar" | lia | omega)) ?_
    intro b9 t9 hb9
    k_steps
    refine LCg.CompEnd.intro (by k_asm) (by k_asm) _ (fun _ h => h) (by exact off) trivial ⟨c4, hc4, rfl, bs ++ [b9], bytes_snoc hbs, by simp [hbl], ?_⟩
    intro x hx
    rcases List.mem_append.mp hx with hx | hx
    · exact hbm x hx
    · rw [List.mem_singleton.mp hx]; exact hb9
  · rintro ys nx ⟨c3, hc3, rfl, bs, hbs, hbl, hbm⟩
    have hsz : (bs.map Array.size).sum ≤ 27 := Nat.le_trans (sum_le (f := Array.size) (b := 9) fun x hx => (rows_plain x (hbm x hx)).1) (by (first | k_extra "ar" | lia | omega))
    have hpl := joined_plain hbm (by (first | k_extra "ar" | lia | omega))
    have e1 : (#[10] : Array UInt8).size = 1 := rfl
    unfold LCg.FinE
    intro D h tk F1 N1 o1
    repeat' (first | ((fail_if_success (with_reducible show wpAny _ _ (call (Value.builtin _) [Value.bytes _ _, Value.ref _]) _ _ _)); first | (k_unfold; (try dsimp only)) | (k_end; wrow_close) | walk1 | (dsimp only; walk1) | (leave1; try dsimp only)))
    refine join_bytes (News.isList (by k_asm) (by k_mem)) hbs (by rw [e1]; (first | k_extra "ar" | lia | omega)) (Nat.le_trans hpl.1 (by (first | k_extra "ar" | lia | omega))) ?_
    intro tJ kJ
    k_steps
    all_goals exact h1 _ _ c3 _ _ hpl hc3 (by assumption) (cb_drop (by assumption) (fun q hq => List.mem_cons_of_mem _ (List.mem_cons_of_mem _ hq)))
end
theorem reg_c_law_lines : True := by
  k_with "call ref" => (k_here; (with_reducible show wpAny _ _ (call (Value.ref (nat_lit 289)) _) _ _ _); k_dflt (refine' c_law_lines ?kB ?kF ?kX ?kN ?kT ?kk ?kd ?ku ?hc ?hk2 ?hdl ?o1 ?o2 ?_; (case kB => k_asm); (case kF => k_asm); (case kX => k_in); (case kN => k_asm); (case kT => k_asm); (case kk => first | with_reducible assumption | exact rfl); (case kd => ktr_room); (case ku => ktr_room); (case hc => assumption); (case hk2 => (first | k_extra "ar" | lia | omega)); (case hdl => assumption); (case o1 => assumption); (case o2 => assumption); k_whole); intro bXzz tXzz cXzz hXzz tkXzz plXzz okXzz FXzz NXzz)
  trivial


abbrev tupP (n e : Array UInt8) (i : Int) (z : Array UInt8) (t1 t2 t3 t4 : Tok) : Obj := { cls := .type "tuple", data := .seq [Value.bytes n t1, Value.bytes e t2, Value.int i t3, Value.bytes z t4].toArray }
/-- a person that the law may draw -/
def LawPer (q : Array UInt8 × Array UInt8 × Nat × Array UInt8) : Prop := (q.1, q.2.1) ∈ lawPeople ∧ (∃ k, k < 3000 ∧ q.2.2.1 = 1000 * k) ∧ q.2.2.2 ∈ lawZones
section
variable {w : World} {dp un : Nat} {gd : Option (List Code)} {cn : Str} {cs : Scope} {a : Addr} {ccd : Value} {cl : List (Str × Addr)} {outer : List Env} {A₀ : Around} {base h₀ : Heap} {L : Addr} {m : Str → Option Value} {hp0 : Heap} {gs0 : Array GenState} {dr0 : Drawn} {tk0 : Nat} {os0 : OsState} {Q E : Value → Shared → Prop} {news : List (Addr × Obj)} {p : Program} {loose : List Str} {mean : ExcName → Option Value} {mg mb : Str → Option Value}

set_option maxHeartbeats 4000000 in
theorem c_law_person {d l : Addr} {c : DS} {rest : List (Addr × Obj)}
  (B : Below A₀ base outer h₀) (F : Fr h₀ L hp0 m) (X : (K w.params).In h₀) (N : News h₀ L hp0 ((d, c.o) :: (l, W.listOf c.ys.toArray c.n) :: rest)) (T : Top p loose mean mg mb h₀) (hk : cs.kind = .function)
  (hd : dp + 20 < recursionLimit) (hu : un + 300 < cLine) (hc : DS.Ok w l c) (hdl : @Ne Nat d l) (o1 : ∀ q ∈ rest, @Ne Nat q.1 d) (o2 : ∀ q ∈ rest, @Ne Nat q.1 l)
  (h1 : ∀ q x t1 t2 t3 t4 c' h' tk', LawPer q → DS.Ok w l c' → @Ne Nat x d → @Ne Nat x l → (∀ p ∈ rest, @Ne Nat p.1 x) → Fr h₀ L h' m → News h₀ L h' ((d, c'.o) :: (l, W.listOf c'.ys.toArray c'.n) :: (x, tupP q.1 q.2.1 (q.2.2.1 : Int) q.2.2.2 t1 t2 t3 t4) :: rest) → Q (.ref x) (Shared.mk h' gs0 dr0 tk' os0)) :
  wpAny (model PR w) (ktrTop dp un gd cn cs L a ccd cl outer) (call (.ref (nat_lit 296)) [.ref d]) Q E (Shared.mk hp0 gs0 dr0 tk0 os0) := by
  refine wpAny_call ?_
  k_dflt cell_enter
  repeat' (first | ((fail_if_success (with_reducible show wpAny _ _ (call (Value.ref (nat_lit 274)) _) _ _ _)); first | (k_unfold; (try dsimp only)) | (k_end; wrow_close) | walk1 | (dsimp only; walk1) | (leave1; try dsimp only)))
  refine c_draw (many := 4) (by k_asm) (by k_asm) (by k_in) (by k_asm) (by k_asm) (by first | with_reducible assumption | exact rfl) (by ktr_room) (by ktr_room) hc (by decide) (by decide) hdl o1 o2 ?_
  intro r t c2 h2 tk2 r0 r9 hc2 F2 N2
  repeat' (first | ((fail_if_success (with_reducible show wpAny _ _ (subscriptTail _ _ (Value.ref (nat_lit 261)) _) _ _ _)); first | (k_unfold; (try dsimp only)) | (k_end; wrow_close) | walk1 | (dsimp only; walk1) | (leave1; try dsimp only)))
  obtain ⟨v, q, hv, hq, a9, t1, t2, rfl, ht⟩ := tab_person ((by k_in : (K w.params).In _).keeps (Fr.keep F2)) (show r.toNat < 4 by (first | k_extra "ar" | lia | omega))
  refine sub_tup (tab_people ((by k_in : (K w.params).In _).keeps (Fr.keep F2))) r0 hv (by (first | k_extra "ar" | lia | omega)) ?_
  repeat' (first | ((fail_if_success (with_reducible show wpAny _ _ (call (Value.ref (nat_lit 274)) _) _ _ _)); first | (k_unfold; (try dsimp only)) | (k_end; wrow_close) | walk1 | (dsimp only; walk1) | (leave1; try dsimp only)))
  refine c_draw (many := 3000) (by k_asm) (by k_asm) (by k_in) (by k_asm) (by k_asm) (by first | with_reducible assumption | exact rfl) (by ktr_room) (by ktr_room) hc2 (by decide) (by decide) hdl o1 o2 ?_
  intro r3 t3 c3 h3 tk3 r30 r39 hc3 F3 N3
  obtain ⟨k3, rfl⟩ := Int.eq_ofNat_of_zero_le r30
  repeat' (first | ((fail_if_success (with_reducible show wpAny _ _ (call (Value.ref (nat_lit 274)) _) _ _ _)); first | (k_unfold; (try dsimp only)) | (k_end; wrow_close) | walk1 | (dsimp only; walk1) | (leave1; try dsimp only)))
  refine c_draw (many := 3) (by k_asm) (by k_asm) (by k_in) (by k_asm) (by k_asm) (by first | with_reducible assumption | exact rfl) (by ktr_room) (by ktr_room) hc3 (by decide) (by decide) hdl o1 o2 ?_
  intro r4 t4 c4 h4 tk4 r40 r49 hc4 F4 N4
  repeat' (first | ((fail_if_success (with_reducible show wpAny _ _ (subscriptTail _ _ (Value.ref (nat_lit 262)) _) _ _ _)); first | (k_unfold; (try dsimp only)) | (k_end; wrow_close) | walk1 | (dsimp only; walk1) | (leave1; try dsimp only)))
  refine sub_tab (tab_zones ((by k_in : (K w.params).In _).keeps (Fr.keep F4))) r40 (by show r4 < 3; (first | k_extra "ar" | lia | omega)) (by (first | k_extra "ar" | lia | omega)) ?_
  intro b9 t9 hb9
  k_steps
  rename @LT.lt Nat _ d _ ∧ @LT.lt Nat _ l _ ∧ AllLt _ rest => hL
  rename News _ _ _ _ => N9
  rw [show (k3 : Int) * 1000 = ((1000 * k3 : Nat) : Int) by (first | k_extra "ar" | lia | omega)] at N9
  exact h1 (q.1, q.2, 1000 * k3, b9) _ _ _ _ _ c4 _ _ ⟨hq, ⟨k3, by (first | k_extra "ar" | lia | omega), rfl⟩, hb9⟩ hc4 (Nat.ne_of_gt hL.1) (Nat.ne_of_gt hL.2.1) (ne_all hL.2.2 (Nat.le_refl _)) (by assumption) (n_bca N9)
end
theorem reg_c_law_person : True := by
  k_with "call ref" => (k_here; (with_reducible show wpAny _ _ (call (Value.ref (nat_lit 296)) _) _ _ _); k_dflt (refine' c_law_person ?kB ?kF ?kX ?kN ?kT ?kk ?kd ?ku ?hc ?hdl ?o1 ?o2 ?_; (case kB => k_asm); (case kF => k_asm); (case kX => k_in); (case kN => k_asm); (case kT => k_asm); (case kk => first | with_reducible assumption | exact rfl); (case kd => ktr_room); (case ku => ktr_room); (case hc => assumption); (case hdl => assumption); (case o1 => assumption); (case o2 => assumption); k_whole); intro qXzz xXzz t1Xzz t2Xzz t3Xzz t4Xzz cXzz hXzz tkXzz perXzz okXzz n1Xzz n2Xzz n3Xzz FXzz NXzz)
  trivial


theorem lawPer_ok {q : Array UInt8 × Array UInt8 × Nat × Array UInt8} (h : LawPer q) : PerOk q := by
  obtain ⟨h1, ⟨k, hk, e⟩, h3⟩ := h
  have key1 : ∀ p ∈ lawPeople, p.1.size ≤ 1000 ∧ p.2.size ≤ 1000 := by decide
  have key2 : ∀ p ∈ lawZones, p.size ≤ 1000 := by decide
  obtain ⟨a, b⟩ := key1 _ h1
  exact ⟨a, b, key2 _ h3, by (first | k_extra "ar" | lia | omega)⟩
section
variable {w : World} {dp un : Nat} {gd : Option (List Code)} {cn : Str} {cs : Scope} {a : Addr} {ccd : Value} {cl : List (Str × Addr)} {outer : List Env} {A₀ : Around} {base h₀ : Heap} {L : Addr} {m : Str → Option Value} {hp0 : Heap} {gs0 : Array GenState} {dr0 : Drawn} {tk0 : Nat} {os0 : OsState} {Q E : Value → Shared → Prop} {news : List (Addr × Obj)} {p : Program} {loose : List Str} {mean : ExcName → Option Value} {mg mb : Str → Option Value}

set_option maxHeartbeats 4000000 in
theorem c_law_poct {x : Addr} {n e z : Array UInt8} {i : Nat} {t1 t2 t3 t4 : Tok} (B : Below A₀ base outer h₀) (F : Fr h₀ L hp0 m) (X : (K w.params).In h₀) (N : News h₀ L hp0 news) (T : Top p loose mean mg mb h₀) (hk : cs.kind = .function)
   (hd : dp + 20 < recursionLimit) (hu : un + 300 < cLine) (hx : (x, tupP n e (i : Int) z t1 t2 t3 t4) ∈ news) (hok : PerOk (n, e, i, z))
  (h1 : ∀ t h' tk', Fr h₀ L h' m → News h₀ L h' news → Q (.bytes (perB (n, e, i, z)) t) (Shared.mk h' gs0 dr0 tk' os0)) :
  wpAny (model PR w) (ktrTop dp un gd cn cs L a ccd cl outer) (call (.ref (nat_lit 301)) [.ref x]) Q E (Shared.mk hp0 gs0 dr0 tk0 os0) := by
  replace N := cb_drop (news := (x, tupP n e (i : Int) z t1 t2 t3 t4) :: news) N (List.forall_mem_cons.mpr ⟨hx, fun _ h => h⟩)
  obtain ⟨hn, he, hz, hi⟩ := hok
  dsimp only at hn he hz hi
  have hdl := decL_len hi
  have hds := decB_size i
  refine wpAny_call ?_
  k_dflt cell_enter
  k_with "mycomp" => skip
  repeat' (first | ((fail_if_success (with_reducible show wpAny _ _ (eval (Expr.ListComp _ _ _ _) _) _ _ _)); first | (k_unfold; (try dsimp only)) | (k_end; wrow_close) | walk1 | (dsimp only; walk1) | (leave1; try dsimp only)))
  refine ListComp_V (F₀ := by k_asm) (by with_unfolding_all rfl) (by decide) (by rfl) (by decide) (by rfl) ?_
  k_steps
  rw [str_dec]
  rename News _ _ _ _ => N9
  refine Or.inr ⟨_, _, _, rfl, rfl, by k_asm, N9, by (rw [PySem.sizeLine_eq]; show (decL i).toArray.size ≤ _; rw [List.size_toArray]; (first | k_extra "ar" | lia | omega)), ?_⟩
  rintro _ ⟨g9, rfl⟩
  refine comp_inv (R := fun j ys nx => nx = _ ∧ IntsAre ys (((decL i).take j).map fun c : Nat => (c : Int))) ⟨rfl, .nil⟩ ?_ ?_
  · rintro j v ys nx I oI C oC D m₂ h tk E' hi ⟨c, u, hc, rfl⟩ ⟨rfl, hy⟩ hC hx F1 N1 off ne
    have hc' : (decL i)[j]? = some c := by simpa [txt] using hc
    k_steps
    refine LCg.CompEnd.intro (by k_asm) (by k_asm) _ (fun _ h => h) off trivial ⟨rfl, ?_⟩
    rw [take_snoc hc', List.map_append]
    exact ints_snoc hy
  · rintro ys nx ⟨rfl, hy⟩
    have e9 : (txt (decL i)).cps.size = (decL i).length := by simp [txt]
    rw [e9, List.take_length] at hy
    unfold LCg.FinE
    intro D h tk F1 N1 o1
    repeat' (first | ((fail_if_success (with_reducible show wpAny _ _ (call (Value.type "bytes") _) _ _ _)); first | (k_unfold; (try dsimp only)) | (k_end; wrow_close) | walk1 | (dsimp only; walk1) | (leave1; try dsimp only)))
    refine bytes_K (by k_asm) (by k_asm) (News.isList (by k_asm) (by k_mem)) hy ?_ ?_ rfl ?_
    · intro n hn
      obtain ⟨c, hc, rfl⟩ := List.mem_map.mp hn
      have := decL_fig hc
      (first | k_extra "ar" | lia | omega)
    · have := IntsAre.length hy
      rw [this, PySem.sizeLine_eq, List.length_map]
      (first | k_extra "ar" | lia | omega)
    · intro h' t' k' F3 N3 _
      rw [List.map_map, show ((decL i).map ((fun n : Int => n.toNat.toUInt8) ∘ fun c : Nat => (c : Int))).toArray = decB i from rfl]
      k_steps
      all_goals exact h1 _ _ _ (by assumption) (cb_drop (by assumption) (fun q hq => List.mem_cons_of_mem _ (List.mem_cons_of_mem _ hq)))
end
theorem reg_c_law_poct : True := by
  k_with "call ref" => (k_here; (with_reducible show wpAny _ _ (call (Value.ref (nat_lit 301)) _) _ _ _); k_dflt (refine' c_law_poct ?kB ?kF ?kX ?kN ?kT ?kk ?kd ?ku ?hx ?hok ?_; (case kB => k_asm); (case kF => k_asm); (case kX => k_in); (case kN => k_asm); (case kT => k_asm); (case kk => first | with_reducible assumption | exact rfl); (case kd => ktr_room); (case ku => ktr_room); (case hx => assumption); (case hok => assumption); k_whole); intro tXzz hXzz tkXzz FXzz NXzz)
  trivial


theorem reg_all6 : True := by
  k_with_none
  k_with "szb" => (first | with_reducible assumption | exact app_le (by k_extra "szb") (by k_extra "szb") | exact ext_le (by k_extra "szb") | exact (show _ ≤ 100 from by decide))
  k_with "cell_enter" => ((refine' code_def ?k1 ?k2 ?k3 ?k4 ?k5 ?kA ?kF ?kK ?k6 ?k7 ?k8 ?k9 ?kB ?_ ?c2 ?c3 ?c4 ?c5; (case kA => exact rfl); (case kF => exact rfl); (case kK => assumption); (case k1 => k_asm); (case k2 => k_asm); (case k3 => k_asm); (case k4 => k_asm); (case k5 => k_asm); (case k6 => k_is); (case k7 => k_is); (case k8 => ktr_room); (case k9 => first | exact BindsTo.of_eq rfl | exact binds_K (by k_in) rfl (by k_is) rfl rfl rfl); (case c5 => decide); (case kB => exact locs rfl); (case c2 => exact rfl); (case c3 => exact rfl); (case c4 => exact rfl); k_whole; intro g'zz L'zz h'zz FG'zz F'zz N'zz B'zz X'zz T'zz; (try dsimp only); (try k_lift B'zz); (try k_fold)))
  k_with "exec Raise some none" => (k_here; (with_reducible show wpAny _ _ (exec (Stmt.Raise (some (Expr.Call (Expr.Name ("BadObject" : Str) _) (_ :: _) [] _)) none _) _) _ _ _); k_dflt (refine' raise_bad ?hh ?_; (case hh => rfl); k_whole))
  k_with "BadEnd" => (k_here; k_dflt (refine' BadEnd.intro ?kF ?kX ?kN ?_; (case kF => k_asm); (case kX => k_in); (case kN => k_asm); k_whole))
  k_with "exec Raise some none" => (k_here; (with_reducible show wpAny _ _ (exec (Stmt.Raise (some (Expr.Call (Expr.Name ("BadObject" : Str) _) [Expr.Constant (Const.str _) _ _] [] _)) none _) _) _ _ _); k_dflt (refine' raise_const ?kB ?kF ?kX ?kN ?kT ?kk ?kd ?ku ?kx ?_; (case kB => k_asm); (case kF => k_asm); (case kX => k_in); (case kN => k_asm); (case kT => k_asm); (case kk => first | with_reducible assumption | exact rfl); (case kd => ktr_room); (case ku => ktr_room); (case kx => exact rfl); k_whole); intro eXzz tXzz dXzz hXzz tkXzz FXzz NXzz neXzz)
  k_with "call ref" => (k_here; (with_reducible show wpAny _ _ (call (Value.ref (nat_lit 52)) _) _ _ _); k_dflt (refine' bad_call ?kB ?kF ?kX ?kN ?kT ?kk ?kd ?ku  ?_; (case kB => k_asm); (case kF => k_asm); (case kX => k_in); (case kN => k_asm); (case kT => k_asm); (case kk => first | with_reducible assumption | exact rfl); (case kd => ktr_room); (case ku => ktr_room);  k_whole); intro eXzz tXzz dXzz hXzz tkXzz FXzz NXzz neXzz)
  k_with "leaving ref" => (k_here; k_dflt (refine' leave_bad ?kB ?kF ?kN ?kne ?_ ?kk; (case kB => k_asm); (case kF => k_asm); (case kN => k_asm); (case kne => k_asm); (case kk => exact rfl); k_whole); intro hRzz RRzz UUzz)
  k_with "leaving ref" => (k_here; k_dflt (refine' leave_X ?kB ?kF ?kR ?kU ?_; (case kB => k_asm); (case kR => assumption); (case kU => assumption); (case kF => k_asm); k_whole); intro hRzz RRzz UUzz)
  k_with "getMethod bytes" => (k_here; first | ((with_reducible show wpAny _ _ (getMethod _ (Str.ofString "find") _) _ _ _); k_dflt (refine m_find ?_)) | ((with_reducible show wpAny _ _ (getMethod _ (Str.ofString "split") _) _ _ _); k_dflt (refine m_split ?_)) | ((with_reducible show wpAny _ _ (getMethod _ (Str.ofString "join") _) _ _ _); k_dflt (refine m_join ?_)) | ((with_reducible show wpAny _ _ (getMethod _ (Str.ofString "replace") _) _ _ _); k_dflt (refine m_replace ?_)))
  k_with "compareOp In int bytes" => (k_here; (with_reducible refine in_bytes ?h0 ?h1 ?_); (case h0 => (first | k_extra "ar" | lia | omega)); (case h1 => (first | k_extra "ar" | lia | omega)))
  k_with "compareOp NotIn int bytes" => (k_here; (with_reducible refine notIn_bytes ?h0 ?h1 ?_); (case h0 => (first | k_extra "ar" | lia | omega)); (case h1 => (first | k_extra "ar" | lia | omega)))
  k_with "call builtin:bytes.find" => (k_here; (with_reducible refine find2 ?h0 ?_); (case h0 => first | decide | (simp; done)); intro tXzz kXzz)
  k_with "call builtin:bytes.find" => (k_here; (with_reducible refine find3 ?h0 ?h1 ?_); (case h0 => (first | k_extra "ar" | lia | omega)); (case h1 => first | decide | (simp; done)); intro tXzz kXzz)
  k_with "call builtin:len" => (k_here; (with_reducible show wpAny _ _ (call (Value.builtin "len") [Value.bytes _ _]) _ _ _); (refine len_bytes (by (first | k_extra "ar" | lia | omega)) ?_))
  k_with "k_intsEnd" => (first | (first | k_extra "ar" | lia | omega) | ((try simp only [List.size_toArray, List.length_cons, List.length_nil, Array.size_append, Array.size_extract]); (first | k_extra "ar" | lia | omega)))
  k_with "binaryOp Add bytes bytes" => (k_here; (with_reducible show wpAny _ _ (binaryOp Operator.Add (Value.bytes _ _) (Value.bytes _ _)) _ _ _); (refine add_my (by first | k_dflt (exact sz_line (by k_extra "szb") (by k_extra "szb") (by first | rfl | decide)) | k_intsEnd) ?_); intro tXzz kXzz zXzz; (try simp only [List.size_toArray, List.length_cons, List.length_nil] at zXzz))
  k_with "subscriptTail" => (k_here; (with_reducible show wpAny _ _ (subscriptTail _ _ (Value.bytes _ _) (Value.int _ _)) _ _ _); (refine item_my (by k_intsEnd) (by k_intsEnd) (by k_intsEnd) ?_); intro tXzz kXzz loXzz hiXzz)
  k_with "subscriptTail" => (k_here; (with_reducible show wpAny _ _ (subscriptTail _ (Expr.Slice _ _ none _) (Value.bytes _ _) (Value.ref _)) _ _ _); (with_reducible rename Fr _ _ _ _ => F'zz); (with_reducible rename News _ _ _ _ => N'zz); (refine' slice_my (s := ⟨_, _, _, _, _⟩) ?hb F'zz N'zz (by constructor) (by constructor) ?hz ?_; (case hb => first | (refine picked_both ?_ ?_ <;> (first | k_extra "ar" | lia | omega)) | (refine picked_lo ?_; (first | k_extra "ar" | lia | omega)) | (refine picked_hi ?_; (first | k_extra "ar" | lia | omega)) | exact picked_neg (k := 1) rfl (by decide) | exact picked_neg (k := 2) rfl (by decide) | exact picked_neg (k := 6) rfl (by decide)); (case hz => k_intsEnd)); clear F'zz N'zz; intro hXzz tXzz kXzz FXzz NXzz zXzz)
  k_with "eval ListComp" => (k_here; k_extra "mycomp"; k_dflt (refine ListComp_V (F₀ := by k_asm) (by with_unfolding_all rfl) (by decide) (by rfl) (by decide) (by rfl) ?_))
  k_with "exec Assign cons ListComp" => (k_here; k_extra "mycomp"; k_dflt (refine Assign_ListComp_V (F₀ := by k_asm) (by rfl) (by with_unfolding_all rfl) (by with_unfolding_all rfl) (by decide) (by rfl) (by decide) (by rfl) (by rfl) (by rfl) ?_))
  k_with "call builtin:list.append" => (k_here; (with_reducible show wpAny _ _ (call (Value.builtin _) [Value.ref _, _]) _ _ _); k_dflt (refine' append_K ?k1 ?k2 ?k3 ?_ ?z; (case k1 => k_asm); (case k2 => k_asm); (case k3 => first | exact Upd.head (by assumption) | exact Upd.head (fun p hp => Nat.ne_of_lt ((by assumption : ∀ p ∈ _, p.1 < _) p hp))); (case z => first | size_fits | (rw [PySem.sizeLine_eq]; simp only [List.push_toArray, List.size_toArray, List.length_append, List.length_cons, List.length_nil]; (first | k_extra "ar" | lia | omega))); k_whole); intro h'zz F'zz N'zz; (try simp only [List.push_toArray, List.append_assoc, List.cons_append, List.nil_append] at N'zz); (try k_sweep))
  k_with "call ref" => (k_here; (first | (with_reducible show wpAny _ _ (call (Value.ref (nat_lit 138)) _) _ _ _) | (with_reducible show wpAny _ _ (call (Value.ref (nat_lit 208)) _) _ _ _) | (with_reducible show wpAny _ _ (call (Value.ref (nat_lit 243)) _) _ _ _)); k_dflt (refine' call_cls ?k1 ?k2 ?k3 ?k4 ?k5 ?k6 ?_; (case k1 => k_asm); (case k2 => k_in); (case k3 => k_asm); (case k4 => k_is); (case k5 => k_is); (case k6 => k_is); k_whole; intro x'zz d'zz h'zz F'zz N'zz l1zz l2zz; (try k_lt l1zz); (try k_lt2 l2zz); cell_enter))
  k_with "call builtin:bytes.split" => (k_here; k_dflt (refine' split_bytes ?kF ?kN ?hb ?h1 ?h2 ?_; (case kF => k_asm); (case kN => k_asm); (case hb => decide); (case h1 => exact split_h1 (by k_intsEnd)); (case h2 => exact split_h2 (by k_intsEnd))); intro lXzz vsXzz hXzz kXzz bXzz FXzz NXzz ltXzz)
  k_with "call builtin:bytes.join" => (k_here; k_dflt (refine' join_bytes ?kl ?kv ?h1 ?h2 ?_; (case kl => exact News.isList (by k_asm) (by k_mem)); (case kv => with_reducible assumption); (case h1 => with_reducible assumption); (case h2 => with_reducible assumption)); intro tXzz kXzz)
  k_with "call builtin:bytes.replace" => (k_here; k_dflt (refine' replace_bytes ?hb ?h1 ?h2 ?_; (case hb => decide); (case h1 => exact repl_h1 (by k_intsEnd) (by decide)); (case h2 => exact repl_h2 (by k_intsEnd) (by decide))); intro tXzz kXzz)
  k_with "call builtin:len" => (k_here; (with_reducible show wpAny _ _ (call (Value.builtin "len") [Value.ref _]) _ _ _); k_extra "mylen"; k_dflt (refine' len_my ?kl ?kf ?_; (case kl => exact News.isList (by k_asm) (by k_mem)); (case kf => (first | k_extra "ar" | lia | omega))); intro tXzz kXzz)
  k_with "ktr_room" => (first | ((with_reducible show _ + 1 + _ < recursionLimit); exact room_d (by with_reducible assumption) rfl) | ((with_reducible show _ + 3 + _ < cLine); exact room_u (by with_reducible assumption) rfl) | exact room_0 (by with_reducible assumption))
  k_with "nb1" => (first | ((fail_if_success (fail_if_success (with_reducible apply nb_dec; decide))); exact Nat.le_refl _) | with_reducible assumption | (with_reducible apply And.left; with_reducible assumption) | (with_reducible apply And.right; with_reducible assumption) | (with_reducible apply Nat.le_of_lt; with_reducible assumption) | ((with_reducible apply Nat.add_le_add) <;> k_extra "nb1") | ((with_reducible apply nb_tarr) <;> k_extra "nb1") | ((with_reducible apply nb_push) <;> k_extra "nb1") | ((with_reducible apply nb_cons) <;> k_extra "nb1") | ((with_reducible apply nb_lapp) <;> k_extra "nb1") | ((with_reducible apply nb_take) <;> k_extra "nb1") | ((with_reducible apply nb_drop) <;> k_extra "nb1") | ((with_reducible apply nb_map) <;> k_extra "nb1") | ((with_reducible apply nb_app) <;> k_extra "nb1") | ((with_reducible apply nb_ext) <;> k_extra "nb1") | ((with_reducible apply nb_minr) <;> k_extra "nb1") | ((with_reducible apply nb_minl) <;> k_extra "nb1") | ((with_reducible apply nb_sub) <;> k_extra "nb1") | ((with_reducible apply Nat.mul_le_mul) <;> k_extra "nb1") | with_reducible exact nb_nil)
  k_with "nb" => (first | ((fail_if_success (fail_if_success (with_reducible apply nb_dec; decide))); exact Nat.le_refl _) | with_reducible assumption | (with_reducible apply And.left; with_reducible assumption) | (with_reducible apply And.right; with_reducible assumption) | (with_reducible apply Nat.le_of_lt; with_reducible assumption) | ((with_reducible apply Nat.add_le_add) <;> k_extra "nb") | ((with_reducible apply nb_tarr) <;> k_extra "nb") | ((with_reducible apply nb_push) <;> k_extra "nb") | ((with_reducible apply nb_cons) <;> k_extra "nb") | ((with_reducible apply nb_lapp) <;> k_extra "nb") | ((with_reducible apply nb_take) <;> k_extra "nb") | ((with_reducible apply nb_drop) <;> k_extra "nb") | ((with_reducible apply nb_map) <;> k_extra "nb") | ((with_reducible apply nb_app) <;> k_extra "nb") | ((with_reducible apply nb_ext) <;> k_extra "nb") | ((with_reducible apply nb_minr) <;> k_extra "nb") | ((with_reducible apply nb_minl) <;> k_extra "nb") | ((with_reducible apply nb_sub) <;> k_extra "nb") | ((with_reducible apply Nat.mul_le_mul) <;> k_extra "nb") | with_reducible exact nb_nil | (with_reducible apply nb_eq; with_reducible assumption; k_extra "nb1"))
  k_with "lt" => (first | with_reducible assumption | (with_reducible apply And.left; first | with_reducible assumption | (with_reducible apply And.right; (first | with_reducible assumption | (with_reducible apply And.right; (first | with_reducible assumption | (with_reducible apply And.right; (first | with_reducible assumption | (with_reducible apply And.right; (first | with_reducible assumption | (with_reducible apply And.right; (first | with_reducible assumption | (with_reducible apply And.right; (first | with_reducible assumption | (with_reducible apply And.right; (first | with_reducible assumption | (with_reducible apply And.right; (first | with_reducible assumption | (with_reducible apply And.right; with_reducible assumption)))))))))))))))))))
  k_with "ar" => (first | with_reducible assumption | (with_reducible apply nb_top; k_extra "nb"; decide) | (with_reducible apply nb_lt; k_extra "nb"; decide) | (with_reducible apply ib63; k_extra "nb"; decide) | (with_reducible apply Nat.ne_of_lt; k_extra "lt") | (with_reducible apply Nat.ne_of_gt; k_extra "lt") | (with_reducible apply Nat.le_of_lt; k_extra "lt") | with_reducible exact Int.natCast_nonneg _)
  k_with "k_ne" => ((refine neN ?_; (try dsimp only); first | (with_reducible apply Nat.ne_of_lt; k_extra "lt") | (with_reducible apply Nat.ne_of_gt; k_extra "lt")))
  k_with "k_size" => (k_extra "ar")
  k_with "size_fits" => (first | (with_reducible apply nb_size; k_extra "nb"; decide) | (with_reducible apply nb_top; k_extra "nb"; decide))
  k_with "memr" => (first | with_reducible exact List.mem_cons_self | (with_reducible refine List.mem_cons_of_mem _ ?_; k_extra "memr"))
  k_with "k_mem" => (k_extra "memr")
  k_with "k_in" => (first | k_in_fast | assumption | exact Frag.In.keeps (by k_asm) (Fr.keep (by k_asm)))
  k_with "call ref" => (k_here; (with_reducible show wpAny _ _ (call (Value.ref (nat_lit 92)) _) _ _ _); k_dflt (refine' c_number_by ?kB ?kF ?kX ?kN ?kT ?kk ?kd ?ku ?hl ?_ ?_; (case kB => k_asm); (case kF => k_asm); (case kX => k_in); (case kN => k_asm); (case kT => k_asm); (case kk => first | with_reducible assumption | exact rfl); (case kd => ktr_room); (case ku => ktr_room); (case hl => (first | k_extra "ar" | lia | omega)); k_whole); intro nXzz tXzz hXzz tkXzz e0zz eXzz FXzz NXzz; rotate_left; intro hXzz tkXzz eXzz FXzz NXzz; rotate_left)
  k_with "call ref" => (k_here; (with_reducible show wpAny _ _ (call (Value.ref (nat_lit 99)) _) _ _ _); k_dflt (refine' c_number_of ?kB ?kF ?kX ?kN ?kT ?kk ?kd ?ku ?hl ?_ ?_; (case kB => k_asm); (case kF => k_asm); (case kX => k_in); (case kN => k_asm); (case kT => k_asm); (case kk => first | with_reducible assumption | exact rfl); (case kd => ktr_room); (case ku => ktr_room); (case hl => k_intsEnd); k_whole); intro nXzz tXzz hXzz tkXzz eXzz FXzz NXzz; rotate_left; intro hXzz tkXzz eXzz FXzz NXzz; rotate_left)
  k_with "call ref" => (k_here; (with_reducible show wpAny _ _ (call (Value.ref (nat_lit 64)) _) _ _ _); k_dflt (refine' c_octets_of ?kB ?kF ?kX ?kN ?kT ?kk ?kd ?ku ?hl ?hlo ?_; (case kB => k_asm); (case kF => k_asm); (case kX => k_in); (case kN => k_asm); (case kT => k_asm); (case kk => first | with_reducible assumption | exact rfl); (case kd => ktr_room); (case ku => ktr_room); (case hl => k_intsEnd); (case hlo => assumption); k_whole); intro tXzz hXzz tkXzz FXzz NXzz)
  k_with "call ref" => (k_here; (with_reducible show wpAny _ _ (call (Value.ref (nat_lit 59)) _) _ _ _); k_dflt (refine' c_text_of ?kB ?kF ?kX ?kN ?kT ?kk ?kd ?ku ?hl ?_; (case kB => k_asm); (case kF => k_asm); (case kX => k_in); (case kN => k_asm); (case kT => k_asm); (case kk => first | with_reducible assumption | exact rfl); (case kd => ktr_room); (case ku => ktr_room); (case hl => k_intsEnd); k_whole); intro tXzz hXzz tkXzz FXzz NXzz)
  k_with "call ref" => (k_here; (with_reducible show wpAny _ _ (call (Value.ref (nat_lit 71)) _) _ _ _); k_dflt (refine' c_hex_of ?kB ?kF ?kX ?kN ?kT ?kk ?kd ?ku ?hl ?_; (case kB => k_asm); (case kF => k_asm); (case kX => k_in); (case kN => k_asm); (case kT => k_asm); (case kk => first | with_reducible assumption | exact rfl); (case kd => ktr_room); (case ku => ktr_room); (case hl => k_intsEnd); k_whole); intro tXzz hXzz tkXzz FXzz NXzz)
  k_with "call ref" => (k_here; (with_reducible show wpAny _ _ (call (Value.ref (nat_lit 78)) _) _ _ _); k_dflt (refine' c_hex_digit ?kB ?kF ?kX ?kN ?kT ?kk ?kd ?ku ?hc ?_; (case kB => k_asm); (case kF => k_asm); (case kX => k_in); (case kN => k_asm); (case kT => k_asm); (case kk => first | with_reducible assumption | exact rfl); (case kd => ktr_room); (case ku => ktr_room); (case hc => assumption); k_whole); intro tXzz hXzz tkXzz FXzz NXzz)
  k_with "call ref" => (k_here; (with_reducible show wpAny _ _ (call (Value.ref (nat_lit 85)) _) _ _ _); k_dflt (refine' c_octets_of_hex ?kB ?kF ?kX ?kN ?kT ?kk ?kd ?ku ?hk2 ?hl ?hx ?_; (case kB => k_asm); (case kF => k_asm); (case kX => k_in); (case kN => k_asm); (case kT => k_asm); (case kk => first | with_reducible assumption | exact rfl); (case kd => ktr_room); (case ku => ktr_room); (case hk2 => assumption); (case hl => k_intsEnd); (case hx => assumption); k_whole); intro tXzz hXzz tkXzz FXzz NXzz)
  k_with "call ref" => (k_here; (with_reducible show wpAny _ _ (call (Value.ref (nat_lit 114)) _) _ _ _); k_dflt (refine' c_are_all ?kB ?kF ?kX ?kN ?kT ?kk ?kd ?ku ?hl ?_; (case kB => k_asm); (case kF => k_asm); (case kX => k_in); (case kN => k_asm); (case kT => k_asm); (case kk => first | with_reducible assumption | exact rfl); (case kd => ktr_room); (case ku => ktr_room); (case hl => k_intsEnd); k_whole); intro hXzz tkXzz FXzz NXzz)
  k_with "call ref" => (k_here; (with_reducible show wpAny _ _ (call (Value.ref (nat_lit 107)) _) _ _ _); k_dflt (refine' c_has_sign ?kB ?kF ?kX ?kN ?kT ?kk ?kd ?ku ?hl ?_; (case kB => k_asm); (case kF => k_asm); (case kX => k_in); (case kN => k_asm); (case kT => k_asm); (case kk => first | with_reducible assumption | exact rfl); (case kd => ktr_room); (case ku => ktr_room); (case hl => k_intsEnd); k_whole); intro hXzz tkXzz FXzz NXzz)
  k_with "call ref" => (k_here; (with_reducible show wpAny _ _ (call (Value.ref (nat_lit 163)) _) _ _ _); k_dflt (refine' c_head_id ?kB ?kF ?kX ?kN ?kT ?kk ?kd ?ku ?hl ?hk2 ?_ ?_; (case kB => k_asm); (case kF => k_asm); (case kX => k_in); (case kN => k_asm); (case kT => k_asm); (case kk => first | with_reducible assumption | exact rfl); (case kd => ktr_room); (case ku => ktr_room); (case hl => k_intsEnd); (case hk2 => (first | k_extra "ar" | lia | omega)); k_whole); intro tXzz hXzz tkXzz eXzz FXzz NXzz; rotate_left; intro eXzz xXzz hXzz tkXzz gXzz RXzz UXzz FXzz; rotate_left)
  k_with "call ref" => (k_here; (with_reducible show wpAny _ _ (call (Value.ref (nat_lit 138)) _) _ _ _); k_dflt (refine' c_person ?kB ?kF ?kX ?kN ?kT ?kk ?kd ?ku  ?_; (case kB => k_asm); (case kF => k_asm); (case kX => k_in); (case kN => k_asm); (case kT => k_asm); (case kk => first | with_reducible assumption | exact rfl); (case kd => ktr_room); (case ku => ktr_room);  k_whole); intro xXzz dXzz k1Xzz k2Xzz k3Xzz k4Xzz hXzz tkXzz FXzz NXzz)
  k_with "call ref" => (k_here; (with_reducible show wpAny _ _ (call (Value.ref (nat_lit 149)) _) _ _ _); k_dflt (refine' c_read_person ?kB ?kF ?kX ?kN ?kT ?kk ?kd ?ku ?hl ?_ ?_; (case kB => k_asm); (case kF => k_asm); (case kX => k_in); (case kN => k_asm); (case kT => k_asm); (case kk => first | with_reducible assumption | exact rfl); (case kd => ktr_room); (case ku => ktr_room); (case hl => k_intsEnd); k_whole); intro nXzz eXzz iXzz zXzz vXzz xXzz dXzz k1Xzz k2Xzz k3Xzz k4Xzz t1Xzz t2Xzz t3Xzz t4Xzz hXzz tkXzz FXzz NXzz; rotate_left; intro vXzz eXzz hXzz tkXzz gXzz RXzz UXzz FXzz; rotate_left)
  k_with "call ref" => (k_here; (with_reducible show wpAny _ _ (call (Value.ref (nat_lit 156)) _) _ _ _); k_dflt (refine' c_head_row ?kB ?kF ?kX ?kN ?kT ?kk ?kd ?ku ?hk2 ?hv ?_; (case kB => k_asm); (case kF => k_asm); (case kX => k_in); (case kN => k_asm); (case kT => k_asm); (case kk => first | with_reducible assumption | exact rfl); (case kd => ktr_room); (case ku => ktr_room); (case hk2 => k_intsEnd); (case hv => k_intsEnd); k_whole); intro tXzz hXzz tkXzz FXzz NXzz)
  k_with "call ref" => (k_here; (with_reducible show wpAny _ _ (call (Value.ref (nat_lit 170)) _) _ _ _); k_dflt (refine' c_object_heads ?kB ?kF ?kX ?kN ?kT ?kk ?kd ?ku ?hl ?_ ?_; (case kB => k_asm); (case kF => k_asm); (case kX => k_in); (case kN => k_asm); (case kT => k_asm); (case kk => first | with_reducible assumption | exact rfl); (case kd => ktr_room); (case ku => ktr_room); (case hl => k_intsEnd); k_whole); intro hsXzz msgXzz eXzz DXzz HXzz vsXzz nXzz tlXzz tXzz hXzz tkXzz FXzz NXzz pXzz szXzz mXzz lXzz; rotate_left; intro eXzz xXzz hXzz tkXzz gXzz RXzz UXzz FXzz; rotate_left)
  k_with "call ref" => (k_here; (with_reducible show wpAny _ _ (call (Value.ref (nat_lit 208)) _) _ _ _); k_dflt (refine' c_walk ?kB ?kF ?kX ?kN ?kT ?kk ?kd ?ku  ?_; (case kB => k_asm); (case kF => k_asm); (case kX => k_in); (case kN => k_asm); (case kT => k_asm); (case kk => first | with_reducible assumption | exact rfl); (case kd => ktr_room); (case ku => ktr_room);  k_whole); intro xXzz dXzz k1Xzz k2Xzz tXzz hXzz tkXzz FXzz NXzz l1Xzz l2Xzz)
  k_with "call ref" => (k_here; (with_reducible show wpAny _ _ (call (Value.ref (nat_lit 191)) _) _ _ _); k_dflt (refine' c_is_next ?kB ?kF ?kX ?kN ?kT ?kk ?kd ?ku ?hH ?hp ?hk0 ?hk9 ?hl ?_; (case kB => k_asm); (case kF => k_asm); (case kX => k_in); (case kN => k_asm); (case kT => k_asm); (case kk => first | with_reducible assumption | exact rfl); (case kd => ktr_room); (case ku => ktr_room); (case hH => k_asm); (case hp => k_asm); (case hk0 => (first | k_extra "ar" | lia | omega)); (case hk9 => (first | k_extra "ar" | lia | omega)); (case hl => (first | k_extra "ar" | lia | omega)); k_whole); intro hXzz tkXzz FXzz NXzz)
  k_with "call ref" => (k_here; (with_reducible show wpAny _ _ (call (Value.ref (nat_lit 198)) _) _ _ _); k_dflt (refine' c_take ?kB ?kF ?kX ?kN ?kT ?kk ?kd ?ku ?hH ?hp ?hk0 ?hk9 ?hl ?hks ?hx ?hoff ?_ ?_; (case kB => k_asm); (case kF => k_asm); (case kX => k_in); (case kN => k_asm); (case kT => k_asm); (case kk => first | with_reducible assumption | exact rfl); (case kd => ktr_room); (case ku => ktr_room); (case hH => k_asm); (case hp => k_asm); (case hk0 => (first | k_extra "ar" | lia | omega)); (case hk9 => (first | k_extra "ar" | lia | omega)); (case hl => (first | k_extra "ar" | lia | omega)); (case hks => k_intsEnd); (case hx => k_asm); (case hoff => k_asm); k_whole); intro vXzz qXzz eXzz t8Xzz t9Xzz hXzz tkXzz FXzz NXzz; rotate_left; intro vXzz eXzz hXzz tkXzz gXzz RXzz UXzz FXzz; rotate_left)
  k_with "call ref" => (k_here; (with_reducible show wpAny _ _ (call (Value.ref (nat_lit 205)) _) _ _ _); k_dflt (refine' c_rest ?kB ?kF ?kX ?kN ?kT ?kk ?kd ?ku ?hH ?hk0 ?hl ?_; (case kB => k_asm); (case kF => k_asm); (case kX => k_in); (case kN => k_asm); (case kT => k_asm); (case kk => first | with_reducible assumption | exact rfl); (case kd => ktr_room); (case ku => ktr_room); (case hH => k_asm); (case hk0 => (first | k_extra "ar" | lia | omega)); (case hl => (first | k_extra "ar" | lia | omega)); k_whole); intro DXzz hXzz tkXzz FXzz NXzz)
  k_with "call ref" => (k_here; (with_reducible show wpAny _ _ (call (Value.ref (nat_lit 243)) _) _ _ _); k_dflt (refine' c_commit ?kB ?kF ?kX ?kN ?kT ?kk ?kd ?ku  ?_; (case kB => k_asm); (case kF => k_asm); (case kX => k_in); (case kN => k_asm); (case kT => k_asm); (case kk => first | with_reducible assumption | exact rfl); (case kd => ktr_room); (case ku => ktr_room);  k_whole); intro xXzz dXzz k1Xzz k2Xzz k3Xzz k4Xzz k5Xzz k6Xzz hXzz tkXzz FXzz NXzz)
  k_with "call ref" => (k_here; (with_reducible show wpAny _ _ (call (Value.ref (nat_lit 135)) _) _ _ _); k_dflt (refine' c_person_octets ?kB ?kF ?kX ?kN ?kT ?kk ?kd ?ku ?hx ?hn ?he ?hz ?hi ?_; (case kB => k_asm); (case kF => k_asm); (case kX => k_in); (case kN => k_asm); (case kT => k_asm); (case kk => first | with_reducible assumption | exact rfl); (case kd => ktr_room); (case ku => ktr_room); (case hx => assumption); (case hn => assumption); (case he => assumption); (case hz => assumption); (case hi => assumption); k_whole); intro tXzz hXzz tkXzz FXzz NXzz)
  k_with "call ref" => (k_here; (with_reducible show wpAny _ _ (call (Value.ref (nat_lit 64)) _) _ _ _); k_dflt (refine' c_octets_hex ?kB ?kF ?kX ?kN ?kT ?kk ?kd ?ku ?hl ?_; (case kB => k_asm); (case kF => k_asm); (case kX => k_in); (case kN => k_asm); (case kT => k_asm); (case kk => first | with_reducible assumption | exact rfl); (case kd => ktr_room); (case ku => ktr_room); (case hl => k_intsEnd); k_whole); intro tXzz hXzz tkXzz zXzz FXzz NXzz)
  k_with "call ref" => (k_here; (with_reducible show wpAny _ _ (call (Value.ref (nat_lit 233)) _) _ _ _); k_dflt (refine' c_commit_octets ?kB ?kF ?kX ?kN ?kT ?kk ?kd ?ku ?hx ?ht ?hm ?hi ?hi2 ?hqa ?hqc ?he ?he2 ?_; (case kB => k_asm); (case kF => k_asm); (case kX => k_in); (case kN => k_asm); (case kT => k_asm); (case kk => first | with_reducible assumption | exact rfl); (case kd => ktr_room); (case ku => ktr_room); (case hx => assumption); (case ht => (first | k_extra "ar" | lia | omega)); (case hm => (first | k_extra "ar" | lia | omega)); (case hi => (first | k_extra "ar" | lia | omega)); (case hi2 => assumption); (case hqa => assumption); (case hqc => assumption); (case he => (first | k_extra "ar" | lia | omega)); (case he2 => assumption); k_whole); intro tXzz hXzz tkXzz FXzz NXzz)
  k_with "call ref" => (k_here; (with_reducible show wpAny _ _ (call (Value.ref (nat_lit 274)) _) _ _ _); k_dflt (refine' c_draw ?kB ?kF ?kX ?kN ?kT ?kk ?kd ?ku ?hc ?hm ?hm2 ?hdl ?o1 ?o2 ?_; (case kB => k_asm); (case kF => k_asm); (case kX => k_in); (case kN => k_asm); (case kT => k_asm); (case kk => first | with_reducible assumption | exact rfl); (case kd => ktr_room); (case ku => ktr_room); (case hc => assumption); (case hm => (first | k_extra "ar" | lia | omega)); (case hm2 => (first | k_extra "ar" | lia | omega)); (case hdl => assumption); (case o1 => assumption); (case o2 => assumption); k_whole); intro rXzz tXzz cXzz hXzz tkXzz r0Xzz r9Xzz okXzz FXzz NXzz)
  k_with "call ref" => (k_here; (with_reducible show wpAny _ _ (call (Value.ref (nat_lit 267)) _) _ _ _); k_dflt (refine' c_deck ?kB ?kF ?kX ?kN ?kT ?kk ?kd ?ku ?hl ?hi ?hn ?_; (case kB => k_asm); (case kF => k_asm); (case kX => k_in); (case kN => k_asm); (case kT => k_asm); (case kk => first | with_reducible assumption | exact rfl); (case kd => ktr_room); (case ku => ktr_room); (case hl => assumption); (case hi => assumption); (case hn => (first | k_extra "ar" | lia | omega)); k_whole); intro dXzz lXzz cXzz hXzz tkXzz okXzz neXzz o1Xzz o2Xzz FXzz NXzz)
  k_with "k_all" => (first | with_reducible assumption | exact ne_all (by assumption) (by (first | k_extra "ar" | lia | omega)) | exact ne_all2 (by assumption) (by (first | k_extra "ar" | lia | omega)))
  k_with "call ref" => (k_here; (with_reducible show wpAny _ _ (call (Value.ref (nat_lit 279)) _) _ _ _); k_dflt (refine' c_law_id ?kB ?kF ?kX ?kN ?kT ?kk ?kd ?ku ?hc ?hk2 ?hdl ?o1 ?o2 ?_; (case kB => k_asm); (case kF => k_asm); (case kX => k_in); (case kN => k_asm); (case kT => k_asm); (case kk => first | with_reducible assumption | exact rfl); (case kd => ktr_room); (case ku => ktr_room); (case hc => assumption); (case hk2 => (first | k_extra "ar" | lia | omega)); (case hdl => assumption); (case o1 => assumption); (case o2 => assumption); k_whole); intro bXzz tXzz cXzz hXzz tkXzz szXzz okXzz FXzz NXzz)
  k_with "call ref" => (k_here; (with_reducible show wpAny _ _ (call (Value.ref (nat_lit 284)) _) _ _ _); k_dflt (refine' c_figures ?kB ?kF ?kX ?kN ?kT ?kk ?kd ?ku ?hl ?_; (case kB => k_asm); (case kF => k_asm); (case kX => k_in); (case kN => k_asm); (case kT => k_asm); (case kk => first | with_reducible assumption | exact rfl); (case kd => ktr_room); (case ku => ktr_room); (case hl => k_intsEnd); k_whole); intro tXzz hXzz tkXzz FXzz NXzz)
  k_with "call ref" => (k_here; (with_reducible show wpAny _ _ (call (Value.ref (nat_lit 289)) _) _ _ _); k_dflt (refine' c_law_lines ?kB ?kF ?kX ?kN ?kT ?kk ?kd ?ku ?hc ?hk2 ?hdl ?o1 ?o2 ?_; (case kB => k_asm); (case kF => k_asm); (case kX => k_in); (case kN => k_asm); (case kT => k_asm); (case kk => first | with_reducible assumption | exact rfl); (case kd => ktr_room); (case ku => ktr_room); (case hc => assumption); (case hk2 => (first | k_extra "ar" | lia | omega)); (case hdl => assumption); (case o1 => assumption); (case o2 => assumption); k_whole); intro bXzz tXzz cXzz hXzz tkXzz plXzz okXzz FXzz NXzz)
  k_with "call ref" => (k_here; (with_reducible show wpAny _ _ (call (Value.ref (nat_lit 296)) _) _ _ _); k_dflt (refine' c_law_person ?kB ?kF ?kX ?kN ?kT ?kk ?kd ?ku ?hc ?hdl ?o1 ?o2 ?_; (case kB => k_asm); (case kF => k_asm); (case kX => k_in); (case kN => k_asm); (case kT => k_asm); (case kk => first | with_reducible assumption | exact rfl); (case kd => ktr_room); (case ku => ktr_room); (case hc => assumption); (case hdl => assumption); (case o1 => assumption); (case o2 => assumption); k_whole); intro qXzz xXzz t1Xzz t2Xzz t3Xzz t4Xzz cXzz hXzz tkXzz perXzz okXzz n1Xzz n2Xzz n3Xzz FXzz NXzz)
  k_with "call ref" => (k_here; (with_reducible show wpAny _ _ (call (Value.ref (nat_lit 301)) _) _ _ _); k_dflt (refine' c_law_poct ?kB ?kF ?kX ?kN ?kT ?kk ?kd ?ku ?hx ?hok ?_; (case kB => k_asm); (case kF => k_asm); (case kX => k_in); (case kN => k_asm); (case kT => k_asm); (case kk => first | with_reducible assumption | exact rfl); (case kd => ktr_room); (case ku => ktr_room); (case hx => assumption); (case hok => assumption); k_whole); intro tXzz hXzz tkXzz FXzz NXzz)
  trivial

theorem reg_fold_LHD : True := by
  k_with "execs cons" => (k_here; (try k_fold); (try ((with_reducible rename Fr _ _ _ (fun _ => @ite _ _ _ _ _) => Fzz); revert Fzz; refine withFrame (P := fun z => Fr _ _ _ z → _) _ ?_; intro mzz Fzz)); (with_reducible refine wpAny_execs_cons ?_); (try dsimp only); (try k_fold))
  k_with "cell_enter" => ((refine' code_def ?k1 ?k2 ?k3 ?k4 ?k5 ?kA ?kF ?kK ?k6 ?k7 ?k8 ?k9 ?kB ?_ ?c2 ?c3 ?c4 ?c5; (case kA => exact rfl); (case kF => exact rfl); (case kK => assumption); (case k1 => k_asm); (case k2 => k_asm); (case k3 => k_asm); (case k4 => k_asm); (case k5 => k_asm); (case k6 => k_is); (case k7 => k_is); (case k8 => ktr_room); (case k9 => first | exact BindsTo.of_eq rfl | exact binds_K (by k_in) rfl (by k_is) rfl rfl rfl); (case c5 => decide); (case kB => exact locs rfl); (case c2 => exact rfl); (case c3 => exact rfl); (case c4 => exact rfl); k_whole; intro g'zz L'zz h'zz FG'zz F'zz N'zz B'zz X'zz T'zz; (try dsimp only); (try k_lift B'zz); (try (refine withFrame (P := fun z => wpAny _ z _ _ _ _) _ ?_; intro Azz; (try dsimp only))); (try k_fold)))
  trivial

theorem exTail {h₀ h : Heap} {L a : Addr} {o : Obj} {r : List (Addr × Obj)} (N : News h₀ L h ((a, o) :: r)) : ∃ z, z = r ∧ News h₀ L h ((a, o) :: z) := ⟨r, rfl, N⟩
theorem exLt2 {a b : Addr} {R : Prop} (_ : @LT.lt Nat _ a b ∧ R) : ∃ z, z = b := ⟨b, rfl⟩
theorem n_swap {h₀ h : Heap} {L : Addr} {a b : Addr × Obj} {r : List (Addr × Obj)} (N : News h₀ L h (a :: b :: r)) : News h₀ L h (b :: a :: r) := cb_drop N (by (repeat' (first | exact List.forall_mem_nil _ | (with_reducible refine List.forall_mem_cons.mpr ?_; refine ⟨by k_mem, ?_⟩))); all_goals (intro qz hz; repeat (first | (with_reducible exact hz) | refine List.mem_cons_of_mem _ ?_)))
theorem exLt {a b : Addr} {R : Prop} (_ : @LT.lt Nat _ a b ∧ R) : ∃ z, z = a := ⟨a, rfl⟩
theorem pairs_snoc {nw : List (Addr × Obj)} {vs : List Value} {ps : List (Array UInt8 × Array UInt8)} {T : Addr} {a b : Array UInt8} {t u : Tok} (h : PairsIn nw vs ps) : PairsIn ((T, ({ cls := .type "tuple", data := .seq [Value.bytes a t, Value.bytes b u].toArray } : Obj)) :: nw) (vs ++ [.ref T]) (ps ++ [(a, b)]) :=
  PairsIn.append (h.mono fun q hq => List.mem_cons_of_mem _ hq) (PairsIn.one ⟨T, t, u, rfl, List.mem_cons_self ..⟩)
theorem off3_cons {I C D T : Addr} {o : Obj} {l : List (Addr × Obj)} (h1 : @LT.lt Nat _ I T) (h2 : @LT.lt Nat _ C T) (h3 : @LT.lt Nat _ D T) (h : LCg.Off3 I C D l) : LCg.Off3 I C D ((T, o) :: l) := by
  refine LCg.Off3.of fun p hp => ?_
  rcases List.mem_cons.mp hp with rfl | hp
  · exact ⟨Nat.ne_of_gt h1, Nat.ne_of_gt h2, Nat.ne_of_gt h3⟩
  · exact LCg.Off3.mem h p hp
theorem pairs_end {h₀ h' : Heap} {L I C D T : Addr} {m : Str → Option Value} {s₁ : Shared} {oI oC : Obj} {ys : List Value} {S : List (Addr × Obj) → Prop} {rest : Value → List (Addr × Obj) → Prop} {tk : Nat} {a b : Array UInt8} {t u : Tok} {nx : List (Addr × Obj)} {R : Prop}
    (F : Fr h₀ L h' m) (N : News h₀ L h' ((T, ({ cls := .type "tuple", data := .seq [Value.bytes a t, Value.bytes b u].toArray } : Obj)) :: (I, oI) :: (C, oC) :: (D, LCg.lst ys) :: nx)) (hlt : @LT.lt Nat _ I T ∧ @LT.lt Nat _ C T ∧ @LT.lt Nat _ D T ∧ R) (off : LCg.Off3 I C D nx)
    (hS : S ((T, ({ cls := .type "tuple", data := .seq [Value.bytes a t, Value.bytes b u].toArray } : Obj)) :: nx)) (r : rest (.ref T) ((T, ({ cls := .type "tuple", data := .seq [Value.bytes a t, Value.bytes b u].toArray } : Obj)) :: nx)) :
    LCg.CompEnd h₀ L m s₁ I oI C oC D (LCg.lst ys) S rest (.ref T) { s₁ with heap := h', toks := tk } := by
  refine LCg.CompEnd.intro F N _ (fun q hq => ?_) (off3_cons hlt.1 hlt.2.1 hlt.2.2.1 off) hS r
  simp only [List.mem_cons] at hq ⊢
  rcases hq with h | h | h | h | h <;> simp [h]
def headsP (tree : Array UInt8) (ids : List (Array UInt8)) (qa qc : Array UInt8 × Array UInt8 × Nat × Array UInt8) (ex : List (Array UInt8 × Array UInt8)) : List (Array UInt8 × Array UInt8) :=
  (((bTree, hexA tree) :: ids.map fun b => (bParent, hexA b)) ++ [(bAuthor, perB qa)] ++ [(bCommitter, perB qc)]) ++ ex
section
variable {prog : Program} {w : World} {A : Around} {E : Value → Shared → Prop} {s : Shared} {h₀ : Heap} {L D b : Addr} {m : Str → Option Value} {r : List (Addr × Obj)} {xs ys : List Value} {n n2 : Nat}
theorem ext_any {Q : Value → Shared → Prop} (F : Fr h₀ L s.heap m) (N : News h₀ L s.heap ((D, W.listOf xs.toArray n) :: r)) (hb : (b, W.listOf ys.toArray n2) ∈ r) (off : ∀ p ∈ r, @Ne Nat p.1 D) (hz : xs.length + ys.length ≤ 10000)
    (h : ∀ h' n', Fr h₀ L h' m → News h₀ L h' ((D, W.listOf (xs ++ ys).toArray n') :: r) → Q .none { s with heap := h' }) : wpAny (model prog w) A (call (.builtin "list.extend") [.ref D, .ref b]) Q E s := by
  have hd : ¬(!xs.toArray.isEmpty && Builtin.List.listTooLong (xs.toArray.size + ys.toArray.size)) = true := by
    intro q
    have q2 := (Bool.and_eq_true_iff.mp q).2
    unfold Builtin.List.listTooLong at q2
    rw [PySem.sizeLine_eq] at q2
    have q3 := of_decide_eq_true q2
    simp only [List.size_toArray] at q3
    (first | k_extra "ar" | lia | omega)
  by_cases e : ys = []
  · subst e
    refine kxn_extend F N (List.mem_cons_of_mem _ hb) (by simp) (Upd.head off) hd (by rw [PySem.sizeLine_eq]; simp at hz ⊢; (first | k_extra "ar" | lia | omega)) (by rw [PySem.sizeLine_eq]; simp at hz ⊢; (first | k_extra "ar" | lia | omega)) fun h' F' N' => h h' n F' ?_
    rw [List.append_nil]
    exact N'
  · refine kl_extend F N (List.mem_cons_of_mem _ hb) (l := xs ++ ys) (by simp) (by simpa using e) (Upd.head off) hd (by rw [PySem.sizeLine_eq]; simp; (first | k_extra "ar" | lia | omega)) (by rw [PySem.sizeLine_eq]; simp; (first | k_extra "ar" | lia | omega)) fun h' F' N' => h h' (n + 1) F' N'
end
theorem app_pair {prog : Program} {w : World} {A : Around} {E : Value → Shared → Prop} {s : Shared} {h₀ : Heap} {L l T : Addr} {m : Str → Option Value} {rl : List (Addr × Obj)} {p x y z : Addr × Obj} {xs : List Value} {n : Nat} {a b : Array UInt8} {t u : Tok} {ps : List (Array UInt8 × Array UInt8)} {R : Prop} {Q : Value → Shared → Prop}
    (F : Fr h₀ L s.heap m) (N : News h₀ L s.heap ((T, ({ cls := .type "tuple", data := .seq [Value.bytes a t, Value.bytes b u].toArray } : Obj)) :: (l, W.listOf xs.toArray n) :: p :: x :: y :: z :: rl)) (hlt : @LT.lt Nat _ l T ∧ R) (off : ∀ q ∈ p :: x :: y :: z :: rl, @Ne Nat q.1 l) (hP : PairsIn rl xs ps) (hz : xs.length ≤ 10000)
    (h : ∀ h' n' rl', Fr h₀ L h' m → News h₀ L h' ((l, W.listOf (xs ++ [Value.ref T]).toArray n') :: p :: x :: y :: z :: rl') → (∀ q ∈ p :: x :: y :: z :: rl', @Ne Nat q.1 l) → PairsIn rl' (xs ++ [Value.ref T]) (ps ++ [(a, b)]) → (∀ q ∈ rl, q ∈ rl') → Q .none { s with heap := h' }) :
    wpAny (model prog w) A (call (.builtin "list.append") [.ref l, .ref T]) Q E s := by
  refine append_K F (n_swap N) (Upd.head (List.forall_mem_cons.mpr ⟨Nat.ne_of_gt hlt.1, off⟩)) ?_ (by rw [PySem.sizeLine_eq, List.size_toArray]; (first | k_extra "ar" | lia | omega))
  intro h' F' N'
  rw [List.push_toArray] at N'
  refine h h' (n + 1) ((T, ({ cls := .type "tuple", data := .seq [Value.bytes a t, Value.bytes b u].toArray } : Obj)) :: rl) F' (cb_drop N' fun q hq => ?_) (fun q hq => ?_) (pairs_snoc (t := t) (u := u) hP) (fun q hq => List.mem_cons_of_mem _ hq)
  · simp only [List.mem_cons] at hq ⊢
    rcases hq with h | h | h | h | h | h | h <;> simp [h]
  · simp only [List.mem_cons] at hq
    rcases hq with h | h | h | h | h | h
    · exact off q (by simp [h])
    · exact off q (by simp [h])
    · exact off q (by simp [h])
    · exact off q (by simp [h])
    · rw [h]; exact Nat.ne_of_gt hlt.1
    · exact off q (by simp [h])
theorem off_head {h₀ h : Heap} {L a : Addr} {o : Obj} {r : List (Addr × Obj)} (_ : News h₀ L h ((a, o) :: r)) (hl : AllLt a r) : ∀ p ∈ r, @Ne Nat p.1 a := ne_all hl (Nat.le_refl _)
section
variable {w : World} {dp un : Nat} {gd : Option (List Code)} {cn : Str} {cs : Scope} {a : Addr} {ccd : Value} {cl : List (Str × Addr)} {outer : List Env} {A₀ : Around} {base h₀ : Heap} {L : Addr} {m : Str → Option Value} {hp0 : Heap} {gs0 : Array GenState} {dr0 : Drawn} {tk0 : Nat} {os0 : OsState} {Q E : Value → Shared → Prop} {news : List (Addr × Obj)} {p : Program} {loose : List Str} {mean : ExcName → Option Value} {mg mb : Str → Option Value}

set_option maxHeartbeats 4000000 in
theorem c_law_heads {P pl xa xc xl : Addr} {oP : Obj} {tt : Tok} {tree : Array UInt8} {ids : List (Array UInt8)} {ws vs : List Value} {n n2 : Nat} {qa qc : Array UInt8 × Array UInt8 × Nat × Array UInt8} {ex : List (Array UInt8 × Array UInt8)} {t1 t2 t3 t4 t5 t6 t7 t8 : Tok}
  (B : Below A₀ base outer h₀) (F : Fr h₀ L hp0 m) (X : (K w.params).In h₀) (N : News h₀ L hp0 ((P, oP) :: (pl, W.listOf ws.toArray n) :: (xa, tupP qa.1 qa.2.1 (qa.2.2.1 : Int) qa.2.2.2 t1 t2 t3 t4) :: (xc, tupP qc.1 qc.2.1 (qc.2.2.1 : Int) qc.2.2.2 t5 t6 t7 t8) :: (xl, W.listOf vs.toArray n2) :: news)) (T : Top p loose mean mg mb h₀) (hk : cs.kind = .function)
  (hd : dp + 50 < recursionLimit) (hu : un + 600 < cLine) (hdP : oP.IsDictOf (PySem.strKind PR w) [(Str.ofString "tree", .bytes tree tt), (Str.ofString "parents", .ref pl), (Str.ofString "author", .ref xa), (Str.ofString "committer", .ref xc), (Str.ofString "extra", .ref xl)])
  (ht : tree.size ≤ 100) (hws : BytesAre ws ids) (hi : ids.length ≤ 10) (hi2 : ∀ b ∈ ids, b.size ≤ 100) (hqa : PerOk qa) (hqc : PerOk qc) (hvs : PairsIn news vs ex) (he : ex.length ≤ 10)
  (h1 : ∀ H tl vs' n' h' tk', PairsIn (tl ++ news) vs' (headsP tree ids qa qc ex) → Fr h₀ L h' m → News h₀ L h' ((H, W.listOf vs'.toArray n') :: (tl ++ (P, oP) :: (pl, W.listOf ws.toArray n) :: (xa, tupP qa.1 qa.2.1 (qa.2.2.1 : Int) qa.2.2.2 t1 t2 t3 t4) :: (xc, tupP qc.1 qc.2.1 (qc.2.2.1 : Int) qc.2.2.2 t5 t6 t7 t8) :: (xl, W.listOf vs.toArray n2) :: news)) → Q (.ref H) (Shared.mk h' gs0 dr0 tk' os0)) :
  wpAny (model PR w) (ktrTop dp un gd cn cs L a ccd cl outer) (call (.ref (nat_lit 306)) [.ref P]) Q E (Shared.mk hp0 gs0 dr0 tk0 os0) := by
  have hwl := BytesAre.length hws
  have hvl := PairsIn.length hvs
  refine wpAny_call ?_
  k_dflt cell_enter
  repeat' (first | ((fail_if_success (with_reducible show wpAny _ _ (eval (Expr.ListComp _ _ _ _) _) _ _ _)); first | (k_unfold; (try dsimp only)) | (k_end; wrow_close) | walk1 | (dsimp only; walk1) | (leave1; try dsimp only)))
  rename @LT.lt Nat _ _ _ ∧ @LT.lt Nat _ P _ ∧ _ => hL1
  rename News _ _ _ _ => N9
  obtain ⟨l9, rfl⟩ := exHead N9
  obtain ⟨T0, rfl⟩ := exLt hL1
  have hoffl := off_head N9 hL1
  refine LCg.ListComp_U (F₀ := by k_asm) (by with_unfolding_all rfl) (by decide) (by rfl) (by decide) (by rfl) ?_
  repeat' (first | ((fail_if_success (with_reducible show LCg.CompSrc _ _ _ _ _ _ _ _ _ _ _ _ _ _)); (fail_if_success (with_reducible show LCp.SrcLP _ _ _ _ _ _ _ _ _ _ _ _ _ _ _)); first | (k_unfold; (try dsimp only)) | (k_end; wrow_close) | walk1 | (dsimp only; walk1) | (leave1; try dsimp only)))
  rename News _ _ _ _ => N9
  obtain ⟨bs9, hbs9, N9⟩ := exLed N9
  have hl9b : (l9, W.listOf [Value.ref T0].toArray 0) ∈ bs9 := by rw [hbs9]; exact List.mem_cons_self ..
  have hplN : (pl, W.listOf ws.toArray n) ∈ bs9 := by rw [hbs9]; simp
  refine LCg.CompSrc.ledger rfl (by k_asm) N9 hplN (by rw [PySem.sizeLine_eq, List.size_toArray]; (first | k_extra "ar" | lia | omega)) fun g => ?_
  refine comp_inv (R := fun i ys nx => ∃ tl2, nx = tl2 ++ bs9 ∧ (∀ p ∈ tl2, @Ne Nat p.1 l9) ∧ PairsIn tl2 ys ((ids.take i).map fun b => (bParent, hexA b))) ⟨[], rfl, (fun _ h => nomatch h), .nil⟩ ?_ ?_
  · rintro i v ys nx I oI C oC D m₂ h tk E' hi9 hv ⟨tl2, rfl, ho2, hp⟩ hC hx F1 N1 off ne
    obtain ⟨b9, tb9, rfl, hb9⟩ := bytes_at hws (show ws[i]? = some v by simpa using hv)
    have hbz := hi2 b9 (List.mem_of_getElem? hb9)
    k_steps
    show LCg.CompEnd _ _ _ _ _ _ _ _ _ _ _ _ _ _
    rename @LT.lt Nat _ I _ ∧ @LT.lt Nat _ C _ ∧ @LT.lt Nat _ D _ ∧ _ => hL2
    refine pairs_end (by k_asm) (by k_asm) hL2 off (.inr ⟨W.listOf ws.toArray n, List.mem_cons_of_mem _ (List.mem_append.mpr (.inr hplN)), rfl, _, rfl⟩) ⟨_ :: tl2, rfl, List.forall_mem_cons.mpr ⟨Nat.ne_of_gt (lt_of_all hL2.2.2.2 (l9, _) (List.mem_append.mpr (.inr hl9b))), ho2⟩, ?_⟩
    rw [take_snoc hb9, List.map_append]
    exact pairs_snoc hp
  · rintro ys nx ⟨tl2, rfl, ho2, hp⟩
    rw [List.size_toArray, hwl, List.take_length] at hp
    unfold LCg.FinE
    intro D h tk F1 N1 o1
    repeat' (first | ((fail_if_success (with_reducible show wpAny _ _ (call (Value.builtin _) _) _ _ _)); first | (k_unfold; (try dsimp only)) | (k_end; wrow_close) | walk1 | (dsimp only; walk1) | (leave1; try dsimp only)))
    rename News _ _ _ _ => N8
    rename Fr _ _ _ _ => F8
    have hD9 : @Ne Nat D l9 := fun e => off1_mem o1 (l9, _) (List.mem_append.mpr (.inr hl9b)) e.symm
    obtain ⟨rl, hrl⟩ : ∃ z, z = (D, LCg.lst ys) :: (tl2 ++ bs9.tail) := ⟨_, rfl⟩
    have hsb : ∀ q ∈ bs9.tail, q ∈ rl := fun q hq => by rw [hrl]; exact List.mem_cons_of_mem _ (List.mem_append.mpr (.inr hq))
    have hst : ∀ q ∈ tl2, q ∈ rl := fun q hq => by rw [hrl]; exact List.mem_cons_of_mem _ (List.mem_append.mpr (.inl hq))
    rw [hbs9] at hsb
    dsimp only [List.tail_cons] at hsb
    have hor : ∀ q ∈ rl, @Ne Nat q.1 l9 := by
      rw [hrl, hbs9]
      exact List.forall_mem_cons.mpr ⟨hD9, fun q hq => (List.mem_append.mp hq).elim (ho2 q) (hoffl q)⟩
    have N7 := cb_drop (news := (l9, W.listOf [Value.ref T0].toArray 0) :: rl) N8 (List.forall_mem_cons.mpr ⟨by rw [hbs9]; simp, fun q hq => by
      rw [hrl] at hq
      rcases List.mem_cons.mp hq with rfl | hq
      · exact List.mem_cons_self ..
      · refine List.mem_cons_of_mem _ ((List.mem_append.mp hq).elim (fun h => List.mem_append.mpr (.inl h)) fun h => List.mem_append.mpr (.inr ?_))
        rw [hbs9] at h ⊢
        exact List.mem_cons_of_mem _ h⟩)
    have hyl := hp.length
    rw [List.length_map] at hyl
    refine ext_any F8 N7 (by rw [hrl]; exact List.mem_cons_self ..) hor (by rw [List.length_singleton]; (first | k_extra "ar" | lia | omega)) ?_
    intro h' n' F6 N6
    have hP1 : PairsIn rl ([Value.ref T0] ++ ys) ((bTree, hexA tree) :: ids.map fun b => (bParent, hexA b)) := .cons ⟨T0, _, _, rfl, hsb _ (List.mem_cons_self ..)⟩ (hp.mono hst)
    replace N6 := cb_drop (news := (l9, W.listOf ([Value.ref T0] ++ ys).toArray n') :: (P, oP) :: (xa, tupP qa.1 qa.2.1 (qa.2.2.1 : Int) qa.2.2.2 t1 t2 t3 t4) :: (xc, tupP qc.1 qc.2.1 (qc.2.2.1 : Int) qc.2.2.2 t5 t6 t7 t8) :: (xl, W.listOf vs.toArray n2) :: rl) N6 (List.forall_mem_cons.mpr ⟨List.mem_cons_self .., List.forall_mem_cons.mpr ⟨List.mem_cons_of_mem _ (hsb _ (by simp)), List.forall_mem_cons.mpr ⟨List.mem_cons_of_mem _ (hsb _ (by simp)), List.forall_mem_cons.mpr ⟨List.mem_cons_of_mem _ (hsb _ (by simp)), List.forall_mem_cons.mpr ⟨List.mem_cons_of_mem _ (hsb _ (by simp)), fun q hq => List.mem_cons_of_mem _ hq⟩⟩⟩⟩⟩)
    clear N7 N8
    repeat' (first | ((fail_if_success (with_reducible show wpAny _ _ (call (Value.ref (nat_lit 301)) _) _ _ _)); first | (k_unfold; (try dsimp only)) | (k_end; wrow_close) | walk1 | (dsimp only; walk1) | (leave1; try dsimp only)))
    have hoff6 : ∀ q ∈ (P, oP) :: (xa, tupP qa.1 qa.2.1 (qa.2.2.1 : Int) qa.2.2.2 t1 t2 t3 t4) :: (xc, tupP qc.1 qc.2.1 (qc.2.2.1 : Int) qc.2.2.2 t5 t6 t7 t8) :: (xl, W.listOf vs.toArray n2) :: rl, @Ne Nat q.1 l9 := List.forall_mem_cons.mpr ⟨Nat.ne_of_lt hL1.2.1, List.forall_mem_cons.mpr ⟨Nat.ne_of_lt hL1.2.2.2.1, List.forall_mem_cons.mpr ⟨Nat.ne_of_lt hL1.2.2.2.2.1, List.forall_mem_cons.mpr ⟨Nat.ne_of_lt hL1.2.2.2.2.2.1, hor⟩⟩⟩⟩
    have hlen : ([Value.ref T0] ++ ys).length ≤ 11 := by rw [List.length_append, List.length_singleton, hyl]; (first | k_extra "ar" | lia | omega)
    refine c_law_poct (n := qa.1) (e := qa.2.1) (i := qa.2.2.1) (z := qa.2.2.2) (by k_asm) (by k_asm) (by k_in) (by k_asm) (by k_asm) (by first | with_reducible assumption | exact rfl) (by ktr_room) (by ktr_room) (List.mem_cons_of_mem _ (List.mem_cons_of_mem _ (List.mem_cons_self ..))) hqa ?_
    intro t9 h9 tk9 F9 N9a
    rw [show perB (qa.1, qa.2.1, qa.2.2.1, qa.2.2.2) = perB qa from rfl]
    repeat' (first | ((fail_if_success (with_reducible show wpAny _ _ (call (Value.builtin "list.append") _) _ _ _)); first | (k_unfold; (try dsimp only)) | (k_end; wrow_close) | walk1 | (dsimp only; walk1) | (leave1; try dsimp only)))
    rename News _ _ _ _ => N5
    rename @LT.lt Nat _ l9 _ ∧ _ => hL3
    refine app_pair (by k_asm) N5 hL3 hoff6 hP1 (Nat.le_trans hlen (by decide)) ?_
    intro h8 n8 rl8 F8 N8 hoff8 hP8 hsb8
    clear N5
    repeat' (first | ((fail_if_success (with_reducible show wpAny _ _ (call (Value.ref (nat_lit 301)) _) _ _ _)); first | (k_unfold; (try dsimp only)) | (k_end; wrow_close) | walk1 | (dsimp only; walk1) | (leave1; try dsimp only)))
    refine c_law_poct (n := qc.1) (e := qc.2.1) (i := qc.2.2.1) (z := qc.2.2.2) (by k_asm) (by k_asm) (by k_in) (by k_asm) (by k_asm) (by first | with_reducible assumption | exact rfl) (by ktr_room) (by ktr_room) (List.mem_cons_of_mem _ (List.mem_cons_of_mem _ (List.mem_cons_of_mem _ (List.mem_cons_self ..)))) hqc ?_
    intro t9' h9' tk9' F9' N9b
    rw [show perB (qc.1, qc.2.1, qc.2.2.1, qc.2.2.2) = perB qc from rfl]
    repeat' (first | ((fail_if_success (with_reducible show wpAny _ _ (call (Value.builtin "list.append") _) _ _ _)); first | (k_unfold; (try dsimp only)) | (k_end; wrow_close) | walk1 | (dsimp only; walk1) | (leave1; try dsimp only)))
    rename News _ _ _ _ => N5
    rename @LT.lt Nat _ l9 _ ∧ _ => hL3
    refine app_pair (by k_asm) N5 hL3 hoff8 hP8 (by have := hP8.length; simp only [List.length_append, List.length_cons, List.length_map, List.length_nil] at this ⊢; (first | k_extra "ar" | lia | omega)) ?_
    intro h4 n4 rl4 F4 N4 hoff4 hP4 hsb4
    clear N5
    repeat' (first | ((fail_if_success (with_reducible show wpAny _ _ (binaryOp Operator.Add _ _) _ _ _)); first | (k_unfold; (try dsimp only)) | (k_end; wrow_close) | walk1 | (dsimp only; walk1) | (leave1; try dsimp only)))
    rename News _ _ _ _ => N4
    refine add_lists (by k_asm) N4 (News.isList N4 (List.mem_cons_self ..)) (News.isList N4 (List.mem_cons_of_mem _ (List.mem_cons_of_mem _ (List.mem_cons_of_mem _ (List.mem_cons_of_mem _ (List.mem_cons_self ..)))))) ?_ (by have := hP4.length; rw [PySem.sizeLine_eq]; simp only [List.length_append, List.length_cons, List.length_map, List.length_nil] at this ⊢; (first | k_extra "ar" | lia | omega))
    intro h3 F3 N3
    k_steps
    rename News _ _ _ _ => N2
    obtain ⟨tlx, htlx, N2⟩ := exTail N2
    have hrx : ∀ q ∈ rl4, q ∈ tlx := fun q hq => by rw [htlx]; exact List.mem_cons_of_mem _ (List.mem_cons_of_mem _ (List.mem_cons_of_mem _ (List.mem_cons_of_mem _ (List.mem_cons_of_mem _ hq))))
    have hbx : ∀ q ∈ (T0, _) :: (P, oP) :: (pl, W.listOf ws.toArray n) :: (xa, tupP qa.1 qa.2.1 (qa.2.2.1 : Int) qa.2.2.2 t1 t2 t3 t4) :: (xc, tupP qc.1 qc.2.1 (qc.2.2.1 : Int) qc.2.2.2 t5 t6 t7 t8) :: (xl, W.listOf vs.toArray n2) :: news, q ∈ tlx := fun q hq => hrx q (hsb4 q (hsb8 q (hsb q hq)))
    refine h1 _ tlx _ 0 _ _ (PairsIn.append (hP4.mono fun q hq => List.mem_append.mpr (.inl (hrx q hq))) (hvs.mono fun q hq => List.mem_append.mpr (.inr hq))) (by assumption) (cb_drop N2 fun q hq => ?_)
    rcases List.mem_cons.mp hq with rfl | hq
    · exact List.mem_cons_self ..
    · exact List.mem_cons_of_mem _ ((List.mem_append.mp hq).elim id fun h => hbx q (List.mem_cons_of_mem _ h))
end


theorem reg_late : True := by
  k_with "k_intsEnd" => ((simp only [List.size_toArray, List.length_cons, List.length_nil, Array.size_append, Array.size_extract]; (first | k_extra "ar" | lia | omega)))
  trivial

section
open PyProof.Rows.LCg PyProof.Rows.LCp
variable {prog : Program} {w : World} {A : Around} {s : Shared} {h₀ : Heap} {L : Addr} {m : Str → Option Value} {env : Env}
/-- pairs, by an invariant -/
theorem comp_invP {elt : Expr} {x x₂ : Str} {scope : Scope} {cl : List (Str × Addr)} {S : List (Addr × Obj) → Prop} {Fin : List Value → List (Addr × Obj) → Prop} {vs : List Value} {prs : List (Array UInt8 × Array UInt8)} {news : List (Addr × Obj)} (R : Nat → List Value → List (Addr × Obj) → Prop) (h0 : R 0 [] news)
    (hpr : ∀ i ys nx, R i ys nx → PairsIn nx vs prs)
    (turn : ∀ i q t1 t2 ys nx I oI C oC D m₂ h tk (E' : Value → Shared → Prop), i < vs.length → prs[i]? = some q → R i ys nx → NsObj oC m₂ → m₂ x = some (.bytes q.1 t1) → m₂ x₂ = some (.bytes q.2 t2) → Fr h₀ L h m → News h₀ L h ((I, oI) :: (C, oC) :: (D, lst ys) :: nx) → Off3 I C D nx → ((@Ne Nat I C) ∧ (@Ne Nat I D) ∧ (@Ne Nat C D)) →
      wpAny (model prog w) A (eval elt (compEnvC scope cl C env)) (CompEnd h₀ L m { s with heap := h, toks := tk } I oI C oC D (lst ys) S (fun y nx' => R (i + 1) (ys ++ [y]) nx')) E' { s with heap := h, toks := tk })
    (fin : ∀ ys nx, R vs.length ys nx → Fin ys nx) : CompRestP prog w A h₀ L m env elt x x₂ scope cl s S (fun i v => vs.toArray[i]? = some v) Fin vs.toArray.size 0 [] news := by
  have key : ∀ (j i : Nat) (ys : List Value) (nx : List (Addr × Obj)), i + j = vs.length → R i ys nx → CompRestP prog w A h₀ L m env elt x x₂ scope cl s S (fun i v => vs.toArray[i]? = some v) Fin j i ys nx := by
    intro j
    induction j with
    | zero =>
      intro i ys nx hi hr
      obtain rfl : i = vs.length := by (first | k_extra "ar" | lia | omega)
      exact CompRestP.zero (fin ys nx hr)
    | succ j ih =>
      intro i ys nx hi hr
      refine CompRestP.succ ?_
      intro v hv
      obtain ⟨q, hq, a9, t1, t2, rfl, hm⟩ := (hpr i ys nx hr).at (show vs[i]? = some v by simpa using hv)
      refine ⟨a9, _, _, _, 0, rfl, hm, rfl, rfl, ?_⟩
      intro I oI C oC D m₂ h tk E' hC hx hx2 F N off ne
      refine wpAny_mono (turn i q t1 t2 ys nx I oI C oC D m₂ h tk E' (by (first | k_extra "ar" | lia | omega)) hq hr hC hx hx2 F N off ne) (fun y s₂ hq => ?_) fun _ _ e => e
      obtain ⟨h', tk', nw, e, F', N', off', hS, hn⟩ := hq
      exact ⟨h', tk', nw, e, F', N', off', hS, ih (i + 1) _ _ (by (first | k_extra "ar" | lia | omega)) hn⟩
  rw [List.size_toArray]
  exact key vs.length 0 [] news (by (first | k_extra "ar" | lia | omega)) h0
end
def contentP (hs : List (Array UInt8 × Array UInt8)) (msg : Array UInt8) : Array UInt8 := Builtin.Bytes.joined #[] (hs.map fun q => rowOf q.1 q.2) ++ #[10] ++ msg
theorem rowsum {hs : List (Array UInt8 × Array UInt8)} (he : hs.length ≤ 100) (he2 : ∀ q ∈ hs, q.1.size ≤ 1000 ∧ q.2.size ≤ 1000) : ((hs.map fun q => rowOf q.1 q.2).map Array.size).sum ≤ 400000 := by
  have e2 : ∀ b ∈ hs.map (fun q => rowOf q.1 q.2), b.size ≤ 3002 := by
    intro b hb
    obtain ⟨c, hc, rfl⟩ := List.mem_map.mp hb
    have := he2 c hc
    have h2 := repl_size c.2
    have e : (#[32] : Array UInt8).size = 1 := rfl
    have e' : (#[10] : Array UInt8).size = 1 := rfl
    simp only [rowOf, Array.size_append, e, e']
    (first | k_extra "ar" | lia | omega)
  have g2 := sum_le (f := Array.size) e2
  rw [List.length_map] at g2
  have g4 := Nat.mul_le_mul_right 3002 he
  (first | k_extra "ar" | lia | omega)
section
variable {w : World} {dp un : Nat} {gd : Option (List Code)} {cn : Str} {cs : Scope} {a : Addr} {ccd : Value} {cl : List (Str × Addr)} {outer : List Env} {A₀ : Around} {base h₀ : Heap} {L : Addr} {m : Str → Option Value} {hp0 : Heap} {gs0 : Array GenState} {dr0 : Drawn} {tk0 : Nat} {os0 : OsState} {Q E : Value → Shared → Prop} {news : List (Addr × Obj)} {p : Program} {loose : List Str} {mean : ExcName → Option Value} {mg mb : Str → Option Value}

set_option maxHeartbeats 4000000 in
theorem c_law_content {H : Addr} {vs : List Value} {n : Nat} {hs : List (Array UInt8 × Array UInt8)} {msg : Array UInt8} {tm : Tok} (B : Below A₀ base outer h₀) (F : Fr h₀ L hp0 m) (X : (K w.params).In h₀) (N : News h₀ L hp0 news) (T : Top p loose mean mg mb h₀) (hk : cs.kind = .function)
   (hd : dp + 50 < recursionLimit) (hu : un + 600 < cLine) (hH : (H, W.listOf vs.toArray n) ∈ news) (hp : PairsIn news vs hs) (hl : hs.length ≤ 100) (hs2 : ∀ q ∈ hs, q.1.size ≤ 1000 ∧ q.2.size ≤ 1000) (hm : msg.size ≤ 1000)
  (h1 : ∀ t h' tk', Fr h₀ L h' m → News h₀ L h' news → Q (.bytes (contentP hs msg) t) (Shared.mk h' gs0 dr0 tk' os0)) :
  wpAny (model PR w) (ktrTop dp un gd cn cs L a ccd cl outer) (call (.ref (nat_lit 311)) [.ref H, .bytes msg tm]) Q E (Shared.mk hp0 gs0 dr0 tk0 os0) := by
  have hvl := hp.length
  refine wpAny_call ?_
  k_dflt cell_enter
  repeat' (first | ((fail_if_success (with_reducible show wpAny _ _ (exec (Stmt.Assign _ (Expr.ListComp _ _ _ _) _) _) _ _ _)); first | (k_unfold; (try dsimp only)) | (k_end; wrow_close) | walk1 | (dsimp only; walk1) | (leave1; try dsimp only)))
  refine LCp.Assign_ListComp_P (F₀ := by k_asm) (by rfl) (by with_unfolding_all rfl) (by with_unfolding_all rfl) (by decide) (by rfl) (by decide) (by rfl) (by rfl) (by decide) (by rfl) (by rfl) ?_
  repeat' (first | ((fail_if_success (with_reducible show LCg.CompSrc _ _ _ _ _ _ _ _ _ _ _ _ _ _)); (fail_if_success (with_reducible show LCp.SrcLP _ _ _ _ _ _ _ _ _ _ _ _ _ _ _)); first | (k_unfold; (try dsimp only)) | (k_end; wrow_close) | walk1 | (dsimp only; walk1) | (leave1; try dsimp only)))
  refine LCp.SrcLP.ledger rfl (by k_asm) (by k_asm) hH (by rw [PySem.sizeLine_eq, List.size_toArray]; (first | k_extra "ar" | lia | omega)) fun g => ?_
  refine comp_invP (R := fun i ys nx => nx = _ ∧ BytesAre ys ((hs.take i).map fun q => rowOf q.1 q.2)) ⟨rfl, .nil⟩ (fun i ys nx h => by rw [h.1]; exact hp) ?_ ?_
  · rintro i q t1 t2 ys nx I oI C oC D m₂ h tk E' hi9 hq ⟨rfl, hy⟩ hC hx hx2 F1 N1 off ne
    have hqs := hs2 q (List.mem_of_getElem? hq)
    have hrs := repl_size q.2
    repeat' (first | ((fail_if_success (with_reducible show wpAny _ _ (call (Value.builtin "bytes.replace") _) _ _ _)); first | (k_unfold; (try dsimp only)) | (k_end; wrow_close) | walk1 | (dsimp only; walk1) | (leave1; try dsimp only)))
    refine replace_bytes (by decide) (repl_h1 (v := q.2) (r := #[10, 32]) (c := 10) (by (first | k_extra "ar" | lia | omega)) (by decide)) (repl_h2 (v := q.2) (r := #[10, 32]) (c := 10) (by (first | k_extra "ar" | lia | omega)) (by decide)) ?_
    intro tR kR
    refine add_my (by (first | k_extra "ar" | lia | omega)) ?_
    intro tX kX zX
    repeat' (first | ((fail_if_success (with_reducible show wpAny _ _ (binaryOp _ _ _) _ _ _)); first | (k_unfold; (try dsimp only)) | (k_end; wrow_close) | walk1 | (dsimp only; walk1) | (leave1; try dsimp only)))
    refine add_my (by rw [show (#[10] : Array UInt8).size = 1 from rfl]; (first | k_extra "ar" | lia | omega)) ?_
    intro tX2 kX2 zX2
    show LCg.CompEnd _ _ _ _ _ _ _ _ _ _ _ _ _ _
    refine LCg.CompEnd.intro (by k_asm) (by k_asm) _ (fun _ h => h) off (.inr ⟨W.listOf vs.toArray n, hH, rfl, _, rfl⟩) ⟨rfl, ?_⟩
    rw [take_snoc hq, List.map_append]
    exact bytes_snoc hy
  · rintro ys nx ⟨rfl, hy⟩
    rw [hvl, List.take_length] at hy
    have hsm := rowsum hl hs2
    unfold LCg.FinA
    intro D h tk F1 N1 o1
    repeat' (first | ((fail_if_success (with_reducible show wpAny _ _ (call (Value.builtin _) [Value.bytes _ _, Value.ref _]) _ _ _)); first | (k_unfold; (try dsimp only)) | (k_end; wrow_close) | walk1 | (dsimp only; walk1) | (leave1; try dsimp only)))
    refine join_bytes (News.isList (by k_asm) (by k_mem)) hy (by rw [show (#[] : Array UInt8).size = 0 from rfl]; (first | k_extra "ar" | lia | omega)) (by rw [joined_size]; (first | k_extra "ar" | lia | omega)) ?_
    have hjs := joined_size (hs.map fun q => rowOf q.1 q.2)
    intro tJ kJ
    repeat' (first | ((fail_if_success (with_reducible show wpAny _ _ (binaryOp _ _ _) _ _ _)); first | (k_unfold; (try dsimp only)) | (k_end; wrow_close) | walk1 | (dsimp only; walk1) | (leave1; try dsimp only)))
    refine add_my (by rw [joined_size, show (#[10] : Array UInt8).size = 1 from rfl]; (first | k_extra "ar" | lia | omega)) ?_
    intro tX kX zX
    repeat' (first | ((fail_if_success (with_reducible show wpAny _ _ (binaryOp _ _ _) _ _ _)); first | (k_unfold; (try dsimp only)) | (k_end; wrow_close) | walk1 | (dsimp only; walk1) | (leave1; try dsimp only)))
    refine add_my (by rw [Array.size_append, joined_size, show (#[10] : Array UInt8).size = 1 from rfl]; (first | k_extra "ar" | lia | omega)) ?_
    intro tX2 kX2 zX2
    clear hsm hjs zX zX2
    k_steps
    all_goals exact h1 _ _ _ (by assumption) (cb_drop (by assumption) (fun q hq => List.mem_cons_of_mem _ hq))
end
theorem reg_c_law_content : True := by
  k_with "call ref" => (k_here; (with_reducible show wpAny _ _ (call (Value.ref (nat_lit 311)) _) _ _ _); k_dflt (refine' c_law_content ?kB ?kF ?kX ?kN ?kT ?kk ?kd ?ku ?hH ?hp ?hl ?hs2 ?hm ?_; (case kB => k_asm); (case kF => k_asm); (case kX => k_in); (case kN => k_asm); (case kT => k_asm); (case kk => first | with_reducible assumption | exact rfl); (case kd => ktr_room); (case ku => ktr_room); (case hH => assumption); (case hp => assumption); (case hl => (first | k_extra "ar" | lia | omega)); (case hs2 => assumption); (case hm => (first | k_extra "ar" | lia | omega)); k_whole); intro tXzz hXzz tkXzz FXzz NXzz)
  trivial


section
open PyProof.Rows.LCg PyProof.Rows.LCp
variable {prog : Program} {w : World} {A : Around} {E : Value → Shared → Prop} {s : Shared} {h₀ : Heap} {L : Addr} {m : Str → Option Value} {env : Env}
/-- one turn of a comprehension over pairs with a test -/
def TurnPT (prog : Program) (w : World) (A : Around) (h₀ : Heap) (L : Addr) (m : Str → Option Value) (env : Env) (ct elt : Expr) (x x₂ : Str) (scope : Scope) (cl : List (Str × Addr)) (s : Shared) (prs : List (Array UInt8 × Array UInt8)) (R : Nat → List Value → List (Addr × Obj) → Prop) : Prop :=
  ∀ i q t1 t2 ys nx I oI C oC D m₂ h tk (E' : Value → Shared → Prop), prs[i]? = some q → R i ys nx → NsObj oC m₂ → m₂ x = some (.bytes q.1 t1) → m₂ x₂ = some (.bytes q.2 t2) → Fr h₀ L h m → News h₀ L h ((I, oI) :: (C, oC) :: (D, lst ys) :: nx) → Off3 I C D nx → ((@Ne Nat I C) ∧ (@Ne Nat I D) ∧ (@Ne Nat C D)) →
    wpAny (model prog w) A (isTrue ct (compEnvC scope cl C env) (eval ct (compEnvC scope cl C env))) (fun ok s' => if ok = true then
        wpAny (model prog w) A (eval elt (compEnvC scope cl C env)) (CompEnd h₀ L m { s with heap := h, toks := tk } I oI C oC D (lst ys) (fun _ => True) (fun y nx' => R (i + 1) (ys ++ [y]) nx')) E' s'
      else CompEnd h₀ L m { s with heap := h, toks := tk } I oI C oC D (lst ys) (fun _ => True) (fun _ nx' => R (i + 1) ys nx') Value.none s') E' { s with heap := h, toks := tk }
theorem loopPT {ct elt iter : Expr} {elts : List Expr} {x1} {tp : Pos} {scope : Scope} {pos : Pos} {it acc : Value} {env : Env} {R : Result → Shared → Prop} (I : Nat → Shared → Prop)
    (turn : ∀ n s, I n s → wpAny (model prog w) A (pyNext it) (fun r s₁ => match r with
      | none => R (.ok .next) s₁
      | some v => wpAny (model prog w) A (letOwnedTupleGo (.Tuple elts x1 tp) it v) (fun _ s₁' => wpAny (model prog w) A (assign (.Tuple elts x1 tp) env v) (fun _ s₂ =>
          wpAny (model prog w) A (isTrue ct env (eval ct env)) (fun ok s₃ => if ok = true then wpAny (model prog w) A (eval elt env) (fun x s₄ =>
              wpAny (model prog w) A (call (.builtin "list.append") [acc, x]) (fun _ s₅ => ∃ m, m < n ∧ I m s₅) (notedBy (model prog w) A env fun e s' => R (.error e) s') s₄) (notedBy (model prog w) A env fun e s' => R (.error e) s') s₃
            else ∃ m, m < n ∧ I m s₃) (notedBy (model prog w) A env fun e s' => R (.error e) s') s₂)
          (notedBy (model prog w) A env fun e s' => R (.error e) s') s₁') (notedBy (model prog w) A env fun e s' => R (.error e) s') s₁) (notedBy (model prog w) A env fun e s' => R (.error e) s') s)
    (n : Nat) (h : I n s) : codeAny (model prog w) A (.compLoop (.ListComp elt [⟨.Tuple elts x1 tp, iter, [ct], 0⟩] scope pos) 0 it acc env) R s := by
  refine codeAny_loop rfl I (fun n s hI => ?_) n h
  show wpAny _ A ((compTurn (.ListComp elt [⟨.Tuple elts x1 tp, iter, [ct], 0⟩] scope pos) 0 it acc env).onRaise (fun x => do noteFrame x env; theTreesLotGoes x)) _ _ s
  refine wpAny_noted ?_
  rw [compTurn_list]
  refine wpAny_bind (wpAny_standAt (wpAny_bind (wpAny_mono (turn n s hI) (fun r s₁ h₁ => ?_) fun _ _ h' => h')))
  cases r with
  | none => exact wpAny_pure h₁
  | some v =>
    refine wpAny_bind (wpAny_mono h₁ (fun _ s₁' h₁' => ?_) fun _ _ h' => h')
    refine wpAny_bind (wpAny_mono h₁' (fun _ s₂ h₂ => wpAny_bind (wpAny_mono (wpAny_tests_one h₂) (fun ok s₃ h₃ => ?_) fun _ _ h' => h')) fun _ _ h' => h')
    cases ok with
    | false => exact wpAny_pure ⟨rfl, by simpa using h₃⟩
    | true => exact wpAny_bind (wpAny_bind (wpAny_mono (by simpa using h₃) (fun x s₄ h₄ => wpAny_bind (wpAny_mono h₄ (fun _ s₅ h₅ => wpAny_pure (wpAny_pure ⟨rfl, h₅⟩)) fun _ _ h' => h')) fun _ _ h' => h'))
theorem ListComp_PT {ct elt iter : Expr} {x x₂ : Str} {px px₂ tp : Pos} {kk} {scope : Scope} {cl : List (Str × Addr)} {pos : Pos} {Q : Value → Shared → Prop} {l : Addr} {vs : List Value} {nn : Nat} {prs : List (Array UInt8 × Array UInt8)} (_F₀ : Fr h₀ L s.heap m) (R : Nat → List Value → List (Addr × Obj) → Prop)
    (hclos : closureFor scope env = pure cl) (hcell : ∀ y ∈ scope.names, y.2 ≠ .cell) (hkind : scope.kind = .function)
    (hnames : ∀ y ∈ scope.names, y.2 = .local → scope.names.lookup y.1 = some .local) (hx : scope.names.lookup x = some .local) (hx₂ : scope.names.lookup x₂ = some .local) (hxx : x ≠ x₂)
    (hR : ∀ i ys nx, R i ys nx → (l, W.listOf vs.toArray nn) ∈ nx ∧ PairsIn nx vs prs) (hsz : vs.length ≤ sizeLine) (hh : A.handled = none)
    (h : wpAny (model prog w) A (eval iter env) (fun xv s₁ => xv = .ref l ∧ ∃ news, Fr h₀ L s₁.heap m ∧ News h₀ L s₁.heap news ∧ R 0 [] news ∧
      ∀ s₂ : Shared, (∃ h, s₂ = { s₁ with heap := h }) → TurnPT prog w A h₀ L m env ct elt x x₂ scope cl s₂ prs R ∧ ∀ ys nx, R vs.length ys nx → FinE h₀ L m s₂ Q ys nx) E s)
    (hs : ∀ x, foldedSetIterable iter env x = pure x := by intro _; rfl) :
    wpAny (model prog w) A (eval (.ListComp elt [⟨.Tuple [.Name x px, .Name x₂ px₂] kk tp, iter, [ct], 0⟩] scope pos) env) Q E s := by
  rw [eval_ListComp]
  refine wpAny_comprehension_free (use := none) rfl hs hclos hkind hnames (wpAny_mono h (fun xv s₁ h₁ => ?_) fun _ _ e => e)
  obtain ⟨rfl, news, F, N, hR0, hT⟩ := h₁
  have hol := (N _ (hR _ _ _ hR0).1).1
  have hls : s₁.heap.IsList l vs.toArray := ⟨_, hol, rfl, nn, rfl⟩
  have hlt : l < s₁.heap.objs.size := Heap.lt_size hol
  refine wpAny_pyIter_list hls ?_
  have up : ∀ b o, s₁.heap.get? b = some o → (s₁.heap.push { cls := .type "list_iterator", data := .fields #[.ref l, .int 0 0] }).get? b = some o := fun b o e => Heap.get?_push_of_some _ e
  obtain ⟨turn, fin⟩ := hT { s₁ with heap := s₁.heap.push { cls := .type "list_iterator", data := .fields #[.ref l, .int 0 0] } } ⟨_, rfl⟩
  have F₂ := F.keeps up
  have N₂ := N.grown up
  have hI₀ := next_is_new F
  have hIL : L ≠ s₁.heap.objs.size := Nat.ne_of_lt F.ns.lt
  have offI : ∀ p ∈ news, @Ne Nat p.1 s₁.heap.objs.size := fun p hp => Nat.ne_of_lt (Heap.lt_size (N p hp).1)
  have hstI : (s₁.heap.push { cls := .type "list_iterator", data := .fields #[.ref l, .int 0 0] }).IsListIter s₁.heap.objs.size l 0 := ⟨_, Heap.get?_push_size _ rfl, rfl, rfl⟩
  have hsz2 : (s₁.heap.push { cls := .type "list_iterator", data := .fields #[.ref l, .int 0 0] }).objs.size = s₁.heap.objs.size + 1 := Heap.size_push ..
  obtain ⟨I, hIe⟩ : ∃ I, I = s₁.heap.objs.size := ⟨_, rfl⟩
  obtain ⟨H1, hH1⟩ : ∃ H1, H1 = s₁.heap.push { cls := .type "list_iterator", data := .fields #[.ref l, .int 0 0] } := ⟨_, rfl⟩
  rw [← hH1, ← hIe] at hstI
  rw [← hIe] at hI₀ hIL offI hsz2
  rw [← hH1] at turn fin F₂ N₂ hsz2 ⊢
  rw [← hIe]
  have hlI : @LT.lt Nat _ l I := by rw [hIe]; exact hlt
  clear up hls hol hlt F N
  refine wpAny_newObj_type (wpAny_newFunctionEnv hcell (by intro y hy; simp at hy) (fun h₁ hns₁ hsb₁ => ?_) hkind)
  dsimp only at hns₁ hsb₁ ⊢
  obtain ⟨H2, hH2⟩ : ∃ H2, H2 = H1.push { cls := .type "list", dict := none, data := .seq ([] : List Value).toArray } := ⟨_, rfl⟩
  rw [← hH2] at hns₁ hsb₁ ⊢
  have hC : H2.objs.size = H1.objs.size + 1 := by rw [hH2, Heap.size_push]
  have hDC : @Ne Nat H1.objs.size H2.objs.size := by rw [hC]; exact Nat.ne_of_lt (Nat.lt_succ_self _)
  have old : ∀ b o, H1.get? b = some o → h₁.get? b = some o := fun b o e => hsb₁.extBut b o (by have : @LT.lt Nat _ b H1.objs.size := Heap.lt_size e; show @Ne Nat b H2.objs.size; (first | k_extra "ar" | lia | omega)) (Heap.get?_push_of_some _ (by rw [hH2]; exact Heap.get?_push_of_some _ e))
  have hacc : h₁.get? H1.objs.size = some (lst []) := hsb₁.extBut _ _ hDC (Heap.get?_push_of_some _ (by rw [hH2]; exact Heap.get?_push_size _ rfl))
  have fresh₀ : ∀ a, @LE.le Nat _ H1.objs.size a → h₀.get? a = none := fun a ha => by
    cases e : h₀.get? a with
    | none => rfl
    | some o' => exact absurd (Heap.lt_size (F₂.keep a o' e)) (Nat.not_lt.mpr ha)
  have hD₀ := fresh₀ H1.objs.size (Nat.le_refl _)
  have hC₀ := fresh₀ H2.objs.size (by rw [hC]; exact Nat.le_succ _)
  have hLlt : @LT.lt Nat _ L H1.objs.size := F₂.ns.lt
  have hIlt : @LT.lt Nat _ I H1.objs.size := by rw [hsz2]; exact Nat.lt_succ_self _
  have hDL : @Ne Nat H1.objs.size L := Nat.ne_of_gt hLlt
  have hCL : @Ne Nat H2.objs.size L := by (first | k_extra "ar" | lia | omega)
  have hIC : @Ne Nat I H2.objs.size := by (first | k_extra "ar" | lia | omega)
  have hID : @Ne Nat I H1.objs.size := Nat.ne_of_lt hIlt
  have offN : ∀ p ∈ news, @Ne Nat p.1 I ∧ @Ne Nat p.1 H2.objs.size ∧ @Ne Nat p.1 H1.objs.size := fun p hp => by
    have : @LT.lt Nat _ p.1 H1.objs.size := Heap.lt_size (N₂ p hp).1
    exact ⟨offI p hp, by show @Ne Nat p.1 H2.objs.size; (first | k_extra "ar" | lia | omega), Nat.ne_of_lt this⟩
  obtain ⟨D, hDe⟩ : ∃ D, D = H1.objs.size := ⟨_, rfl⟩
  obtain ⟨C, hCe⟩ : ∃ C, C = H2.objs.size := ⟨_, rfl⟩
  rw [← hDe] at hacc hD₀ hDL hID hDC offN
  rw [← hCe] at hC₀ hCL hIC hDC offN hns₁
  have loop : ∀ s₃ : Shared, (∃ tk, s₃ = { s₁ with heap := h₁, toks := tk }) →
      codeAny (model prog w) A (.compLoop (.ListComp elt [⟨.Tuple [.Name x px, .Name x₂ px₂] kk tp, iter, [ct], 0⟩] scope pos) 0 (.ref I) (.ref D) (compEnvC scope cl C env))
        (compPost (model prog w) A E none Q (.ref D) C) s₃ := by
    rintro s₃ ⟨tk₀, rfl⟩
    have W := Walks.list (prog := prog) (w := w) hh I l (Nat.ne_of_lt hlI) vs.toArray
    refine loopPT
      (fun k s' => ∃ h' tk i ys m' nx, s' = { s₁ with heap := h', toks := tk } ∧ i ≤ vs.length ∧ k = vs.length + 1 - i ∧ ys.length ≤ i ∧ h'.IsListIter I l i ∧ Fr h₀ L h' m ∧ h'.Ns C m' ∧ News h₀ L h' ((D, lst ys) :: nx) ∧
        Off3 I C D nx ∧ R i ys nx) ?_ (vs.length + 1)
      ⟨h₁, tk₀, 0, [], _, news, rfl, Nat.zero_le _, rfl, Nat.le_refl _, ⟨_, old _ _ (hstI.choose_spec.1), hstI.choose_spec.2⟩, F₂.keeps old, hns₁, fun p hp => ?_, Off3.of fun p hp => offN p hp, hR0⟩
    · rintro k s' ⟨h', tk, i, ys, m', nx, rfl, hi, rfl, hyl, hst', F', hn', N', off', hR'⟩
      have hlN := (N' _ (List.mem_cons_of_mem _ (hR _ _ _ hR').1)).1
      have hls : h'.IsList l vs.toArray := ⟨_, hlN, rfl, nn, rfl⟩
      have off3 := off'.mem
      have next : ∀ h₂ : Heap, (∀ b o, b ∉ [I] → h'.get? b = some o → h₂.get? b = some o) → Fr h₀ L h₂ m ∧ News h₀ L h₂ ((D, lst ys) :: nx) ∧ h₂.Ns C m' := fun h₂ hk₂ =>
        ⟨fr_but F' hk₂ hIL hI₀, news_but N' hk₂ fun p hp => by
          rcases List.mem_cons.mp hp with rfl | hp
          · exact fun e => hID e.symm
          · exact (off3 p hp).1, hn'.at' fun o e => hk₂ _ o (by simpa using fun e => hIC e.symm) e⟩
      by_cases hlt : i < vs.length
      · refine W.item i _ _ _ (by simpa using hlt) ⟨hst', hls⟩ fun v h₂ tk₂ hPv hst₂ hk₂ => ?_
        obtain ⟨F₃, N₃, hn₃⟩ := next h₂ hk₂
        obtain ⟨q, hq, a9, t1, t2, rfl, hm⟩ := (hR _ _ _ hR').2.at (show vs[i]? = some v by simpa using hPv)
        have ht : IsTup h₂ a9 #[Value.bytes q.1 t1, Value.bytes q.2 t2] := ⟨_, (N₃ _ (List.mem_cons_of_mem _ hm)).1, rfl, _, rfl⟩
        refine wpAny_letOwnedTupleGo_listiter hst₂.1 ?_
        refine assign_Tuple_tuple hh ht rfl rfl fun h₅ he => ?_
        have he' : ∀ b o, h₂.get? b = some o → h₅.get? b = some o := fun b o e => he b o (Nat.ne_of_lt (Heap.lt_size e)) e
        refine assignInOrder_cons (wpAny_assign_Name (wpAny_storeName_local (lookup_relabel_local hx) (hn₃.at' fun o e => he' _ o e) (fun h₆ hn₆ hs₆ => ?_) (by simp [compEnvC, relabel, hkind])))
        refine assignInOrder_cons (wpAny_assign_Name (wpAny_storeName_local (lookup_relabel_local hx₂) hn₆ (fun h₇ hn₇ hs₇ => ?_) (by simp [compEnvC, relabel, hkind])))
        refine assignInOrder_nil ?_
        have old7 : ∀ b o, @Ne Nat b C → h₂.get? b = some o → h₇.get? b = some o := fun b o hb e => hs₇.extBut b o hb (hs₆.extBut b o hb (he' b o e))
        obtain ⟨oI, heI, rI⟩ := hst₂.1
        have heI7 := old7 _ _ hIC heI
        obtain ⟨oC, heC, hoC⟩ := ns_obj hn₇
        have F₇ : Fr h₀ L h₇ m := ((F₃.keeps he').change hs₆ hCL hC₀).change hs₇ hCL hC₀
        have N₇ : News h₀ L h₇ ((I, oI) :: (C, oC) :: (D, lst ys) :: nx) := fun p hp => by
          rcases List.mem_cons.mp hp with rfl | hp
          · exact ⟨heI7, fun e => hIL e.symm, hI₀⟩
          · rcases List.mem_cons.mp hp with rfl | hp
            · exact ⟨heC, hCL, hC₀⟩
            · have z := N₃ p hp
              refine ⟨old7 _ _ ?_ z.1, z.2⟩
              rcases List.mem_cons.mp hp with rfl | hp
              · exact hDC
              · exact (off3 p hp).2.1
        refine wpAny_mono (turn i q t1 t2 ys nx I oI C oC D _ h₇ _ _ hq hR' hoC (by simp [hxx]) (by simp) F₇ N₇ off' ⟨hIC, hID, fun e => hDC e.symm⟩) (fun ok s₄ h₄ => ?_) fun _ _ e => e
        cases ok with
        | true =>
          simp only [if_true] at h₄ ⊢
          refine wpAny_mono h₄ (fun y s₅ h₅ => ?_) fun _ _ e => e
          obtain ⟨h₈, tk₈, nx₈, rfl, F₈, N₈, off₈, -, R₈⟩ := h₅
          have zI := (N₈ (I, oI) List.mem_cons_self).1
          have zC := (N₈ (C, oC) (List.mem_cons_of_mem _ List.mem_cons_self)).1
          have zD := (N₈ (D, lst ys) (List.mem_cons_of_mem _ (List.mem_cons_of_mem _ List.mem_cons_self))).1
          have off8 := off₈.mem
          refine append_at (hsz := by show ys.toArray.size ≤ sizeLine; rw [List.size_toArray]; (first | k_extra "ar" | lia | omega)) zD fun h₉ hs₉ hD₉ => ?_
          refine ⟨vs.length + 1 - (i + 1), by (first | k_extra "ar" | lia | omega), h₉, tk₈, i + 1, ys ++ [y], _, nx₈, rfl, hlt, rfl, by rw [List.length_append, List.length_singleton]; (first | k_extra "ar" | lia | omega), ⟨oI, hs₉.extBut _ _ hID zI, rI⟩, F₈.change hs₉ hDL hD₀, (hoC.ns zC).sameBut hs₉ (fun e => hDC e.symm), fun p hp => ?_, off₈, R₈⟩
          rcases List.mem_cons.mp hp with rfl | hp
          · exact ⟨hD₉.trans (congrArg some (lst_snoc ys y)), hDL, hD₀⟩
          · have z := N₈ p (List.mem_cons_of_mem _ (List.mem_cons_of_mem _ (List.mem_cons_of_mem _ hp)))
            exact ⟨hs₉.extBut _ _ (off8 p hp).2.2 z.1, z.2⟩
        | false =>
          simp only [Bool.false_eq_true, if_false] at h₄ ⊢
          obtain ⟨h₈, tk₈, nx₈, rfl, F₈, N₈, off₈, -, R₈⟩ := h₄
          have zI := (N₈ (I, oI) List.mem_cons_self).1
          have zC := (N₈ (C, oC) (List.mem_cons_of_mem _ List.mem_cons_self)).1
          exact ⟨vs.length + 1 - (i + 1), by (first | k_extra "ar" | lia | omega), h₈, tk₈, i + 1, ys, _, nx₈, rfl, hlt, rfl, Nat.le_succ_of_le hyl, ⟨oI, zI, rI⟩, F₈, hoC.ns zC, fun p hp => N₈ p (List.mem_cons_of_mem _ (List.mem_cons_of_mem _ hp)), off₈, R₈⟩
      · obtain rfl : i = vs.length := Nat.le_antisymm hi (Nat.not_lt.mp hlt)
        refine W.done _ _ _ (by simpa using (⟨hst', hls⟩ : _ ∧ _)) fun h₂ tk₂ hk₂ => ?_
        obtain ⟨F₃, N₃, hn₃⟩ := next h₂ hk₂
        refine ⟨m', hn₃, fun h'' hs'' => fin ys nx hR' D h'' tk₂ (F₃.change hs'' hCL hC₀) (fun p hp => ?_) off'.one⟩
        refine ⟨hs''.extBut _ _ ?_ (N₃ p hp).1, (N₃ p hp).2⟩
        rcases List.mem_cons.mp hp with rfl | hp
        · exact hDC
        · exact (off3 p hp).2.1
    · rcases List.mem_cons.mp hp with rfl | hp
      · exact ⟨hacc, hDL, hD₀⟩
      · exact ⟨old _ _ (N₂ p hp).1, (N₂ p hp).2⟩
  rw [← hDe, ← hCe]
  exact codeAny_compStart_list (loop _ ⟨_, rfl⟩) ((Walks.list (prog := prog) (w := w) hh I l (Nat.ne_of_lt hlI) vs.toArray).self 0 _ _ _ ⟨⟨_, old _ _ (hstI.choose_spec.1), hstI.choose_spec.2⟩, ⟨_, old _ _ (N₂ _ (hR _ _ _ hR0).1).1, rfl, nn, rfl⟩⟩ (loop _ ⟨_, rfl⟩))
end


theorem reg_fold_LBE : True := by
  k_with "execs cons" => (k_here; (try k_fold); (with_reducible refine wpAny_execs_cons ?_); (try dsimp only); (try k_fold))
  k_with "cell_enter" => ((refine' code_def ?k1 ?k2 ?k3 ?k4 ?k5 ?kA ?kF ?kK ?k6 ?k7 ?k8 ?k9 ?kB ?_ ?c2 ?c3 ?c4 ?c5; (case kA => exact rfl); (case kF => exact rfl); (case kK => assumption); (case k1 => k_asm); (case k2 => k_asm); (case k3 => k_asm); (case k4 => k_asm); (case k5 => k_asm); (case k6 => k_is); (case k7 => k_is); (case k8 => ktr_room); (case k9 => first | exact BindsTo.of_eq rfl | exact binds_K (by k_in) rfl (by k_is) rfl rfl rfl); (case c5 => decide); (case kB => exact locs rfl); (case c2 => exact rfl); (case c3 => exact rfl); (case c4 => exact rfl); k_whole; intro g'zz L'zz h'zz FG'zz F'zz N'zz B'zz X'zz T'zz; (try dsimp only); (try k_lift B'zz); (try (refine withFrame (P := fun z => wpAny _ z _ _ _ _) _ ?_; intro Azz; (try dsimp only))); (try k_fold)))
  trivial

def isPar (q : Array UInt8 × Array UInt8) : Bool := q.1.toList == [112, 97, 114, 101, 110, 116]
/-- what a bend makes of the heads -/
inductive Bent (a : Nat) (hs : List (Array UInt8 × Array UInt8)) : List (Array UInt8 × Array UInt8) → Prop
  | gone (j : Nat) : j = 0 ∨ j = a ∨ j = a + 1 → Bent a hs (hs.take j ++ hs.drop (j + 1))
  | twice (j : Nat) : j = 0 ∨ j = a → Bent a hs (hs.take (j + 1) ++ hs.drop j)
  | swap (i j : Nat) (p q : Array UInt8 × Array UInt8) : (i = a ∧ j = a + 1) ∨ (i = a ∧ j = 0) → hs[i]? = some p → hs[j]? = some q → Bent a hs ((hs.set i q).set j p)
  | id (j : Nat) (q : Array UInt8 × Array UInt8) (v : Array UInt8) : j < a → hs[j]? = some q → v ∈ [q.2.extract 0 (q.2.size - 1), q.2 ++ #[48], q.2.extract 0 (q.2.size - 1) ++ #[65], q.2.extract 0 (q.2.size - 1) ++ #[103], q.2.extract 0 (q.2.size - 2), #[]] → Bent a hs (hs.set j (q.1, v))
  | person (j : Nat) (q : Array UInt8 × Array UInt8) : j = a ∨ j = a + 1 → hs[j]? = some q → Bent a hs (hs.set j (q.1, q.2.extract 0 (q.2.size - 6)))
theorem pairs_set {nw : List (Addr × Obj)} {vs : List Value} {ps : List (Array UInt8 × Array UInt8)} {v : Value} {q : Array UInt8 × Array UInt8} (h : PairsIn nw vs ps) (hq : PairIn nw v q) : ∀ i, PairsIn nw (vs.set i v) (ps.set i q) := by
  induction h with
  | nil => intro i; exact .nil
  | cons h1 h2 ih =>
    intro i
    cases i with
    | zero => exact .cons hq h2
    | succ i => exact .cons h1 (ih i)
theorem n_pick {h₀ h : Heap} {L : Addr} {x a d l b : Addr × Obj} {r : List (Addr × Obj)} (N : News h₀ L h (x :: a :: d :: l :: b :: r)) : News h₀ L h (d :: l :: x :: b :: r) := cb_drop N (by (repeat' (first | exact List.forall_mem_nil _ | (with_reducible refine List.forall_mem_cons.mpr ?_; refine ⟨by k_mem, ?_⟩))); all_goals (intro qz hz; repeat (first | (with_reducible exact hz) | refine List.mem_cons_of_mem _ ?_)))
theorem n_back {h₀ h : Heap} {L : Addr} {x d l b : Addr × Obj} {r : List (Addr × Obj)} (N : News h₀ L h (d :: l :: x :: b :: r)) : News h₀ L h (x :: b :: r) := cb_drop N (by (repeat' (first | exact List.forall_mem_nil _ | (with_reducible refine List.forall_mem_cons.mpr ?_; refine ⟨by k_mem, ?_⟩))); all_goals (intro qz hz; repeat (first | (with_reducible exact hz) | refine List.mem_cons_of_mem _ ?_)))
theorem sub_lb {prog : Program} {w : World} {A : Around} {E : Value → Shared → Prop} {s : Shared} {value slice : PySem.Expr} {D : Addr} {vs : List Value} {bs : List (Array UInt8)} {k : Int} {u : Tok} {Q : Value → Shared → Prop} (hl : s.heap.IsList D vs.toArray) (hv : BytesAre vs bs) (h0 : 0 ≤ k) (hk : k < (bs.length : Int)) (hhi : k < 9223372036854775808) (h : ∀ b t', b ∈ bs → Q (.bytes b t') s)
    (hs : subscripted slice false (.ref D) (.int k u) = operate [.ref D, .int k u] (getItem (.ref D) (.int k u)) := by with_unfolding_all rfl) :
    wpAny (model prog w) A (subscriptTail value slice (.ref D) (.int k u)) Q E s := by
  have hl2 := hv.length
  obtain ⟨x, hx⟩ : ∃ x, vs[k.toNat]? = some x := ⟨_, List.getElem?_eq_getElem (by (first | k_extra "ar" | lia | omega))⟩
  obtain ⟨b, t', rfl, hb⟩ := bytes_at hv hx
  exact sub_at hl h0 hhi hx (h b t' (List.mem_of_getElem? hb)) hs
theorem set_pair {prog : Program} {w : World} {A : Around} {E : Value → Shared → Prop} {s : Shared} {h₀ : Heap} {L T B : Addr} {m : Str → Option Value} {news : List (Addr × Obj)} {x : Addr × Obj} {vs : List Value} {n j : Nat} {a b : Array UInt8} {t u tj : Tok} {hs : List (Array UInt8 × Array UInt8)} {Q : Unit → Shared → Prop} {P R : Prop}
    (F : Fr h₀ L s.heap m) (N : News h₀ L s.heap ((T, ({ cls := .type "tuple", data := .seq [Value.bytes a t, Value.bytes b u].toArray } : Obj)) :: x :: (B, W.listOf vs.toArray n) :: news)) (hT : P ∧ @LT.lt Nat _ B T ∧ R) (off : ∀ q ∈ news, @Ne Nat q.1 B) (hp : PairsIn news vs hs) (hj : j < vs.length) (hz : vs.length ≤ 10000)
    (h : ∀ h' tl vs' n', Fr h₀ L h' m → News h₀ L h' ((B, W.listOf vs'.toArray n') :: (tl ++ news)) → PairsIn (tl ++ news) vs' (hs.set j (a, b)) → Q () { s with heap := h' }) :
    wpAny (model prog w) A (setItem (.ref B) (.int (j : Int) tj) (.ref T)) Q E s := by
  refine set_at F (cb_drop (news := (B, W.listOf vs.toArray n) :: (T, ({ cls := .type "tuple", data := .seq [Value.bytes a t, Value.bytes b u].toArray } : Obj)) :: news) N fun q hq => ?_) (Upd.head (List.forall_mem_cons.mpr ⟨Nat.ne_of_gt hT.2.1, off⟩)) (by (first | k_extra "ar" | lia | omega)) (by (first | k_extra "ar" | lia | omega)) (by (first | k_extra "ar" | lia | omega)) fun h' F' N' => h h' [_] _ n F' N' ?_
  · simp only [List.mem_cons] at hq ⊢
    rcases hq with h | h | h <;> simp [h]
  · rw [show (j : Int).toNat = j by (first | k_extra "ar" | lia | omega)]
    exact pairs_set (hp.mono fun q hq => List.mem_cons_of_mem _ hq) (q := (a, b)) ⟨T, t, u, rfl, List.mem_cons_self ..⟩ j
theorem three_at {a1 : Nat} {t1 t2 t3 : Tok} {r : Int} (h0 : 0 ≤ r) (h9 : r < 3) : ∃ (j : Nat) (t : Tok), [Value.int 0 t1, Value.int (a1 : Int) t2, Value.int ((a1 : Int) + 1) t3][r.toNat]? = some (Value.int (j : Int) t) ∧ (j = 0 ∨ j = a1 ∨ j = a1 + 1) := by
  have : r.toNat = 0 ∨ r.toNat = 1 ∨ r.toNat = 2 := by (first | k_extra "ar" | lia | omega)
  rcases this with e | e | e <;> rw [e]
  · exact ⟨0, _, rfl, .inl rfl⟩
  · exact ⟨a1, _, rfl, .inr (.inl rfl)⟩
  · exact ⟨a1 + 1, _, rfl, .inr (.inr rfl)⟩
theorem two_at {a1 : Nat} {t1 t2 : Tok} {r : Int} (h0 : 0 ≤ r) (h9 : r < 2) : ∃ (j : Nat) (t : Tok), [Value.int 0 t1, Value.int (a1 : Int) t2][r.toNat]? = some (Value.int (j : Int) t) ∧ (j = 0 ∨ j = a1) := by
  have : r.toNat = 0 ∨ r.toNat = 1 := by (first | k_extra "ar" | lia | omega)
  rcases this with e | e <;> rw [e]
  · exact ⟨0, _, rfl, .inl rfl⟩
  · exact ⟨a1, _, rfl, .inr rfl⟩
theorem cut_at : ∀ {vs : List Value} {j : Nat}, j < vs.length → ∃ y, kl_cut vs j = some (vs.take j, y, vs.drop (j + 1))
  | [], j, h => absurd h (Nat.not_lt_zero j)
  | x :: r, 0, _ => ⟨x, rfl⟩
  | x :: r, j + 1, h => by
    obtain ⟨y, e⟩ := cut_at (vs := r) (j := j) (by simpa using h)
    exact ⟨y, by unfold kl_cut; rw [e]; rfl⟩
theorem idx_at {j n : Nat} (h : j < n) : seqIndex? (j : Int) n = some j := by
  unfold seqIndex?
  simp [show ¬ (j : Int) < 0 by (first | k_extra "ar" | lia | omega)]
  (first | k_extra "ar" | lia | omega)
/-- pop at a place -/
theorem pop_at {prog : Program} {w : World} {A : Around} {E : Value → Shared → Prop} {s : Shared} {h₀ : Heap} {L D : Addr} {m : Str → Option Value} {r : List (Addr × Obj)} {vs : List Value} {n j : Nat} {u : Tok} {Q : Value → Shared → Prop} (F : Fr h₀ L s.heap m) (N : News h₀ L s.heap ((D, W.listOf vs.toArray n) :: r)) (off : ∀ p ∈ r, @Ne Nat p.1 D) (hj : j < vs.length) (hz : vs.length ≤ 10000)
    (h : ∀ h' y, Fr h₀ L h' m → News h₀ L h' ((D, W.listOf (vs.take j ++ vs.drop (j + 1)).toArray (n + 1)) :: r) → Q y { s with heap := h' }) : wpAny (model prog w) A (call (.builtin "list.pop") [.ref D, .int (j : Int) u]) Q E s := by
  obtain ⟨y, e⟩ := cut_at hj
  have hfit : Builtin.List.listFitsIndex (j : Int) = true := by
    unfold Builtin.List.listFitsIndex
    simp
    (first | k_extra "ar" | lia | omega)
  exact kl_popAt F N hfit (by rw [List.size_toArray]; exact idx_at hj) e (Upd.head off) (by rw [sizeLine_eq]; simp; (first | k_extra "ar" | lia | omega)) fun h' F' N' => h h' y F' N'
section
variable {w : World} {dp un : Nat} {gd : Option (List Code)} {cn : Str} {cs : Scope} {a : Addr} {ccd : Value} {cl : List (Str × Addr)} {outer : List Env} {A₀ : Around} {base h₀ : Heap} {L : Addr} {m : Str → Option Value} {hp0 : Heap} {gs0 : Array GenState} {dr0 : Drawn} {tk0 : Nat} {os0 : OsState} {Q E : Value → Shared → Prop} {news : List (Addr × Obj)} {p : Program} {loose : List Str} {mean : ExcName → Option Value} {mg mb : Str → Option Value}

set_option maxHeartbeats 8000000 in
theorem c_law_bent {d l H : Addr} {c : DS} {vs : List Value} {n a1 : Nat} {hs : List (Array UInt8 × Array UInt8)} {way : Int} {tw : Tok}
  (B : Below A₀ base outer h₀) (F : Fr h₀ L hp0 m) (X : (K w.params).In h₀) (N : News h₀ L hp0 ((d, c.o) :: (l, W.listOf c.ys.toArray c.n) :: news)) (T : Top p loose mean mg mb h₀) (hk : cs.kind = .function)
  (hd : dp + 50 < recursionLimit) (hu : un + 600 < cLine) (hc : DS.Ok w l c) (hdl : @Ne Nat d l) (o1 : ∀ q ∈ news, @Ne Nat q.1 d) (o2 : ∀ q ∈ news, @Ne Nat q.1 l)
  (hH : (H, W.listOf vs.toArray n) ∈ news) (hp : PairsIn news vs hs) (ha : (hs.filter isPar).length + 1 = a1) (hal : a1 + 1 < hs.length) (hl9 : hs.length ≤ 100) (hs9 : ∀ q ∈ hs, q.1.size ≤ 1000 ∧ q.2.size ≤ 1000) (hw1 : 1 ≤ way) (hw6 : way ≤ 6)
  (h1 : ∀ hs' D tl vs' n' h' tk', Bent a1 hs hs' → PairsIn (tl ++ news) vs' hs' → Fr h₀ L h' m → News h₀ L h' ((D, W.listOf vs'.toArray n') :: (tl ++ news)) → Q (.ref D) (Shared.mk h' gs0 dr0 tk' os0)) :
  wpAny (model PR w) (ktrTop dp un gd cn cs L a ccd cl outer) (call (.ref (nat_lit 316)) [.ref d, .ref H, .int way tw]) Q E (Shared.mk hp0 gs0 dr0 tk0 os0) := by
  have hvl := hp.length
  refine wpAny_call ?_
  k_dflt cell_enter
  repeat' (first | ((fail_if_success (with_reducible show wpAny _ _ (call (Value.type "list") _) _ _ _)); first | (k_unfold; (try dsimp only)) | (k_end; wrow_close) | walk1 | (dsimp only; walk1) | (leave1; try dsimp only)))
  rename News _ _ _ _ => N9
  refine kup_listOf (by k_asm) N9 (List.mem_cons_of_mem _ (List.mem_cons_of_mem _ hH)) (zs := vs) (by simp) ?_ (by rw [PySem.sizeLine_eq]; simp; (first | k_extra "ar" | lia | omega))
  intro B9 n9 h9 F9 N9 l9
  obtain ⟨bs9, hbs9, N9'⟩ := exLed N9
  repeat' (first | ((fail_if_success (with_reducible show wpAny _ _ (eval (Expr.ListComp _ _ _ _) _) _ _ _)); first | (k_unfold; (try dsimp only)) | (k_end; wrow_close) | walk1 | (dsimp only; walk1) | (leave1; try dsimp only)))
  refine ListComp_PT (l := H) (vs := vs) (nn := n) (prs := hs) (by k_asm) (fun i ys nx => nx = bs9 ∧ ys.length = ((hs.take i).filter isPar).length) (by with_unfolding_all rfl) (by decide) (by rfl) (by decide) (by rfl) (by rfl) (by decide) (fun i ys nx h => by rw [h.1, hbs9]; exact ⟨List.mem_cons_of_mem _ (List.mem_cons_of_mem _ (List.mem_cons_of_mem _ hH)), hp.mono fun q hq => List.mem_cons_of_mem _ (List.mem_cons_of_mem _ (List.mem_cons_of_mem _ hq))⟩) (by rw [PySem.sizeLine_eq]; (first | k_extra "ar" | lia | omega)) rfl ?_
  walk1
  refine ⟨rfl, bs9, by assumption, N9', ⟨rfl, rfl⟩, ?_⟩
  rintro _ ⟨g9, rfl⟩
  refine ⟨?_, ?_⟩
  · rintro i q t1 t2 ys nx I oI C oC D m₂ h tk E' hq ⟨rfl, hyl⟩ hC hx hx2 F1 N1 off ne
    k_steps
    · have e : isPar q = true := by assumption
      refine LCg.CompEnd.intro (by k_asm) (by k_asm) _ (fun _ h => h) off trivial ⟨rfl, ?_⟩
      rw [List.length_append, List.length_singleton, hyl, take_snoc hq, List.filter_append, List.length_append]
      simp [e]
    · have e : isPar q = false := by assumption
      refine LCg.CompEnd.intro (by k_asm) (by k_asm) _ (fun _ h => h) off trivial ⟨rfl, ?_⟩
      rw [hyl, take_snoc hq, List.filter_append, List.length_append]
      simp [e]
  · rintro ys nx ⟨rfl, hyl⟩
    rw [hvl, List.take_length] at hyl
    unfold LCg.FinE
    intro D h tk F1 N1 o3
    repeat' (first | ((fail_if_success (with_reducible show wpAny _ _ (call (Value.builtin "len") _) _ _ _)); first | (k_unfold; (try dsimp only)) | (k_end; wrow_close) | walk1 | (dsimp only; walk1) | (leave1; try dsimp only)))
    refine len_my (News.isList (by k_asm) (by k_mem)) (by have := List.length_filter_le isPar hs; (first | k_extra "ar" | lia | omega)) ?_
    intro tL kL
    rw [hyl]
    repeat' (first | ((fail_if_success (with_reducible show wpAny _ _ (exec (Stmt.If _ _ _ _) _) _ _ _)); first | (k_unfold; (try dsimp only)) | (k_end; wrow_close) | walk1 | (dsimp only; walk1) | (leave1; try dsimp only)))
    rename News _ _ _ _ => N8
    rename Fr _ _ _ _ => F8
    first | rw [show (((hs.filter isPar).length : Nat) : Int) + 1 = (a1 : Int) by (first | k_extra "ar" | lia | omega)] at F8 | (dsimp +zetaDelta only at F8; rw [show (((hs.filter isPar).length : Nat) : Int) + 1 = (a1 : Int) by (first | k_extra "ar" | lia | omega)] at F8)
    replace N8 := cb_drop (news := (d, c.o) :: (l, W.listOf c.ys.toArray c.n) :: (B9, W.listOf vs.toArray n9) :: news) N8 (by
      rw [hbs9]
      intro q hq
      simp only [List.mem_cons] at hq ⊢
      rcases hq with h | h | h | h <;> simp [h])
    have ob : ∀ q ∈ (d, c.o) :: (l, W.listOf c.ys.toArray c.n) :: news, @Ne Nat q.1 B9 := fun q hq => Nat.ne_of_lt (l9 q hq)
    have b1 : @Ne Nat B9 d := fun e => ob (d, c.o) (List.mem_cons_self ..) e.symm
    have b2 : @Ne Nat B9 l := fun e => ob (l, W.listOf c.ys.toArray c.n) (List.mem_cons_of_mem _ (List.mem_cons_self ..)) e.symm
    have ob2 : ∀ q ∈ news, @Ne Nat q.1 B9 := fun q hq => ob q (List.mem_cons_of_mem _ (List.mem_cons_of_mem _ hq))
    have hw : way = 1 ∨ way = 2 ∨ way = 3 ∨ way = 4 ∨ way = 5 ∨ way = 6 := by (first | k_extra "ar" | lia | omega)
    rcases hw with rfl | rfl | rfl | rfl | rfl | rfl
    · repeat' (first | ((fail_if_success (with_reducible show wpAny _ _ (call (Value.ref (nat_lit 274)) _) _ _ _)); first | (k_unfold; (try dsimp only)) | (k_end; wrow_close) | walk1 | (dsimp only; walk1) | (leave1; try dsimp only)))
      rename News _ _ _ _ => N7
      rename @LT.lt Nat _ d _ ∧ @LT.lt Nat _ l _ ∧ _ => hL7
      refine c_draw (many := 3) (by k_asm) (by k_asm) (by k_in) (n_bca N7) (by k_asm) (by first | with_reducible assumption | exact rfl) (by ktr_room) (by ktr_room) hc (by decide) (by decide) hdl (List.forall_mem_cons.mpr ⟨Nat.ne_of_gt hL7.1, List.forall_mem_cons.mpr ⟨b1, o1⟩⟩) (List.forall_mem_cons.mpr ⟨Nat.ne_of_gt hL7.2.1, List.forall_mem_cons.mpr ⟨b2, o2⟩⟩) ?_
      intro r t c2 h2 tk2 r0 r9 hc2 F2 N2
      obtain ⟨j, tj, hj, hj3⟩ := three_at (a1 := a1) r0 r9
      repeat' (first | ((fail_if_success (with_reducible show wpAny _ _ (subscriptTail _ _ _ _) _ _ _)); first | (k_unfold; (try dsimp only)) | (k_end; wrow_close) | walk1 | (dsimp only; walk1) | (leave1; try dsimp only)))
      refine sub_tup (News.isTup (by k_asm) (by k_mem)) r0 hj (by (first | k_extra "ar" | lia | omega)) ?_
      repeat' (first | ((fail_if_success (with_reducible show wpAny _ _ (call (Value.builtin "list.pop") _) _ _ _)); first | (k_unfold; (try dsimp only)) | (k_end; wrow_close) | walk1 | (dsimp only; walk1) | (leave1; try dsimp only)))
      rename News _ _ _ _ => N6
      replace N6 := cb_drop (news := (B9, W.listOf vs.toArray n9) :: news) N6 (fun q hq => by
        simp only [List.mem_cons] at hq ⊢
        rcases hq with h | h <;> simp [h])
      refine pop_at (by k_asm) N6 ob2 (by (first | k_extra "ar" | lia | omega)) (by (first | k_extra "ar" | lia | omega)) ?_
      intro h6 y6 F6 N6
      k_steps
      all_goals exact h1 _ _ [] _ _ _ _ (.gone j hj3) (PairsIn.append (hp.take j) (hp.drop (j + 1))) (by assumption) (by assumption)
    · repeat' (first | ((fail_if_success (with_reducible show wpAny _ _ (call (Value.ref (nat_lit 274)) _) _ _ _)); first | (k_unfold; (try dsimp only)) | (k_end; wrow_close) | walk1 | (dsimp only; walk1) | (leave1; try dsimp only)))
      rename News _ _ _ _ => N7
      rename @LT.lt Nat _ d _ ∧ @LT.lt Nat _ l _ ∧ _ => hL7
      refine c_draw (many := 2) (by k_asm) (by k_asm) (by k_in) (n_bca N7) (by k_asm) (by first | with_reducible assumption | exact rfl) (by ktr_room) (by ktr_room) hc (by decide) (by decide) hdl (List.forall_mem_cons.mpr ⟨Nat.ne_of_gt hL7.1, List.forall_mem_cons.mpr ⟨b1, o1⟩⟩) (List.forall_mem_cons.mpr ⟨Nat.ne_of_gt hL7.2.1, List.forall_mem_cons.mpr ⟨b2, o2⟩⟩) ?_
      intro r t c2 h2 tk2 r0 r9 hc2 F2 N2
      obtain ⟨j, tj, hj, hj3⟩ := two_at (a1 := a1) r0 r9
      repeat' (first | ((fail_if_success (with_reducible show wpAny _ _ (subscriptTail _ _ _ _) _ _ _)); first | (k_unfold; (try dsimp only)) | (k_end; wrow_close) | walk1 | (dsimp only; walk1) | (leave1; try dsimp only)))
      refine sub_tup (News.isTup (by k_asm) (by k_mem)) r0 hj (by (first | k_extra "ar" | lia | omega)) ?_
      repeat' (first | ((fail_if_success (with_reducible show wpAny _ _ (subscriptTail _ _ _ _) _ _ _)); first | (k_unfold; (try dsimp only)) | (k_end; wrow_close) | walk1 | (dsimp only; walk1) | (leave1; try dsimp only)))
      rename News _ _ _ _ => N6
      replace N6 := cb_drop (news := (B9, W.listOf vs.toArray n9) :: news) N6 (fun q hq => by
        simp only [List.mem_cons] at hq ⊢
        rcases hq with h | h <;> simp [h])
      k_dflt (refine kmk_slice_lit (by k_asm) N6 (News.isList N6 (List.mem_cons_self ..)) .none (.int _ _) (pick_hi (by (first | k_extra "ar" | lia | omega))) ?_ (by with_unfolding_all rfl) (by intro _; with_unfolding_all rfl) (by rw [PySem.sizeLine_eq, List.size_toArray]; (first | k_extra "ar" | lia | omega)))
      intro D1 h3 F3 N3 l3
      repeat' (first | ((fail_if_success (with_reducible show wpAny _ _ (subscriptTail _ _ _ _) _ _ _)); first | (k_unfold; (try dsimp only)) | (k_end; wrow_close) | walk1 | (dsimp only; walk1) | (leave1; try dsimp only)))
      rename News _ _ _ _ => N5
      k_dflt (refine kmk_slice_lit (by k_asm) N5 (News.isList N5 (List.mem_cons_of_mem _ (List.mem_cons_self ..))) (.int _ _) .none (pick_lo (by (first | k_extra "ar" | lia | omega))) ?_ (by with_unfolding_all rfl) (by intro _; with_unfolding_all rfl) (by rw [PySem.sizeLine_eq, List.size_toArray]; (first | k_extra "ar" | lia | omega)))
      intro D2 h4 F4 N4 l4
      repeat' (first | ((fail_if_success (with_reducible show wpAny _ _ (binaryOp _ _ _) _ _ _)); first | (k_unfold; (try dsimp only)) | (k_end; wrow_close) | walk1 | (dsimp only; walk1) | (leave1; try dsimp only)))
      rename News _ _ _ _ => N5
      refine add_lists (by k_asm) N5 (News.isList N5 (List.mem_cons_of_mem _ (List.mem_cons_self ..))) (News.isList N5 (List.mem_cons_self ..)) ?_ (by rw [PySem.sizeLine_eq, List.length_take, List.length_drop]; (first | k_extra "ar" | lia | omega))
      intro h5 F5 N5
      k_steps
      rename News _ _ _ _ => N5
      obtain ⟨tlx, htlx, N5⟩ := exTail N5
      rw [show ((j : Int) + 1).toNat = j + 1 by (first | k_extra "ar" | lia | omega), show (j : Int).toNat = j by (first | k_extra "ar" | lia | omega)] at N5
      refine h1 _ _ tlx _ 0 _ _ (.twice j hj3) (PairsIn.append ((hp.mono fun q hq => List.mem_append.mpr (.inr hq)).take (j + 1)) ((hp.mono fun q hq => List.mem_append.mpr (.inr hq)).drop j)) (by assumption) (cb_drop N5 fun q hq => ?_)
      rcases List.mem_cons.mp hq with rfl | hq
      · exact List.mem_cons_self ..
      · refine List.mem_cons_of_mem _ ((List.mem_append.mp hq).elim (fun h => h) fun h => ?_)
        rw [htlx]; simp [h]
    · obtain ⟨q1, hq1⟩ : ∃ q, hs[a1]? = some q := ⟨_, List.getElem?_eq_getElem (by (first | k_extra "ar" | lia | omega))⟩
      obtain ⟨q2, hq2⟩ : ∃ q, hs[a1 + 1]? = some q := ⟨_, List.getElem?_eq_getElem (by (first | k_extra "ar" | lia | omega))⟩
      obtain ⟨v1, hv1, hp1⟩ := hp.get hq1
      obtain ⟨v2, hv2, hp2⟩ := hp.get hq2
      replace N8 := cb_drop (news := (B9, W.listOf vs.toArray n9) :: news) N8 (fun q hq => by
        simp only [List.mem_cons] at hq ⊢
        rcases hq with h | h <;> simp [h])
      repeat' (first | ((fail_if_success (with_reducible show wpAny _ _ (subscriptTail _ _ _ _) _ _ _)); first | (k_unfold; (try dsimp only)) | (k_end; wrow_close) | walk1 | (dsimp only; walk1) | (leave1; try dsimp only)))
      refine sub_at (News.isList (by k_asm) (by k_mem)) (by (first | k_extra "ar" | lia | omega)) (by (first | k_extra "ar" | lia | omega)) (x := v2) (by first | exact hv2 | (rw [show ((a1 : Int) + 1).toNat = a1 + 1 by (first | k_extra "ar" | lia | omega)]; exact hv2)) ?_
      repeat' (first | ((fail_if_success (with_reducible show wpAny _ _ (subscriptTail _ _ _ _) _ _ _)); first | (k_unfold; (try dsimp only)) | (k_end; wrow_close) | walk1 | (dsimp only; walk1) | (leave1; try dsimp only)))
      refine sub_at (News.isList (by k_asm) (by k_mem)) (by (first | k_extra "ar" | lia | omega)) (by (first | k_extra "ar" | lia | omega)) (x := v1) (by rw [show (a1 : Int).toNat = a1 by (first | k_extra "ar" | lia | omega)]; exact hv1) ?_
      repeat' (first | ((fail_if_success (with_reducible show wpAny _ _ (setItem _ _ _) _ _ _)); first | (k_unfold; (try dsimp only)) | (k_end; wrow_close) | walk1 | (dsimp only; walk1) | (leave1; try dsimp only)))
      rename News _ _ _ _ => N7
      replace N7 := cb_drop (news := (B9, W.listOf vs.toArray n9) :: news) N7 (fun q hq => List.mem_cons_of_mem _ hq)
      refine set_at (by k_asm) N7 (Upd.head ob2) (by (first | k_extra "ar" | lia | omega)) (by (first | k_extra "ar" | lia | omega)) (by (first | k_extra "ar" | lia | omega)) ?_
      intro h6 F6 N6
      repeat' (first | ((fail_if_success (with_reducible show wpAny _ _ (setItem _ _ _) _ _ _)); first | (k_unfold; (try dsimp only)) | (k_end; wrow_close) | walk1 | (dsimp only; walk1) | (leave1; try dsimp only)))
      rename News _ _ _ _ => N7
      refine set_at (by k_asm) N7 (Upd.head ob2) (by (first | k_extra "ar" | lia | omega)) (by rw [List.length_set]; (first | k_extra "ar" | lia | omega)) (by (first | k_extra "ar" | lia | omega)) ?_
      intro h7 F7 N7
      rw [show (a1 : Int).toNat = a1 by (first | k_extra "ar" | lia | omega)] at N7
      rw [show ((a1 : Int) + 1).toNat = a1 + 1 by (first | k_extra "ar" | lia | omega)] at N7
      k_steps
      all_goals exact h1 _ _ [] _ _ _ _ (.swap a1 (a1 + 1) q1 q2 (.inl ⟨rfl, rfl⟩) hq1 hq2) (pairs_set (pairs_set hp hp2 _) hp1 _) (by assumption) (by assumption)
    · obtain ⟨q1, hq1⟩ : ∃ q, hs[a1]? = some q := ⟨_, List.getElem?_eq_getElem (by (first | k_extra "ar" | lia | omega))⟩
      obtain ⟨q2, hq2⟩ : ∃ q, hs[0]? = some q := ⟨_, List.getElem?_eq_getElem (by (first | k_extra "ar" | lia | omega))⟩
      obtain ⟨v1, hv1, hp1⟩ := hp.get hq1
      obtain ⟨v2, hv2, hp2⟩ := hp.get hq2
      replace N8 := cb_drop (news := (B9, W.listOf vs.toArray n9) :: news) N8 (fun q hq => by
        simp only [List.mem_cons] at hq ⊢
        rcases hq with h | h <;> simp [h])
      repeat' (first | ((fail_if_success (with_reducible show wpAny _ _ (subscriptTail _ _ _ _) _ _ _)); first | (k_unfold; (try dsimp only)) | (k_end; wrow_close) | walk1 | (dsimp only; walk1) | (leave1; try dsimp only)))
      refine sub_at (News.isList (by k_asm) (by k_mem)) (by (first | k_extra "ar" | lia | omega)) (by (first | k_extra "ar" | lia | omega)) (x := v2) (by first | exact hv2 | (rw [show ((a1 : Int) + 1).toNat = a1 + 1 by (first | k_extra "ar" | lia | omega)]; exact hv2)) ?_
      repeat' (first | ((fail_if_success (with_reducible show wpAny _ _ (subscriptTail _ _ _ _) _ _ _)); first | (k_unfold; (try dsimp only)) | (k_end; wrow_close) | walk1 | (dsimp only; walk1) | (leave1; try dsimp only)))
      refine sub_at (News.isList (by k_asm) (by k_mem)) (by (first | k_extra "ar" | lia | omega)) (by (first | k_extra "ar" | lia | omega)) (x := v1) (by rw [show (a1 : Int).toNat = a1 by (first | k_extra "ar" | lia | omega)]; exact hv1) ?_
      repeat' (first | ((fail_if_success (with_reducible show wpAny _ _ (setItem _ _ _) _ _ _)); first | (k_unfold; (try dsimp only)) | (k_end; wrow_close) | walk1 | (dsimp only; walk1) | (leave1; try dsimp only)))
      rename News _ _ _ _ => N7
      replace N7 := cb_drop (news := (B9, W.listOf vs.toArray n9) :: news) N7 (fun q hq => List.mem_cons_of_mem _ hq)
      refine set_at (by k_asm) N7 (Upd.head ob2) (by (first | k_extra "ar" | lia | omega)) (by (first | k_extra "ar" | lia | omega)) (by (first | k_extra "ar" | lia | omega)) ?_
      intro h6 F6 N6
      repeat' (first | ((fail_if_success (with_reducible show wpAny _ _ (setItem _ _ _) _ _ _)); first | (k_unfold; (try dsimp only)) | (k_end; wrow_close) | walk1 | (dsimp only; walk1) | (leave1; try dsimp only)))
      rename News _ _ _ _ => N7
      refine set_at (by k_asm) N7 (Upd.head ob2) (by (first | k_extra "ar" | lia | omega)) (by rw [List.length_set]; (first | k_extra "ar" | lia | omega)) (by (first | k_extra "ar" | lia | omega)) ?_
      intro h7 F7 N7
      rw [show (a1 : Int).toNat = a1 by (first | k_extra "ar" | lia | omega)] at N7
      rw [show (0 : Int).toNat = 0 by (first | k_extra "ar" | lia | omega)] at N7
      k_steps
      all_goals exact h1 _ _ [] _ _ _ _ (.swap a1 (0) q1 q2 (.inr ⟨rfl, rfl⟩) hq1 hq2) (pairs_set (pairs_set hp hp2 _) hp1 _) (by assumption) (by assumption)
    · repeat' (first | ((fail_if_success (with_reducible show wpAny _ _ (call (Value.ref (nat_lit 274)) _) _ _ _)); first | (k_unfold; (try dsimp only)) | (k_end; wrow_close) | walk1 | (dsimp only; walk1) | (leave1; try dsimp only)))
      refine c_draw (many := (a1 : Int)) (by k_asm) (by k_asm) (by k_in) (by k_asm) (by k_asm) (by first | with_reducible assumption | exact rfl) (by ktr_room) (by ktr_room) hc (by (first | k_extra "ar" | lia | omega)) (by (first | k_extra "ar" | lia | omega)) hdl (List.forall_mem_cons.mpr ⟨b1, o1⟩) (List.forall_mem_cons.mpr ⟨b2, o2⟩) ?_
      intro r t c2 h2 tk2 r0 r9 hc2 F2 N2
      obtain ⟨j, rfl⟩ := Int.eq_ofNat_of_zero_le r0
      obtain ⟨q1, hq1⟩ : ∃ q, hs[j]? = some q := ⟨_, List.getElem?_eq_getElem (by (first | k_extra "ar" | lia | omega))⟩
      obtain ⟨v1, hv1, a9, u1, u2, rfl, hm1⟩ := hp.get hq1
      have hz1 := (hs9 q1 (List.mem_of_getElem? hq1)).2
      repeat' (first | ((fail_if_success (with_reducible show wpAny _ _ (subscriptTail _ _ _ _) _ _ _)); first | (k_unfold; (try dsimp only)) | (k_end; wrow_close) | walk1 | (dsimp only; walk1) | (leave1; try dsimp only)))
      refine sub_at (News.isList (by k_asm) (by k_mem)) (by (first | k_extra "ar" | lia | omega)) (by (first | k_extra "ar" | lia | omega)) (x := .ref a9) (by rw [show (j : Int).toNat = j by (first | k_extra "ar" | lia | omega)]; exact hv1) ?_
      rename News _ _ _ _ => N7
      replace N7 := cb_drop (news := (a9, ({ cls := .type "tuple", data := .seq [Value.bytes q1.1 u1, Value.bytes q1.2 u2].toArray } : Obj)) :: (d, c2.o) :: (l, W.listOf c2.ys.toArray c2.n) :: (B9, W.listOf vs.toArray n9) :: news) N7 (List.forall_mem_cons.mpr ⟨List.mem_cons_of_mem _ (List.mem_cons_of_mem _ (List.mem_cons_of_mem _ hm1)), fun q hq => hq⟩)
      repeat' (first | ((fail_if_success (with_reducible show wpAny _ _ (call (Value.ref (nat_lit 274)) _) _ _ _)); first | (k_unfold; (try dsimp only)) | (k_end; wrow_close) | walk1 | (dsimp only; walk1) | (leave1; try dsimp only)))
      rename News _ _ _ _ => N6
      rename @LT.lt Nat _ a9 _ ∧ @LT.lt Nat _ d _ ∧ @LT.lt Nat _ l _ ∧ _ => hL6
      refine c_draw (many := 6) (by k_asm) (by k_asm) (by k_in) (n_pick N6) (by k_asm) (by first | with_reducible assumption | exact rfl) (by ktr_room) (by ktr_room) hc2 (by decide) (by decide) hdl (List.forall_mem_cons.mpr ⟨Nat.ne_of_gt hL6.2.1, List.forall_mem_cons.mpr ⟨b1, o1⟩⟩) (List.forall_mem_cons.mpr ⟨Nat.ne_of_gt hL6.2.2.1, List.forall_mem_cons.mpr ⟨b2, o2⟩⟩) ?_
      intro r6 t6 c6 h6 tk6 r60 r69 hc6 F6 N6
      replace N6 := n_back N6
      repeat' (first | ((fail_if_success (with_reducible show wpAny _ _ (subscriptTail _ _ _ _) _ _ _)); first | (k_unfold; (try dsimp only)) | (k_end; wrow_close) | walk1 | (dsimp only; walk1) | (leave1; try dsimp only)))
      refine sub_lb (News.isList (by k_asm) (by k_mem)) (.cons (.cons (.cons (.cons (.cons (.cons .nil)))))) r60 (by show r6 < 6; (first | k_extra "ar" | lia | omega)) (by (first | k_extra "ar" | lia | omega)) ?_
      intro b7 t7 hb7
      repeat' (first | ((fail_if_success (with_reducible show wpAny _ _ (setItem _ _ _) _ _ _)); first | (k_unfold; (try dsimp only)) | (k_end; wrow_close) | walk1 | (dsimp only; walk1) | (leave1; try dsimp only)))
      rename News _ _ _ _ => N5
      rename _ ∧ @LT.lt Nat _ B9 _ ∧ _ => hL5
      refine set_pair (by k_asm) N5 hL5 ob2 hp (by (first | k_extra "ar" | lia | omega)) (by (first | k_extra "ar" | lia | omega)) ?_
      intro h5 tl5 vs5 n5 F5 N5 hp5
      k_steps
      all_goals exact h1 _ _ tl5 _ _ _ _ (.id j q1 b7 (by (first | k_extra "ar" | lia | omega)) hq1 hb7) hp5 (by assumption) (by assumption)
    · repeat' (first | ((fail_if_success (with_reducible show wpAny _ _ (call (Value.ref (nat_lit 274)) _) _ _ _)); first | (k_unfold; (try dsimp only)) | (k_end; wrow_close) | walk1 | (dsimp only; walk1) | (leave1; try dsimp only)))
      refine c_draw (many := 2) (by k_asm) (by k_asm) (by k_in) (by k_asm) (by k_asm) (by first | with_reducible assumption | exact rfl) (by ktr_room) (by ktr_room) hc (by decide) (by decide) hdl (List.forall_mem_cons.mpr ⟨b1, o1⟩) (List.forall_mem_cons.mpr ⟨b2, o2⟩) ?_
      intro r t c2 h2 tk2 r0 r9 hc2 F2 N2
      obtain ⟨j, hj, hj2⟩ : ∃ j : Nat, (a1 : Int) + r = (j : Int) ∧ (j = a1 ∨ j = a1 + 1) := ⟨((a1 : Int) + r).toNat, by (first | k_extra "ar" | lia | omega), by (first | k_extra "ar" | lia | omega)⟩
      obtain ⟨q1, hq1⟩ : ∃ q, hs[j]? = some q := ⟨_, List.getElem?_eq_getElem (by (first | k_extra "ar" | lia | omega))⟩
      obtain ⟨v1, hv1, a9, u1, u2, rfl, hm1⟩ := hp.get hq1
      have hz1 := (hs9 q1 (List.mem_of_getElem? hq1)).2
      rename News _ _ _ _ => N7
      replace N7 := cb_drop (news := (a9, ({ cls := .type "tuple", data := .seq [Value.bytes q1.1 u1, Value.bytes q1.2 u2].toArray } : Obj)) :: (B9, W.listOf vs.toArray n9) :: news) N7 (List.forall_mem_cons.mpr ⟨List.mem_cons_of_mem _ (List.mem_cons_of_mem _ (List.mem_cons_of_mem _ hm1)), fun q hq => List.mem_cons_of_mem _ (List.mem_cons_of_mem _ hq)⟩)
      repeat' (first | ((fail_if_success (with_reducible show wpAny _ _ (subscriptTail _ _ (Value.ref _) (Value.int _ _)) _ _ _)); first | (k_unfold; (try dsimp only)) | (k_end; wrow_close) | walk1 | (dsimp only; walk1) | (leave1; try dsimp only)))
      rw [hj]
      refine sub_at (News.isList (by k_asm) (by k_mem)) (by (first | k_extra "ar" | lia | omega)) (by (first | k_extra "ar" | lia | omega)) (x := .ref a9) (by rw [show (j : Int).toNat = j by (first | k_extra "ar" | lia | omega)]; exact hv1) ?_
      repeat' (first | ((fail_if_success (with_reducible show wpAny _ _ (subscriptTail _ _ (Value.ref B9) (Value.int _ _)) _ _ _)); first | (k_unfold; (try dsimp only)) | (k_end; wrow_close) | walk1 | (dsimp only; walk1) | (leave1; try dsimp only)))
      rw [hj]
      refine sub_at (News.isList (by k_asm) (by k_mem)) (by (first | k_extra "ar" | lia | omega)) (by (first | k_extra "ar" | lia | omega)) (x := .ref a9) (by rw [show (j : Int).toNat = j by (first | k_extra "ar" | lia | omega)]; exact hv1) ?_
      repeat' (first | ((fail_if_success (with_reducible show wpAny _ _ (setItem _ _ _) _ _ _)); first | (k_unfold; (try dsimp only)) | (k_end; wrow_close) | walk1 | (dsimp only; walk1) | (leave1; try dsimp only)))
      rw [hj]
      rename News _ _ _ _ => N5
      rename _ ∧ @LT.lt Nat _ B9 _ ∧ _ => hL5
      refine set_pair (by k_asm) N5 hL5 ob2 hp (by (first | k_extra "ar" | lia | omega)) (by (first | k_extra "ar" | lia | omega)) ?_
      intro h5 tl5 vs5 n5 F5 N5 hp5
      k_steps
      all_goals exact h1 _ _ tl5 _ _ _ _ (.person j q1 hj2 hq1) hp5 (by assumption) (by assumption)
end


theorem reg_fold_LTO : True := by
  k_with "execs cons" => (k_here; (try k_fold); (try ((with_reducible rename Fr _ _ _ (fun _ => @ite _ _ _ _ _) => Fzz); revert Fzz; refine withFrame (P := fun z => Fr _ _ _ z → _) _ ?_; intro mzz Fzz)); (with_reducible refine wpAny_execs_cons ?_); (try dsimp only); (try k_fold))
  k_with "cell_enter" => ((refine' code_def ?k1 ?k2 ?k3 ?k4 ?k5 ?kA ?kF ?kK ?k6 ?k7 ?k8 ?k9 ?kB ?_ ?c2 ?c3 ?c4 ?c5; (case kA => exact rfl); (case kF => exact rfl); (case kK => assumption); (case k1 => k_asm); (case k2 => k_asm); (case k3 => k_asm); (case k4 => k_asm); (case k5 => k_asm); (case k6 => k_is); (case k7 => k_is); (case k8 => ktr_room); (case k9 => first | exact BindsTo.of_eq rfl | exact binds_K (by k_in) rfl (by k_is) rfl rfl rfl); (case c5 => decide); (case kB => exact locs rfl); (case c2 => exact rfl); (case c3 => exact rfl); (case c4 => exact rfl); k_whole; intro g'zz L'zz h'zz FG'zz F'zz N'zz B'zz X'zz T'zz; (try dsimp only); (try k_lift B'zz); (try (refine withFrame (P := fun z => wpAny _ z _ _ _ _) _ ?_; intro Azz; (try dsimp only))); (try k_fold)))
  trivial

section
variable {w : World} {dp un : Nat} {gd : Option (List Code)} {cn : Str} {cs : Scope} {a : Addr} {ccd : Value} {cl : List (Str × Addr)} {outer : List Env} {A₀ : Around} {base h₀ : Heap} {L : Addr} {m : Str → Option Value} {hp0 : Heap} {gs0 : Array GenState} {dr0 : Drawn} {tk0 : Nat} {os0 : OsState} {Q E : Value → Shared → Prop} {news : List (Addr × Obj)} {p : Program} {loose : List Str} {mean : ExcName → Option Value} {mg mb : Str → Option Value}

set_option maxHeartbeats 4000000 in
theorem c_law_told {x : Addr} {q : Array UInt8 × Array UInt8 × Int × Array UInt8} (B : Below A₀ base outer h₀) (F : Fr h₀ L hp0 m) (X : (K w.params).In h₀) (N : News h₀ L hp0 news) (T : Top p loose mean mg mb h₀) (hk : cs.kind = .function)
   (hd : dp + 20 < recursionLimit) (hu : un + 200 < cLine) (hx : PerIn w news x q)
  (h1 : ∀ D t1 t2 t3 t4 h' tk', Fr h₀ L h' m → News h₀ L h' ((D, tupP q.1 q.2.1 q.2.2.1 q.2.2.2 t1 t2 t3 t4) :: news) → Q (.ref D) (Shared.mk h' gs0 dr0 tk' os0)) :
  wpAny (model PR w) (ktrTop dp un gd cn cs L a ccd cl outer) (call (.ref (nat_lit 323)) [.ref x]) Q E (Shared.mk hp0 gs0 dr0 tk0 os0) := by
  obtain ⟨d, k1, k2, k3, k4, t1, t2, t3, t4, hx1, hx2⟩ := hx
  replace N := cb_drop (news := (x, instObj 138 d) :: (d, perD w k1 k2 k3 k4 q.1 q.2.1 q.2.2.1 q.2.2.2 t1 t2 t3 t4) :: news) N (List.forall_mem_cons.mpr ⟨hx1, List.forall_mem_cons.mpr ⟨hx2, fun _ h => h⟩⟩)
  refine wpAny_call ?_
  k_dflt cell_enter
  k_steps
  rename News _ _ _ _ => N9
  exact h1 _ _ _ _ _ _ _ (by assumption) (cb_drop N9 (fun q hq => by
    rcases List.mem_cons.mp hq with rfl | hq
    · exact List.mem_cons_self ..
    · exact List.mem_cons_of_mem _ (List.mem_cons_of_mem _ (List.mem_cons_of_mem _ hq))))
end
theorem reg_c_law_told : True := by
  k_with "call ref" => (k_here; (with_reducible show wpAny _ _ (call (Value.ref (nat_lit 323)) _) _ _ _); k_dflt (refine' c_law_told ?kB ?kF ?kX ?kN ?kT ?kk ?kd ?ku ?hx ?_; (case kB => k_asm); (case kF => k_asm); (case kX => k_in); (case kN => k_asm); (case kT => k_asm); (case kk => first | with_reducible assumption | exact rfl); (case kd => ktr_room); (case ku => ktr_room); (case hx => assumption); k_whole); intro DXzz t1Xzz t2Xzz t3Xzz t4Xzz hXzz tkXzz FXzz NXzz)
  trivial


theorem reg_fold_PL0 : True := by
  k_with "execs cons" => (k_here; (try ((with_reducible rename Fr _ _ _ (fun _ => @ite _ _ _ _ _) => Fzz); revert Fzz; refine withFrame (P := fun z => Fr _ _ _ z → _) _ ?_; intro mzz Fzz)); (with_reducible refine wpAny_execs_cons ?_); (try dsimp only); skip)
  k_with "cell_enter" => ((refine' code_def ?k1 ?k2 ?k3 ?k4 ?k5 ?kA ?kF ?kK ?k6 ?k7 ?k8 ?k9 ?kB ?_ ?c2 ?c3 ?c4 ?c5; (case kA => exact rfl); (case kF => exact rfl); (case kK => assumption); (case k1 => k_asm); (case k2 => k_asm); (case k3 => k_asm); (case k4 => k_asm); (case k5 => k_asm); (case k6 => k_is); (case k7 => k_is); (case k8 => ktr_room); (case k9 => first | exact BindsTo.of_eq rfl | exact binds_K (by k_in) rfl (by k_is) rfl rfl rfl); (case c5 => decide); (case kB => exact locs rfl); (case c2 => exact rfl); (case c3 => exact rfl); (case c4 => exact rfl); k_whole; intro g'zz L'zz h'zz FG'zz F'zz N'zz B'zz X'zz T'zz; (try dsimp only); (try k_lift B'zz); (try (refine withFrame (P := fun z => wpAny _ z _ _ _ _) _ ?_; intro Azz; (try dsimp only))); (try k_fold)))
  trivial

theorem find_first {f : Nat → Bool} : ∀ (n k i : Nat), k ≤ i → i < k + n → f i = true → (∀ j, k ≤ j → j < i → f j = false) → ((List.range n).map (· + k)).find? f = some i
  | 0, k, i, h1, h2, _, _ => absurd h2 (by (first | k_extra "ar" | lia | omega))
  | n + 1, k, i, h1, h2, h3, h4 => by
    rw [List.range_succ, List.map_append, List.find?_append]
    by_cases h : i < k + n
    · rw [find_first n k i h1 h h3 h4]; rfl
    · obtain rfl : i = n + k := by (first | k_extra "ar" | lia | omega)
      have e : List.find? f (List.map (fun x => x + k) (List.range n)) = none := by
        rw [List.find?_eq_none]
        intro x hx
        obtain ⟨j, hj, rfl⟩ := List.mem_map.mp hx
        rw [h4 _ (by (first | k_extra "ar" | lia | omega)) (by have := List.mem_range.mp hj; (first | k_extra "ar" | lia | omega))]
        exact Bool.noConfusion
      rw [e]
      simp [h3]
theorem fnd_at {b c : Array UInt8} {k i : Nat} (hi : k ≤ i) (hn : i + c.size ≤ b.size) (hm : b.extract i (i + c.size) = c) (hf : ∀ j, k ≤ j → j < i → b.extract j (j + c.size) ≠ c) : fnd b c k = (i : Int) := by
  unfold fnd Builtin.Bytes.find?
  rw [find_first (f := fun i => b.extract i (i + c.size) == c) (b.size + 1 - (k + c.size)) k i hi (by (first | k_extra "ar" | lia | omega)) (by simp [hm]) (fun j h1 h2 => by simp [hf j h1 h2])]
theorem fnd_none {b c : Array UInt8} {k : Nat} (hf : ∀ j, k ≤ j → j + c.size ≤ b.size → b.extract j (j + c.size) ≠ c) : fnd b c k = -1 := by
  unfold fnd Builtin.Bytes.find?
  rcases find_list (f := fun i => b.extract i (i + c.size) == c) (b.size + 1 - (k + c.size)) k with ⟨e, h⟩ | ⟨i', e, h1, h2, h3⟩
  · rw [e]
  · exact absurd (eq_of_beq h3) (hf i' h1 (by (first | k_extra "ar" | lia | omega)))
theorem ext_one {b : Array UInt8} {c : UInt8} {j : Nat} (h : b.extract j (j + 1) = #[c]) : b.toList[j]? = some c := by
  have e := congrArg Array.toList h
  rw [Array.toList_extract, List.extract_eq_take_drop] at e
  have e2 := congrArg (fun l => l[0]?) e
  simpa using e2
theorem ext_two {b : Array UInt8} {c d : UInt8} {j : Nat} (h : b.extract j (j + 2) = #[c, d]) : b.toList[j + 1]? = some d := by
  have e := congrArg Array.toList h
  rw [Array.toList_extract, List.extract_eq_take_drop] at e
  have e2 := congrArg (fun l => l[1]?) e
  simpa using e2
theorem ext_mid {b : Array UInt8} {x y z : List UInt8} (e : b.toList = x ++ (y ++ z)) : b.extract x.length (x.length + y.length) = y.toArray := by
  apply Array.ext'
  rw [Array.toList_extract, List.extract_eq_take_drop, e]
  simp
theorem size_of {b : Array UInt8} {l : List UInt8} (e : b.toList = l) : b.size = l.length := by rw [← e]; simp
theorem fnd1_at {b : Array UInt8} {c : UInt8} {pre seg post : List UInt8} (e : b.toList = pre ++ (seg ++ c :: post)) (hc : c ∉ seg) : fnd b #[c] pre.length = ((pre.length + seg.length : Nat) : Int) := by
  have hs := size_of e
  simp only [List.length_append, List.length_cons] at hs
  refine fnd_at (by (first | k_extra "ar" | lia | omega)) (show _ + 1 ≤ _ by (first | k_extra "ar" | lia | omega)) ?_ ?_
  · have := ext_mid (b := b) (x := pre ++ seg) (y := [c]) (z := post) (by simp [e])
    simpa using this
  · intro j h1 h2 h
    have h3 := ext_one h
    rw [e, List.getElem?_append_right h1, List.getElem?_append_left (by (first | k_extra "ar" | lia | omega))] at h3
    exact hc (List.mem_of_getElem? h3)
theorem fnd1_none {b : Array UInt8} {c : UInt8} {pre seg : List UInt8} (e : b.toList = pre ++ seg) (hc : c ∉ seg) : fnd b #[c] pre.length = -1 := by
  refine fnd_none ?_
  intro j h1 h2 h
  have h3 := ext_one h
  rw [e, List.getElem?_append_right h1] at h3
  exact hc (List.mem_of_getElem? h3)
theorem fnd2_at {b : Array UInt8} {c d : UInt8} {seg post : List UInt8} (e : b.toList = seg ++ c :: d :: post) (hd : d ∉ seg) (hcd : c ≠ d) : fnd b #[c, d] 0 = (seg.length : Int) := by
  have hs := size_of e
  simp only [List.length_append, List.length_cons] at hs
  refine fnd_at (Nat.zero_le _) (show _ + 2 ≤ _ by (first | k_extra "ar" | lia | omega)) ?_ ?_
  · have := ext_mid (b := b) (x := seg) (y := [c, d]) (z := post) (by simp [e])
    simpa using this
  · intro j _ h2 h
    have h3 := ext_two h
    have e' : b.toList = (seg ++ [c]) ++ d :: post := by simp [e]
    rw [e', List.getElem?_append_left (by simp; (first | k_extra "ar" | lia | omega))] at h3
    have h4 := List.mem_of_getElem? h3
    rcases List.mem_append.mp h4 with h4 | h4
    · exact hd h4
    · exact hcd (List.mem_singleton.mp h4).symm
/-- the rows of the heads -/
def rowsL (hs : List (Array UInt8 × Array UInt8)) : List UInt8 := hs.flatMap fun q => q.1.toList ++ 32 :: (subst1 10 [10, 32] q.2.toList ++ [10])
theorem joinL_nil : ∀ l : List (List UInt8), joinL [] l = l.flatten
  | [] => rfl
  | p :: ps => by simp [joinL, List.flatMap_def]
theorem joined_flat (l : List (Array UInt8)) : (Builtin.Bytes.joined #[] l).toList = l.flatMap (·.toList) := by
  rw [joined_eq, show (#[] : Array UInt8).toList = [] from rfl, joinL_nil, List.flatMap_def]
theorem rowOf_list (k v : Array UInt8) : (rowOf k v).toList = k.toList ++ 32 :: (subst1 10 [10, 32] v.toList ++ [10]) := by
  unfold rowOf
  rw [repl_eq]
  simp
theorem content_list (hs : List (Array UInt8 × Array UInt8)) (msg : Array UInt8) : (contentP hs msg).toList = rowsL hs ++ 10 :: msg.toList := by
  unfold contentP rowsL
  rw [Array.toList_append, Array.toList_append, joined_flat, List.flatMap_map]
  simp only [rowOf_list]
  simp
/-- from a place on, with all fuel that it needs -/
def Reads (b : Array UInt8) (hs : List (Array UInt8 × Array UInt8)) (k : Nat) (R : Option (List (Array UInt8 × Array UInt8) × Array UInt8)) : Prop := ∀ f, b.size < f + k → headsF f b hs (k : Int) = R
section
variable {b : Array UInt8} {hs : List (Array UInt8 × Array UInt8)} {p : Array UInt8 × Array UInt8} {pre key r v post : List UInt8} {R : Option (List (Array UInt8 × Array UInt8) × Array UInt8)}
theorem rd_end (e : b.toList = pre ++ 10 :: post) : Reads b hs pre.length (some (hs, post.toArray)) := by
  intro f hf
  have hsz := size_of e
  simp only [List.length_append, List.length_cons] at hsz
  obtain ⟨f, rfl⟩ : ∃ g, f = g + 1 := ⟨f - 1, by (first | k_extra "ar" | lia | omega)⟩
  have h1 : hEnd b (pre.length : Int) = (pre.length : Int) := by
    show fnd b #[10] (Int.toNat (pre.length : Int)) = _
    rw [Int.toNat_natCast, fnd1_at (seg := []) (post := post) (by simpa using e) (by simp)]
    simp
  rw [hf_2 (by rw [h1]; (first | k_extra "ar" | lia | omega)) h1, h1]
  have h2 := ext_mid (b := b) (x := pre ++ [10]) (y := post) (z := []) (by simp [e])
  rw [show (pre ++ [(10 : UInt8)]).length = pre.length + 1 by simp] at h2
  rw [show ((pre.length : Int) + 1).toNat = pre.length + 1 by (first | k_extra "ar" | lia | omega), hsz, show pre.length + (post.length + 1) = pre.length + 1 + post.length by (first | k_extra "ar" | lia | omega), h2]
theorem row_at (e : b.toList = pre ++ (r ++ 10 :: post)) (hr : 10 ∉ r) : hEnd b (pre.length : Int) = ((pre.length + r.length : Nat) : Int) ∧ hRow b (pre.length : Int) = r.toArray := by
  have h1 : hEnd b (pre.length : Int) = ((pre.length + r.length : Nat) : Int) := by
    show fnd b #[10] (Int.toNat (pre.length : Int)) = _
    rw [Int.toNat_natCast, fnd1_at e hr]
  refine ⟨h1, ?_⟩
  show b.extract (Int.toNat (pre.length : Int)) (hEnd b (pre.length : Int)).toNat = _
  rw [h1, Int.toNat_natCast, Int.toNat_natCast]
  exact ext_mid e
theorem rd_new (e : b.toList = pre ++ (key ++ 32 :: (r ++ 10 :: post))) (hk : key ≠ []) (k1 : 10 ∉ key) (k2 : 32 ∉ key) (hr : 10 ∉ r) (h : Reads b (hs ++ [(key.toArray, r.toArray)]) (pre.length + (key.length + r.length + 2)) R) : Reads b hs pre.length R := by
  intro f hf
  have hsz := size_of e
  simp only [List.length_append, List.length_cons] at hsz
  have hkl : 0 < key.length := List.length_pos_iff.mpr hk
  obtain ⟨f, rfl⟩ : ∃ g, f = g + 1 := ⟨f - 1, by (first | k_extra "ar" | lia | omega)⟩
  obtain ⟨h1, h2⟩ := row_at (b := b) (pre := pre) (r := key ++ 32 :: r) (post := post) (by simp [e]) (by simp [k1, hr])
  have h3 : hLead b (pre.length : Int) = false := by
    show (((hRow b (pre.length : Int)).extract 0 (Int.toNat 1)).toList == #[32].toList) = false
    rw [h2]
    obtain ⟨c, key', rfl⟩ : ∃ c l, key = c :: l := List.exists_cons_of_ne_nil hk
    have hc : c ≠ 32 := fun q => k2 (by simp [q])
    simp [hc]
  have h4 : hBlank b (pre.length : Int) = (key.length : Int) := by
    show fnd (hRow b (pre.length : Int)) #[32] 0 = _
    rw [h2]
    have := fnd1_at (b := (key ++ 32 :: r).toArray) (pre := []) (seg := key) (post := r) (c := 32) (by simp) k2
    simpa using this
  rw [hf_6 (by rw [h1]; (first | k_extra "ar" | lia | omega)) (by rw [h1]; simp; (first | k_extra "ar" | lia | omega)) h3 (by rw [h4]; (first | k_extra "ar" | lia | omega)), h1, h2, h4]
  have h5 := ext_mid (b := (key ++ 32 :: r).toArray) (x := []) (y := key) (z := 32 :: r) (by simp)
  have h6 := ext_mid (b := (key ++ 32 :: r).toArray) (x := key ++ [32]) (y := r) (z := []) (by simp)
  rw [show (key ++ [(32 : UInt8)]).length = key.length + 1 by simp] at h6
  rw [List.length_nil, Nat.zero_add] at h5
  have h7 : ((key ++ 32 :: r).toArray).size = key.length + 1 + r.length := by simp; (first | k_extra "ar" | lia | omega)
  rw [Int.toNat_natCast, h5, show ((key.length : Int) + 1).toNat = key.length + 1 by (first | k_extra "ar" | lia | omega), h7, h6]
  have h8 := h f (by (first | k_extra "ar" | lia | omega))
  rw [← h8]
  congr 1
  simp
  (first | k_extra "ar" | lia | omega)
theorem rd_more (e : b.toList = pre ++ (32 :: (r ++ 10 :: post))) (hr : 10 ∉ r) (h : Reads b (hs ++ [(p.1, p.2 ++ #[10] ++ r.toArray)]) (pre.length + (r.length + 2)) R) : Reads b (hs ++ [p]) pre.length R := by
  intro f hf
  have hsz := size_of e
  simp only [List.length_append, List.length_cons] at hsz
  obtain ⟨f, rfl⟩ : ∃ g, f = g + 1 := ⟨f - 1, by (first | k_extra "ar" | lia | omega)⟩
  obtain ⟨h1, h2⟩ := row_at (b := b) (pre := pre) (r := 32 :: r) (post := post) (by simp [e]) (by simp [hr])
  have h3 : hLead b (pre.length : Int) = true := by
    show (((hRow b (pre.length : Int)).extract 0 (Int.toNat 1)).toList == #[32].toList) = true
    rw [h2]
    simp
  rw [hf_4 (by rw [h1]; (first | k_extra "ar" | lia | omega)) (by rw [h1]; simp; (first | k_extra "ar" | lia | omega)) h3, h1, h2]
  have h6 := ext_mid (b := (32 :: r).toArray) (x := [32]) (y := r) (z := []) (by simp)
  have h7 : ((32 :: r).toArray).size = 1 + r.length := by simp; (first | k_extra "ar" | lia | omega)
  rw [show Int.toNat 1 = 1 from rfl, h7, show (1 : Nat) = [(32 : UInt8)].length from rfl, h6]
  have h8 := h f (by (first | k_extra "ar" | lia | omega))
  rw [← h8]
  congr 1
theorem subst_same {l : List UInt8} (h : 10 ∉ l) : subst1 10 [10, 32] l = l := by
  unfold subst1
  induction l with
  | nil => rfl
  | cons c r ih =>
    rw [List.flatMap_cons, ih (fun q => h (List.mem_cons_of_mem _ q)), if_neg (fun q => h (by simp [q]))]
    rfl
theorem subst_at {r : List UInt8} (h : 10 ∉ r) : subst1 10 [10, 32] (r ++ 10 :: v) = r ++ 10 :: 32 :: subst1 10 [10, 32] v := by
  have e := subst_same h
  unfold subst1 at e ⊢
  rw [List.flatMap_append, e, List.flatMap_cons, if_pos rfl]
  rfl
theorem rd_val : ∀ (n : Nat) (v pre : List UInt8) (p : Array UInt8 × Array UInt8), v.length ≤ n → b.toList = pre ++ (32 :: (subst1 10 [10, 32] v ++ 10 :: post)) → Reads b (hs ++ [(p.1, p.2 ++ #[10] ++ v.toArray)]) (pre.length + ((subst1 10 [10, 32] v).length + 2)) R → Reads b (hs ++ [p]) pre.length R
  | n, v, pre, p, hn, e, h => by
    by_cases hv : (10 : UInt8) ∈ v
    · obtain ⟨r, v', rfl, hr⟩ := List.eq_append_cons_of_mem hv
      rw [subst_at hr] at e h
      match n, hn with
      | 0, hn => simp at hn
      | n + 1, hn =>
        refine rd_more (r := r) (post := 32 :: (subst1 10 [10, 32] v' ++ 10 :: post)) (by simp [e]) hr ?_
        have := rd_val n v' (pre ++ 32 :: (r ++ [10])) (p.1, p.2 ++ #[10] ++ r.toArray) (by simp at hn; (first | k_extra "ar" | lia | omega)) (by simp [e]) (by
          have e1 : p.2 ++ #[10] ++ r.toArray ++ #[10] ++ v'.toArray = p.2 ++ #[10] ++ (r ++ 10 :: v').toArray := by apply Array.ext'; simp
          dsimp only
          rw [e1]
          refine (congrArg (fun k => Reads b _ k R) ?_).mp h
          simp
          (first | k_extra "ar" | lia | omega))
        refine (congrArg (fun k => Reads b _ k R) ?_).mp this
        simp
    · rw [subst_same hv] at e h
      exact rd_more e hv h
theorem rd_head (e : b.toList = pre ++ (key ++ 32 :: (subst1 10 [10, 32] v ++ 10 :: post))) (hk : key ≠ []) (k1 : 10 ∉ key) (k2 : 32 ∉ key) (h : Reads b (hs ++ [(key.toArray, v.toArray)]) (pre.length + (key.length + (subst1 10 [10, 32] v).length + 2)) R) : Reads b hs pre.length R := by
  by_cases hv : (10 : UInt8) ∈ v
  · obtain ⟨r, v', rfl, hr⟩ := List.eq_append_cons_of_mem hv
    rw [subst_at hr] at e h
    refine rd_new (r := r) (post := 32 :: (subst1 10 [10, 32] v' ++ 10 :: post)) (by simp [e]) hk k1 k2 hr ?_
    have := rd_val (b := b) (hs := hs) (post := post) (R := R) v'.length v' (pre ++ (key ++ 32 :: (r ++ [10]))) (key.toArray, r.toArray) (Nat.le_refl _) (by simp [e]) (by
      have e1 : r.toArray ++ #[10] ++ v'.toArray = (r ++ 10 :: v').toArray := by apply Array.ext'; simp
      dsimp only
      rw [e1]
      refine (congrArg (fun k => Reads b _ k R) ?_).mp h
      simp
      (first | k_extra "ar" | lia | omega))
    refine (congrArg (fun k => Reads b _ k R) ?_).mp this
    simp
    (first | k_extra "ar" | lia | omega)
  · rw [subst_same hv] at e h
    exact rd_new e hk k1 k2 hv h
/-- a key that a row can bear -/
def KeyOk (k : Array UInt8) : Prop := k.toList ≠ [] ∧ 10 ∉ k.toList ∧ 32 ∉ k.toList
theorem rd_all : ∀ (hs2 hs : List (Array UInt8 × Array UInt8)) (pre : List UInt8), b.toList = pre ++ (rowsL hs2 ++ 10 :: post) → (∀ q ∈ hs2, KeyOk q.1) → Reads b hs pre.length (some (hs ++ hs2, post.toArray))
  | [], hs, pre, e, _ => by
    rw [List.append_nil]
    exact rd_end (by simpa [rowsL] using e)
  | q :: hs2, hs, pre, e, hk => by
    obtain ⟨h1, h2, h3⟩ := hk q (List.mem_cons_self ..)
    have e2 : b.toList = pre ++ (q.1.toList ++ 32 :: (subst1 10 [10, 32] q.2.toList ++ 10 :: (rowsL hs2 ++ 10 :: post))) := by rw [e]; simp [rowsL]
    refine rd_head e2 h1 h2 h3 ?_
    have := rd_all hs2 (hs ++ [q]) (pre ++ (q.1.toList ++ 32 :: (subst1 10 [10, 32] q.2.toList ++ [10]))) (by simp [e2]) (fun x hx => hk x (List.mem_cons_of_mem _ hx))
    rw [List.append_assoc] at this
    refine (congrArg (fun k => Reads b _ k _) ?_).mp this
    simp
    (first | k_extra "ar" | lia | omega)
end
theorem heads_content {hs : List (Array UInt8 × Array UInt8)} {msg : Array UInt8} (hk : ∀ q ∈ hs, KeyOk q.1) (h0 : ∀ q ∈ hs, 0 ∉ q.1.toList ∧ 0 ∉ q.2.toList) (hm : 0 ∉ msg.toList) : headsOf (contentP hs msg) = some (hs, msg) := by
  have e := content_list hs msg
  unfold headsOf
  have hz : (0 : UInt8) ∉ rowsL hs ++ 10 :: msg.toList := by
    intro h
    rcases List.mem_append.mp h with h | h
    · obtain ⟨q, hq, h⟩ := List.mem_flatMap.mp h
      obtain ⟨a1, a2⟩ := h0 q hq
      rcases List.mem_append.mp h with h | h
      · exact a1 h
      · rcases List.mem_cons.mp h with h | h
        · exact absurd h (by decide)
        · rcases List.mem_append.mp h with h | h
          · obtain ⟨c, hc, h⟩ := List.mem_flatMap.mp h
            split at h
            · exact absurd h (by decide)
            · exact a2 ((List.mem_singleton.mp h) ▸ hc)
          · exact absurd h (by decide)
    · rcases List.mem_cons.mp h with h | h
      · exact absurd h (by decide)
      · exact hm h
  rw [if_neg (by rw [show (0 : Nat) = ([] : List UInt8).length from rfl, fnd1_none (pre := []) (seg := rowsL hs ++ 10 :: msg.toList) (by simpa using e) hz]; decide)]
  have h := rd_all (b := contentP hs msg) (post := msg.toList) hs [] [] (by simpa using e) hk
  have h2 := h ((contentP hs msg).size + 1) (by simp)
  simpa using h2


/-- what is told of a list of pairs -/
theorem hexVal_sign {k : Nat} (h : k < 16) : hexVal (hexSign k) = k := by
  have key : ∀ k : Fin 16, hexVal (hexSign k.1) = k.1 := by decide
  exact key ⟨k, h⟩
theorem sign_in {k : Nat} (h : k < 16) : hexB.contains (hexSign k).toUInt8 = true ∧ (hexSign k).toUInt8 ≠ 0 ∧ (hexSign k).toUInt8 ≠ 10 := by
  have key : ∀ k : Fin 16, hexB.contains (hexSign k.1).toUInt8 = true ∧ (hexSign k.1).toUInt8 ≠ 0 ∧ (hexSign k.1).toUInt8 ≠ 10 := by decide +kernel
  exact key ⟨k, h⟩
theorem hexA_in {b : Array UInt8} : ∀ c ∈ (hexA b).toList, hexB.contains c = true ∧ c ≠ 0 ∧ c ≠ 10 := by
  intro c hc
  obtain ⟨n, hn, rfl⟩ := List.mem_map.mp (show c ∈ (hexL b.toList).map (·.toUInt8) by simpa [hexA] using hc)
  unfold hexL at hn
  obtain ⟨k, _, hk⟩ := List.mem_flatMap.mp hn
  have := k.toNat_lt
  rcases List.mem_cons.mp hk with rfl | hk
  · exact sign_in (by (first | k_extra "ar" | lia | omega))
  · rw [List.mem_singleton.mp hk]; exact sign_in (by (first | k_extra "ar" | lia | omega))
theorem cod_hexA (b : Array UInt8) : cod (hexA b) = hexL b.toList := by
  unfold cod hexA
  have h := hexL_lt b.toList
  generalize hexL b.toList = l at h ⊢
  simp only [List.map_map]
  induction l with
  | nil => rfl
  | cons c r ih =>
    have hc := h c (List.mem_cons_self ..)
    have e : (c.toUInt8).toNat = c := by rw [Nat.toUInt8_eq, UInt8.toNat_ofNat_of_lt' (show c < 256 from hc)]
    rw [List.map_cons, ih (fun x hx => h x (List.mem_cons_of_mem _ hx))]
    show (c.toUInt8).toNat :: r = _
    rw [e]
theorem uns_hexL : ∀ l : List UInt8, uns (hexL l) = l.map (·.toNat)
  | [] => rfl
  | c :: r => by
    have := c.toNat_lt
    have e : hexL (c :: r) = hexSign (c.toNat / 16) :: hexSign (c.toNat % 16) :: hexL r := by simp [hexL]
    rw [e]
    show (16 * hexVal (hexSign (c.toNat / 16)) + hexVal (hexSign (c.toNat % 16))) :: uns (hexL r) = _
    rw [uns_hexL r, hexVal_sign (by (first | k_extra "ar" | lia | omega)), hexVal_sign (by (first | k_extra "ar" | lia | omega)), List.map_cons]
    congr 1
    (first | k_extra "ar" | lia | omega)
theorem unhex_hexA (b : Array UInt8) : unhexB (hexA b) = b := by
  unfold unhexB
  rw [cod_hexA, uns_hexL]
  apply Array.ext'
  simp only [List.map_map]
  have : (fun c : UInt8 => (c.toNat).toUInt8) = id := by funext c; simp
  show List.map (fun c : UInt8 => (c.toNat).toUInt8) b.toList = b.toList
  rw [this, List.map_id]
theorem idOf_hex {b : Array UInt8} {k : Nat} (h : b.size = k) : idOf (hexA b) k = some b := by
  unfold idOf
  rw [if_pos ⟨by rw [hexA_size, h], List.all_eq_true.mpr fun c hc => (hexA_in c hc).1⟩, unhex_hexA]
theorem idOf_size {b : Array UInt8} {k : Nat} (h : b.size ≠ 2 * k) : idOf b k = none := if_neg fun q => h q.1
theorem idOf_sign {b : Array UInt8} {c : UInt8} {k : Nat} (h : hexB.contains c = false) : idOf (b ++ #[c]) k = none := by
  refine if_neg fun q => ?_
  have := List.all_eq_true.mp q.2 c (by simp)
  rw [h] at this
  cases this
theorem id_bent {b v : Array UInt8} {k : Nat} (hb : b.size = k) (hk : 2 ≤ k) (hv : v ∈ [(hexA b).extract 0 ((hexA b).size - 1), hexA b ++ #[48], (hexA b).extract 0 ((hexA b).size - 1) ++ #[65], (hexA b).extract 0 ((hexA b).size - 1) ++ #[103], (hexA b).extract 0 ((hexA b).size - 2), #[]]) : idOf v k = none := by
  have hs := hexA_size b
  simp only [List.mem_cons, List.not_mem_nil, or_false] at hv
  rcases hv with rfl | rfl | rfl | rfl | rfl | rfl
  · exact idOf_size (by rw [Array.size_extract]; (first | k_extra "ar" | lia | omega))
  · exact idOf_size (by rw [Array.size_append]; show (hexA b).size + 1 ≠ _; (first | k_extra "ar" | lia | omega))
  · exact idOf_sign (by decide +kernel)
  · exact idOf_sign (by decide +kernel)
  · exact idOf_size (by rw [Array.size_extract]; (first | k_extra "ar" | lia | omega))
  · exact idOf_size (by show 0 ≠ _; (first | k_extra "ar" | lia | omega))
-- people
theorem people_ok : ∀ p ∈ lawPeople, 60 ∉ p.1.toList ∧ 32 ∉ p.2.toList ∧ (∀ c ∈ p.1.toList ++ p.2.toList, c ≠ 60 ∧ c ≠ 62 ∧ c ≠ 10 ∧ c ≠ 0) ∧ p.1.size ≤ 5 ∧ p.2.size ≤ 5 := by decide
theorem zones_ok : ∀ z ∈ lawZones, z.size = 5 ∧ (#[43, 45] : Array UInt8).contains (at8 z (Int.toNat 0)).toNat.toUInt8 = true ∧ allIn (z.extract (Int.toNat 1) z.size) #[48, 49, 50, 51, 52, 53, 54, 55, 56, 57] = true ∧ ∀ c ∈ z.toList, c ≠ 0 ∧ c ≠ 10 := by decide +kernel
theorem decB_fig {n : Nat} : ∀ c ∈ (decB n).toList, c ≠ 32 ∧ c ≠ 0 ∧ c ≠ 10 := by
  intro c hc
  obtain ⟨d, hd, rfl⟩ := List.mem_map.mp (show c ∈ (decL n).map (·.toUInt8) by simpa [decB] using hc)
  have h := decL_fig hd
  have key : ∀ k : Fin 10, (48 + k.1).toUInt8 ≠ 32 ∧ (48 + k.1).toUInt8 ≠ 0 ∧ (48 + k.1).toUInt8 ≠ 10 := by decide
  have := key ⟨d - 48, by (first | k_extra "ar" | lia | omega)⟩
  rwa [show 48 + (d - 48) = d by (first | k_extra "ar" | lia | omega)] at this
section
variable {b : Array UInt8} {n e : Array UInt8} {t : List UInt8}
theorem per_at (h : b.toList = n.toList ++ 32 :: 60 :: (e.toList ++ 62 :: 32 :: t)) (h1 : 60 ∉ n.toList) (h2 : 32 ∉ e.toList) (h3 : ∀ c ∈ n.toList ++ e.toList, c ≠ 60 ∧ c ≠ 62 ∧ c ≠ 10 ∧ c ≠ 0) : ¬ pStart b < 0 ∧ ¬ pEnd b < 0 ∧ pName b = n ∧ pMail b = e ∧ pTail b = t.toArray ∧ pOdd b = false := by
  have hs := size_of h
  simp only [List.length_append, List.length_cons, Array.length_toList] at hs
  have e1 : pStart b = (n.size : Int) := by
    show fnd b #[32, 60] 0 = _
    rw [fnd2_at h h1 (by decide)]
    simp
  have e2 : pRest b = (e.toList ++ 62 :: 32 :: t).toArray := by
    show b.extract (pStart b + 2).toNat b.size = _
    rw [e1]
    have h6 := ext_mid (b := b) (x := n.toList ++ [32, 60]) (y := e.toList ++ 62 :: 32 :: t) (z := []) (by simp [h])
    have h7 : (n.toList ++ [(32 : UInt8), 60]).length + (e.toList ++ 62 :: 32 :: t).length = b.size := by simp; (first | k_extra "ar" | lia | omega)
    rw [h7] at h6
    rw [← h6]
    congr 1
    simp
    (first | k_extra "ar" | lia | omega)
  have e3 : pEnd b = (e.size : Int) := by
    show fnd (pRest b) #[62, 32] 0 = _
    rw [fnd2_at (b := pRest b) (by rw [e2]) h2 (by decide)]
    simp
  have e4 : pName b = n := by
    show b.extract 0 (pStart b).toNat = n
    rw [e1]
    have h6 := ext_mid (b := b) (x := []) (y := n.toList) (z := 32 :: 60 :: (e.toList ++ 62 :: 32 :: t)) (by simp [h])
    simpa using h6
  have e5 : pMail b = e := by
    show (pRest b).extract 0 (pEnd b).toNat = e
    rw [e3, e2]
    have h6 := ext_mid (b := (e.toList ++ 62 :: 32 :: t).toArray) (x := []) (y := e.toList) (z := 62 :: 32 :: t) (by simp)
    simpa using h6
  have e6 : pTail b = t.toArray := by
    show (pRest b).extract (pEnd b + 2).toNat (pRest b).size = t.toArray
    rw [e3, e2]
    have h6 := ext_mid (b := (e.toList ++ 62 :: 32 :: t).toArray) (x := e.toList ++ [62, 32]) (y := t) (z := []) (by simp)
    have h7 : (e.toList ++ [(62 : UInt8), 32]).length + t.length = (e.toList ++ 62 :: 32 :: t).toArray.size := by simp; (first | k_extra "ar" | lia | omega)
    rw [h7] at h6
    rw [← h6]
    congr 1
    simp
    (first | k_extra "ar" | lia | omega)
  refine ⟨by rw [e1]; (first | k_extra "ar" | lia | omega), by rw [e3]; (first | k_extra "ar" | lia | omega), e4, e5, e6, ?_⟩
  show (#[60, 62, 10, 0].toList.any fun k => decide (0 ≤ fnd (pName b ++ pMail b) #[k] 0)) = false
  rw [e4, e5, List.any_eq_false]
  intro k hk
  have hz : k ∉ n.toList ++ e.toList := by
    intro hc
    obtain ⟨a1, a2, a3, a4⟩ := h3 k hc
    simp only [List.mem_cons, List.not_mem_nil, or_false] at hk
    rcases hk with hk | hk | hk | hk
    · exact a1 hk
    · exact a2 hk
    · exact a3 hk
    · exact a4 hk
  have := fnd1_none (b := n ++ e) (c := k) (pre := []) (seg := n.toList ++ e.toList) (by simp) hz
  rw [List.length_nil] at this
  rw [this]
  decide
end
theorem perB_list (q : Array UInt8 × Array UInt8 × Nat × Array UInt8) : (perB q).toList = q.1.toList ++ 32 :: 60 :: (q.2.1.toList ++ 62 :: 32 :: ((decB q.2.2.1).toList ++ 32 :: q.2.2.2.toList)) := by
  unfold perB
  simp
theorem person_good {q : Array UInt8 × Array UInt8 × Nat × Array UInt8} (h : LawPer q) : personOf (perB q) = some (perI q) := by
  obtain ⟨h1, _, h2⟩ := h
  obtain ⟨a1, a2, a3, a4, a5⟩ := people_ok _ h1
  obtain ⟨z1, z2, z3, z4⟩ := zones_ok _ h2
  obtain ⟨p1, p2, p3, p4, p5, p6⟩ := per_at (perB_list q) a1 a2 a3
  have e1 : pBlank (perB q) = ((decB q.2.2.1).size : Int) := by
    show fnd (pTail (perB q)) #[32] 0 = _
    have := fnd1_at (b := pTail (perB q)) (c := 32) (pre := []) (seg := (decB q.2.2.1).toList) (post := q.2.2.2.toList) (by rw [p5]; simp) (fun hc => (decB_fig _ hc).1 rfl)
    simpa using this
  have e2 : pNum (perB q) = some ((q.2.2.1 : Nat) : Int) := by
    show numOf ((pTail (perB q)).extract 0 (pBlank (perB q)).toNat) = _
    rw [e1, p5]
    have h6 := ext_mid (b := ((decB q.2.2.1).toList ++ 32 :: q.2.2.2.toList).toArray) (x := []) (y := (decB q.2.2.1).toList) (z := 32 :: q.2.2.2.toList) (by simp)
    have h7 : ((decB q.2.2.1).toList ++ 32 :: q.2.2.2.toList).toArray.extract 0 (((decB q.2.2.1).size : Int)).toNat = decB q.2.2.1 := by simpa using h6
    rw [h7]
    exact numOf_dec _
  have e3 : pZone (perB q) = q.2.2.2 := by
    show (pTail (perB q)).extract (pBlank (perB q) + 1).toNat (pTail (perB q)).size = _
    rw [e1, p5]
    have h6 := ext_mid (b := ((decB q.2.2.1).toList ++ 32 :: q.2.2.2.toList).toArray) (x := (decB q.2.2.1).toList ++ [32]) (y := q.2.2.2.toList) (z := []) (by simp)
    have h7 : ((decB q.2.2.1).toList ++ [(32 : UInt8)]).length + q.2.2.2.toList.length = ((decB q.2.2.1).toList ++ 32 :: q.2.2.2.toList).toArray.size := by simp; (first | k_extra "ar" | lia | omega)
    have h9 : (((decB q.2.2.1).size : Int) + 1).toNat = ((decB q.2.2.1).toList ++ [(32 : UInt8)]).length := by simp
    rw [h9, ← h7, h6, Array.toArray_toList]
  rw [po9 p1 p2 p6 (by rw [e1]; (first | k_extra "ar" | lia | omega)) e2 (by rw [e3, z1]; rfl) (by show (#[43, 45] : Array UInt8).contains (at8 (pZone (perB q)) (Int.toNat 0)).toNat.toUInt8 = true; rw [e3]; exact z2) (by show allIn ((pZone (perB q)).extract (Int.toNat 1) (pZone (perB q)).size) _ = true; rw [e3]; exact z3), p3, p4, e3]
theorem person_cut {q : Array UInt8 × Array UInt8 × Nat × Array UInt8} (h : LawPer q) : personOf ((perB q).extract 0 ((perB q).size - 6)) = none := by
  obtain ⟨h1, _, h2⟩ := h
  obtain ⟨a1, a2, a3, a4, a5⟩ := people_ok _ h1
  obtain ⟨z1, z2, z3, z4⟩ := zones_ok _ h2
  have hl := perB_list q
  have hs := size_of hl
  simp only [List.length_append, List.length_cons, Array.length_toList] at hs
  have e : ((perB q).extract 0 ((perB q).size - 6)).toList = q.1.toList ++ 32 :: 60 :: (q.2.1.toList ++ 62 :: 32 :: (decB q.2.2.1).toList) := by
    have h6 := ext_mid (b := perB q) (x := []) (y := q.1.toList ++ 32 :: 60 :: (q.2.1.toList ++ 62 :: 32 :: (decB q.2.2.1).toList)) (z := 32 :: q.2.2.2.toList) (by rw [hl]; simp)
    have h7 : ([] : List UInt8).length + (q.1.toList ++ 32 :: 60 :: (q.2.1.toList ++ 62 :: 32 :: (decB q.2.2.1).toList)).length = (perB q).size - 6 := by simp; (first | k_extra "ar" | lia | omega)
    rw [h7] at h6
    rw [show (0 : Nat) = ([] : List UInt8).length from rfl, h6]
  obtain ⟨p1, p2, p3, p4, p5, p6⟩ := per_at e a1 a2 a3
  refine po4 p1 p2 p6 ?_
  show fnd (pTail _) #[32] 0 < 0
  have := fnd1_none (b := pTail ((perB q).extract 0 ((perB q).size - 6))) (c := 32) (pre := []) (seg := (decB q.2.2.1).toList) (by rw [p5]; simp) (fun hc => (decB_fig _ hc).1 rfl)
  rw [List.length_nil] at this
  rw [this]
  decide
theorem perB_plain {q : Array UInt8 × Array UInt8 × Nat × Array UInt8} (h : LawPer q) : (perB q).size ≤ 30 ∧ ∀ c ∈ (perB q).toList, c ≠ 0 ∧ c ≠ 10 := by
  obtain ⟨h1, ⟨k, hk, hn⟩, h2⟩ := h
  obtain ⟨a1, a2, a3, a4, a5⟩ := people_ok _ h1
  obtain ⟨z1, z2, z3, z4⟩ := zones_ok _ h2
  have hl := perB_list q
  have hs := size_of hl
  have hd := decB_size q.2.2.1
  have hd2 := decL_len (n := q.2.2.1) (by (first | k_extra "ar" | lia | omega))
  simp only [List.length_append, List.length_cons, Array.length_toList] at hs
  refine ⟨by dsimp only at a4 a5; (first | k_extra "ar" | lia | omega), ?_⟩
  intro c hc
  rw [hl] at hc
  simp only [List.mem_append, List.mem_cons] at hc
  rcases hc with hc | hc | hc | hc | hc | hc | hc | hc | hc
  · exact ⟨(a3 c (by simp [hc])).2.2.2, (a3 c (by simp [hc])).2.2.1⟩
  · subst hc; decide
  · subst hc; decide
  · exact ⟨(a3 c (by simp [hc])).2.2.2, (a3 c (by simp [hc])).2.2.1⟩
  · subst hc; decide
  · subst hc; decide
  · exact (decB_fig c hc).2
  · subst hc; decide
  · exact z4 c hc
-- the heads in their order
section
variable {hs pre rest : List (Array UInt8 × Array UInt8)} {key : Array UInt8}
theorem nextIs_drop (i : Nat) : nextIs (pre ++ rest) ((pre.length + i : Nat) : Int) key = nextIs rest (i : Int) key := by
  unfold nextIs
  rw [Int.toNat_natCast, Int.toNat_natCast, List.getElem?_append_right (Nat.le_add_right _ _), Nat.add_sub_cancel_left]
theorem takeF_drop (i : Nat) : takeF (pre ++ rest) ((pre.length + i : Nat) : Int) key = takeF rest (i : Int) key := by
  unfold takeF
  rw [nextIs_drop, Int.toNat_natCast, Int.toNat_natCast, List.getElem?_append_right (Nat.le_add_right _ _), Nat.add_sub_cancel_left]
abbrev par (b : Array UInt8) : Array UInt8 × Array UInt8 := (bParent, hexA b)
theorem pf_go {k : Nat} : ∀ (ids : List (Array UInt8)) (pre : List (Array UInt8 × Array UInt8)) (f : Nat) (acc : List (Array UInt8)), (∀ b ∈ ids, b.size = k) → ids.length < f → parentsF f (pre ++ (ids.map par ++ rest)) k (pre.length : Int) acc = parentsF (f - ids.length) (pre ++ (ids.map par ++ rest)) k ((pre.length + ids.length : Nat) : Int) (acc ++ ids)
  | [], pre, f, acc, _, hf => by simp
  | b :: ids, pre, f, acc, hb, hf => by
    obtain ⟨f, rfl⟩ : ∃ g, f = g + 1 := ⟨f - 1, by simp at hf; (first | k_extra "ar" | lia | omega)⟩
    have e0 : pre ++ ((b :: ids).map par ++ rest) = pre ++ (par b :: (ids.map par ++ rest)) := by simp
    have h1 : nextIs (pre ++ ((b :: ids).map par ++ rest)) (pre.length : Int) bParent = true := by
      have := nextIs_drop (pre := pre) (rest := (b :: ids).map par ++ rest) (key := bParent) 0
      rw [Nat.add_zero] at this
      rw [this]
      rfl
    have h2 : (pre ++ ((b :: ids).map par ++ rest))[(pre.length : Int).toNat]? = some (par b) := by
      rw [Int.toNat_natCast, e0, List.getElem?_append_right (Nat.le_refl _), Nat.sub_self]
      rfl
    have h3 : parentsF (f + 1) (pre ++ ((b :: ids).map par ++ rest)) k (pre.length : Int) acc = parentsF f (pre ++ ((b :: ids).map par ++ rest)) k ((pre.length : Int) + 1) (acc ++ [b]) := by
      conv => lhs; unfold parentsF
      rw [if_pos h1, h2]
      dsimp only
      rw [idOf_hex (hb b (List.mem_cons_self ..))]
    rw [h3]
    have ih := pf_go ids (pre ++ [par b]) f (acc ++ [b]) (fun x hx => hb x (List.mem_cons_of_mem _ hx)) (by simp at hf; (first | k_extra "ar" | lia | omega))
    have e1 : pre ++ [par b] ++ (ids.map par ++ rest) = pre ++ ((b :: ids).map par ++ rest) := by simp
    rw [e1] at ih
    have e2 : ((pre ++ [par b]).length : Int) = (pre.length : Int) + 1 := by simp
    have e3 : (pre ++ [par b]).length + ids.length = pre.length + (b :: ids).length := by simp; (first | k_extra "ar" | lia | omega)
    rw [e2, e3] at ih
    rw [ih]
    congr 1
    · simp
    · simp
theorem pf_all {k f : Nat} {ids acc : List (Array UInt8)} (hb : ∀ b ∈ ids, b.size = k) (hf : ids.length < f) (hn : nextIs rest 0 bParent = false) : parentsF f (pre ++ (ids.map par ++ rest)) k (pre.length : Int) acc = some (acc ++ ids, ((pre.length + ids.length : Nat) : Int)) := by
  rw [pf_go ids pre f acc hb hf]
  obtain ⟨g, hg⟩ : ∃ g, f - ids.length = g + 1 := ⟨f - ids.length - 1, by (first | k_extra "ar" | lia | omega)⟩
  rw [hg]
  refine pf_stop ?_
  have := nextIs_drop (pre := pre ++ ids.map par) (rest := rest) (key := bParent) 0
  have hn' : nextIs rest ((0 : Nat) : Int) bParent = false := hn
  rw [hn'] at this
  rw [← this, List.append_assoc]
  congr 1
  simp
theorem pf_fall {k f : Nat} {ids acc : List (Array UInt8)} {v : Array UInt8} (hb : ∀ b ∈ ids, b.size = k) (hf : ids.length < f) (hv : idOf v k = none) : parentsF f (pre ++ (ids.map par ++ (bParent, v) :: rest)) k (pre.length : Int) acc = none := by
  rw [pf_go ids pre f acc hb hf]
  obtain ⟨g, hg⟩ : ∃ g, f - ids.length = g + 1 := ⟨f - ids.length - 1, by (first | k_extra "ar" | lia | omega)⟩
  rw [hg]
  have e : pre ++ (ids.map par ++ (bParent, v) :: rest) = (pre ++ ids.map par) ++ (bParent, v) :: rest := by simp
  have e2 : pre.length + ids.length = (pre ++ ids.map par).length := by simp
  refine pf_bad (q := (bParent, v)) ?_ ?_ hv
  · have := nextIs_drop (pre := pre ++ ids.map par) (rest := (bParent, v) :: rest) (key := bParent) 0
    rw [Nat.add_zero] at this
    rw [e, e2, this]
    rfl
  · rw [e, e2, Int.toNat_natCast, List.getElem?_append_right (Nat.le_refl _), Nat.sub_self]
    rfl
end
section
variable {b tree msg : Array UInt8} {k : Nat} {ids : List (Array UInt8)} {rest : List (Array UInt8 × Array UInt8)}
theorem cm_rest (h1 : headsOf b = some ((bTree, hexA tree) :: (ids.map par ++ rest), msg)) (ht : tree.size = k) (hi : ∀ x ∈ ids, x.size = k) (hn : nextIs rest 0 bParent = false) :
    commitOf b k = ((takeF rest 0 bAuthor).bind fun a => (personOf a).bind fun au => (takeF rest 1 bCommitter).bind fun c => (personOf c).bind fun co => if (rest.drop 2).any (fun q => isHead q.1) = true then none else some ⟨tree, ids, au, co, rest.drop 2, msg⟩) := by
  have h2 : takeF ((bTree, hexA tree) :: (ids.map par ++ rest)) 0 bTree = some (hexA tree) := rfl
  have h4 := pf_all (pre := [(bTree, hexA tree)]) (rest := rest) (f := ((bTree, hexA tree) :: (ids.map par ++ rest)).length + 1) (acc := []) hi (by simp; (first | k_extra "ar" | lia | omega)) hn
  have h4' : parentsF (((bTree, hexA tree) :: (ids.map par ++ rest)).length + 1) ((bTree, hexA tree) :: (ids.map par ++ rest)) k 1 [] = some (ids, ((1 + ids.length : Nat) : Int)) := h4
  have h5 : ∀ (j : Nat) key, takeF ((bTree, hexA tree) :: (ids.map par ++ rest)) (((1 + ids.length + j : Nat)) : Int) key = takeF rest (j : Int) key := fun j key => by
    have := takeF_drop (pre := (bTree, hexA tree) :: ids.map par) (rest := rest) (key := key) j
    rw [← this, List.cons_append]
    congr 1
    simp
    (first | k_extra "ar" | lia | omega)
  have h6 : ((bTree, hexA tree) :: (ids.map par ++ rest)).drop ((1 + ids.length + 2 : Nat)) = rest.drop 2 := by
    have e : (bTree, hexA tree) :: (ids.map par ++ rest) = ((bTree, hexA tree) :: ids.map par) ++ rest := rfl
    have e2 : 1 + ids.length + 2 = ((bTree, hexA tree) :: ids.map par).length + 2 := by simp; (first | k_extra "ar" | lia | omega)
    rw [e, e2, List.drop_append]
    simp
  have a1 := h5 0 bAuthor
  have a2 := h5 1 bCommitter
  simp only [commitOf, h1, h2, h4', Option.bind_some, idOf_hex ht]
  rw [show (((1 + ids.length : Nat) : Int) + 2).toNat = 1 + ids.length + 2 by (first | k_extra "ar" | lia | omega), h6]
  rw [show ((1 + ids.length + 0 : Nat) : Int) = ((1 + ids.length : Nat) : Int) by (first | k_extra "ar" | lia | omega)] at a1
  rw [show ((1 + ids.length + 1 : Nat) : Int) = ((1 + ids.length : Nat) : Int) + 1 by (first | k_extra "ar" | lia | omega)] at a2
  rw [a1, a2]
  rfl
end


/-- what is told of a head that may be bent -/
theorem headsP_eq (tree : Array UInt8) (ids : List (Array UInt8)) (qa qc : Array UInt8 × Array UInt8 × Nat × Array UInt8) (ex : List (Array UInt8 × Array UInt8)) : headsP tree ids qa qc ex = (bTree, hexA tree) :: (ids.map par ++ (bAuthor, perB qa) :: (bCommitter, perB qc) :: ex) := by
  unfold headsP
  simp
theorem keys_ok : ∀ k ∈ lawKeys, (k.toList ≠ [] ∧ 10 ∉ k.toList ∧ 32 ∉ k.toList) ∧ 0 ∉ k.toList ∧ k.size ≤ 9 ∧ isHead k = false := by decide
/-- what all heads of the law have -/
def HeadOk (q : Array UInt8 × Array UInt8) : Prop := KeyOk q.1 ∧ 0 ∉ q.1.toList ∧ 0 ∉ q.2.toList ∧ q.1.size ≤ 9
/-- what the law draws -/
structure Good (sz : Nat) (tree : Array UInt8) (ids : List (Array UInt8)) (qa qc : Array UInt8 × Array UInt8 × Nat × Array UInt8) (ex : List (Array UInt8 × Array UInt8)) (msg : Array UInt8) : Prop where
  lo : 2 ≤ sz
  hi : sz ≤ 4
  tree : tree.size = sz
  few : ids.length ≤ 3
  ids : ∀ b ∈ ids, b.size = sz
  au : LawPer qa
  co : LawPer qc
  short : ex.length ≤ 3
  ex : ∀ q ∈ ex, q.1 ∈ lawKeys ∧ Plain q.2
  msg : Plain msg
section
variable {sz : Nat} {tree : Array UInt8} {ids : List (Array UInt8)} {qa qc : Array UInt8 × Array UInt8 × Nat × Array UInt8} {ex hs' : List (Array UInt8 × Array UInt8)} {msg : Array UInt8}
theorem head_all (G : Good sz tree ids qa qc ex msg) : ∀ q ∈ headsP tree ids qa qc ex, HeadOk q ∧ q.2.size ≤ 100 := by
  intro q hq
  have hx : ∀ b : Array UInt8, 0 ∉ (hexA b).toList := fun b hc => (hexA_in 0 hc).2.1 rfl
  have hp : ∀ p, LawPer p → 0 ∉ (perB p).toList ∧ (perB p).size ≤ 100 := fun p h => ⟨fun hc => ((perB_plain h).2 0 hc).1 rfl, Nat.le_trans (perB_plain h).1 (by decide)⟩
  have k1 : KeyOk bTree ∧ 0 ∉ bTree.toList ∧ bTree.size ≤ 9 := by unfold KeyOk; decide
  have k2 : KeyOk bParent ∧ 0 ∉ bParent.toList ∧ bParent.size ≤ 9 := by unfold KeyOk; decide
  have k3 : KeyOk bAuthor ∧ 0 ∉ bAuthor.toList ∧ bAuthor.size ≤ 9 := by unfold KeyOk; decide
  have k4 : KeyOk bCommitter ∧ 0 ∉ bCommitter.toList ∧ bCommitter.size ≤ 9 := by unfold KeyOk; decide
  rw [headsP_eq] at hq
  rcases List.mem_cons.mp hq with rfl | hq
  · exact ⟨⟨k1.1, k1.2.1, hx _, k1.2.2⟩, by have := hexA_size tree; have := G.tree; have := G.hi; dsimp only; (first | k_extra "ar" | lia | omega)⟩
  rcases List.mem_append.mp hq with hq | hq
  · obtain ⟨b, hb, rfl⟩ := List.mem_map.mp hq
    exact ⟨⟨k2.1, k2.2.1, hx _, k2.2.2⟩, by have := hexA_size b; have := G.ids b hb; have := G.hi; dsimp only; (first | k_extra "ar" | lia | omega)⟩
  rcases List.mem_cons.mp hq with rfl | hq
  · exact ⟨⟨k3.1, k3.2.1, (hp _ G.au).1, k3.2.2⟩, (hp _ G.au).2⟩
  rcases List.mem_cons.mp hq with rfl | hq
  · exact ⟨⟨k4.1, k4.2.1, (hp _ G.co).1, k4.2.2⟩, (hp _ G.co).2⟩
  · obtain ⟨h1, h2⟩ := G.ex q hq
    obtain ⟨a1, a2, a3, a4⟩ := keys_ok _ h1
    exact ⟨⟨a1, a2, fun hc => h2.2 0 hc rfl, a3⟩, h2.1⟩
theorem bent_mem {a : Nat} {hs : List (Array UInt8 × Array UInt8)} (hb : Bent a hs hs') : hs'.length ≤ 2 * hs.length ∧ ∀ q ∈ hs', ∃ q0 ∈ hs, q.1 = q0.1 ∧ (0 ∉ q0.2.toList → 0 ∉ q.2.toList) ∧ q.2.size ≤ q0.2.size + 1 := by
  have same : ∀ q ∈ hs, ∃ q0 ∈ hs, q.1 = q0.1 ∧ (0 ∉ q0.2.toList → 0 ∉ q.2.toList) ∧ q.2.size ≤ q0.2.size + 1 := fun q hq => ⟨q, hq, rfl, id, Nat.le_succ _⟩
  have cut : ∀ (v : Array UInt8) (i : Nat), (0 ∉ v.toList → 0 ∉ (v.extract 0 i).toList) ∧ (v.extract 0 i).size ≤ v.size := fun v i => by
    refine ⟨fun h hc => h ?_, by rw [Array.size_extract]; (first | k_extra "ar" | lia | omega)⟩
    rw [Array.toList_extract, List.extract_eq_take_drop] at hc
    exact List.mem_of_mem_drop (List.mem_of_mem_take hc)
  cases hb with
  | gone j hj =>
    refine ⟨by simp; (first | k_extra "ar" | lia | omega), fun q hq => same q ?_⟩
    rcases List.mem_append.mp hq with h | h
    · exact List.mem_of_mem_take h
    · exact List.mem_of_mem_drop h
  | twice j hj =>
    refine ⟨by simp; (first | k_extra "ar" | lia | omega), fun q hq => same q ?_⟩
    rcases List.mem_append.mp hq with h | h
    · exact List.mem_of_mem_take h
    · exact List.mem_of_mem_drop h
  | swap i j p r hij hp hr =>
    refine ⟨by simp; (first | k_extra "ar" | lia | omega), fun q hq => same q ?_⟩
    rcases List.mem_or_eq_of_mem_set hq with h | rfl
    · rcases List.mem_or_eq_of_mem_set h with h | rfl
      · exact h
      · exact List.mem_of_getElem? hr
    · exact List.mem_of_getElem? hp
  | id j p v hj hp hv =>
    refine ⟨by simp; (first | k_extra "ar" | lia | omega), fun q hq => ?_⟩
    rcases List.mem_or_eq_of_mem_set hq with h | rfl
    · exact same q h
    · refine ⟨p, List.mem_of_getElem? hp, rfl, ?_⟩
      dsimp only
      have ap : ∀ (x : Array UInt8) (c : UInt8), c ≠ 0 → (0 ∉ x.toList → 0 ∉ (x ++ #[c]).toList) ∧ (x ++ #[c]).size = x.size + 1 := fun x c hc => ⟨fun h h2 => by
        rw [Array.toList_append] at h2
        rcases List.mem_append.mp h2 with h2 | h2
        · exact h h2
        · exact hc (show (0 : UInt8) = c by simpa using h2).symm, by rw [Array.size_append]; rfl⟩
      obtain ⟨c1, c2⟩ := cut p.2 (p.2.size - 1)
      obtain ⟨c3, c4⟩ := cut p.2 (p.2.size - 2)
      simp only [List.mem_cons, List.not_mem_nil, or_false] at hv
      rcases hv with rfl | rfl | rfl | rfl | rfl | rfl
      · exact ⟨c1, by (first | k_extra "ar" | lia | omega)⟩
      · exact ⟨(ap _ _ (by decide)).1, by rw [(ap _ _ (by decide)).2]; (first | k_extra "ar" | lia | omega)⟩
      · exact ⟨fun h => (ap _ _ (by decide)).1 (c1 h), by rw [(ap _ _ (by decide)).2]; (first | k_extra "ar" | lia | omega)⟩
      · exact ⟨fun h => (ap _ _ (by decide)).1 (c1 h), by rw [(ap _ _ (by decide)).2]; (first | k_extra "ar" | lia | omega)⟩
      · exact ⟨c3, by (first | k_extra "ar" | lia | omega)⟩
      · exact ⟨fun _ h => by simp at h, by simp⟩
  | person j p hj hp =>
    refine ⟨by simp; (first | k_extra "ar" | lia | omega), fun q hq => ?_⟩
    rcases List.mem_or_eq_of_mem_set hq with h | rfl
    · exact same q h
    · obtain ⟨c1, c2⟩ := cut p.2 (p.2.size - 6)
      exact ⟨p, List.mem_of_getElem? hp, rfl, c1, by dsimp only; (first | k_extra "ar" | lia | omega)⟩
theorem rows_len : ∀ hs : List (Array UInt8 × Array UInt8), (∀ q ∈ hs, q.1.size ≤ 9 ∧ q.2.size ≤ 101) → (rowsL hs).length ≤ 213 * hs.length
  | [], _ => by simp [rowsL]
  | q :: r, h => by
    have ih := rows_len r fun x hx => h x (List.mem_cons_of_mem _ hx)
    obtain ⟨h1, h2⟩ := h q (List.mem_cons_self ..)
    have h3 := subst_len 10 [10, 32] (by decide) q.2.toList
    have e : rowsL (q :: r) = (q.1.toList ++ 32 :: (subst1 10 [10, 32] q.2.toList ++ [10])) ++ rowsL r := by simp [rowsL]
    rw [e]
    simp only [List.length_append, List.length_cons, List.length_nil, Array.length_toList] at h3 ih ⊢
    (first | k_extra "ar" | lia | omega)
theorem content_size {hs : List (Array UInt8 × Array UInt8)} (h : ∀ q ∈ hs, q.1.size ≤ 9 ∧ q.2.size ≤ 101) (hl : hs.length ≤ 20) (hm : msg.size ≤ 100) : (contentP hs msg).size ≤ 10000 := by
  have e := size_of (content_list hs msg)
  have := rows_len hs h
  simp only [List.length_append, List.length_cons, Array.length_toList] at e
  (first | k_extra "ar" | lia | omega)
theorem heads_few (G : Good sz tree ids qa qc ex msg) : (headsP tree ids qa qc ex).length ≤ 9 := by
  rw [headsP_eq]
  have := G.few
  have := G.short
  simp
  (first | k_extra "ar" | lia | omega)
theorem bent_size (G : Good sz tree ids qa qc ex msg) (hb : Bent (ids.length + 1) (headsP tree ids qa qc ex) hs') : (contentP hs' msg).size ≤ 10000 ∧ hs'.length ≤ 100 ∧ ∀ q ∈ hs', q.1.size ≤ 1000 ∧ q.2.size ≤ 1000 := by
  obtain ⟨h1, h2⟩ := bent_mem hb
  have h3 := heads_few G
  have h4 : ∀ q ∈ hs', q.1.size ≤ 9 ∧ q.2.size ≤ 101 := fun q hq => by
    obtain ⟨q0, hq0, e1, _, e3⟩ := h2 q hq
    obtain ⟨g1, g2⟩ := head_all G q0 hq0
    rw [e1]
    exact ⟨g1.2.2.2, by (first | k_extra "ar" | lia | omega)⟩
  exact ⟨content_size h4 (by (first | k_extra "ar" | lia | omega)) G.msg.1, by (first | k_extra "ar" | lia | omega), fun q hq => ⟨Nat.le_trans (h4 q hq).1 (by decide), Nat.le_trans (h4 q hq).2 (by decide)⟩⟩
theorem heads_size (G : Good sz tree ids qa qc ex msg) : (contentP (headsP tree ids qa qc ex) msg).size ≤ 10000 ∧ ids.length + 2 < (headsP tree ids qa qc ex).length ∧ (headsP tree ids qa qc ex).length ≤ 100 ∧ ∀ q ∈ headsP tree ids qa qc ex, q.1.size ≤ 1000 ∧ q.2.size ≤ 1000 := by
  have h3 := heads_few G
  have h4 : ∀ q ∈ headsP tree ids qa qc ex, q.1.size ≤ 9 ∧ q.2.size ≤ 101 := fun q hq => ⟨(head_all G q hq).1.2.2.2, Nat.le_trans (head_all G q hq).2 (by decide)⟩
  refine ⟨content_size h4 (by (first | k_extra "ar" | lia | omega)) G.msg.1, by rw [headsP_eq]; simp; (first | k_extra "ar" | lia | omega), by (first | k_extra "ar" | lia | omega), fun q hq => ⟨Nat.le_trans (h4 q hq).1 (by decide), Nat.le_trans (h4 q hq).2 (by decide)⟩⟩
theorem good_heads (G : Good sz tree ids qa qc ex msg) : headsOf (contentP (headsP tree ids qa qc ex) msg) = some (headsP tree ids qa qc ex, msg) :=
  heads_content (fun q hq => (head_all G q hq).1.1) (fun q hq => ⟨(head_all G q hq).1.2.1, (head_all G q hq).1.2.2.1⟩) (fun hc => G.msg.2 0 hc rfl)
theorem bent_heads (G : Good sz tree ids qa qc ex msg) (hb : Bent (ids.length + 1) (headsP tree ids qa qc ex) hs') : headsOf (contentP hs' msg) = some (hs', msg) := by
  obtain ⟨_, h2⟩ := bent_mem hb
  refine heads_content (fun q hq => ?_) (fun q hq => ?_) (fun hc => G.msg.2 0 hc rfl)
  · obtain ⟨q0, hq0, e1, _, _⟩ := h2 q hq
    rw [e1]
    exact (head_all G q0 hq0).1.1
  · obtain ⟨q0, hq0, e1, e2, _⟩ := h2 q hq
    rw [e1]
    exact ⟨(head_all G q0 hq0).1.2.1, e2 (head_all G q0 hq0).1.2.2.1⟩
theorem ex_no (G : Good sz tree ids qa qc ex msg) : ex.any (fun q => isHead q.1) = false := by
  rw [List.any_eq_false]
  intro q hq h
  rw [(keys_ok _ (G.ex q hq).1).2.2.2] at h
  cases h
theorem good_some (G : Good sz tree ids qa qc ex msg) : commitOf (contentP (headsP tree ids qa qc ex) msg) sz = some ⟨tree, ids, perI qa, perI qc, ex, msg⟩ := by
  have h := good_heads G
  have h2 := h
  rw [headsP_eq] at h2
  rw [cm_rest (by rw [h, headsP_eq]) G.tree G.ids rfl]
  show ((some (perB qa)).bind fun a => (personOf a).bind fun au => (some (perB qc)).bind fun c => (personOf c).bind fun co => if (ex.any fun q => isHead q.1) = true then none else some (⟨tree, ids, au, co, ex, msg⟩ : CM)) = _
  simp only [Option.bind_some, person_good G.au, person_good G.co, ex_no G]
  rfl
theorem good_none (G : Good sz tree ids qa qc ex msg) : commitOf (contentP (headsP tree ids qa qc ex) msg) (sz + 1) = none :=
  co2 (good_heads G) (v := hexA tree) (by rw [headsP_eq]; rfl) (idOf_size (by rw [hexA_size, G.tree]; (first | k_extra "ar" | lia | omega)))
theorem none_none (k : Nat) : commitOf #[] k = none := by
  have h : headsOf #[] = none := by decide +kernel
  unfold commitOf
  rw [h]
  rfl
theorem good_ok (G : Good sz tree ids qa qc ex msg) : tree.size ≤ 1000 ∧ msg.size ≤ 10000 ∧ ids.length ≤ 1000 ∧ (∀ b ∈ ids, b.size ≤ 1000) ∧ PerOk qa ∧ PerOk qc ∧ ∀ q ∈ ex, q.1.size ≤ 1000 ∧ q.2.size ≤ 1000 := by
  have hp : ∀ q, LawPer q → PerOk q := fun q h => by
    obtain ⟨h1, ⟨k, hk, hn⟩, h2⟩ := h
    obtain ⟨a1, a2, a3, a4, a5⟩ := people_ok _ h1
    obtain ⟨z1, z2, z3, z4⟩ := zones_ok _ h2
    exact ⟨Nat.le_trans a4 (by decide), Nat.le_trans a5 (by decide), by rw [z1]; decide, by (first | k_extra "ar" | lia | omega)⟩
  have := G.hi
  exact ⟨by rw [G.tree]; (first | k_extra "ar" | lia | omega), Nat.le_trans G.msg.1 (by decide), Nat.le_trans G.few (by decide), fun b hb => by rw [G.ids b hb]; (first | k_extra "ar" | lia | omega), hp _ G.au, hp _ G.co, fun q hq => ⟨Nat.le_trans (keys_ok _ (G.ex q hq).1).2.2.1 (by decide), Nat.le_trans (G.ex q hq).2.1 (by decide)⟩⟩
theorem good_par (G : Good sz tree ids qa qc ex msg) : ((headsP tree ids qa qc ex).filter isPar).length = ids.length := by
  have h1 : (ids.map par).filter isPar = ids.map par := List.filter_eq_self.mpr fun q hq => by
    obtain ⟨b, _, rfl⟩ := List.mem_map.mp hq
    rfl
  have h2 : ex.filter isPar = [] := List.filter_eq_nil_iff.mpr fun q hq hc => by
    have h3 := (keys_ok _ (G.ex q hq).1).2.2.2
    have key : ∀ k ∈ lawKeys, (k.toList == [112, 97, 114, 101, 110, 116]) = false := by decide
    have h4 : (q.1.toList == [112, 97, 114, 101, 110, 116]) = true := hc
    rw [key _ (G.ex q hq).1] at h4
    cases h4
  rw [headsP_eq, List.filter_cons_of_neg (p := isPar) (by show ¬ ((bTree.toList == [112, 97, 114, 101, 110, 116]) = true); decide), List.filter_append, h1, List.filter_cons_of_neg (p := isPar) (by show ¬ ((bAuthor.toList == [112, 97, 114, 101, 110, 116]) = true); decide), List.filter_cons_of_neg (p := isPar) (by show ¬ ((bCommitter.toList == [112, 97, 114, 101, 110, 116]) = true); decide), h2]
  simp
theorem rowOf_plain {k v : Array UInt8} (h : 10 ∉ v.toList) : rowOf k v = k ++ #[32] ++ v ++ #[10] := by
  apply Array.ext'
  rw [rowOf_list, subst_same h]
  simp
theorem good_back (G : Good sz tree ids qa qc ex msg) : Builtin.Bytes.joined #[] (cmParts tree ids qa qc ex msg) = contentP (headsP tree ids qa qc ex) msg := by
  have hx : ∀ b : Array UInt8, 10 ∉ (hexA b).toList := fun b hc => (hexA_in 10 hc).2.2 rfl
  have hp : ∀ p, LawPer p → 10 ∉ (perB p).toList := fun p h hc => ((perB_plain h).2 10 hc).2 rfl
  have e1 : cmTree tree = rowOf bTree (hexA tree) := by rw [rowOf_plain (hx _)]; rfl
  have e2 : cmParent = fun b => rowOf (par b).1 (par b).2 := by
    funext b
    rw [rowOf_plain (hx _)]
    rfl
  have e3 : cmAuthor qa = rowOf bAuthor (perB qa) := by rw [rowOf_plain (hp _ G.au)]; rfl
  have e4 : cmCommitter qc = rowOf bCommitter (perB qc) := by rw [rowOf_plain (hp _ G.co)]; rfl
  have e5 : cmParts tree ids qa qc ex msg = (headsP tree ids qa qc ex).map (fun q => rowOf q.1 q.2) ++ [#[10] ++ msg] := by
    rw [headsP_eq]
    unfold cmParts
    rw [e1, e2, e3, e4]
    simp
  apply Array.ext'
  rw [e5, joined_flat]
  unfold contentP
  rw [Array.toList_append, Array.toList_append, joined_flat]
  simp
theorem lkeys_no : ∀ k ∈ lawKeys, (k.toList == bCommitter.toList) = false := by decide
abbrev badIds (v : Array UInt8) : List (Array UInt8) := [v.extract 0 (v.size - 1), v ++ #[48], v.extract 0 (v.size - 1) ++ #[65], v.extract 0 (v.size - 1) ++ #[103], v.extract 0 (v.size - 2), #[]]
/-- the ways of a bend -/
theorem bent_ways {T A C : Array UInt8 × Array UInt8} {P ex hs' : List (Array UInt8 × Array UInt8)} {n : Nat} (hn : P.length = n) (hb : Bent (n + 1) (T :: (P ++ A :: C :: ex)) hs') :
    (∃ r, hs' = A :: r) ∨ hs' = P ++ A :: C :: ex ∨ hs' = T :: (P ++ C :: ex) ∨ hs' = T :: (P ++ A :: ex) ∨ hs' = T :: T :: (P ++ A :: C :: ex) ∨ hs' = T :: (P ++ A :: A :: C :: ex) ∨ hs' = T :: (P ++ C :: A :: ex) ∨
    (∃ v, v ∈ badIds T.2 ∧ hs' = (T.1, v) :: (P ++ A :: C :: ex)) ∨ (∃ j q v, P[j]? = some q ∧ v ∈ badIds q.2 ∧ hs' = T :: (P.take j ++ (q.1, v) :: (P.drop (j + 1) ++ A :: C :: ex))) ∨
    hs' = T :: (P ++ (A.1, A.2.extract 0 (A.2.size - 6)) :: C :: ex) ∨ hs' = T :: (P ++ A :: (C.1, C.2.extract 0 (C.2.size - 6)) :: ex) := by
  subst hn
  have t1 : ∀ r : List (Array UInt8 × Array UInt8), (P ++ r).take P.length = P ∧ (P ++ r).drop P.length = r := fun r => ⟨List.take_left' rfl, List.drop_left' rfl⟩
  have t2 : ∀ (X : Array UInt8 × Array UInt8) (r : List (Array UInt8 × Array UInt8)), (P ++ X :: r).take (P.length + 1) = P ++ [X] ∧ (P ++ X :: r).drop (P.length + 1) = r := fun X r => by
    have h : (P ++ [X]).length = P.length + 1 := by simp
    have e : P ++ X :: r = (P ++ [X]) ++ r := by simp
    rw [e]
    exact ⟨List.take_left' h, List.drop_left' h⟩
  have t3 : ∀ (X Y : Array UInt8 × Array UInt8) (r : List (Array UInt8 × Array UInt8)), (P ++ X :: Y :: r).drop (P.length + 1 + 1) = r := fun X Y r => by
    have h : (P ++ [X, Y]).length = P.length + 1 + 1 := by simp
    have e : P ++ X :: Y :: r = (P ++ [X, Y]) ++ r := by simp
    rw [e]
    exact List.drop_left' h
  have g1 : ∀ (X : Array UInt8 × Array UInt8) (r : List (Array UInt8 × Array UInt8)), (P ++ X :: r)[P.length]? = some X := fun X r => by
    rw [List.getElem?_append_right (Nat.le_refl _), Nat.sub_self]
    rfl
  have g2 : ∀ (X Y : Array UInt8 × Array UInt8) (r : List (Array UInt8 × Array UInt8)), (P ++ X :: Y :: r)[P.length + 1]? = some Y := fun X Y r => by
    rw [List.getElem?_append_right (Nat.le_add_right _ _), Nat.add_sub_cancel_left]
    rfl
  have s1 : ∀ (X Z : Array UInt8 × Array UInt8) (r : List (Array UInt8 × Array UInt8)), (P ++ X :: r).set P.length Z = P ++ Z :: r := fun X Z r => by
    rw [List.set_append_right _ _ (Nat.le_refl _), Nat.sub_self]
    rfl
  have s2 : ∀ (X Y Z : Array UInt8 × Array UInt8) (r : List (Array UInt8 × Array UInt8)), (P ++ X :: Y :: r).set (P.length + 1) Z = P ++ X :: Z :: r := fun X Y Z r => by
    rw [List.set_append_right _ _ (Nat.le_add_right _ _), Nat.add_sub_cancel_left]
    rfl
  cases hb with
  | gone j hj =>
    rcases hj with rfl | rfl | rfl
    · exact .inr (.inl rfl)
    · refine .inr (.inr (.inl ?_))
      rw [List.take_succ_cons, List.drop_succ_cons, (t1 _).1, (t2 _ _).2]
      rfl
    · refine .inr (.inr (.inr (.inl ?_)))
      rw [List.take_succ_cons, List.drop_succ_cons, (t2 _ _).1, t3]
      simp
  | twice j hj =>
    rcases hj with rfl | rfl
    · exact .inr (.inr (.inr (.inr (.inl rfl))))
    · refine .inr (.inr (.inr (.inr (.inr (.inl ?_)))))
      rw [List.take_succ_cons, List.drop_succ_cons, (t2 _ _).1, (t1 _).2]
      simp
  | swap i j p q hij hp hq =>
    rcases hij with ⟨rfl, rfl⟩ | ⟨rfl, rfl⟩
    · rw [List.getElem?_cons_succ, g1] at hp
      rw [List.getElem?_cons_succ, g2] at hq
      cases hp
      cases hq
      refine .inr (.inr (.inr (.inr (.inr (.inr (.inl ?_))))))
      rw [List.set_cons_succ, List.set_cons_succ, s1, s2]
    · rw [List.getElem?_cons_succ, g1] at hp
      cases hp
      exact .inl ⟨_, rfl⟩
  | id j q v hj hq hv =>
    rcases j with _ | j
    · cases hq
      exact .inr (.inr (.inr (.inr (.inr (.inr (.inr (.inl ⟨v, hv, rfl⟩)))))))
    · rw [List.getElem?_cons_succ, List.getElem?_append_left (Nat.lt_of_succ_lt_succ hj)] at hq
      refine .inr (.inr (.inr (.inr (.inr (.inr (.inr (.inr (.inl ⟨j, q, v, hq, hv, ?_⟩))))))))
      rw [List.set_cons_succ, List.set_append_left _ _ (Nat.lt_of_succ_lt_succ hj), List.set_eq_take_append_cons_drop, if_pos (Nat.lt_of_succ_lt_succ hj), List.append_assoc]
      rfl
  | person j q hj hq =>
    rcases hj with rfl | rfl
    · rw [List.getElem?_cons_succ, g1] at hq
      cases hq
      refine .inr (.inr (.inr (.inr (.inr (.inr (.inr (.inr (.inr (.inl ?_)))))))))
      rw [List.set_cons_succ, s1]
    · rw [List.getElem?_cons_succ, g2] at hq
      cases hq
      refine .inr (.inr (.inr (.inr (.inr (.inr (.inr (.inr (.inr (.inr ?_)))))))))
      rw [List.set_cons_succ, s2]
theorem bent_none (G : Good sz tree ids qa qc ex msg) (hb : Bent (ids.length + 1) (headsP tree ids qa qc ex) hs') : commitOf (contentP hs' msg) sz = none := by
  have hh := bent_heads G hb
  rw [headsP_eq] at hb
  rcases bent_ways (by simp) hb with ⟨r, rfl⟩ | rfl | rfl | rfl | rfl | rfl | rfl | ⟨v, hv, rfl⟩ | ⟨j, q, v, hq, hv, rfl⟩ | rfl | rfl
  · exact co1 hh rfl
  · refine co1 hh ?_
    cases ids with
    | nil => rfl
    | cons b r => rfl
  · rw [cm_rest hh G.tree G.ids rfl]
    rfl
  · rw [cm_rest hh G.tree G.ids rfl]
    show (personOf (perB qa)).bind (fun au => (takeF ex 0 bCommitter).bind _) = none
    have h2 : takeF ex 0 bCommitter = none := by
      cases ex with
      | nil => rfl
      | cons q r => exact take_none (lkeys_no _ (G.ex q (List.mem_cons_self ..)).1)
    rw [person_good G.au, h2]
    rfl
  · exact (cm_rest (ids := []) (rest := (bTree, hexA tree) :: (ids.map par ++ (bAuthor, perB qa) :: (bCommitter, perB qc) :: ex)) hh G.tree (fun x hx => nomatch hx) rfl).trans rfl
  · rw [cm_rest hh G.tree G.ids rfl]
    show (personOf (perB qa)).bind _ = none
    rw [person_good G.au]
    rfl
  · rw [cm_rest hh G.tree G.ids rfl]
    rfl
  · exact co2 hh (v := v) rfl (id_bent G.tree G.lo hv)
  · rw [List.getElem?_map] at hq
    obtain ⟨b, hb1, rfl⟩ := Option.map_eq_some_iff.mp hq
    have hbs := G.ids b (List.mem_of_getElem? hb1)
    rw [← List.map_take] at hh ⊢
    refine co3 hh (v := hexA tree) rfl (idOf_hex G.tree) ?_
    exact pf_fall (pre := [(bTree, hexA tree)]) (fun x hx => G.ids x (List.mem_of_mem_take hx)) (by simp; (first | k_extra "ar" | lia | omega)) (id_bent hbs G.lo hv)
  · rw [cm_rest hh G.tree G.ids rfl]
    show (personOf _).bind _ = none
    rw [person_cut G.au]
    rfl
  · rw [cm_rest hh G.tree G.ids rfl]
    show (personOf (perB qa)).bind (fun au => (personOf _).bind _) = none
    rw [person_good G.au]
    show (personOf ((perB qc).extract 0 ((perB qc).size - 6))).bind _ = none
    rw [person_cut G.co]
    rfl
end


theorem reg_fold_EQL : True := by
  k_with "execs cons" => (k_here; (try k_fold); (try ((with_reducible rename Fr _ _ _ (fun _ => @ite _ _ _ _ _) => Fzz); revert Fzz; refine withFrame (P := fun z => Fr _ _ _ z → _) _ ?_; intro mzz Fzz)); (with_reducible refine wpAny_execs_cons ?_); (try dsimp only); (try k_fold))
  k_with "cell_enter" => ((refine' code_def ?k1 ?k2 ?k3 ?k4 ?k5 ?kA ?kF ?kK ?k6 ?k7 ?k8 ?k9 ?kB ?_ ?c2 ?c3 ?c4 ?c5; (case kA => exact rfl); (case kF => exact rfl); (case kK => assumption); (case k1 => k_asm); (case k2 => k_asm); (case k3 => k_asm); (case k4 => k_asm); (case k5 => k_asm); (case k6 => k_is); (case k7 => k_is); (case k8 => ktr_room); (case k9 => first | exact BindsTo.of_eq rfl | exact binds_K (by k_in) rfl (by k_is) rfl rfl rfl); (case c5 => decide); (case kB => exact locs rfl); (case c2 => exact rfl); (case c3 => exact rfl); (case c4 => exact rfl); k_whole; intro g'zz L'zz h'zz FG'zz F'zz N'zz B'zz X'zz T'zz; (try dsimp only); (try k_lift B'zz); (try (refine withFrame (P := fun z => wpAny _ z _ _ _ _) _ ?_; intro Azz; (try dsimp only))); (try k_fold)))
  trivial

section
open PySem.SeqAt
variable {prog : Program} {w : World} {A : Around} {E : Value → Shared → Prop} {s : Shared} {h₀ : Heap} {L l b : Addr} {vs ws : List Value} {Q : Value → Shared → Prop}
/-- item by item the same -/
def SameAll (A : Around) (s : Shared) (vs ws : List Value) : Prop := vs.length = ws.length ∧ ∀ (j : Nat) (v v' : Value), vs[j]? = some v → ws[j]? = some v' → EqAt A s v v' true
theorem SameAll.at (h : SameAll A s vs ws) : ∀ (j : Nat) (h1 : j < vs.toArray.size) (h2 : j < ws.toArray.size), EqAt A s (vs.toArray[j]'h1) (ws.toArray[j]'h2) true := fun j h1 h2 =>
  h.2 j _ _ (by simp) (by simp)
theorem all_true (n : Nat) : (List.range n).all (fun _ => true) = true := by simp
theorem same_nil : SameAll A s [] [] := ⟨rfl, fun j v v' h => by simp at h⟩
theorem same_cons {v v' : Value} (h : EqAt A s v v' true) (r : SameAll A s vs ws) : SameAll A s (v :: vs) (v' :: ws) := by
  refine ⟨by rw [List.length_cons, List.length_cons, r.1], fun j x y hx hy => ?_⟩
  cases j with
  | zero =>
    rw [List.getElem?_cons_zero] at hx hy
    cases hx
    cases hy
    exact h
  | succ j => exact r.2 j x y (by simpa using hx) (by simpa using hy)
theorem eqat_lists (hl : s.heap.IsList l vs.toArray) (hb : s.heap.IsList b ws.toArray) (hu : A.units < cLine) (h : SameAll A.in1 s vs ws) : EqAt A s (.ref l) (.ref b) true := by
  by_cases e : l = b
  · subst e; exact EqAt.same _
  · refine EqAt.of_refs e ?_
    have := RcAt.lists (e := fun _ => true) hl hb (by simpa using h.1) hu h.at
    rwa [all_true] at this
theorem eqat_tuples (hl : IsTup s.heap l vs.toArray) (hb : IsTup s.heap b ws.toArray) (hu : A.units < cLine) (h : SameAll A.in1 s vs ws) : EqAt A s (.ref l) (.ref b) true := by
  by_cases e : l = b
  · subst e; exact EqAt.same _
  · refine EqAt.of_refs e ?_
    have := RcAt.tuples (e := fun _ => true) hl hb hu h.at
    rwa [all_true, show (true && vs.toArray.size == ws.toArray.size) = true by simpa using h.1] at this
theorem ne_lists (hl : s.heap.IsList l vs.toArray) (hb : s.heap.IsList b ws.toArray) (hu : A.units < cLine) (h : SameAll A.in1 s vs ws) (hq : Q (.bool false) s) : wpAny (model prog w) A (compareOp .NotEq (.ref l) (.ref b)) Q E s := by
  have := RcNeAt.lists (e := fun _ => true) hl hb (by simpa using h.1) hu h.at
  rw [all_true] at this
  exact this prog w E Q hq
theorem ne_tuples (hl : IsTup s.heap l vs.toArray) (hb : IsTup s.heap b ws.toArray) (hu : A.units < cLine) (h : SameAll A.in1 s vs ws) (hq : Q (.bool false) s) : wpAny (model prog w) A (compareOp .NotEq (.ref l) (.ref b)) Q E s := by
  have := RcNeAt.tuples (e := fun _ => true) hl hb hu h.at
  rw [all_true, show (true && vs.toArray.size == ws.toArray.size) = true by simpa using h.1] at this
  exact this prog w E Q hq
theorem eqat_bytes (x : Array UInt8) (t u : Tok) : EqAt A s (.bytes x t) (.bytes x u) true := by
  have h := (eqg_bytes x x t u).at A s
  rw [show (x.toList == x.toList) = true from beq_self_eq_true _] at h
  exact h
theorem same_bytes {bs : List (Array UInt8)} (h : BytesAre vs bs) : ∀ {ws : List Value}, BytesAre ws bs → SameAll A s vs ws := by
  induction h with
  | nil => intro ws h2; cases h2; exact same_nil
  | cons _ ih => intro ws h2; cases h2 with | cons h3 => exact same_cons (eqat_bytes _ _ _) (ih h3)
theorem same_pairs {nw : List (Addr × Obj)} {ps : List (Array UInt8 × Array UInt8)} (N : News h₀ L s.heap nw) (hu : A.units < cLine) (h : PairsIn nw vs ps) : ∀ {ws : List Value}, PairsIn nw ws ps → SameAll A s vs ws := by
  induction h with
  | nil => intro ws h2; cases h2; exact same_nil
  | cons h1 _ ih =>
    intro ws h2
    cases h2 with
    | cons h3 h4 =>
      obtain ⟨a, t1, t2, rfl, hm⟩ := h1
      obtain ⟨b, u1, u2, rfl, hm2⟩ := h3
      exact same_cons (eqat_tuples ⟨_, (N _ hm).1, rfl, _, rfl⟩ ⟨_, (N _ hm2).1, rfl, _, rfl⟩ hu (same_cons (eqat_bytes _ _ _) (same_cons (eqat_bytes _ _ _) same_nil))) (ih h4)
theorem same_per {n e z : Array UInt8} {i : Int} {t1 t2 t3 t4 u1 u2 u3 u4 : Tok} : SameAll A s [Value.bytes n t1, Value.bytes e t2, Value.int i t3, Value.bytes z t4] [Value.bytes n u1, Value.bytes e u2, Value.int i u3, Value.bytes z u4] :=
  same_cons (eqat_bytes _ _ _) (same_cons (eqat_bytes _ _ _) (same_cons (by have h := EqAt.int_int (A := A) (s := s) i t3 i u3; rwa [beq_self_eq_true] at h) (same_cons (eqat_bytes _ _ _) same_nil)))
end


theorem room_1 {x a b R : Nat} (h : x + b < R) (hab : Nat.ble a b = true) : x + a < R := Nat.lt_of_le_of_lt (Nat.add_le_add_left (Nat.le_of_ble_eq_true hab) x) h
theorem room_un : callerA.units + 3 + 3000 < cLine := by decide +kernel
theorem room_law : callerA.depth + 1 + 300 < recursionLimit := by decide +kernel
theorem pairs_filter {nw : List (Addr × Obj)} {vs : List Value} {ps : List (Array UInt8 × Array UInt8)} {f : Addr × Obj → Bool} (h : PairsIn nw vs ps) (hf : ∀ a x, (a, ({ cls := .type "tuple", data := .seq x } : Obj)) ∈ nw → f (a, { cls := .type "tuple", data := .seq x }) = true) : PairsIn (nw.filter f) vs ps := by
  induction h with
  | nil => exact .nil
  | cons h1 _ ih =>
    obtain ⟨a, t1, t2, e, hm⟩ := h1
    exact .cons ⟨a, t1, t2, e, List.mem_filter.mpr ⟨hm, hf _ _ hm⟩⟩ ih
section
variable {w : World} {h₀ : Heap} {L fa : Addr} {cd : Value} {s : Shared} {Q : Flow → Shared → Prop} {R1' R2' : Value → Shared → Prop} {p : Program} {loose : List Str} {mean : ExcName → Option Value} {mg mb : Str → Option Value}
  {args : Arguments} {body : List Stmt} {scope : Scope} {m0 : Str → Option Value} {P H d l : Addr} {oc1 oc2 : Obj} {c : DS} {nw : List (Addr × Obj)} {sz nh : Nat} {vsh : List Value} {tree msg : Array UInt8} {ids : List (Array UInt8)} {qa qc : Array UInt8 × Array UInt8 × Nat × Array UInt8} {ex : List (Array UInt8 × Array UInt8)} {way : Int} {tway tmsg tsz : Tok}
set_option maxHeartbeats 16000000 in
theorem law_bad (e : fnAt (nat_lit 43) = (args, body, scope))
    (B : Below callerA h₀ [] h₀) (F : Fr h₀ L s.heap fun y => if y = Str.ofString "heads" then some (.ref H) else if y = Str.ofString "way" then some (.int way tway) else if y = Str.ofString "message" then some (.bytes msg tmsg) else if y = Str.ofString "parts" then some (.ref P) else m0 y) (X : (K w.params).In h₀) (T : Top p loose mean mg mb h₀)
    (N : News h₀ L s.heap ((d, c.o) :: (l, W.listOf c.ys.toArray c.n) :: (L + 1, oc1) :: (L + 1 + 1, oc2) :: nw))
    (Y1 : oc1.data = .cell (some (.ref d))) (Y2 : oc2.data = .cell (some (.int (sz : Int) tsz))) (okc : DS.Ok w l c) (hdl : @Ne Nat d l)
    (hH : (H, W.listOf vsh.toArray nh) ∈ nw) (hp : PairsIn nw vsh (headsP tree ids qa qc ex)) (G : Good sz tree ids qa qc ex msg) (w0 : 0 < way) (w8 : way < 8)
    (hQ : ∀ m' nw h' tk', Fr h₀ L h' m' → News h₀ L h' nw → Q (.ret (.bool true)) { s with heap := h', toks := tk' }) :
    wpAny (model PR w) (callerA.deeper (envOfC (Str.ofString "law") scope L fa cd)) (execs (body.drop 8) (envOfC (Str.ofString "law") scope L fa cd)) Q (fun e s' => wpAny (model PR w) (callerA.deeper (envOfC (Str.ofString "law") scope L fa cd)) (leaving (envOfC (Str.ofString "law") scope L fa cd) e) (fun _ s'' => R1' e s'') (fun e' s'' => R2' e' s'') s') s := by
  have e' : fnAt (nat_lit 43) = (Arguments.mk _ _ _ _ _ _ _, _ :: _, Scope.mk _ _ _ _ _) := rfl
  rw [e'] at e
  cases e
  dsimp only [List.drop]
  have hd0 := room_law
  have hu0 := room_un
  obtain ⟨hsz, hlen1, hlen2, hsz2⟩ := heads_size G
  have hpl := hp.length
  have hcd : ∀ o : Obj, (∀ es ep, o.data ≠ .dict es ep) → o ≠ c.o := by
    rintro o h rfl
    obtain ⟨es, ep, _, hd, _⟩ := okc.1
    exact h es ep hd
  have hnd : ∀ (a : Addr) (o : Obj), (a, o) ∈ (L + 1, oc1) :: (L + 1 + 1, oc2) :: nw → (∀ es ep, o.data ≠ .dict es ep) → @Ne Nat a d := fun a o hm h => news_ne N (List.mem_cons_of_mem _ (List.mem_cons_of_mem _ hm)) (List.mem_cons_self ..) (hcd o h)
  have hnl : ∀ (a : Addr) (o : Obj), (a, o) ∈ (L + 1, oc1) :: (L + 1 + 1, oc2) :: nw → o ≠ W.listOf c.ys.toArray c.n → @Ne Nat a l := fun a o hm h => news_ne N (List.mem_cons_of_mem _ (List.mem_cons_of_mem _ hm)) (List.mem_cons_of_mem _ (List.mem_cons_self ..)) h
  obtain ⟨nf, hnf⟩ : ∃ z, z = ((L + 1, oc1) :: (L + 1 + 1, oc2) :: nw).filter (fun q => decide (@Ne Nat q.1 d) && decide (@Ne Nat q.1 l)) := ⟨_, rfl⟩
  have hin : ∀ (a : Addr) (o : Obj), (a, o) ∈ (L + 1, oc1) :: (L + 1 + 1, oc2) :: nw → (∀ es ep, o.data ≠ .dict es ep) → o ≠ W.listOf c.ys.toArray c.n → (a, o) ∈ nf := fun a o hm h1 h2 => by
    rw [hnf]
    refine List.mem_filter.mpr ⟨hm, ?_⟩
    rw [decide_eq_true (hnd a o hm h1), decide_eq_true (hnl a o hm h2)]
    rfl
  have hpf : PairsIn nf vsh (headsP tree ids qa qc ex) := by
    rw [hnf]
    refine pairs_filter (hp.mono fun q hq => List.mem_cons_of_mem _ (List.mem_cons_of_mem _ hq)) fun a x hm => ?_
    try dsimp only
    rw [decide_eq_true (hnd a _ hm (fun es ep q => by cases q)), decide_eq_true (hnl a _ hm (fun q => by have h := congrArg Obj.cls q; injection h with h; exact absurd h (by decide)))]
    rfl
  have hHf : (H, W.listOf vsh.toArray nh) ∈ nf := hin _ _ (List.mem_cons_of_mem _ (List.mem_cons_of_mem _ hH)) (fun es ep q => by cases q) (fun q => by
    have h1 : vsh.toArray = c.ys.toArray := by injection q with _ _ q2; injection q2
    have h2 : vsh = c.ys := by simpa using h1
    have hy := okc.2.1
    rw [← h2] at hy
    obtain ⟨q, hq⟩ : ∃ q, (headsP tree ids qa qc ex)[0]? = some q := ⟨_, List.getElem?_eq_getElem (by (first | k_extra "ar" | lia | omega))⟩
    obtain ⟨v, hv, a9, u1, u2, rfl, _⟩ := hp.get hq
    obtain ⟨k9, t9, e9, _⟩ := IntsAre.at hy 0 _ hv
    cases e9)
  have hcf : (L + 1 + 1, oc2) ∈ nf := hin _ _ (List.mem_cons_of_mem _ (List.mem_cons_self ..)) (fun es ep q => by rw [Y2] at q; cases q) (fun q => by rw [q] at Y2; cases Y2)
  have hdf : ∀ q ∈ nf, @Ne Nat q.1 d := fun q hq => by
    rw [hnf] at hq
    exact of_decide_eq_true (Bool.and_eq_true_iff.mp (List.mem_filter.mp hq).2).1
  have hlf : ∀ q ∈ nf, @Ne Nat q.1 l := fun q hq => by
    rw [hnf] at hq
    exact of_decide_eq_true (Bool.and_eq_true_iff.mp (List.mem_filter.mp hq).2).2
  have hff : ∀ q ∈ nf, q ∈ (L + 1, oc1) :: (L + 1 + 1, oc2) :: nw := fun q hq => by rw [hnf] at hq; exact (List.mem_filter.mp hq).1
  clear hnf hnd hnl hcd hin
  have hgp := good_par G
  repeat' (first | ((fail_if_success (with_reducible show wpAny _ _ (call (Value.ref (nat_lit 316)) _) _ _ _)); (fail_if_success (with_reducible show wpAny _ _ (call (Value.ref (nat_lit 254)) _) _ _ _)); first | (k_unfold; (try dsimp only)) | (k_end; wrow_close) | walk1 | (dsimp only; walk1) | (leave1; try dsimp only)))
  · rename @LT.lt Int _ way 7 => w7
    rename News _ _ _ _ => N8
    replace N8 := cb_drop (news := (d, c.o) :: (l, W.listOf c.ys.toArray c.n) :: nf) N8 (List.forall_mem_cons.mpr ⟨List.mem_cons_self .., List.forall_mem_cons.mpr ⟨List.mem_cons_of_mem _ (List.mem_cons_self ..), fun q hq => List.mem_cons_of_mem _ (List.mem_cons_of_mem _ (hff q hq))⟩⟩)
    refine c_law_bent (a1 := ids.length + 1) (by k_asm) (by k_asm) (by k_in) N8 (by k_asm) (by exact rfl) (room_1 hd0 rfl) (room_1 hu0 rfl) okc hdl hdf hlf hHf hpf (by (first | k_extra "ar" | lia | omega)) (by (first | k_extra "ar" | lia | omega)) hlen2 hsz2 (by (first | k_extra "ar" | lia | omega)) (by (first | k_extra "ar" | lia | omega)) ?_
    intro hs' D tl vs' n' h9 tk9 hb hp9 F9 N9
    obtain ⟨z1, z2, z3⟩ := bent_size G hb
    repeat' (first | ((fail_if_success (with_reducible show wpAny _ _ (call (Value.ref (nat_lit 311)) _) _ _ _)); first | (k_unfold; (try dsimp only)) | (k_end; wrow_close) | walk1 | (dsimp only; walk1) | (leave1; try dsimp only)))
    refine c_law_content (by k_asm) (by k_asm) (by k_in) (by k_asm) (by k_asm) (by exact rfl) (room_1 hd0 rfl) (room_1 hu0 rfl) (List.mem_cons_self ..) (hp9.mono fun q hq => List.mem_cons_of_mem _ hq) z2 z3 (Nat.le_trans G.msg.1 (by decide)) ?_
    intro tb h10 tk10 F10 N10
    replace N10 := cb_drop (news := (L + 1 + 1, oc2) :: nf) N10 (List.forall_mem_cons.mpr ⟨List.mem_cons_of_mem _ (List.mem_append.mpr (.inr hcf)), fun q hq => List.mem_cons_of_mem _ (List.mem_append.mpr (.inr hq))⟩)
    repeat' (first | ((fail_if_success (with_reducible show wpAny _ _ (exec (Stmt.Try _ _ _ _ _) _) _ _ _)); first | (k_unfold; (try dsimp only)) | (k_end; wrow_close) | walk1 | (dsimp only; walk1) | (leave1; try dsimp only)))
    refine wpAny_Try_except ?_
    repeat' (first | ((fail_if_success (with_reducible show wpAny _ _ (call (Value.ref (nat_lit 254)) _) _ _ _)); first | (k_unfold; (try dsimp only)) | (k_end; wrow_close) | walk1 | (dsimp only; walk1) | (leave1; try dsimp only)))
    refine c_read_commit (by k_asm) (by k_asm) (by k_in) (by k_asm) (by k_asm) (by exact rfl) (room_1 hd0 rfl) (room_1 hu0 rfl) z1 (by have := G.hi; (first | k_extra "ar" | lia | omega)) ?_ ?_
    · intro cm hcm
      rw [bent_none G hb] at hcm
      cases hcm
    · intro _ e1 h11 tk11 g1 R1 U1 F1
      refine caught_bad B F1 U1 R1 X (topRead_of T) ?_
      intro h12 F12 N12
      k_steps
      try dsimp only
      exact hQ _ _ _ _ (by assumption) (by assumption)
  · rename News _ _ _ _ => N8
    replace N8 := cb_drop (news := (L + 1 + 1, oc2) :: nf) N8 (List.forall_mem_cons.mpr ⟨List.mem_cons_of_mem _ (List.mem_cons_of_mem _ (List.mem_cons_of_mem _ (List.mem_cons_self ..))), fun q hq => List.mem_cons_of_mem _ (List.mem_cons_of_mem _ (hff q hq))⟩)
    repeat' (first | ((fail_if_success (with_reducible show wpAny _ _ (exec (Stmt.Try _ _ _ _ _) _) _ _ _)); first | (k_unfold; (try dsimp only)) | (k_end; wrow_close) | walk1 | (dsimp only; walk1) | (leave1; try dsimp only)))
    refine wpAny_Try_except ?_
    repeat' (first | ((fail_if_success (with_reducible show wpAny _ _ (call (Value.ref (nat_lit 254)) _) _ _ _)); first | (k_unfold; (try dsimp only)) | (k_end; wrow_close) | walk1 | (dsimp only; walk1) | (leave1; try dsimp only)))
    refine c_read_commit (by k_asm) (by k_asm) (by k_in) (by k_asm) (by k_asm) (by exact rfl) (room_1 hd0 rfl) (room_1 hu0 rfl) (by decide) (by have := G.hi; (first | k_extra "ar" | lia | omega)) ?_ ?_
    · intro cm hcm
      rw [show (commitOf #[] sz) = none from none_none sz] at hcm
      cases hcm
    · intro _ e1 h11 tk11 g1 R1 U1 F1
      refine caught_bad B F1 U1 R1 X (topRead_of T) ?_
      intro h12 F12 N12
      k_steps
      try dsimp only
      exact hQ _ _ _ _ (by assumption) (by assumption)
end


section
open PyProof.Rows.LCg
variable {prog : Program} {w : World} {A : Around} {E : Value → Shared → Prop} {s : Shared} {h₀ : Heap} {L : Addr} {m : Str → Option Value} {env : Env}
/-- a comprehension over a made tuple -/
theorem Assign_ListComp_T {elt iter : Expr} {x y : Str} {px py : Pos} {scope : Scope} {cl : List (Str × Addr)} {pos spos : Pos} {Q : Flow → Shared → Prop} (F₀ : Fr h₀ L s.heap m) (hLe : env.locals = L)
    (hsw : swapsWith (.ListComp elt [⟨.Name x px, iter, [], 0⟩] scope pos) (some (.Name y py)) spos.line env = pure true)
    (hclos : closureFor scope env = pure cl) (hcell : ∀ z ∈ scope.names, z.2 ≠ .cell) (hkind : scope.kind = .function)
    (hnames : ∀ z ∈ scope.names, z.2 = .local → scope.names.lookup z.1 = some .local) (hx : scope.names.lookup x = some .local)
    (hy : env.kindOf y = some .local) (hp : (env.scope.kind == .class || (env.scope.kind == .module && env.locals != env.globals)) = false)
    (h : wpAny (model prog w) A (eval iter env) (fun xv s₁ => ∃ (ax : Addr) (vs : List Value) (news : List (Addr × Obj)), xv = .ref ax ∧ A.handled = none ∧ Fr h₀ L s₁.heap m ∧ News h₀ L s₁.heap ((ax, ({ cls := .type "tuple", data := .seq vs.toArray } : Obj)) :: news) ∧ vs.length ≤ sizeLine ∧
      ∀ s₂ : Shared, (∃ h, s₂ = { s₁ with heap := h }) → CompRest prog w A h₀ L m env elt x scope cl s₂ (fun nx => (ax, ({ cls := .type "tuple", data := .seq vs.toArray } : Obj)) ∈ nx) (fun i v => vs.toArray[i]? = some v) (FinA h₀ L m s₂ y Q) vs.toArray.size 0 [] ((ax, ({ cls := .type "tuple", data := .seq vs.toArray } : Obj)) :: news)) E s)
    (hs : ∀ x, foldedSetIterable iter env x = pure x := by intro _; rfl) :
    wpAny (model prog w) A (exec (.Assign [.Name y py] (.ListComp elt [⟨.Name x px, iter, [], 0⟩] scope pos) spos) env) Q E s := by
  subst hLe
  rw [exec_Assign_Name_used _ _ _ _ hsw]
  refine wpAny_bind (wpAny_standAt (wpAny_bind ?_))
  show wpAny _ A (do let _ ← comprehension (.ListComp elt [⟨.Name x px, iter, [], 0⟩] scope pos) scope env _ (newList []) false (eval iter env) (some (assign (.Name y py) env))) _ _ s
  refine wpAny_bind (wpAny_mono (wpAny_comprehension_free (use := some (assign (.Name y py) env)) (Q := fun _ s' => Q .next s') rfl hs hclos hkind hnames
    (wpAny_mono h (fun xv s₁ h₁ => ?_) fun _ _ e => e)) (fun _ s' hq => wpAny_pure (wpAny_pure hq)) fun _ _ e => e)
  obtain ⟨ax, vs, news, rfl, hh, F, N, hsz, R⟩ := h₁
  have hol := (N _ (List.mem_cons_self ..)).1
  have ht : s₁.heap.IsTuple ax vs.toArray := ⟨_, hol, rfl, _, rfl⟩
  have hlt : ax < s₁.heap.objs.size := Heap.lt_size hol
  refine wpAny_pyIter_tuple ht ?_
  have up : ∀ b o, s₁.heap.get? b = some o → (s₁.heap.push { cls := .type "tuple_iterator", data := .fields #[.ref ax, .int 0 0] }).get? b = some o := fun b o e => Heap.get?_push_of_some _ e
  refine block_U (Walks.tuple hh s₁.heap.objs.size ax (Nat.ne_of_lt hlt) vs.toArray) (by simpa using hsz) (fun i h st => by obtain ⟨o, e, _⟩ := st.1; exact ⟨o, e⟩) (fun i h h' o nw st e e' k N S => ⟨by obtain ⟨o', q, r⟩ := st.1; rw [e] at q; cases q; exact ⟨o, e', r⟩, ⟨_, (N _ S).1, rfl, _, rfl⟩⟩) hcell hkind hx ⟨⟨_, Heap.get?_push_size _ rfl, rfl, rfl⟩, ⟨_, up _ _ hol, rfl, _, rfl⟩⟩ (fun b hb => ?_)
    (F.keeps up) (N.grown up) (Nat.ne_of_lt F.ns.lt) (next_is_new F) (fun p hp => Nat.ne_of_lt (Heap.lt_size (N p hp).1)) (List.mem_cons_self ..) (R _ ⟨_, rfl⟩) ?_
  · show b < (s₁.heap.push _).objs.size
    rw [Heap.size_push]
    rcases List.mem_cons.mp hb with rfl | hb
    · exact Nat.lt_succ_self _
    · rw [List.mem_singleton.mp hb]; exact Nat.lt_succ_of_lt hlt
  · intro D C h' tk m' ys news' F' N' o1 hn hC₀ hD₀ hCL hDL hCD offC fin
    show wpAny _ A (assign (.Name y py) env (.ref D)) _ _ _
    refine wpAny_assign_Name (wpAny_storeName_local hy F'.ns (fun h₂ hn₂ hs₂ => ?_) hp)
    have hL₀ : h₀.get? env.locals = none := Heap.get?_none_of_le F'.above
    have F₂ : Fr h₀ env.locals h₂ (fun z => if z = y then some (.ref D) else m z) := ⟨hn₂, fun b o e => hs₂.extBut b o (fun q => by rw [q, hL₀] at e; cases e) (F'.keep b o e), F'.above⟩
    refine ⟨m', hn.sameBut hs₂ hCL, fun h'' hs'' => fin D h'' _ (F₂.change hs'' hCL hC₀) (fun p hp => ?_) o1⟩
    have z : h₂.get? p.1 = some p.2 := hs₂.extBut _ _ (N' p hp).2.1 (N' p hp).1
    refine ⟨hs''.extBut _ _ ?_ z, (N' p hp).2⟩
    rcases List.mem_cons.mp hp with rfl | hp
    · exact Ne.symm hCD
    · exact offC p hp
end


theorem CmIn.mono {w : World} {nw nw' : List (Addr × Obj)} {x : Addr} {cm : CM} (h : CmIn w nw x cm) (hs : ∀ p ∈ nw, p ∈ nw') : CmIn w nw' x cm := by
  obtain ⟨d, k1, k2, k3, k4, k5, k6, t1, ps, au, co, ex, t6, ws, n, vs, n2, a1, a2, a3, a4, a5, a6, a7, a8⟩ := h
  exact ⟨d, k1, k2, k3, k4, k5, k6, t1, ps, au, co, ex, t6, ws, n, vs, n2, hs _ a1, hs _ a2, hs _ a3, a4, a5.mono hs, a6.mono hs, hs _ a7, a8.mono hs⟩
theorem per_snoc {w : World} {tlp tlp' : List (Addr × Obj)} {ys : List Value} {x : Addr} {l : List (Array UInt8 × Array UInt8 × Int × Array UInt8)} (hys : ∀ (j : Nat) (v : Value), ys[j]? = some v → ∃ a q, v = .ref a ∧ l[j]? = some q ∧ PerIn w tlp a q) (hx : ∃ q, l[ys.length]? = some q ∧ PerIn w tlp' x q) (hs : ∀ p ∈ tlp, p ∈ tlp') : ∀ (j : Nat) (v : Value), (ys ++ [.ref x])[j]? = some v → ∃ a q, v = .ref a ∧ l[j]? = some q ∧ PerIn w tlp' a q := by
  intro j v h
  by_cases hj : j < ys.length
  · rw [List.getElem?_append_left hj] at h
    obtain ⟨a, q, h1, h2, h3⟩ := hys j v h
    exact ⟨a, q, h1, h2, h3.mono hs⟩
  · rw [List.getElem?_append_right (Nat.le_of_not_lt hj)] at h
    obtain ⟨q, h1, h2⟩ := hx
    have e : j - ys.length = 0 := by
      rcases hk : j - ys.length with _ | k
      · rfl
      · rw [hk] at h
        simp at h
    rw [e] at h
    have e2 : j = ys.length := by (first | k_extra "ar" | lia | omega)
    subst e2
    simp at h
    exact ⟨x, q, h.symm, h1, h2⟩
section
variable {w : World} {h₀ : Heap} {L fa : Addr} {cd : Value} {s : Shared} {Q : Flow → Shared → Prop} {R1' R2' : Value → Shared → Prop} {p : Program} {loose : List Str} {mean : ExcName → Option Value} {mg mb : Str → Option Value}
  {args : Arguments} {body : List Stmt} {scope : Scope} {m0 : Str → Option Value} {P H Dp xa xc Dx : Addr} {oP oc2 : Obj} {nw : List (Addr × Obj)} {sz nh n1 n2 : Nat} {vsh ws vs : List Value} {tree msg : Array UInt8} {ids : List (Array UInt8)} {qa qc : Array UInt8 × Array UInt8 × Nat × Array UInt8} {ex : List (Array UInt8 × Array UInt8)} {way : Int} {tway tmsg tsz tt t1 t2 t3 t4 t5 t6 t7 t8 : Tok}
set_option maxHeartbeats 16000000 in
theorem law_good (e : fnAt (nat_lit 43) = (args, body, scope))
    (B : Below callerA h₀ [] h₀) (F : Fr h₀ L s.heap fun y => if y = Str.ofString "heads" then some (.ref H) else if y = Str.ofString "way" then some (.int way tway) else if y = Str.ofString "message" then some (.bytes msg tmsg) else if y = Str.ofString "parts" then some (.ref P) else m0 y) (X : (K w.params).In h₀) (T : Top p loose mean mg mb h₀)
    (N : News h₀ L s.heap ((L + 1 + 1, oc2) :: (P, oP) :: nw))
    (Y2 : oc2.data = .cell (some (.int (sz : Int) tsz)))
    (hdP : oP.IsDictOf (PySem.strKind PR w) [(Str.ofString "tree", .bytes tree tt), (Str.ofString "parents", .ref Dp), (Str.ofString "author", .ref xa), (Str.ofString "committer", .ref xc), (Str.ofString "extra", .ref Dx)])
    (hDp : (Dp, W.listOf ws.toArray n1) ∈ nw) (hws : BytesAre ws ids) (hxa : (xa, tupP qa.1 qa.2.1 (qa.2.2.1 : Int) qa.2.2.2 t1 t2 t3 t4) ∈ nw) (hxc : (xc, tupP qc.1 qc.2.1 (qc.2.2.1 : Int) qc.2.2.2 t5 t6 t7 t8) ∈ nw)
    (hDx : (Dx, W.listOf vs.toArray n2) ∈ nw) (hex : PairsIn nw vs ex)
    (hH : (H, W.listOf vsh.toArray nh) ∈ nw) (hp : PairsIn nw vsh (headsP tree ids qa qc ex)) (G : Good sz tree ids qa qc ex msg) (hw : ¬ (0 < way ∧ way < 8))
    (hQ : ∀ m' nw h' tk', Fr h₀ L h' m' → News h₀ L h' nw → Q (.ret (.bool true)) { s with heap := h', toks := tk' }) :
    wpAny (model PR w) (callerA.deeper (envOfC (Str.ofString "law") scope L fa cd)) (execs (body.drop 8) (envOfC (Str.ofString "law") scope L fa cd)) Q (fun e s' => wpAny (model PR w) (callerA.deeper (envOfC (Str.ofString "law") scope L fa cd)) (leaving (envOfC (Str.ofString "law") scope L fa cd) e) (fun _ s'' => R1' e s'') (fun e' s'' => R2' e' s'') s') s := by
  have e' : fnAt (nat_lit 43) = (Arguments.mk _ _ _ _ _ _ _, _ :: _, Scope.mk _ _ _ _ _) := rfl
  rw [e'] at e
  cases e
  dsimp only [List.drop]
  have hd0 := room_law
  have hu0 := room_un
  obtain ⟨hsz, hlen1, hlen2, hsz2⟩ := heads_size G
  have hpl := hp.length
  have hwl := hws.length
  have hel := hex.length
  repeat' (first | ((fail_if_success (with_reducible show wpAny _ _ (exec (Stmt.If _ _ _ _) _) _ _ _)); first | (k_unfold; (try dsimp only)) | (k_end; wrow_close) | walk1 | (dsimp only; walk1) | (leave1; try dsimp only)))
  refine wpAny_mono (Q := fun f s' => f = Flow.next ∧ ∃ k, s' = { s with toks := k }) ?hi ?hq (fun _ _ e => e)
  case hi =>
    k_steps
    all_goals first | exact ⟨rfl, _, rfl⟩ | exact absurd ⟨by assumption, by assumption⟩ hw
  rintro _ _ ⟨rfl, k0, rfl⟩
  try dsimp only
  repeat' (first | ((fail_if_success (with_reducible show wpAny _ _ (call (Value.ref (nat_lit 311)) _) _ _ _)); first | (k_unfold; (try dsimp only)) | (k_end; wrow_close) | walk1 | (dsimp only; walk1) | (leave1; try dsimp only)))
  refine c_law_content (by k_asm) (by k_asm) (by k_in) (by k_asm) (by k_asm) (by exact rfl) (room_1 hd0 rfl) (room_1 hu0 rfl) (List.mem_cons_of_mem _ (List.mem_cons_of_mem _ hH)) (hp.mono fun q hq => List.mem_cons_of_mem _ (List.mem_cons_of_mem _ hq)) hlen2 hsz2 (Nat.le_trans G.msg.1 (by decide)) ?_
  intro tb h1 tk1 F1 N1
  repeat' (first | ((fail_if_success (with_reducible show wpAny _ _ (call (Value.ref (nat_lit 254)) _) _ _ _)); first | (k_unfold; (try dsimp only)) | (k_end; wrow_close) | walk1 | (dsimp only; walk1) | (leave1; try dsimp only)))
  refine c_read_commit (by k_asm) (by k_asm) (by k_in) (by k_asm) (by k_asm) (by exact rfl) (room_1 hd0 rfl) (room_1 hu0 rfl) hsz (by have := G.hi; (first | k_extra "ar" | lia | omega)) ?_ ?_
  case refine_2 =>
    intro hno
    rw [good_some G] at hno
    cases hno
  intro cm hcm x tl h2 tk2 F2 N2 hcx
  rw [good_some G] at hcm
  cases hcm
  obtain ⟨nX, hnX, N2⟩ := exLed N2
  have hnw : ∀ q ∈ nw, q ∈ nX := by rw [hnX]; first | (intro q hq; exact List.mem_append_right _ (List.mem_cons_of_mem _ (List.mem_cons_of_mem _ hq))) | (intro q hq; simp [hq])
  have htl : ∀ q ∈ tl, q ∈ nX := by rw [hnX]; first | (intro q hq; exact List.mem_append_left _ hq) | (intro q hq; simp [hq])
  have hc2 : (L + 1 + 1, oc2) ∈ nX := by rw [hnX]; first | exact List.mem_append_right _ (by k_mem) | k_mem | simp
  have hcP : (P, oP) ∈ nX := by rw [hnX]; first | exact List.mem_append_right _ (by k_mem) | k_mem | simp
  clear hnX
  have hcx9 := hcx
  obtain ⟨d6, k1, k2, k3, k4, k5, k6, u1, ps, au, co, exa, u6, ws6, m6, vs6, m7, hx1, hx2, hps, hws6, hau, hco, hexa, hvs6⟩ := hcx9
  dsimp only at hx2 hws6 hau hco hvs6
  replace N2 := cb_drop (news := (x, instObj 243 d6) :: (d6, cmD w k1 k2 k3 k4 k5 k6 tree u1 ps au co exa msg u6) :: (L + 1 + 1, oc2) :: (P, oP) :: nX) N2 (List.forall_mem_cons.mpr ⟨htl _ hx1, List.forall_mem_cons.mpr ⟨htl _ hx2, List.forall_mem_cons.mpr ⟨hc2, List.forall_mem_cons.mpr ⟨hcP, fun _ h => h⟩⟩⟩⟩)
  have h6l := hws6.length
  have h7l := hvs6.length
  repeat' (first | ((fail_if_success (with_reducible show wpAny _ _ (call (Value.type "list") _) _ _ _)); first | (k_unfold; (try dsimp only)) | (k_end; wrow_close) | walk1 | (dsimp only; walk1) | (leave1; try dsimp only)))
  rename News _ _ _ _ => N3
  refine kup_listOf (by k_asm) N3 (List.mem_cons_of_mem _ (List.mem_cons_of_mem _ (List.mem_cons_of_mem _ (List.mem_cons_of_mem _ (htl _ hps))))) (zs := ws6) (by simp) ?_ (by have := G.few; rw [PySem.sizeLine_eq]; simp; (first | k_extra "ar" | lia | omega))
  intro B9 n9 h9 F9 N9 l9
  repeat' (first | ((fail_if_success (with_reducible show wpAny _ _ (compareOp CmpOp.NotEq _ _) _ _ _)); first | (k_unfold; (try dsimp only)) | (k_end; wrow_close) | walk1 | (dsimp only; walk1) | (leave1; try dsimp only)))
  rename News _ _ _ _ => N8
  have v0 : callerA.units + 3 < cLine := room_0 hu0
  have v1 : callerA.units + 3 + 1 < cLine := room_1 hu0 rfl
  have v2 : callerA.units + 3 + 1 + 1 < cLine := by (first | k_extra "ar" | lia | omega)
  refine ne_lists (vs := [_, _, _]) (ws := [_, _, _]) (News.isList N8 (List.mem_cons_of_mem _ (List.mem_cons_self ..))) (News.isList N8 (List.mem_cons_self ..)) v0 (same_cons (eqat_bytes _ _ _) (same_cons (eqat_lists (News.isList N8 (List.mem_cons_of_mem _ (List.mem_cons_of_mem _ (List.mem_cons_self ..)))) (News.isList N8 (List.mem_cons_of_mem _ (List.mem_cons_of_mem _ (List.mem_cons_of_mem _ (List.mem_cons_of_mem _ (List.mem_cons_of_mem _ (List.mem_cons_of_mem _ (List.mem_cons_of_mem _ (hnw _ hDp))))))))) v1 (same_bytes hws6 hws)) (same_cons (eqat_bytes _ _ _) same_nil))) ?_
  replace N8 := cb_drop (news := (x, instObj 243 d6) :: (d6, cmD w k1 k2 k3 k4 k5 k6 tree u1 ps au co exa msg u6) :: (L + 1 + 1, oc2) :: (P, oP) :: nX) N8 (fun q hq => List.mem_cons_of_mem _ (List.mem_cons_of_mem _ (List.mem_cons_of_mem _ hq)))
  clear v0 v1 v2
  repeat' (first | ((fail_if_success (with_reducible show wpAny _ _ (eval (Expr.ListComp _ _ _ _) _) _ _ _)); first | (k_unfold; (try dsimp only)) | (k_end; wrow_close) | walk1 | (dsimp only; walk1) | (leave1; try dsimp only)))
  refine LCg.ListComp_U (F₀ := by k_asm) (by with_unfolding_all rfl) (by decide) (by rfl) (by decide) (by rfl) ?_
  repeat' (first | ((fail_if_success (with_reducible show LCg.CompSrc _ _ _ _ _ _ _ _ _ _ _ _ _ _)); (fail_if_success (with_reducible show LCp.SrcLP _ _ _ _ _ _ _ _ _ _ _ _ _ _ _)); first | (k_unfold; (try dsimp only)) | (k_end; wrow_close) | walk1 | (dsimp only; walk1) | (leave1; try dsimp only)))
  rename News _ _ _ _ => N8
  obtain ⟨nY, hnY, N8⟩ := exLed N8
  have hxY : ∀ q ∈ nX, q ∈ nY := by rw [hnY]; first | (intro q hq; exact List.mem_cons_of_mem _ (List.mem_cons_of_mem _ (List.mem_cons_of_mem _ (List.mem_cons_of_mem _ hq)))) | (intro q hq; simp [hq])
  refine LCg.CompSrc.ledger rfl (by k_asm) N8 (hxY _ (htl _ hexa)) (by rw [PySem.sizeLine_eq, List.size_toArray]; have := G.short; (first | k_extra "ar" | lia | omega)) fun g => ?_
  refine comp_inv (R := fun i ys nx => nx = nY ∧ ys = vs6.take i) ⟨rfl, rfl⟩ ?_ ?_
  · rintro i v ys nx I oI C oC D m₂ h tk E' hi9 hv ⟨rfl, rfl⟩ hC hx F1 N1 off ne
    have hv' : vs6[i]? = some v := by simpa using hv
    obtain ⟨q, hq, a9, r1, r2, rfl, hm⟩ := hvs6.at hv'
    replace N1 := cb_drop (news := (a9, ({ cls := .type "tuple", data := .seq [Value.bytes q.1 r1, Value.bytes q.2 r2].toArray } : Obj)) :: (I, oI) :: (C, oC) :: (D, LCg.lst (vs6.take i)) :: nx) N1 (List.forall_mem_cons.mpr ⟨List.mem_cons_of_mem _ (List.mem_cons_of_mem _ (List.mem_cons_of_mem _ (hxY _ (htl _ hm)))), fun _ h => h⟩)
    k_steps
    try show LCg.CompEnd _ _ _ _ _ _ _ _ _ _ _ _ _ _
    exact LCg.CompEnd.intro (by k_asm) (by k_asm) nx (fun _ h => List.mem_cons_of_mem _ h) off (.inr ⟨W.listOf vs6.toArray m7, hxY _ (htl _ hexa), rfl, _, rfl⟩) ⟨rfl, (take_snoc hv').symm⟩
  · rintro ys nx ⟨rfl, rfl⟩
    rw [List.size_toArray, List.take_length]
    unfold LCg.FinE
    intro D h5 tk5 F5 N5 o5
    rw [hnY] at N5
    repeat' (first | ((fail_if_success (with_reducible show wpAny _ _ (compareOp CmpOp.NotEq _ _) _ _ _)); first | (k_unfold; (try dsimp only)) | (k_end; wrow_close) | walk1 | (dsimp only; walk1) | (leave1; try dsimp only)))
    try dsimp only
    rename News _ _ _ _ => N4
    have v0 : callerA.units + 3 < cLine := room_0 hu0
    have v1 : callerA.units + 3 + 1 < cLine := room_1 hu0 rfl
    refine ne_lists (vs := vs6) (ws := vs) (News.isList N4 (List.mem_cons_self ..)) (News.isList N4 (List.mem_cons_of_mem _ (List.mem_cons_of_mem _ (List.mem_cons_of_mem _ (List.mem_cons_of_mem _ (List.mem_cons_of_mem _ (hnw _ hDx))))))) v0 (same_pairs N4 v1 (hvs6.mono fun q hq => List.mem_cons_of_mem _ (List.mem_cons_of_mem _ (List.mem_cons_of_mem _ (List.mem_cons_of_mem _ (List.mem_cons_of_mem _ (htl q hq)))))) (hex.mono fun q hq => List.mem_cons_of_mem _ (List.mem_cons_of_mem _ (List.mem_cons_of_mem _ (List.mem_cons_of_mem _ (List.mem_cons_of_mem _ (hnw q hq))))))) ?_
    replace N4 := cb_drop (news := (x, instObj 243 d6) :: (d6, cmD w k1 k2 k3 k4 k5 k6 tree u1 ps au co exa msg u6) :: (L + 1 + 1, oc2) :: (P, oP) :: nX) N4 (fun q hq => List.mem_cons_of_mem _ hq)
    clear v0 v1 hnY
    repeat' (first | ((fail_if_success (with_reducible show wpAny _ _ (call (Value.ref (nat_lit 323)) _) _ _ _)); first | (k_unfold; (try dsimp only)) | (k_end; wrow_close) | walk1 | (dsimp only; walk1) | (leave1; try dsimp only)))
    refine c_law_told (q := perI qa) (by k_asm) (by k_asm) (by k_in) (by k_asm) (by k_asm) (by exact rfl) (room_1 hd0 rfl) (room_1 hu0 rfl) (hau.mono fun q hq => List.mem_cons_of_mem _ (List.mem_cons_of_mem _ (List.mem_cons_of_mem _ (List.mem_cons_of_mem _ (htl q hq))))) ?_
    intro Da e1 e2 e3 e4 hA tkA FA NA
    repeat' (first | ((fail_if_success (with_reducible show wpAny _ _ (call (Value.ref (nat_lit 323)) _) _ _ _)); first | (k_unfold; (try dsimp only)) | (k_end; wrow_close) | walk1 | (dsimp only; walk1) | (leave1; try dsimp only)))
    refine c_law_told (q := perI qc) (by k_asm) (by k_asm) (by k_in) (by k_asm) (by k_asm) (by exact rfl) (room_1 hd0 rfl) (room_1 hu0 rfl) (hco.mono fun q hq => List.mem_cons_of_mem _ (List.mem_cons_of_mem _ (List.mem_cons_of_mem _ (List.mem_cons_of_mem _ (List.mem_cons_of_mem _ (htl q hq)))))) ?_
    intro Dc g1 g2 g3 g4 hB tkB FB NB
    repeat' (first | ((fail_if_success (with_reducible show wpAny _ _ (compareOp CmpOp.NotEq _ _) _ _ _)); first | (k_unfold; (try dsimp only)) | (k_end; wrow_close) | walk1 | (dsimp only; walk1) | (leave1; try dsimp only)))
    try dsimp only
    rename News _ _ _ _ => N3
    have v0 : callerA.units + 3 < cLine := room_0 hu0
    have v1 : callerA.units + 3 + 1 < cLine := room_1 hu0 rfl
    refine ne_tuples (vs := [_, _]) (ws := [_, _]) ⟨_, (N3 _ (List.mem_cons_of_mem _ (List.mem_cons_self ..))).1, rfl, _, rfl⟩ ⟨_, (N3 _ (List.mem_cons_self ..)).1, rfl, _, rfl⟩ v0 (same_cons (eqat_tuples (vs := [_, _, _, _]) (ws := [_, _, _, _]) ⟨_, (N3 _ (List.mem_cons_of_mem _ (List.mem_cons_of_mem _ (List.mem_cons_of_mem _ (List.mem_cons_self ..))))).1, rfl, _, rfl⟩ ⟨_, (N3 _ (List.mem_cons_of_mem _ (List.mem_cons_of_mem _ (List.mem_cons_of_mem _ (List.mem_cons_of_mem _ (List.mem_cons_of_mem _ (List.mem_cons_of_mem _ (List.mem_cons_of_mem _ (List.mem_cons_of_mem _ (hnw _ hxa)))))))))).1, rfl, _, rfl⟩ v1 same_per) (same_cons (eqat_tuples (vs := [_, _, _, _]) (ws := [_, _, _, _]) ⟨_, (N3 _ (List.mem_cons_of_mem _ (List.mem_cons_of_mem _ (List.mem_cons_self ..)))).1, rfl, _, rfl⟩ ⟨_, (N3 _ (List.mem_cons_of_mem _ (List.mem_cons_of_mem _ (List.mem_cons_of_mem _ (List.mem_cons_of_mem _ (List.mem_cons_of_mem _ (List.mem_cons_of_mem _ (List.mem_cons_of_mem _ (List.mem_cons_of_mem _ (hnw _ hxc)))))))))).1, rfl, _, rfl⟩ v1 same_per) same_nil)) ?_
    replace N3 := cb_drop (news := (x, instObj 243 d6) :: (d6, cmD w k1 k2 k3 k4 k5 k6 tree u1 ps au co exa msg u6) :: (L + 1 + 1, oc2) :: (P, oP) :: nX) N3 (fun q hq => (List.mem_cons_of_mem _ (List.mem_cons_of_mem _ (List.mem_cons_of_mem _ (List.mem_cons_of_mem _ hq)))))
    clear v0 v1
    repeat' (first | ((fail_if_success (with_reducible show wpAny _ _ (exec (Stmt.Assign _ (Expr.ListComp _ _ _ _) _) _) _ _ _)); first | (k_unfold; (try dsimp only)) | (k_end; wrow_close) | walk1 | (dsimp only; walk1) | (leave1; try dsimp only)))
    rename News _ _ _ _ => N3
    replace N3 := cb_drop (news := (x, instObj 243 d6) :: (d6, cmD w k1 k2 k3 k4 k5 k6 tree u1 ps au co exa msg u6) :: (L + 1 + 1, oc2) :: (P, oP) :: nX) N3 (fun q hq => List.mem_cons_of_mem _ hq)
    refine Assign_ListComp_T (F₀ := by k_asm) (by rfl) (by with_unfolding_all rfl) (by with_unfolding_all rfl) (by decide) (by rfl) (by decide) (by rfl) (by rfl) (by rfl) ?_
    repeat' (first | ((fail_if_success (with_reducible refine Exists.intro (α := Addr) ?_ ?_)); first | (k_unfold; (try dsimp only)) | (k_end; wrow_close) | walk1 | (dsimp only; walk1) | (leave1; try dsimp only)))
    rename News _ _ _ _ => N3
    refine ⟨_, [.ref xa, .ref xc], _, rfl, rfl, by k_asm, N3, (show 2 ≤ _ by rw [PySem.sizeLine_eq]; decide), ?_⟩
    rintro _ ⟨g9, rfl⟩
    obtain ⟨nZ, hnZ, -⟩ := exLed N3
    refine comp_inv (R := fun i ys nx => ∃ tlp, nx = tlp ++ nZ ∧ ys.length = i ∧ ∀ (j : Nat) (v : Value), ys[j]? = some v → ∃ a q, v = .ref a ∧ [perI qa, perI qc][j]? = some q ∧ PerIn w tlp a q) ⟨[], hnZ.symm, rfl, fun j v h => by simp at h⟩ ?_ ?_
    · rintro i v ys nx I oI C oC D m₂ h tk E' hi9 hv ⟨tlp, rfl, hyl, hys⟩ hC hx F1 N1 off ne
      have hzx : (xa, tupP qa.1 qa.2.1 (qa.2.2.1 : Int) qa.2.2.2 t1 t2 t3 t4) ∈ nZ ∧ (xc, tupP qc.1 qc.2.1 (qc.2.2.1 : Int) qc.2.2.2 t5 t6 t7 t8) ∈ nZ := by
        rw [hnZ]
        exact ⟨List.mem_cons_of_mem _ (List.mem_cons_of_mem _ (List.mem_cons_of_mem _ (List.mem_cons_of_mem _ (List.mem_cons_of_mem _ (hnw _ hxa))))), List.mem_cons_of_mem _ (List.mem_cons_of_mem _ (List.mem_cons_of_mem _ (List.mem_cons_of_mem _ (List.mem_cons_of_mem _ (hnw _ hxc)))))⟩
      have hi2 : i = 0 ∨ i = 1 := by have : i < 2 := hi9; (first | k_extra "ar" | lia | omega)
      rcases hi2 with rfl | rfl
      · obtain rfl : Value.ref xa = v := by simpa using hv
        replace N1 := cb_drop (news := (xa, tupP qa.1 qa.2.1 (qa.2.2.1 : Int) qa.2.2.2 t1 t2 t3 t4) :: (I, oI) :: (C, oC) :: (D, LCg.lst ys) :: (tlp ++ nZ)) N1 (List.forall_mem_cons.mpr ⟨List.mem_cons_of_mem _ (List.mem_cons_of_mem _ (List.mem_cons_of_mem _ (List.mem_append_right _ hzx.1))), fun _ h => h⟩)
        repeat' (first | ((fail_if_success (with_reducible show wpAny _ _ (call (Value.ref (nat_lit 138)) _) _ _ _)); first | (k_unfold; (try dsimp only)) | (k_end; wrow_close) | walk1 | (dsimp only; walk1) | (leave1; try dsimp only)))
        rename News _ _ _ _ => N7
        refine c_person_lt (by k_asm) (by k_asm) (by k_in) (by k_asm) (by k_asm) (by exact rfl) (room_1 hd0 rfl) (room_1 hu0 rfl) ?_
        intro x9 d9 j1 j2 j3 j4 h9 tk9 l9 l8 F9 N9
        have lI := l9 (I, oI) (by k_mem)
        have lC := l9 (C, oC) (by k_mem)
        have lD := l9 (D, LCg.lst ys) (by k_mem)
        try show LCg.CompEnd _ _ _ _ _ _ _ _ _ _ _ _ _ _
        refine LCg.CompEnd.intro F9 N9 ((x9, _) :: (d9, _) :: (tlp ++ nZ)) (fun q hq => ?_) (off3_cons (Nat.lt_trans lI l8) (Nat.lt_trans lC l8) (Nat.lt_trans lD l8) (off3_cons lI lC lD off)) (by rw [hnZ]; simp) ⟨(x9, _) :: (d9, _) :: tlp, rfl, by simp [hyl], per_snoc hys ⟨_, by rw [hyl]; rfl, d9, j1, j2, j3, j4, t1, t2, t3, t4, List.mem_cons_self .., List.mem_cons_of_mem _ (List.mem_cons_self ..)⟩ (fun q hq => List.mem_cons_of_mem _ (List.mem_cons_of_mem _ hq))⟩
        simp only [List.mem_cons] at hq ⊢
        rcases hq with h | h | h | h | h | h
        · exact .inr (.inr (.inr (.inl h)))
        · exact .inr (.inr (.inr (.inr (.inl h))))
        · exact .inr (.inr (.inr (.inr (.inr (.inl h)))))
        · exact .inl h
        · exact .inr (.inl h)
        · exact .inr (.inr (.inr (.inr (.inr (.inr h)))))
      · obtain rfl : Value.ref xc = v := by simpa using hv
        replace N1 := cb_drop (news := (xc, tupP qc.1 qc.2.1 (qc.2.2.1 : Int) qc.2.2.2 t5 t6 t7 t8) :: (I, oI) :: (C, oC) :: (D, LCg.lst ys) :: (tlp ++ nZ)) N1 (List.forall_mem_cons.mpr ⟨List.mem_cons_of_mem _ (List.mem_cons_of_mem _ (List.mem_cons_of_mem _ (List.mem_append_right _ hzx.2))), fun _ h => h⟩)
        repeat' (first | ((fail_if_success (with_reducible show wpAny _ _ (call (Value.ref (nat_lit 138)) _) _ _ _)); first | (k_unfold; (try dsimp only)) | (k_end; wrow_close) | walk1 | (dsimp only; walk1) | (leave1; try dsimp only)))
        rename News _ _ _ _ => N7
        refine c_person_lt (by k_asm) (by k_asm) (by k_in) (by k_asm) (by k_asm) (by exact rfl) (room_1 hd0 rfl) (room_1 hu0 rfl) ?_
        intro x9 d9 j1 j2 j3 j4 h9 tk9 l9 l8 F9 N9
        have lI := l9 (I, oI) (by k_mem)
        have lC := l9 (C, oC) (by k_mem)
        have lD := l9 (D, LCg.lst ys) (by k_mem)
        try show LCg.CompEnd _ _ _ _ _ _ _ _ _ _ _ _ _ _
        refine LCg.CompEnd.intro F9 N9 ((x9, _) :: (d9, _) :: (tlp ++ nZ)) (fun q hq => ?_) (off3_cons (Nat.lt_trans lI l8) (Nat.lt_trans lC l8) (Nat.lt_trans lD l8) (off3_cons lI lC lD off)) (by rw [hnZ]; simp) ⟨(x9, _) :: (d9, _) :: tlp, rfl, by simp [hyl], per_snoc hys ⟨_, by rw [hyl]; rfl, d9, j1, j2, j3, j4, t5, t6, t7, t8, List.mem_cons_self .., List.mem_cons_of_mem _ (List.mem_cons_self ..)⟩ (fun q hq => List.mem_cons_of_mem _ (List.mem_cons_of_mem _ hq))⟩
        simp only [List.mem_cons] at hq ⊢
        rcases hq with h | h | h | h | h | h
        · exact .inr (.inr (.inr (.inl h)))
        · exact .inr (.inr (.inr (.inr (.inl h))))
        · exact .inr (.inr (.inr (.inr (.inr (.inl h)))))
        · exact .inl h
        · exact .inr (.inl h)
        · exact .inr (.inr (.inr (.inr (.inr (.inr h)))))
    · rintro ys nx ⟨tlp, rfl, hyl, hys⟩
      unfold LCg.FinA
      intro D h5 tk5 F5 N5 o5
      try dsimp only
      rcases ys with _ | ⟨y0, _ | ⟨y1, _ | ⟨y2, y3⟩⟩⟩
      · cases hyl
      · cases hyl
      · obtain ⟨p0, q0, rfl, hq0, hp0⟩ := hys 0 _ rfl
        obtain ⟨p1, q1, rfl, hq1, hp1⟩ := hys 1 _ rfl
        obtain rfl : perI qa = q0 := by simpa using hq0
        obtain rfl : perI qc = q1 := by simpa using hq1
        have hzc : (L + 1 + 1, oc2) ∈ nZ ∧ (P, oP) ∈ nZ := by rw [hnZ]; first | exact ⟨by k_mem, by k_mem⟩ | simp
        obtain ⟨nW, hnW⟩ : ∃ z, z = tlp ++ nZ := ⟨_, rfl⟩
        rw [← hnW] at N5
        have htW : ∀ q ∈ tlp, q ∈ nW := fun q hq => by rw [hnW]; exact List.mem_append_left _ hq
        have hzW : ∀ q ∈ nZ, q ∈ nW := fun q hq => by rw [hnW]; exact List.mem_append_right _ hq
        have hXW : ∀ q ∈ nX, q ∈ nW := fun q hq => hzW q (by rw [hnZ]; first | exact List.mem_cons_of_mem _ (List.mem_cons_of_mem _ (List.mem_cons_of_mem _ (List.mem_cons_of_mem _ hq))) | simp [hq])
        replace N5 := cb_drop (news := (D, LCg.lst [.ref p0, .ref p1]) :: (L + 1 + 1, oc2) :: (P, oP) :: nW) N5 (List.forall_mem_cons.mpr ⟨List.mem_cons_self .., List.forall_mem_cons.mpr ⟨List.mem_cons_of_mem _ (hzW _ hzc.1), List.forall_mem_cons.mpr ⟨List.mem_cons_of_mem _ (hzW _ hzc.2), fun _ h => List.mem_cons_of_mem _ h⟩⟩⟩)
        clear hnW hnZ
        repeat' (first | ((fail_if_success (with_reducible show wpAny _ _ (subscriptTail _ _ (Value.ref _) (Value.int _ _)) _ _ _)); first | (k_unfold; (try dsimp only)) | (k_end; wrow_close) | walk1 | (dsimp only; walk1) | (leave1; try dsimp only)))
        rename News _ _ _ _ => N7
        refine item_listL (l := [.ref p0, .ref p1]) (x := .ref p0) (News.isList N7 (by k_mem)) (by decide) (by decide) rfl ?_
        repeat' (first | ((fail_if_success (with_reducible show wpAny _ _ (subscriptTail _ _ (Value.ref _) (Value.int _ _)) _ _ _)); first | (k_unfold; (try dsimp only)) | (k_end; wrow_close) | walk1 | (dsimp only; walk1) | (leave1; try dsimp only)))
        rename News _ _ _ _ => N7
        refine item_listL (l := [.ref p0, .ref p1]) (x := .ref p1) (News.isList N7 (by k_mem)) (by decide) (by decide) rfl ?_
        repeat' (first | ((fail_if_success (with_reducible show wpAny _ _ (call (Value.ref (nat_lit 243)) _) _ _ _)); first | (k_unfold; (try dsimp only)) | (k_end; wrow_close) | walk1 | (dsimp only; walk1) | (leave1; try dsimp only)))
        rename News _ _ _ _ => N7
        refine c_commit (by k_asm) (by k_asm) (by k_in) (by k_asm) (by k_asm) (by exact rfl) (room_1 hd0 rfl) (room_1 hu0 rfl) ?_
        intro x8 d8 r1 r2 r3 r4 r5 r6 h8 tk8 F8 N8
        have hm8 : CmIn w ((x8, instObj 243 d8) :: (d8, cmD w r1 r2 r3 r4 r5 r6 tree tt Dp p0 p1 Dx msg tmsg) :: nW) x8 ⟨tree, ids, perI qa, perI qc, ex, msg⟩ := ⟨d8, r1, r2, r3, r4, r5, r6, tt, Dp, p0, p1, Dx, tmsg, ws, n1, vs, n2, List.mem_cons_self .., List.mem_cons_of_mem _ (List.mem_cons_self ..), List.mem_cons_of_mem _ (List.mem_cons_of_mem _ (hXW _ (hnw _ hDp))), hws, hp0.mono fun q hq => List.mem_cons_of_mem _ (List.mem_cons_of_mem _ (htW q hq)), hp1.mono fun q hq => List.mem_cons_of_mem _ (List.mem_cons_of_mem _ (htW q hq)), List.mem_cons_of_mem _ (List.mem_cons_of_mem _ (hXW _ (hnw _ hDx))), hex.mono fun q hq => List.mem_cons_of_mem _ (List.mem_cons_of_mem _ (hXW _ (hnw q hq)))⟩
        obtain ⟨nV, hnV⟩ : ∃ z, z = (x8, instObj 243 d8) :: (d8, cmD w r1 r2 r3 r4 r5 r6 tree tt Dp p0 p1 Dx msg tmsg) :: nW := ⟨_, rfl⟩
        rw [← hnV] at hm8
        replace N8 := cb_drop (news := (x8, instObj 243 d8) :: (d8, cmD w r1 r2 r3 r4 r5 r6 tree tt Dp p0 p1 Dx msg tmsg) :: (x, instObj 243 d6) :: (d6, cmD w k1 k2 k3 k4 k5 k6 tree u1 ps au co exa msg u6) :: (L + 1 + 1, oc2) :: nV) N8 (List.forall_mem_cons.mpr ⟨List.mem_cons_self .., List.forall_mem_cons.mpr ⟨List.mem_cons_of_mem _ (List.mem_cons_self ..), List.forall_mem_cons.mpr ⟨List.mem_cons_of_mem _ (List.mem_cons_of_mem _ (List.mem_cons_of_mem _ (List.mem_cons_of_mem _ (List.mem_cons_of_mem _ (hXW _ (htl _ hx1)))))), List.forall_mem_cons.mpr ⟨List.mem_cons_of_mem _ (List.mem_cons_of_mem _ (List.mem_cons_of_mem _ (List.mem_cons_of_mem _ (List.mem_cons_of_mem _ (hXW _ (htl _ hx2)))))), List.forall_mem_cons.mpr ⟨List.mem_cons_of_mem _ (List.mem_cons_of_mem _ (List.mem_cons_of_mem _ (List.mem_cons_self ..))), fun q hq => by
          rw [hnV] at hq
          simp only [List.mem_cons] at hq ⊢
          rcases hq with h | h | h
          · exact .inl h
          · exact .inr (.inl h)
          · exact .inr (.inr (.inr (.inr (.inr h))))⟩⟩⟩⟩⟩)
        have hcV : CmIn w nV x ⟨tree, ids, perI qa, perI qc, ex, msg⟩ := hcx.mono fun q hq => by rw [hnV]; exact List.mem_cons_of_mem _ (List.mem_cons_of_mem _ (hXW _ (htl _ hq)))
        clear hnV
        obtain ⟨y1, y2, y3, y4, y5, y6, y7⟩ := good_ok G
        repeat' (first | ((fail_if_success (with_reducible show wpAny _ _ (call (Value.ref (nat_lit 233)) _) _ _ _)); first | (k_unfold; (try dsimp only)) | (k_end; wrow_close) | walk1 | (dsimp only; walk1) | (leave1; try dsimp only)))
        refine c_commit_octets (by k_asm) (by k_asm) (by k_in) (by k_asm) (by k_asm) (by exact rfl) (room_1 hd0 rfl) (room_1 hu0 rfl) (hcV.mono fun q hq => List.mem_cons_of_mem _ (List.mem_cons_of_mem _ (List.mem_cons_of_mem _ (List.mem_cons_of_mem _ (List.mem_cons_of_mem _ hq))))) y1 y2 y3 y4 y5 y6 (Nat.le_trans G.short (by decide)) y7 ?_
        intro ta hA9 tkA9 FA9 NA9
        rw [good_back G]
        repeat' (first | ((fail_if_success (with_reducible show wpAny _ _ (call (Value.ref (nat_lit 233)) _) _ _ _)); first | (k_unfold; (try dsimp only)) | (k_end; wrow_close) | walk1 | (dsimp only; walk1) | (leave1; try dsimp only)))
        · rename (_ != _) = true => hbad
          exact absurd hbad (by simp)
        refine c_commit_octets (by k_asm) (by k_asm) (by k_in) (by k_asm) (by k_asm) (by exact rfl) (room_1 hd0 rfl) (room_1 hu0 rfl) (hm8.mono fun q hq => List.mem_cons_of_mem _ (List.mem_cons_of_mem _ (List.mem_cons_of_mem _ (List.mem_cons_of_mem _ (List.mem_cons_of_mem _ hq))))) y1 y2 y3 y4 y5 y6 (Nat.le_trans G.short (by decide)) y7 ?_
        intro tb9 hB9 tkB9 FB9 NB9
        rw [good_back G]
        repeat' (first | ((fail_if_success (with_reducible show wpAny _ _ (exec (Stmt.Try _ _ _ _ _) _) _ _ _)); first | (k_unfold; (try dsimp only)) | (k_end; wrow_close) | walk1 | (dsimp only; walk1) | (leave1; try dsimp only)))
        refine wpAny_Try_except ?_
        repeat' (first | ((fail_if_success (with_reducible show wpAny _ _ (call (Value.ref (nat_lit 254)) _) _ _ _)); first | (k_unfold; (try dsimp only)) | (k_end; wrow_close) | walk1 | (dsimp only; walk1) | (leave1; try dsimp only)))
        refine c_read_commit (k := sz + 1) (by k_asm) (by k_asm) (by k_in) (by k_asm) (by k_asm) (by exact rfl) (room_1 hd0 rfl) (room_1 hu0 rfl) hsz (by have := G.hi; (first | k_extra "ar" | lia | omega)) ?_ ?_
        · intro cm hcm
          rw [good_none G] at hcm
          cases hcm
        · intro _ e1 h11 tk11 g1 R1 U1 F1
          refine caught_bad B F1 U1 R1 X (topRead_of T) ?_
          intro h12 F12 N12
          k_steps
          all_goals try dsimp only
          all_goals first | exact hQ _ _ _ _ (by assumption) (by assumption)
      · simp at hyl
end


theorem exDict {w : World} {o : Obj} {kvs : List (Str × Value)} (_ : o.IsDictOf (PySem.strKind PR w) kvs) : ∃ z, z = o := ⟨o, rfl⟩
section
variable {h₀ h : Heap} {L : Addr} {a b c x y : Addr × Obj} {r : List (Addr × Obj)}
theorem n_c3 (N : News h₀ L h (a :: b :: c :: x :: y :: r)) : News h₀ L h (x :: y :: a :: b :: c :: r) := cb_drop N (by (repeat' (first | exact List.forall_mem_nil _ | (with_reducible refine List.forall_mem_cons.mpr ?_; refine ⟨by k_mem, ?_⟩))); all_goals (intro qz hz; repeat (first | (with_reducible exact hz) | refine List.mem_cons_of_mem _ ?_)))
theorem n_c3b (N : News h₀ L h (x :: y :: a :: b :: c :: r)) : News h₀ L h (a :: b :: c :: x :: y :: r) := cb_drop N (by (repeat' (first | exact List.forall_mem_nil _ | (with_reducible refine List.forall_mem_cons.mpr ?_; refine ⟨by k_mem, ?_⟩))); all_goals (intro qz hz; repeat (first | (with_reducible exact hz) | refine List.mem_cons_of_mem _ ?_)))
end
theorem pairs_end2 {h₀ h' : Heap} {L I C D T : Addr} {m : Str → Option Value} {s₁ : Shared} {oI oC : Obj} {ys : List Value} {rest : Value → List (Addr × Obj) → Prop} {tk : Nat} {a b : Array UInt8} {t u : Tok} {x y z v x' y' : Addr × Obj} {r : List (Addr × Obj)} {P1 P2 R : Prop}
    (F : Fr h₀ L h' m) (N : News h₀ L h' ((T, ({ cls := .type "tuple", data := .seq [Value.bytes a t, Value.bytes b u].toArray } : Obj)) :: x :: y :: (I, oI) :: (C, oC) :: (D, LCg.lst ys) :: z :: v :: r)) (hlt : P1 ∧ P2 ∧ @LT.lt Nat _ I T ∧ @LT.lt Nat _ C T ∧ @LT.lt Nat _ D T ∧ R) (hx : x'.1 = x.1) (hy : y'.1 = y.1) (off : LCg.Off3 I C D (x' :: y' :: z :: v :: r))
    (k : rest (.ref T) (x :: y :: z :: v :: (T, ({ cls := .type "tuple", data := .seq [Value.bytes a t, Value.bytes b u].toArray } : Obj)) :: r)) :
    LCg.CompEnd h₀ L m s₁ I oI C oC D (LCg.lst ys) (fun _ => True) rest (.ref T) { s₁ with heap := h', toks := tk } := by
  refine LCg.CompEnd.intro F N _ (by (repeat' (first | exact List.forall_mem_nil _ | (with_reducible refine List.forall_mem_cons.mpr ?_; refine ⟨by k_mem, ?_⟩))); all_goals (intro qz hz; repeat (first | (with_reducible exact hz) | refine List.mem_cons_of_mem _ ?_))) (LCg.Off3.of ?_) trivial k
  have o := LCg.Off3.mem off
  refine List.forall_mem_cons.mpr ⟨hx ▸ o x' (by k_mem), List.forall_mem_cons.mpr ⟨hy ▸ o y' (by k_mem), List.forall_mem_cons.mpr ⟨o z (by k_mem), List.forall_mem_cons.mpr ⟨o v (by k_mem), List.forall_mem_cons.mpr ⟨⟨Nat.ne_of_gt hlt.2.2.1, Nat.ne_of_gt hlt.2.2.2.1, Nat.ne_of_gt hlt.2.2.2.2.1⟩, fun q hq => o q (List.mem_cons_of_mem _ (List.mem_cons_of_mem _ (List.mem_cons_of_mem _ (List.mem_cons_of_mem _ hq))))⟩⟩⟩⟩⟩
section
variable {w : World} {h₀ : Heap} {L fa sa : Addr} {cd : Value} {s : Shared} {Q : Flow → Shared → Prop} {R1' R2' : Value → Shared → Prop} {p : Program} {loose : List Str} {mean : ExcName → Option Value} {mg mb : Str → Option Value} {co1 co2 : Obj} {vs : List Value} {ns : List Int}
set_option maxHeartbeats 16000000 in
theorem law_body {args : Arguments} {body : List Stmt} {scope : Scope} (e : fnAt (nat_lit 43) = (args, body, scope))
    (B : Below callerA h₀ [] h₀) (F : Fr h₀ L s.heap (bindL (envOfC (Str.ofString "law") scope L fa cd).kindOf [(Str.ofString "script", .ref sa)] fun _ => none)) (X : (K w.params).In h₀) (N : News h₀ L s.heap [(L + 1, co1), (L + 1 + 1, co2)]) (T : Top p loose mean mg mb h₀)
    (Y1 : co1.data = .cell none) (Y2 : co2.data = .cell none)
    (hL : h₀.IsList sa vs.toArray) (hI : IntsAre vs ns) (hn : ns.length ≤ 63)
    (hQ : ∀ m' nw h' tk', Fr h₀ L h' m' → News h₀ L h' nw → Q (.ret (.bool true)) { s with heap := h', toks := tk' }) :
    wpAny (model PR w) (callerA.deeper (envOfC (Str.ofString "law") scope L fa cd)) (execs body (envOfC (Str.ofString "law") scope L fa cd)) Q (fun e s' => wpAny (model PR w) (callerA.deeper (envOfC (Str.ofString "law") scope L fa cd)) (leaving (envOfC (Str.ofString "law") scope L fa cd) e) (fun _ s'' => R1' e s'') (fun e' s'' => R2' e' s'') s') s := by
  have e' : fnAt (nat_lit 43) = (Arguments.mk _ _ _ _ _ _ _, _ :: _, Scope.mk _ _ _ _ _) := rfl
  rw [e'] at e
  cases e
  have hd0 := room_law
  have hu0 := room_un
  repeat' (first | ((fail_if_success (with_reducible show wpAny _ _ (call (Value.ref (nat_lit 267)) _) _ _ _)); first | (k_unfold; (try dsimp only)) | (k_end; wrow_close) | walk1 | (dsimp only; walk1) | (leave1; try dsimp only)))
  refine c_deck (by k_asm) (by k_asm) (by k_in) (by k_asm) (by k_asm) (by exact rfl) (room_1 hd0 rfl) (room_1 hu0 rfl) hL hI hn ?_
  intro d l s1 h1 tk1 ok1 hdl od ol F1 N1
  have d1 : @Ne Nat (L + 1) d := od (L + 1, co1) (List.mem_cons_self ..)
  have d2 : @Ne Nat (L + 1 + 1) d := od (L + 1 + 1, co2) (List.mem_cons_of_mem _ (List.mem_cons_self ..))
  have l1 : @Ne Nat (L + 1) l := ol (L + 1, co1) (List.mem_cons_self ..)
  have l2 : @Ne Nat (L + 1 + 1) l := ol (L + 1 + 1, co2) (List.mem_cons_of_mem _ (List.mem_cons_self ..))
  clear od ol
  repeat' (first | ((fail_if_success (with_reducible show wpAny _ _ (call (Value.ref (nat_lit 274)) _) _ _ _)); first | (k_unfold; (try dsimp only)) | (k_end; wrow_close) | walk1 | (dsimp only; walk1) | (leave1; try dsimp only)))
  have of1 : ∀ {o1 o2 : Obj}, ∀ q ∈ [(L + 1, o1), (L + 1 + 1, o2)], @Ne Nat q.1 d := fun {o1 o2} => List.forall_mem_cons.mpr ⟨d1, List.forall_mem_cons.mpr ⟨d2, List.forall_mem_nil _⟩⟩
  have of2 : ∀ {o1 o2 : Obj}, ∀ q ∈ [(L + 1, o1), (L + 1 + 1, o2)], @Ne Nat q.1 l := fun {o1 o2} => List.forall_mem_cons.mpr ⟨l1, List.forall_mem_cons.mpr ⟨l2, List.forall_mem_nil _⟩⟩
  refine c_draw (many := 3) (by k_asm) (by k_asm) (by k_in) (by k_asm) (by k_asm) (by exact rfl) (room_1 hd0 rfl) (room_1 hu0 rfl) ok1 (by decide) (by decide) hdl of1 of2 ?_
  intro r t s2 h2 tk2 r0 r9 ok2 F2 N2
  obtain ⟨sz, hsz, sz2, sz4⟩ : ∃ sz : Nat, (2 : Int) + r = (sz : Int) ∧ 2 ≤ sz ∧ sz ≤ 4 := ⟨((2 : Int) + r).toNat, by (first | k_extra "ar" | lia | omega), by (first | k_extra "ar" | lia | omega), by (first | k_extra "ar" | lia | omega)⟩
  repeat' (first | ((fail_if_success (with_reducible show wpAny _ _ (storeName _ _ _) _ _ _)); first | (k_unfold; (try dsimp only)) | (k_end; wrow_close) | walk1 | (dsimp only; walk1) | (leave1; try dsimp only)))
  rw [hsz]
  clear r0 r9 hsz
  repeat' (first | ((fail_if_success (with_reducible show wpAny _ _ (call (Value.ref (nat_lit 279)) _) _ _ _)); first | (k_unfold; (try dsimp only)) | (k_end; wrow_close) | walk1 | (dsimp only; walk1) | (leave1; try dsimp only)))
  rename Obj.data _ = Data.cell (some (.int _ _)) => hc2
  rename Obj.data _ = Data.cell (some (.ref d)) => hc1
  obtain ⟨oc1, rfl⟩ := exCell hc1
  obtain ⟨oc2, rfl⟩ := exCell hc2
  rename News _ _ _ _ => N2
  obtain ⟨P, rfl⟩ := exHead N2
  rename @LT.lt Nat _ d P ∧ _ => hPl
  rename Obj.IsDictOf _ _ [] => hd0'
  have og1 : ∀ {x o1 o2 : Obj}, ∀ q ∈ [(P, x), (L + 1, o1), (L + 1 + 1, o2)], @Ne Nat q.1 d := fun {x o1 o2} => List.forall_mem_cons.mpr ⟨Nat.ne_of_gt hPl.1, of1⟩
  have og2 : ∀ {x o1 o2 : Obj}, ∀ q ∈ [(P, x), (L + 1, o1), (L + 1 + 1, o2)], @Ne Nat q.1 l := fun {x o1 o2} => List.forall_mem_cons.mpr ⟨Nat.ne_of_gt hPl.2.1, of2⟩
  replace N2 := n_bca N2
  refine c_law_id (by k_asm) (by k_asm) (by k_in) (by k_asm) (by k_asm) (by exact rfl) (room_1 hd0 rfl) (room_1 hu0 rfl) ok2 (by (first | k_extra "ar" | lia | omega)) hdl og1 og2 ?_
  intro tree tt s3 h3 tk3 htree ok3 F3 N3
  repeat' (first | ((fail_if_success (with_reducible show wpAny _ _ (eval (Expr.ListComp _ _ _ _) _) _ _ _)); first | (k_unfold; (try dsimp only)) | (k_end; wrow_close) | walk1 | (dsimp only; walk1) | (leave1; try dsimp only)))
  refine LCg.ListComp_U (F₀ := by k_asm) (by with_unfolding_all rfl) (by decide) (by rfl) (by decide) (by rfl) ?_
  repeat' (first | ((fail_if_success (with_reducible show wpAny _ _ (call (Value.ref (nat_lit 274)) _) _ _ _)); first | (k_unfold; (try dsimp only)) | (k_end; wrow_close) | walk1 | (dsimp only; walk1) | (leave1; try dsimp only)))
  refine c_draw (many := 4) (by k_asm) (by k_asm) (by k_in) (by k_asm) (by k_asm) (by exact rfl) (room_1 hd0 rfl) (room_1 hu0 rfl) ok3 (by decide) (by decide) hdl og1 og2 ?_
  intro r t4 s4 h4 tk4 r0 r9 ok4 F4 N4
  obtain ⟨np, rfl⟩ := Int.eq_ofNat_of_zero_le r0
  repeat' (first | ((fail_if_success (with_reducible show LCg.CompSrc _ _ _ _ _ _ _ _ _ _ _ _ _ _)); (fail_if_success (with_reducible show LCp.SrcLP _ _ _ _ _ _ _ _ _ _ _ _ _ _ _)); first | (k_unfold; (try dsimp only)) | (k_end; wrow_close) | walk1 | (dsimp only; walk1) | (leave1; try dsimp only)))
  rename IsRange _ _ _ _ _ _ _ _ => hR4
  refine LCg.CompSrc.range rfl (by k_asm) (by k_asm) hR4 (range1_small (by (first | k_extra "ar" | lia | omega))) (range1_size np) (by rw [PySem.sizeLine_eq]; (first | k_extra "ar" | lia | omega)) fun g => ?_
  refine comp_inv (R := fun i ys nx => ∃ c3, DS.Ok w l c3 ∧ nx = [(d, c3.o), (l, W.listOf c3.ys.toArray c3.n), (P, _), (L + 1, oc1), (L + 1 + 1, oc2)] ∧ ∃ ids, BytesAre ys ids ∧ ids.length = i ∧ ∀ b ∈ ids, b.size = sz) ⟨s4, ok4, rfl, [], .nil, rfl, fun _ h => nomatch h⟩ ?_ ?_
  · rintro i v ys nx I oI C oC D m₂ h tk E' hi9 ⟨tv, rfl⟩ ⟨c3, hc3, rfl, ids, hids, hil, hib⟩ hC hx F1 N1 off ne
    have off9 := LCg.Off3.mem off
    obtain ⟨p1, p2, p3⟩ := off9 _ (List.mem_cons_self ..)
    obtain ⟨p4, p5, p6⟩ := off9 _ (List.mem_cons_of_mem _ (List.mem_cons_self ..))
    repeat' (first | ((fail_if_success (with_reducible show wpAny _ _ (call (Value.ref (nat_lit 279)) _) _ _ _)); first | (k_unfold; (try dsimp only)) | (k_end; wrow_close) | walk1 | (dsimp only; walk1) | (leave1; try dsimp only)))
    rename News _ _ _ _ => N8
    refine c_law_id (by k_asm) (by k_asm) (by k_in) (n_c3 N8) (by k_asm) (by exact rfl) (room_1 hd0 rfl) (room_1 hu0 rfl) hc3 (by (first | k_extra "ar" | lia | omega)) hdl (List.forall_mem_cons.mpr ⟨Ne.symm p1, List.forall_mem_cons.mpr ⟨Ne.symm p2, List.forall_mem_cons.mpr ⟨Ne.symm p3, og1⟩⟩⟩) (List.forall_mem_cons.mpr ⟨Ne.symm p4, List.forall_mem_cons.mpr ⟨Ne.symm p5, List.forall_mem_cons.mpr ⟨Ne.symm p6, og2⟩⟩⟩) ?_
    intro b9 t9 c5 h9 tk9 hb9 hc5 F9 N9
    replace N9 := n_c3b N9
    k_steps
    try show LCg.CompEnd _ _ _ _ _ _ _ _ _ _ _ _ _ _
    refine LCg.CompEnd.intro (by k_asm) (by k_asm) _ (fun _ h => h) (by exact off) trivial ⟨c5, hc5, rfl, ids ++ [b9], bytes_snoc hids, by simp [hil], ?_⟩
    intro b hb
    rcases List.mem_append.mp hb with hb | hb
    · exact hib b hb
    · rw [List.mem_singleton.mp hb]; exact hb9
  · rintro ys nx ⟨s5, ok5, rfl, ids, hids, hil, hib⟩
    unfold LCg.FinE
    intro Dp h5 tk5 F5 N5 o5
    have f1 : @Ne Nat d Dp := off1_mem o5 _ (List.mem_cons_self ..)
    have f2 : @Ne Nat l Dp := off1_mem o5 _ (List.mem_cons_of_mem _ (List.mem_cons_self ..))
    have f3 : @Ne Nat P Dp := off1_mem o5 _ (List.mem_cons_of_mem _ (List.mem_cons_of_mem _ (List.mem_cons_self ..)))
    have f4 : @Ne Nat (L + 1) Dp := off1_mem o5 _ (List.mem_cons_of_mem _ (List.mem_cons_of_mem _ (List.mem_cons_of_mem _ (List.mem_cons_self ..))))
    have f5 : @Ne Nat (L + 1 + 1) Dp := off1_mem o5 _ (List.mem_cons_of_mem _ (List.mem_cons_of_mem _ (List.mem_cons_of_mem _ (List.mem_cons_of_mem _ (List.mem_cons_self ..)))))
    clear o5
    repeat' (first | ((fail_if_success (with_reducible show wpAny _ _ (call (Value.ref (nat_lit 296)) _) _ _ _)); first | (k_unfold; (try dsimp only)) | (k_end; wrow_close) | walk1 | (dsimp only; walk1) | (leave1; try dsimp only)))
    rename News _ _ _ _ => N6
    refine c_law_person (by k_asm) (by k_asm) (by k_in) (n_bca N6) (by k_asm) (by exact rfl) (room_1 hd0 rfl) (room_1 hu0 rfl) ok5 hdl (List.forall_mem_cons.mpr ⟨Ne.symm f1, og1⟩) (List.forall_mem_cons.mpr ⟨Ne.symm f2, og2⟩) ?_
    intro qa xa a1 a2 a3 a4 s6 h6 tk6 hqa ok6 x1 x2 x3 F6 N6
    repeat' (first | ((fail_if_success (with_reducible show wpAny _ _ (call (Value.ref (nat_lit 296)) _) _ _ _)); first | (k_unfold; (try dsimp only)) | (k_end; wrow_close) | walk1 | (dsimp only; walk1) | (leave1; try dsimp only)))
    refine c_law_person (by k_asm) (by k_asm) (by k_in) (by k_asm) (by k_asm) (by exact rfl) (room_1 hd0 rfl) (room_1 hu0 rfl) ok6 hdl (List.forall_mem_cons.mpr ⟨x1, List.forall_mem_cons.mpr ⟨Ne.symm f1, og1⟩⟩) (List.forall_mem_cons.mpr ⟨x2, List.forall_mem_cons.mpr ⟨Ne.symm f2, og2⟩⟩) ?_
    intro qc xc b1 b2' b3 b4 s7 h7 tk7 hqc ok7 y1 y2 y3 F7 N7
    have x4 : @Ne Nat P xa := x3 _ (List.mem_cons_of_mem _ (List.mem_cons_self ..))
    have y4 : @Ne Nat P xc := y3 _ (List.mem_cons_of_mem _ (List.mem_cons_of_mem _ (List.mem_cons_self ..)))
    repeat' (first | ((fail_if_success (with_reducible show wpAny _ _ (eval (Expr.ListComp _ _ _ _) _) _ _ _)); first | (k_unfold; (try dsimp only)) | (k_end; wrow_close) | walk1 | (dsimp only; walk1) | (leave1; try dsimp only)))
    rename Obj.IsDictOf _ _ [_, _, _, _] => hd4
    rename News _ _ _ _ => N8
    obtain ⟨oP, hoP⟩ := exDict hd4
    rw [← hoP] at hd4 N8
    obtain ⟨bs, hbs, -⟩ := exLed (cb_drop (news := [(xc, tupP qc.1 qc.2.1 (qc.2.2.1 : Int) qc.2.2.2 b1 b2' b3 b4), (xa, tupP qa.1 qa.2.1 (qa.2.2.1 : Int) qa.2.2.2 a1 a2 a3 a4), (Dp, LCg.lst ys), (L + 1 + 1, oc2)]) N8 (by (repeat' (first | exact List.forall_mem_nil _ | (with_reducible refine List.forall_mem_cons.mpr ?_; refine ⟨by k_mem, ?_⟩))); all_goals (intro qz hz; repeat (first | (with_reducible exact hz) | refine List.mem_cons_of_mem _ ?_))))
    replace N8 := cb_drop (news := (d, s7.o) :: (l, W.listOf s7.ys.toArray s7.n) :: (L + 1, oc1) :: (P, oP) :: bs) N8 (by rw [hbs]; exact (by (repeat' (first | exact List.forall_mem_nil _ | (with_reducible refine List.forall_mem_cons.mpr ?_; refine ⟨by k_mem, ?_⟩))); all_goals (intro qz hz; repeat (first | (with_reducible exact hz) | refine List.mem_cons_of_mem _ ?_))))
    have bd : ∀ q ∈ bs, @Ne Nat q.1 d := by rw [hbs]; exact List.forall_mem_cons.mpr ⟨y1, List.forall_mem_cons.mpr ⟨x1, List.forall_mem_cons.mpr ⟨Ne.symm f1, List.forall_mem_cons.mpr ⟨d2, List.forall_mem_nil _⟩⟩⟩⟩
    have bl : ∀ q ∈ bs, @Ne Nat q.1 l := by rw [hbs]; exact List.forall_mem_cons.mpr ⟨y2, List.forall_mem_cons.mpr ⟨x2, List.forall_mem_cons.mpr ⟨Ne.symm f2, List.forall_mem_cons.mpr ⟨l2, List.forall_mem_nil _⟩⟩⟩⟩
    have bp : ∀ q ∈ bs, @Ne Nat q.1 P := by rw [hbs]; exact List.forall_mem_cons.mpr ⟨Ne.symm y4, List.forall_mem_cons.mpr ⟨Ne.symm x4, List.forall_mem_cons.mpr ⟨Ne.symm f3, List.forall_mem_cons.mpr ⟨Nat.ne_of_lt hPl.2.2.2, List.forall_mem_nil _⟩⟩⟩⟩
    have pd : @Ne Nat P d := Nat.ne_of_gt hPl.1
    have pl : @Ne Nat P l := Nat.ne_of_gt hPl.2.1
    refine LCg.ListComp_U (F₀ := by k_asm) (by with_unfolding_all rfl) (by decide) (by rfl) (by decide) (by rfl) ?_
    repeat' (first | ((fail_if_success (with_reducible show wpAny _ _ (call (Value.ref (nat_lit 274)) _) _ _ _)); first | (k_unfold; (try dsimp only)) | (k_end; wrow_close) | walk1 | (dsimp only; walk1) | (leave1; try dsimp only)))
    refine c_draw (many := 4) (by k_asm) (by k_asm) (by k_in) (by k_asm) (by k_asm) (by exact rfl) (room_1 hd0 rfl) (room_1 hu0 rfl) ok7 (by decide) (by decide) hdl (List.forall_mem_cons.mpr ⟨d1, List.forall_mem_cons.mpr ⟨pd, bd⟩⟩) (List.forall_mem_cons.mpr ⟨l1, List.forall_mem_cons.mpr ⟨pl, bl⟩⟩) ?_
    intro r t8 s8 h8 tk8 r0 r9 ok8 F8 N8
    obtain ⟨ne, rfl⟩ := Int.eq_ofNat_of_zero_le r0
    repeat' (first | ((fail_if_success (with_reducible show LCg.CompSrc _ _ _ _ _ _ _ _ _ _ _ _ _ _)); (fail_if_success (with_reducible show LCp.SrcLP _ _ _ _ _ _ _ _ _ _ _ _ _ _ _)); first | (k_unfold; (try dsimp only)) | (k_end; wrow_close) | walk1 | (dsimp only; walk1) | (leave1; try dsimp only)))
    rename IsRange _ _ _ _ _ _ _ _ => hR8
    refine LCg.CompSrc.range rfl (by k_asm) (by k_asm) hR8 (range1_small (by (first | k_extra "ar" | lia | omega))) (range1_size ne) (by rw [PySem.sizeLine_eq]; (first | k_extra "ar" | lia | omega)) fun g => ?_
    refine comp_inv (R := fun i ys nx => ∃ c3 tl, DS.Ok w l c3 ∧ nx = (d, c3.o) :: (l, W.listOf c3.ys.toArray c3.n) :: (L + 1, oc1) :: (P, oP) :: (tl ++ bs) ∧ (∀ q ∈ tl, @Ne Nat q.1 d ∧ @Ne Nat q.1 l ∧ @Ne Nat q.1 P) ∧ ∃ ps, PairsIn tl ys ps ∧ ps.length = i ∧ ∀ q ∈ ps, q.1 ∈ lawKeys ∧ Plain q.2) ⟨s8, [], ok8, rfl, (fun _ h => nomatch h), [], .nil, rfl, fun _ h => nomatch h⟩ ?_ ?_
    · rintro i v ys nx I oI C oC D m₂ h tk E' hi9 ⟨tv, rfl⟩ ⟨c3, tl, hc3, rfl, htl, ps, hps, hpl9, hpm⟩ hC hx F1 N1 off ne9
      have off9 := LCg.Off3.mem off
      obtain ⟨p1, p2, p3⟩ := off9 _ (List.mem_cons_self ..)
      obtain ⟨p4, p5, p6⟩ := off9 _ (List.mem_cons_of_mem _ (List.mem_cons_self ..))
      have td : ∀ q ∈ tl ++ bs, @Ne Nat q.1 d := fun q hq => (List.mem_append.mp hq).elim (fun h => (htl q h).1) (bd q)
      have tl' : ∀ q ∈ tl ++ bs, @Ne Nat q.1 l := fun q hq => (List.mem_append.mp hq).elim (fun h => (htl q h).2.1) (bl q)
      have q1 : ∀ q ∈ (I, oI) :: (C, oC) :: (D, LCg.lst ys) :: (L + 1, oc1) :: (P, oP) :: (tl ++ bs), @Ne Nat q.1 d := List.forall_mem_cons.mpr ⟨Ne.symm p1, List.forall_mem_cons.mpr ⟨Ne.symm p2, List.forall_mem_cons.mpr ⟨Ne.symm p3, List.forall_mem_cons.mpr ⟨d1, List.forall_mem_cons.mpr ⟨pd, td⟩⟩⟩⟩⟩
      have q2 : ∀ q ∈ (I, oI) :: (C, oC) :: (D, LCg.lst ys) :: (L + 1, oc1) :: (P, oP) :: (tl ++ bs), @Ne Nat q.1 l := List.forall_mem_cons.mpr ⟨Ne.symm p4, List.forall_mem_cons.mpr ⟨Ne.symm p5, List.forall_mem_cons.mpr ⟨Ne.symm p6, List.forall_mem_cons.mpr ⟨l1, List.forall_mem_cons.mpr ⟨pl, tl'⟩⟩⟩⟩⟩
      replace N1 := n_c3 N1
      repeat' (first | ((fail_if_success (with_reducible show wpAny _ _ (call (Value.ref (nat_lit 274)) _) _ _ _)); first | (k_unfold; (try dsimp only)) | (k_end; wrow_close) | walk1 | (dsimp only; walk1) | (leave1; try dsimp only)))
      refine c_draw (c := c3) (many := 4) (by k_asm) (by k_asm) (by k_in) (by k_asm) (by k_asm) (by exact rfl) (room_1 hd0 rfl) (room_1 hu0 rfl) hc3 (by decide) (by decide) hdl q1 q2 ?_
      intro r2 tr2 c4 h9 tk9 r20 r29 hc4 F9 N9
      repeat' (first | ((fail_if_success (with_reducible show wpAny _ _ (subscriptTail _ _ (Value.ref (nat_lit 255)) _) _ _ _)); first | (k_unfold; (try dsimp only)) | (k_end; wrow_close) | walk1 | (dsimp only; walk1) | (leave1; try dsimp only)))
      refine sub_tab (tab_keys (X.keeps (Fr.keep F9))) r20 (by show r2 < 4; (first | k_extra "ar" | lia | omega)) (by (first | k_extra "ar" | lia | omega)) ?_
      intro bk tbk hbk
      repeat' (first | ((fail_if_success (with_reducible show wpAny _ _ (call (Value.ref (nat_lit 289)) _) _ _ _)); first | (k_unfold; (try dsimp only)) | (k_end; wrow_close) | walk1 | (dsimp only; walk1) | (leave1; try dsimp only)))
      refine c_law_lines (k := 1) (by k_asm) (by k_asm) (by k_in) (by k_asm) (by k_asm) (by exact rfl) (room_1 hd0 rfl) (room_1 hu0 rfl) hc4 (by decide) hdl q1 q2 ?_
      intro bv tbv c5 h5' tk5' hbv hc5 F5' N5'
      k_steps
      try show LCg.CompEnd _ _ _ _ _ _ _ _ _ _ _ _ _ _
      rename @LT.lt Nat _ d _ ∧ @LT.lt Nat _ l _ ∧ @LT.lt Nat _ I _ ∧ _ => hT
      refine pairs_end2 (x := (d, c5.o)) (y := (l, W.listOf c5.ys.toArray c5.n)) (x' := (d, c3.o)) (y' := (l, W.listOf c3.ys.toArray c3.n)) (by k_asm) (by k_asm) hT rfl rfl off ⟨c5, _ :: tl, hc5, rfl, List.forall_mem_cons.mpr ⟨⟨Nat.ne_of_gt hT.1, Nat.ne_of_gt hT.2.1, Nat.ne_of_gt hT.2.2.2.2.2.2.1⟩, htl⟩, ps ++ [(bk, bv)], pairs_snoc hps, by simp [hpl9], ?_⟩
      intro q hq
      rcases List.mem_append.mp hq with hq | hq
      · exact hpm q hq
      · rw [List.mem_singleton.mp hq]; exact ⟨hbk, hbv⟩
    · rintro ys2 nx ⟨s9, tl, ok9, rfl, htl, ex, hex, hexl, hexm⟩
      unfold LCg.FinE
      intro Dx h5 tk5 F5 N5 o5
      have oDx := off1_mem o5
      have g1 : @Ne Nat Dx d := Ne.symm (oDx _ (List.mem_cons_self ..))
      have g2 : @Ne Nat Dx l := Ne.symm (oDx _ (List.mem_cons_of_mem _ (List.mem_cons_self ..)))
      have g3 : @Ne Nat Dx P := Ne.symm (oDx _ (List.mem_cons_of_mem _ (List.mem_cons_of_mem _ (List.mem_cons_of_mem _ (List.mem_cons_self ..)))))
      clear oDx o5
      obtain ⟨b2, hb2⟩ : ∃ z, z = (Dx, LCg.lst ys2) :: (tl ++ bs) := ⟨_, rfl⟩
      have cd2 : ∀ q ∈ b2, @Ne Nat q.1 d := by rw [hb2]; exact List.forall_mem_cons.mpr ⟨g1, fun q hq => (List.mem_append.mp hq).elim (fun h => (htl q h).1) (bd q)⟩
      have cl2 : ∀ q ∈ b2, @Ne Nat q.1 l := by rw [hb2]; exact List.forall_mem_cons.mpr ⟨g2, fun q hq => (List.mem_append.mp hq).elim (fun h => (htl q h).2.1) (bl q)⟩
      have cp2 : ∀ q ∈ b2, @Ne Nat q.1 P := by rw [hb2]; exact List.forall_mem_cons.mpr ⟨g3, fun q hq => (List.mem_append.mp hq).elim (fun h => (htl q h).2.2) (bp q)⟩
      have hDx : (Dx, LCg.lst ys2) ∈ b2 := by rw [hb2]; exact List.mem_cons_self ..
      have htb : ∀ q ∈ tl, q ∈ b2 := fun q hq => by rw [hb2]; first | exact List.mem_cons_of_mem _ (List.mem_append_left _ hq) | exact List.mem_cons_of_mem _ (List.mem_append_right _ hq)
      have hbb : ∀ q ∈ bs, q ∈ b2 := fun q hq => by rw [hb2]; first | exact List.mem_cons_of_mem _ (List.mem_append_left _ hq) | exact List.mem_cons_of_mem _ (List.mem_append_right _ hq)
      replace N5 := cb_drop (news := (P, oP) :: (d, s9.o) :: (l, W.listOf s9.ys.toArray s9.n) :: (L + 1, oc1) :: b2) N5 (by rw [hb2]; exact (by (repeat' (first | exact List.forall_mem_nil _ | (with_reducible refine List.forall_mem_cons.mpr ?_; refine ⟨by k_mem, ?_⟩))); all_goals (intro qz hz; repeat (first | (with_reducible exact hz) | refine List.mem_cons_of_mem _ ?_))))
      clear hb2
      repeat' (first | ((fail_if_success (with_reducible show wpAny _ _ (setItem _ _ _) _ _ _)); first | (k_unfold; (try dsimp only)) | (k_end; wrow_close) | walk1 | (dsimp only; walk1) | (leave1; try dsimp only)))
      rename News _ _ _ _ => N5
      refine kda_set (knd := PySem.strKind _ _) (by k_asm) N5 (.head (List.forall_mem_cons.mpr ⟨Ne.symm pd, List.forall_mem_cons.mpr ⟨Ne.symm pl, List.forall_mem_cons.mpr ⟨Nat.ne_of_lt hPl.2.2.1, cp2⟩⟩⟩)) hd4 (strKind_is _ _ _ _) (by rw [sizeLine_eq]; exact Nat.le_of_ble_eq_true (by with_unfolding_all rfl)) ?_
      intro h6' oP5 F6' N6' hd5
      replace hd5 : oP5.IsDictOf (PySem.strKind PR w) [(Str.ofString "tree", .bytes tree tt), (Str.ofString "parents", .ref Dp), (Str.ofString "author", .ref xa), (Str.ofString "committer", .ref xc), (Str.ofString "extra", .ref Dx)] := hd5
      replace N6' := n_cab (n_cab N6')
      have qd : ∀ {o1 o2 : Obj}, ∀ q ∈ (P, o1) :: (L + 1, o2) :: b2, @Ne Nat q.1 d := fun {o1 o2} => List.forall_mem_cons.mpr ⟨pd, List.forall_mem_cons.mpr ⟨d1, cd2⟩⟩
      have ql : ∀ {o1 o2 : Obj}, ∀ q ∈ (P, o1) :: (L + 1, o2) :: b2, @Ne Nat q.1 l := fun {o1 o2} => List.forall_mem_cons.mpr ⟨pl, List.forall_mem_cons.mpr ⟨l1, cl2⟩⟩
      repeat' (first | ((fail_if_success (with_reducible show wpAny _ _ (call (Value.ref (nat_lit 289)) _) _ _ _)); first | (k_unfold; (try dsimp only)) | (k_end; wrow_close) | walk1 | (dsimp only; walk1) | (leave1; try dsimp only)))
      refine c_law_lines (k := 0) (by k_asm) (by k_asm) (by k_in) (by k_asm) (by k_asm) (by exact rfl) (room_1 hd0 rfl) (room_1 hu0 rfl) ok9 (by decide) hdl qd ql ?_
      intro msg tmsg sA hA tkA hmsg okA FA NA
      repeat' (first | ((fail_if_success (with_reducible show wpAny _ _ (call (Value.ref (nat_lit 274)) _) _ _ _)); first | (k_unfold; (try dsimp only)) | (k_end; wrow_close) | walk1 | (dsimp only; walk1) | (leave1; try dsimp only)))
      refine c_draw (many := 10) (by k_asm) (by k_asm) (by k_in) (by k_asm) (by k_asm) (by exact rfl) (room_1 hd0 rfl) (room_1 hu0 rfl) okA (by decide) (by decide) hdl qd ql ?_
      intro way tway sB hB tkB w0 w9 okB FB NB
      repeat' (first | ((fail_if_success (with_reducible show wpAny _ _ (call (Value.ref (nat_lit 306)) _) _ _ _)); first | (k_unfold; (try dsimp only)) | (k_end; wrow_close) | walk1 | (dsimp only; walk1) | (leave1; try dsimp only)))
      rename News _ _ _ _ => NB
      have hids2 : ys.length = np := by rw [hids.length]; exact hil
      have hxa : (xa, tupP qa.1 qa.2.1 (qa.2.2.1 : Int) qa.2.2.2 a1 a2 a3 a4) ∈ b2 := hbb _ (by rw [hbs]; k_mem)
      have hxc : (xc, tupP qc.1 qc.2.1 (qc.2.2.1 : Int) qc.2.2.2 b1 b2' b3 b4) ∈ b2 := hbb _ (by rw [hbs]; k_mem)
      have hDp : (Dp, LCg.lst ys) ∈ b2 := hbb _ (by rw [hbs]; k_mem)
      have hoc2 : (L + 1 + 1, oc2) ∈ b2 := hbb _ (by rw [hbs]; k_mem)
      refine c_law_heads (P := P) (pl := Dp) (xa := xa) (xc := xc) (xl := Dx) (oP := oP5) (tt := tt) (tree := tree) (ids := ids) (ws := ys) (vs := ys2) (n := ys.length) (n2 := ys2.length) (qa := qa) (qc := qc) (ex := ex) (t1 := a1) (t2 := a2) (t3 := a3) (t4 := a4) (t5 := b1) (t6 := b2') (t7 := b3) (t8 := b4) (news := (d, sB.o) :: (l, W.listOf sB.ys.toArray sB.n) :: (L + 1, oc1) :: b2) (by k_asm) (by k_asm) (by k_in) (cb_drop NB (List.forall_mem_cons.mpr ⟨by k_mem, List.forall_mem_cons.mpr ⟨List.mem_cons_of_mem _ (List.mem_cons_of_mem _ (List.mem_cons_of_mem _ (List.mem_cons_of_mem _ hDp))), List.forall_mem_cons.mpr ⟨List.mem_cons_of_mem _ (List.mem_cons_of_mem _ (List.mem_cons_of_mem _ (List.mem_cons_of_mem _ hxa))), List.forall_mem_cons.mpr ⟨List.mem_cons_of_mem _ (List.mem_cons_of_mem _ (List.mem_cons_of_mem _ (List.mem_cons_of_mem _ hxc))), List.forall_mem_cons.mpr ⟨List.mem_cons_of_mem _ (List.mem_cons_of_mem _ (List.mem_cons_of_mem _ (List.mem_cons_of_mem _ hDx))), (by (repeat' (first | exact List.forall_mem_nil _ | (with_reducible refine List.forall_mem_cons.mpr ?_; refine ⟨by k_mem, ?_⟩))); all_goals (intro qz hz; repeat (first | (with_reducible exact hz) | refine List.mem_cons_of_mem _ ?_)))⟩⟩⟩⟩⟩)) (by k_asm) (by exact rfl) (room_1 hd0 rfl) (room_1 hu0 rfl) hd5 (by (first | k_extra "ar" | lia | omega)) hids (by (first | k_extra "ar" | lia | omega)) (fun b hb => by have := hib b hb; (first | k_extra "ar" | lia | omega)) (lawPer_ok hqa) (lawPer_ok hqc) (hex.mono fun q hq => List.mem_cons_of_mem _ (List.mem_cons_of_mem _ (List.mem_cons_of_mem _ (htb q hq)))) (by (first | k_extra "ar" | lia | omega)) ?_
      intro H tlh vsh nh hC tkC hpH FC NC
      repeat' (first | ((fail_if_success (with_reducible show wpAny _ _ (execs (Stmt.If _ _ _ _ :: _) _) _ _ _)); first | (k_unfold; (try dsimp only)) | (k_end; wrow_close) | walk1 | (dsimp only; walk1) | (leave1; try dsimp only)))
      rename News _ _ _ _ => NC
      have G : Good sz tree ids qa qc ex msg := ⟨sz2, sz4, htree, by (first | k_extra "ar" | lia | omega), hib, hqa, hqc, by (first | k_extra "ar" | lia | omega), hexm, hmsg⟩
      obtain ⟨Z, hZ, -⟩ := exLed NC
      have hz : ∀ q ∈ (P, oP5) :: (Dp, LCg.lst ys) :: (xa, tupP qa.1 qa.2.1 (qa.2.2.1 : Int) qa.2.2.2 a1 a2 a3 a4) :: (xc, tupP qc.1 qc.2.1 (qc.2.2.1 : Int) qc.2.2.2 b1 b2' b3 b4) :: (Dx, LCg.lst ys2) :: (d, sB.o) :: (l, W.listOf sB.ys.toArray sB.n) :: (L + 1, oc1) :: b2, q ∈ Z := by rw [hZ]; exact fun q h => List.mem_cons_of_mem _ (List.mem_append_right _ h)
      have z1 : (H, W.listOf vsh.toArray nh) ∈ Z := by rw [hZ]; exact List.mem_cons_self ..
      have zl : ∀ q ∈ tlh, q ∈ Z := by rw [hZ]; exact fun q h => List.mem_cons_of_mem _ (List.mem_append_left _ h)
      have z2 : (P, oP5) ∈ Z := hz _ (by k_mem)
      have z3 : (Dp, LCg.lst ys) ∈ Z := hz _ (by k_mem)
      have z4 : (xa, tupP qa.1 qa.2.1 (qa.2.2.1 : Int) qa.2.2.2 a1 a2 a3 a4) ∈ Z := hz _ (by k_mem)
      have z5 : (xc, tupP qc.1 qc.2.1 (qc.2.2.1 : Int) qc.2.2.2 b1 b2' b3 b4) ∈ Z := hz _ (by k_mem)
      have z6 : (Dx, LCg.lst ys2) ∈ Z := hz _ (by k_mem)
      have z7 : (d, sB.o) ∈ Z := hz _ (by k_mem)
      have z8 : (l, W.listOf sB.ys.toArray sB.n) ∈ Z := hz _ (by k_mem)
      have z9 : (L + 1, oc1) ∈ Z := hz _ (by k_mem)
      have zb : ∀ q ∈ b2, q ∈ Z := fun q hq => hz q (List.mem_cons_of_mem _ (List.mem_cons_of_mem _ (List.mem_cons_of_mem _ (List.mem_cons_of_mem _ (List.mem_cons_of_mem _ (List.mem_cons_of_mem _ (List.mem_cons_of_mem _ (List.mem_cons_of_mem _ hq))))))))
      have zA : (L + 1 + 1, oc2) ∈ Z := zb _ hoc2
      have zB : PairsIn Z vsh (headsP tree ids qa qc ex) := hpH.mono fun q hq => (List.mem_append.mp hq).elim (zl q) (fun h => hz q (List.mem_cons_of_mem _ (List.mem_cons_of_mem _ (List.mem_cons_of_mem _ (List.mem_cons_of_mem _ (List.mem_cons_of_mem _ h))))))
      have zC : PairsIn Z ys2 ex := hex.mono fun q hq => zb q (htb q hq)
      clear hz zl zb
      rw [← hZ] at NC
      clear hZ
      by_cases hw : 0 < way ∧ way < 8
      · exact law_bad (c := sB) (nw := Z) e' B (by k_asm) (by k_in) T (cb_drop NC (List.forall_mem_cons.mpr ⟨z7, List.forall_mem_cons.mpr ⟨z8, List.forall_mem_cons.mpr ⟨z9, List.forall_mem_cons.mpr ⟨zA, fun _ h => h⟩⟩⟩⟩)) hc1 hc2 okB hdl z1 zB G hw.1 hw.2 (fun _ _ _ _ F N => hQ _ _ _ _ F N)
      · exact law_good (nw := Z) e' B (by k_asm) (by k_in) T (cb_drop NC (List.forall_mem_cons.mpr ⟨zA, List.forall_mem_cons.mpr ⟨z2, fun _ h => h⟩⟩)) hc2 hd5 z3 hids z4 z5 z6 zC z1 zB G hw (fun _ _ _ _ F N => hQ _ _ _ _ F N)
end


end Mine
end

theorem Mine.reg_none : True := by
  k_with_none
  trivial
section
open PySem PySem.W PyProof.Rows PySem.Calls Mine
local macro_rules | `(tactic| k_qdec) => `(tactic| decide +kernel)
theorem Mine.n_turn {h₀ h : Heap} {L : Addr} {a b : Addr × Obj} (N : News h₀ L h [a, b]) : News h₀ L h [b, a] := cb_drop N fun q hq => by
  simp only [List.mem_cons, List.not_mem_nil, or_false] at hq ⊢
  rcases hq with h | h <;> simp [h]
set_option maxHeartbeats 8000000 in
theorem PySem.Challenge.cw_pb0110_01_holds : PySem.Challenge.rw_pb0110_01.Holds := by
  w_on
  refine holds_law Mine.said_ok fun said => ?_
  refine holds_open (q := Qv) (loose := loose) (Xt := fun s => xlAt Qv [] s && recOk [] s) (XP := XL Qv []) (Yf := HK.obs) (Ya := HK.val) (YP := HK.says) (N := 4642) leftK HK.of HK.keeps (fun s e => xl_of s (Bool.and_eq_true_iff.mp e).1) XL.keeps (by rfl) (by rfl) (by rfl) (fun s e => recFacts_of (Bool.and_eq_true_iff.mp e).2) (by rfl) (by first | assumption | decide +kernel) (by decide +kernel) ⟨rfl, rfl, rfl, rfl, rfl, by decide +kernel⟩ ?hw ?hc
  case hw => w_witness2
  k_go0
  rename Fr _ _ _ _ => F9
  rename News _ _ _ _ => N9
  rename IntsAre _ _ => I9
  rename Heap.IsList _ _ _ => L9
  rename Below _ _ _ _ => B9
  refine law_body rfl B9 F9 (by k_in) (n_turn N9) (by assumption) (by assumption) (by assumption) L9 I9 (by omega) ?_
  intro m' nw h' tk' F' N'
  k_steps
end
