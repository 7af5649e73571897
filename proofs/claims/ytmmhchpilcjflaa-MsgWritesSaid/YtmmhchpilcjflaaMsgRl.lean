/-
  msg.Right is the document's.
-/
import Derived.Test.YtmmhchpilcjflaaMsgRi
set_option linter.unusedSimpArgs false
set_option linter.unusedVariables false
namespace Go.Proofs.Ytmmhchpilcjflaa
open Go.RowKit

def okRest (m : PMsg) : Bool := inB m.move && inB m.part && inB m.to && inB m.n && inB m.count && inB m.code && itemB m && inB m.epoch && inB m.nodes && (m.owner.all inB && decide ((m.owner.length : Int) ≤ 64)) && (m.set.all inB && decide ((m.set.length : Int) ≤ 1024)) && decide ((m.data.size : Int) ≤ 1024)
theorem okR_rest (m : PMsg) : okR m = (sameB m (onlyM m) && okRest m) := by
  unfold okR okRest
  simp only [Bool.and_assoc]
theorem inB_0 : inB 0 = true := rfl
section
variable {m : PMsg}
theorem rest_1 (hc : m.kind = 1) (h : m = onlyM m) : okRest m = okM m := by
  have z_move : m.move = PMsg.zero.move := (congrArg PMsg.move h).trans (by unfold onlyM; rw [hc]; rfl)
  have z_part : m.part = PMsg.zero.part := (congrArg PMsg.part h).trans (by unfold onlyM; rw [hc]; rfl)
  have z_to : m.«to» = PMsg.zero.«to» := (congrArg PMsg.«to» h).trans (by unfold onlyM; rw [hc]; rfl)
  have z_n : m.n = PMsg.zero.n := (congrArg PMsg.n h).trans (by unfold onlyM; rw [hc]; rfl)
  have z_count : m.count = PMsg.zero.count := (congrArg PMsg.count h).trans (by unfold onlyM; rw [hc]; rfl)
  have z_code : m.code = PMsg.zero.code := (congrArg PMsg.code h).trans (by unfold onlyM; rw [hc]; rfl)
  have z_digest : m.digest = PMsg.zero.digest := (congrArg PMsg.digest h).trans (by unfold onlyM; rw [hc]; rfl)
  have z_at_ : m.at_ = PMsg.zero.at_ := (congrArg PMsg.at_ h).trans (by unfold onlyM; rw [hc]; rfl)
  have z_epoch : m.epoch = PMsg.zero.epoch := (congrArg PMsg.epoch h).trans (by unfold onlyM; rw [hc]; rfl)
  have z_nodes : m.nodes = PMsg.zero.nodes := (congrArg PMsg.nodes h).trans (by unfold onlyM; rw [hc]; rfl)
  have z_owner : m.owner = PMsg.zero.owner := (congrArg PMsg.owner h).trans (by unfold onlyM; rw [hc]; rfl)
  have z_set : m.set = PMsg.zero.set := (congrArg PMsg.set h).trans (by unfold onlyM; rw [hc]; rfl)
  have z_data : m.data = PMsg.zero.data := (congrArg PMsg.data h).trans (by unfold onlyM; rw [hc]; rfl)
  replace z_move : m.move = 0 := z_move
  replace z_part : m.part = 0 := z_part
  replace z_to : m.«to» = 0 := z_to
  replace z_n : m.n = 0 := z_n
  replace z_count : m.count = 0 := z_count
  replace z_code : m.code = 0 := z_code
  replace z_digest : m.digest = 0 := z_digest
  replace z_at_ : m.at_ = 0 := z_at_
  replace z_epoch : m.epoch = 0 := z_epoch
  replace z_nodes : m.nodes = 0 := z_nodes
  replace z_owner : m.owner = [] := z_owner
  replace z_set : m.set = [] := z_set
  replace z_data : m.data = .empty := z_data
  clear h
  unfold okM
  rw [hc]
  unfold okRest itemB
  rw [z_move, z_part, z_to, z_n, z_count, z_code, z_epoch, z_nodes, z_owner, z_set, z_data]
  rw [Bool.eq_iff_iff]
  simp only [emsM, emN, emB, emI, emU, emT, emL, inB_0, List.all_cons, List.all_nil, List.length_nil, Bool.and_true, Bool.true_and, Bool.and_eq_true, decide_eq_true_eq]
  have e0 : ((0 : Nat) : Int) ≤ 64 := by decide
  have e1 : ((0 : Nat) : Int) ≤ 1024 := by decide
  have e2 : ((ByteArray.empty.size : Nat) : Int) ≤ 255 := by decide
  have e3 : ((ByteArray.empty.size : Nat) : Int) ≤ 1024 := by decide
  have n1 : ∀ n : Nat, ((n : Int) ≤ 64) = (n ≤ 64) := fun n => propext (by omega)
  have n2 : ∀ n : Nat, ((n : Int) ≤ 255) = (n ≤ 255) := fun n => propext (by omega)
  have n3 : ∀ n : Nat, ((n : Int) ≤ 1024) = (n ≤ 1024) := fun n => propext (by omega)
  constructor <;> intro hh <;> simp_all
theorem rest_2 (hc : m.kind = 2) (h : m = onlyM m) : okRest m = okM m := by
  have z_move : m.move = PMsg.zero.move := (congrArg PMsg.move h).trans (by unfold onlyM; rw [hc]; rfl)
  have z_part : m.part = PMsg.zero.part := (congrArg PMsg.part h).trans (by unfold onlyM; rw [hc]; rfl)
  have z_to : m.«to» = PMsg.zero.«to» := (congrArg PMsg.«to» h).trans (by unfold onlyM; rw [hc]; rfl)
  have z_n : m.n = PMsg.zero.n := (congrArg PMsg.n h).trans (by unfold onlyM; rw [hc]; rfl)
  have z_count : m.count = PMsg.zero.count := (congrArg PMsg.count h).trans (by unfold onlyM; rw [hc]; rfl)
  have z_digest : m.digest = PMsg.zero.digest := (congrArg PMsg.digest h).trans (by unfold onlyM; rw [hc]; rfl)
  have z_at_ : m.at_ = PMsg.zero.at_ := (congrArg PMsg.at_ h).trans (by unfold onlyM; rw [hc]; rfl)
  have z_ilow : m.ilow = PMsg.zero.ilow := (congrArg PMsg.ilow h).trans (by unfold onlyM; rw [hc]; rfl)
  have z_ikind : m.ikind = PMsg.zero.ikind := (congrArg PMsg.ikind h).trans (by unfold onlyM; rw [hc]; rfl)
  have z_ikey : m.ikey = PMsg.zero.ikey := (congrArg PMsg.ikey h).trans (by unfold onlyM; rw [hc]; rfl)
  have z_ipart : m.ipart = PMsg.zero.ipart := (congrArg PMsg.ipart h).trans (by unfold onlyM; rw [hc]; rfl)
  have z_iat : m.iat = PMsg.zero.iat := (congrArg PMsg.iat h).trans (by unfold onlyM; rw [hc]; rfl)
  have z_iN : m.iN = PMsg.zero.iN := (congrArg PMsg.iN h).trans (by unfold onlyM; rw [hc]; rfl)
  have z_epoch : m.epoch = PMsg.zero.epoch := (congrArg PMsg.epoch h).trans (by unfold onlyM; rw [hc]; rfl)
  have z_nodes : m.nodes = PMsg.zero.nodes := (congrArg PMsg.nodes h).trans (by unfold onlyM; rw [hc]; rfl)
  have z_owner : m.owner = PMsg.zero.owner := (congrArg PMsg.owner h).trans (by unfold onlyM; rw [hc]; rfl)
  have z_set : m.set = PMsg.zero.set := (congrArg PMsg.set h).trans (by unfold onlyM; rw [hc]; rfl)
  have z_data : m.data = PMsg.zero.data := (congrArg PMsg.data h).trans (by unfold onlyM; rw [hc]; rfl)
  replace z_move : m.move = 0 := z_move
  replace z_part : m.part = 0 := z_part
  replace z_to : m.«to» = 0 := z_to
  replace z_n : m.n = 0 := z_n
  replace z_count : m.count = 0 := z_count
  replace z_digest : m.digest = 0 := z_digest
  replace z_at_ : m.at_ = 0 := z_at_
  replace z_ilow : m.ilow = 0 := z_ilow
  replace z_ikind : m.ikind = 0 := z_ikind
  replace z_ikey : m.ikey = .empty := z_ikey
  replace z_ipart : m.ipart = 0 := z_ipart
  replace z_iat : m.iat = 0 := z_iat
  replace z_iN : m.iN = 0 := z_iN
  replace z_epoch : m.epoch = 0 := z_epoch
  replace z_nodes : m.nodes = 0 := z_nodes
  replace z_owner : m.owner = [] := z_owner
  replace z_set : m.set = [] := z_set
  replace z_data : m.data = .empty := z_data
  clear h
  unfold okM
  rw [hc]
  unfold okRest itemB
  rw [z_move, z_part, z_to, z_n, z_count, z_ilow, z_ikey, z_ipart, z_epoch, z_nodes, z_owner, z_set, z_data]
  rw [Bool.eq_iff_iff]
  simp only [emsM, emN, emB, emI, emU, emT, emL, inB_0, List.all_cons, List.all_nil, List.length_nil, Bool.and_true, Bool.true_and, Bool.and_eq_true, decide_eq_true_eq]
  have e0 : ((0 : Nat) : Int) ≤ 64 := by decide
  have e1 : ((0 : Nat) : Int) ≤ 1024 := by decide
  have e2 : ((ByteArray.empty.size : Nat) : Int) ≤ 255 := by decide
  have e3 : ((ByteArray.empty.size : Nat) : Int) ≤ 1024 := by decide
  have n1 : ∀ n : Nat, ((n : Int) ≤ 64) = (n ≤ 64) := fun n => propext (by omega)
  have n2 : ∀ n : Nat, ((n : Int) ≤ 255) = (n ≤ 255) := fun n => propext (by omega)
  have n3 : ∀ n : Nat, ((n : Int) ≤ 1024) = (n ≤ 1024) := fun n => propext (by omega)
  constructor <;> intro hh <;> simp_all
theorem rest_3 (hc : m.kind = 3) (h : m = onlyM m) : okRest m = okM m := by
  have z_move : m.move = PMsg.zero.move := (congrArg PMsg.move h).trans (by unfold onlyM; rw [hc]; rfl)
  have z_part : m.part = PMsg.zero.part := (congrArg PMsg.part h).trans (by unfold onlyM; rw [hc]; rfl)
  have z_to : m.«to» = PMsg.zero.«to» := (congrArg PMsg.«to» h).trans (by unfold onlyM; rw [hc]; rfl)
  have z_n : m.n = PMsg.zero.n := (congrArg PMsg.n h).trans (by unfold onlyM; rw [hc]; rfl)
  have z_count : m.count = PMsg.zero.count := (congrArg PMsg.count h).trans (by unfold onlyM; rw [hc]; rfl)
  have z_code : m.code = PMsg.zero.code := (congrArg PMsg.code h).trans (by unfold onlyM; rw [hc]; rfl)
  have z_digest : m.digest = PMsg.zero.digest := (congrArg PMsg.digest h).trans (by unfold onlyM; rw [hc]; rfl)
  have z_at_ : m.at_ = PMsg.zero.at_ := (congrArg PMsg.at_ h).trans (by unfold onlyM; rw [hc]; rfl)
  have z_ilow : m.ilow = PMsg.zero.ilow := (congrArg PMsg.ilow h).trans (by unfold onlyM; rw [hc]; rfl)
  have z_ikind : m.ikind = PMsg.zero.ikind := (congrArg PMsg.ikind h).trans (by unfold onlyM; rw [hc]; rfl)
  have z_ikey : m.ikey = PMsg.zero.ikey := (congrArg PMsg.ikey h).trans (by unfold onlyM; rw [hc]; rfl)
  have z_ipart : m.ipart = PMsg.zero.ipart := (congrArg PMsg.ipart h).trans (by unfold onlyM; rw [hc]; rfl)
  have z_iat : m.iat = PMsg.zero.iat := (congrArg PMsg.iat h).trans (by unfold onlyM; rw [hc]; rfl)
  have z_iN : m.iN = PMsg.zero.iN := (congrArg PMsg.iN h).trans (by unfold onlyM; rw [hc]; rfl)
  have z_set : m.set = PMsg.zero.set := (congrArg PMsg.set h).trans (by unfold onlyM; rw [hc]; rfl)
  have z_data : m.data = PMsg.zero.data := (congrArg PMsg.data h).trans (by unfold onlyM; rw [hc]; rfl)
  replace z_move : m.move = 0 := z_move
  replace z_part : m.part = 0 := z_part
  replace z_to : m.«to» = 0 := z_to
  replace z_n : m.n = 0 := z_n
  replace z_count : m.count = 0 := z_count
  replace z_code : m.code = 0 := z_code
  replace z_digest : m.digest = 0 := z_digest
  replace z_at_ : m.at_ = 0 := z_at_
  replace z_ilow : m.ilow = 0 := z_ilow
  replace z_ikind : m.ikind = 0 := z_ikind
  replace z_ikey : m.ikey = .empty := z_ikey
  replace z_ipart : m.ipart = 0 := z_ipart
  replace z_iat : m.iat = 0 := z_iat
  replace z_iN : m.iN = 0 := z_iN
  replace z_set : m.set = [] := z_set
  replace z_data : m.data = .empty := z_data
  clear h
  unfold okM
  rw [hc]
  unfold okRest itemB
  rw [z_move, z_part, z_to, z_n, z_count, z_code, z_ilow, z_ikey, z_ipart, z_set, z_data]
  rw [Bool.eq_iff_iff]
  simp only [emsM, emN, emB, emI, emU, emT, emL, inB_0, List.all_cons, List.all_nil, List.length_nil, Bool.and_true, Bool.true_and, Bool.and_eq_true, decide_eq_true_eq]
  have e0 : ((0 : Nat) : Int) ≤ 64 := by decide
  have e1 : ((0 : Nat) : Int) ≤ 1024 := by decide
  have e2 : ((ByteArray.empty.size : Nat) : Int) ≤ 255 := by decide
  have e3 : ((ByteArray.empty.size : Nat) : Int) ≤ 1024 := by decide
  have n1 : ∀ n : Nat, ((n : Int) ≤ 64) = (n ≤ 64) := fun n => propext (by omega)
  have n2 : ∀ n : Nat, ((n : Int) ≤ 255) = (n ≤ 255) := fun n => propext (by omega)
  have n3 : ∀ n : Nat, ((n : Int) ≤ 1024) = (n ≤ 1024) := fun n => propext (by omega)
  constructor <;> intro hh <;> simp_all
theorem rest_4 (hc : m.kind = 4) (h : m = onlyM m) : okRest m = okM m := by
  have z_n : m.n = PMsg.zero.n := (congrArg PMsg.n h).trans (by unfold onlyM; rw [hc]; rfl)
  have z_count : m.count = PMsg.zero.count := (congrArg PMsg.count h).trans (by unfold onlyM; rw [hc]; rfl)
  have z_code : m.code = PMsg.zero.code := (congrArg PMsg.code h).trans (by unfold onlyM; rw [hc]; rfl)
  have z_digest : m.digest = PMsg.zero.digest := (congrArg PMsg.digest h).trans (by unfold onlyM; rw [hc]; rfl)
  have z_at_ : m.at_ = PMsg.zero.at_ := (congrArg PMsg.at_ h).trans (by unfold onlyM; rw [hc]; rfl)
  have z_isrc : m.isrc = PMsg.zero.isrc := (congrArg PMsg.isrc h).trans (by unfold onlyM; rw [hc]; rfl)
  have z_iseq : m.iseq = PMsg.zero.iseq := (congrArg PMsg.iseq h).trans (by unfold onlyM; rw [hc]; rfl)
  have z_ilow : m.ilow = PMsg.zero.ilow := (congrArg PMsg.ilow h).trans (by unfold onlyM; rw [hc]; rfl)
  have z_ikind : m.ikind = PMsg.zero.ikind := (congrArg PMsg.ikind h).trans (by unfold onlyM; rw [hc]; rfl)
  have z_ikey : m.ikey = PMsg.zero.ikey := (congrArg PMsg.ikey h).trans (by unfold onlyM; rw [hc]; rfl)
  have z_ipart : m.ipart = PMsg.zero.ipart := (congrArg PMsg.ipart h).trans (by unfold onlyM; rw [hc]; rfl)
  have z_iat : m.iat = PMsg.zero.iat := (congrArg PMsg.iat h).trans (by unfold onlyM; rw [hc]; rfl)
  have z_iN : m.iN = PMsg.zero.iN := (congrArg PMsg.iN h).trans (by unfold onlyM; rw [hc]; rfl)
  have z_epoch : m.epoch = PMsg.zero.epoch := (congrArg PMsg.epoch h).trans (by unfold onlyM; rw [hc]; rfl)
  have z_nodes : m.nodes = PMsg.zero.nodes := (congrArg PMsg.nodes h).trans (by unfold onlyM; rw [hc]; rfl)
  have z_owner : m.owner = PMsg.zero.owner := (congrArg PMsg.owner h).trans (by unfold onlyM; rw [hc]; rfl)
  have z_set : m.set = PMsg.zero.set := (congrArg PMsg.set h).trans (by unfold onlyM; rw [hc]; rfl)
  have z_data : m.data = PMsg.zero.data := (congrArg PMsg.data h).trans (by unfold onlyM; rw [hc]; rfl)
  replace z_n : m.n = 0 := z_n
  replace z_count : m.count = 0 := z_count
  replace z_code : m.code = 0 := z_code
  replace z_digest : m.digest = 0 := z_digest
  replace z_at_ : m.at_ = 0 := z_at_
  replace z_isrc : m.isrc = 0 := z_isrc
  replace z_iseq : m.iseq = 0 := z_iseq
  replace z_ilow : m.ilow = 0 := z_ilow
  replace z_ikind : m.ikind = 0 := z_ikind
  replace z_ikey : m.ikey = .empty := z_ikey
  replace z_ipart : m.ipart = 0 := z_ipart
  replace z_iat : m.iat = 0 := z_iat
  replace z_iN : m.iN = 0 := z_iN
  replace z_epoch : m.epoch = 0 := z_epoch
  replace z_nodes : m.nodes = 0 := z_nodes
  replace z_owner : m.owner = [] := z_owner
  replace z_set : m.set = [] := z_set
  replace z_data : m.data = .empty := z_data
  clear h
  unfold okM
  rw [hc]
  unfold okRest itemB
  rw [z_n, z_count, z_code, z_isrc, z_iseq, z_ilow, z_ikey, z_ipart, z_epoch, z_nodes, z_owner, z_set, z_data]
  rw [Bool.eq_iff_iff]
  simp only [emsM, emN, emB, emI, emU, emT, emL, inB_0, List.all_cons, List.all_nil, List.length_nil, Bool.and_true, Bool.true_and, Bool.and_eq_true, decide_eq_true_eq]
  have e0 : ((0 : Nat) : Int) ≤ 64 := by decide
  have e1 : ((0 : Nat) : Int) ≤ 1024 := by decide
  have e2 : ((ByteArray.empty.size : Nat) : Int) ≤ 255 := by decide
  have e3 : ((ByteArray.empty.size : Nat) : Int) ≤ 1024 := by decide
  have n1 : ∀ n : Nat, ((n : Int) ≤ 64) = (n ≤ 64) := fun n => propext (by omega)
  have n2 : ∀ n : Nat, ((n : Int) ≤ 255) = (n ≤ 255) := fun n => propext (by omega)
  have n3 : ∀ n : Nat, ((n : Int) ≤ 1024) = (n ≤ 1024) := fun n => propext (by omega)
  constructor <;> intro hh <;> simp_all
theorem rest_5 (hc : m.kind = 5) (h : m = onlyM m) : okRest m = okM m := by
  have z_to : m.«to» = PMsg.zero.«to» := (congrArg PMsg.«to» h).trans (by unfold onlyM; rw [hc]; rfl)
  have z_code : m.code = PMsg.zero.code := (congrArg PMsg.code h).trans (by unfold onlyM; rw [hc]; rfl)
  have z_digest : m.digest = PMsg.zero.digest := (congrArg PMsg.digest h).trans (by unfold onlyM; rw [hc]; rfl)
  have z_at_ : m.at_ = PMsg.zero.at_ := (congrArg PMsg.at_ h).trans (by unfold onlyM; rw [hc]; rfl)
  have z_isrc : m.isrc = PMsg.zero.isrc := (congrArg PMsg.isrc h).trans (by unfold onlyM; rw [hc]; rfl)
  have z_iseq : m.iseq = PMsg.zero.iseq := (congrArg PMsg.iseq h).trans (by unfold onlyM; rw [hc]; rfl)
  have z_ilow : m.ilow = PMsg.zero.ilow := (congrArg PMsg.ilow h).trans (by unfold onlyM; rw [hc]; rfl)
  have z_ikind : m.ikind = PMsg.zero.ikind := (congrArg PMsg.ikind h).trans (by unfold onlyM; rw [hc]; rfl)
  have z_ikey : m.ikey = PMsg.zero.ikey := (congrArg PMsg.ikey h).trans (by unfold onlyM; rw [hc]; rfl)
  have z_ipart : m.ipart = PMsg.zero.ipart := (congrArg PMsg.ipart h).trans (by unfold onlyM; rw [hc]; rfl)
  have z_iat : m.iat = PMsg.zero.iat := (congrArg PMsg.iat h).trans (by unfold onlyM; rw [hc]; rfl)
  have z_iN : m.iN = PMsg.zero.iN := (congrArg PMsg.iN h).trans (by unfold onlyM; rw [hc]; rfl)
  have z_epoch : m.epoch = PMsg.zero.epoch := (congrArg PMsg.epoch h).trans (by unfold onlyM; rw [hc]; rfl)
  have z_nodes : m.nodes = PMsg.zero.nodes := (congrArg PMsg.nodes h).trans (by unfold onlyM; rw [hc]; rfl)
  have z_owner : m.owner = PMsg.zero.owner := (congrArg PMsg.owner h).trans (by unfold onlyM; rw [hc]; rfl)
  have z_set : m.set = PMsg.zero.set := (congrArg PMsg.set h).trans (by unfold onlyM; rw [hc]; rfl)
  replace z_to : m.«to» = 0 := z_to
  replace z_code : m.code = 0 := z_code
  replace z_digest : m.digest = 0 := z_digest
  replace z_at_ : m.at_ = 0 := z_at_
  replace z_isrc : m.isrc = 0 := z_isrc
  replace z_iseq : m.iseq = 0 := z_iseq
  replace z_ilow : m.ilow = 0 := z_ilow
  replace z_ikind : m.ikind = 0 := z_ikind
  replace z_ikey : m.ikey = .empty := z_ikey
  replace z_ipart : m.ipart = 0 := z_ipart
  replace z_iat : m.iat = 0 := z_iat
  replace z_iN : m.iN = 0 := z_iN
  replace z_epoch : m.epoch = 0 := z_epoch
  replace z_nodes : m.nodes = 0 := z_nodes
  replace z_owner : m.owner = [] := z_owner
  replace z_set : m.set = [] := z_set
  clear h
  unfold okM
  rw [hc]
  unfold okRest itemB
  rw [z_to, z_code, z_isrc, z_iseq, z_ilow, z_ikey, z_ipart, z_epoch, z_nodes, z_owner, z_set]
  rw [Bool.eq_iff_iff]
  simp only [emsM, emN, emB, emI, emU, emT, emL, inB_0, List.all_cons, List.all_nil, List.length_nil, Bool.and_true, Bool.true_and, Bool.and_eq_true, decide_eq_true_eq]
  have e0 : ((0 : Nat) : Int) ≤ 64 := by decide
  have e1 : ((0 : Nat) : Int) ≤ 1024 := by decide
  have e2 : ((ByteArray.empty.size : Nat) : Int) ≤ 255 := by decide
  have e3 : ((ByteArray.empty.size : Nat) : Int) ≤ 1024 := by decide
  have n1 : ∀ n : Nat, ((n : Int) ≤ 64) = (n ≤ 64) := fun n => propext (by omega)
  have n2 : ∀ n : Nat, ((n : Int) ≤ 255) = (n ≤ 255) := fun n => propext (by omega)
  have n3 : ∀ n : Nat, ((n : Int) ≤ 1024) = (n ≤ 1024) := fun n => propext (by omega)
  constructor <;> intro hh <;> simp_all
theorem rest_6 (hc : m.kind = 6) (h : m = onlyM m) : okRest m = okM m := by
  have z_to : m.«to» = PMsg.zero.«to» := (congrArg PMsg.«to» h).trans (by unfold onlyM; rw [hc]; rfl)
  have z_count : m.count = PMsg.zero.count := (congrArg PMsg.count h).trans (by unfold onlyM; rw [hc]; rfl)
  have z_code : m.code = PMsg.zero.code := (congrArg PMsg.code h).trans (by unfold onlyM; rw [hc]; rfl)
  have z_digest : m.digest = PMsg.zero.digest := (congrArg PMsg.digest h).trans (by unfold onlyM; rw [hc]; rfl)
  have z_at_ : m.at_ = PMsg.zero.at_ := (congrArg PMsg.at_ h).trans (by unfold onlyM; rw [hc]; rfl)
  have z_isrc : m.isrc = PMsg.zero.isrc := (congrArg PMsg.isrc h).trans (by unfold onlyM; rw [hc]; rfl)
  have z_iseq : m.iseq = PMsg.zero.iseq := (congrArg PMsg.iseq h).trans (by unfold onlyM; rw [hc]; rfl)
  have z_ilow : m.ilow = PMsg.zero.ilow := (congrArg PMsg.ilow h).trans (by unfold onlyM; rw [hc]; rfl)
  have z_ikind : m.ikind = PMsg.zero.ikind := (congrArg PMsg.ikind h).trans (by unfold onlyM; rw [hc]; rfl)
  have z_ikey : m.ikey = PMsg.zero.ikey := (congrArg PMsg.ikey h).trans (by unfold onlyM; rw [hc]; rfl)
  have z_ipart : m.ipart = PMsg.zero.ipart := (congrArg PMsg.ipart h).trans (by unfold onlyM; rw [hc]; rfl)
  have z_iat : m.iat = PMsg.zero.iat := (congrArg PMsg.iat h).trans (by unfold onlyM; rw [hc]; rfl)
  have z_iN : m.iN = PMsg.zero.iN := (congrArg PMsg.iN h).trans (by unfold onlyM; rw [hc]; rfl)
  have z_epoch : m.epoch = PMsg.zero.epoch := (congrArg PMsg.epoch h).trans (by unfold onlyM; rw [hc]; rfl)
  have z_nodes : m.nodes = PMsg.zero.nodes := (congrArg PMsg.nodes h).trans (by unfold onlyM; rw [hc]; rfl)
  have z_owner : m.owner = PMsg.zero.owner := (congrArg PMsg.owner h).trans (by unfold onlyM; rw [hc]; rfl)
  have z_data : m.data = PMsg.zero.data := (congrArg PMsg.data h).trans (by unfold onlyM; rw [hc]; rfl)
  replace z_to : m.«to» = 0 := z_to
  replace z_count : m.count = 0 := z_count
  replace z_code : m.code = 0 := z_code
  replace z_digest : m.digest = 0 := z_digest
  replace z_at_ : m.at_ = 0 := z_at_
  replace z_isrc : m.isrc = 0 := z_isrc
  replace z_iseq : m.iseq = 0 := z_iseq
  replace z_ilow : m.ilow = 0 := z_ilow
  replace z_ikind : m.ikind = 0 := z_ikind
  replace z_ikey : m.ikey = .empty := z_ikey
  replace z_ipart : m.ipart = 0 := z_ipart
  replace z_iat : m.iat = 0 := z_iat
  replace z_iN : m.iN = 0 := z_iN
  replace z_epoch : m.epoch = 0 := z_epoch
  replace z_nodes : m.nodes = 0 := z_nodes
  replace z_owner : m.owner = [] := z_owner
  replace z_data : m.data = .empty := z_data
  clear h
  unfold okM
  rw [hc]
  unfold okRest itemB
  rw [z_to, z_count, z_code, z_isrc, z_iseq, z_ilow, z_ikey, z_ipart, z_epoch, z_nodes, z_owner, z_data]
  rw [Bool.eq_iff_iff]
  simp only [emsM, emN, emB, emI, emU, emT, emL, inB_0, List.all_cons, List.all_nil, List.length_nil, Bool.and_true, Bool.true_and, Bool.and_eq_true, decide_eq_true_eq]
  have e0 : ((0 : Nat) : Int) ≤ 64 := by decide
  have e1 : ((0 : Nat) : Int) ≤ 1024 := by decide
  have e2 : ((ByteArray.empty.size : Nat) : Int) ≤ 255 := by decide
  have e3 : ((ByteArray.empty.size : Nat) : Int) ≤ 1024 := by decide
  have n1 : ∀ n : Nat, ((n : Int) ≤ 64) = (n ≤ 64) := fun n => propext (by omega)
  have n2 : ∀ n : Nat, ((n : Int) ≤ 255) = (n ≤ 255) := fun n => propext (by omega)
  have n3 : ∀ n : Nat, ((n : Int) ≤ 1024) = (n ≤ 1024) := fun n => propext (by omega)
  constructor <;> intro hh <;> simp_all
theorem rest_7 (hc : m.kind = 7) (h : m = onlyM m) : okRest m = okM m := by
  have z_to : m.«to» = PMsg.zero.«to» := (congrArg PMsg.«to» h).trans (by unfold onlyM; rw [hc]; rfl)
  have z_count : m.count = PMsg.zero.count := (congrArg PMsg.count h).trans (by unfold onlyM; rw [hc]; rfl)
  have z_code : m.code = PMsg.zero.code := (congrArg PMsg.code h).trans (by unfold onlyM; rw [hc]; rfl)
  have z_digest : m.digest = PMsg.zero.digest := (congrArg PMsg.digest h).trans (by unfold onlyM; rw [hc]; rfl)
  have z_at_ : m.at_ = PMsg.zero.at_ := (congrArg PMsg.at_ h).trans (by unfold onlyM; rw [hc]; rfl)
  have z_epoch : m.epoch = PMsg.zero.epoch := (congrArg PMsg.epoch h).trans (by unfold onlyM; rw [hc]; rfl)
  have z_nodes : m.nodes = PMsg.zero.nodes := (congrArg PMsg.nodes h).trans (by unfold onlyM; rw [hc]; rfl)
  have z_owner : m.owner = PMsg.zero.owner := (congrArg PMsg.owner h).trans (by unfold onlyM; rw [hc]; rfl)
  have z_set : m.set = PMsg.zero.set := (congrArg PMsg.set h).trans (by unfold onlyM; rw [hc]; rfl)
  have z_data : m.data = PMsg.zero.data := (congrArg PMsg.data h).trans (by unfold onlyM; rw [hc]; rfl)
  replace z_to : m.«to» = 0 := z_to
  replace z_count : m.count = 0 := z_count
  replace z_code : m.code = 0 := z_code
  replace z_digest : m.digest = 0 := z_digest
  replace z_at_ : m.at_ = 0 := z_at_
  replace z_epoch : m.epoch = 0 := z_epoch
  replace z_nodes : m.nodes = 0 := z_nodes
  replace z_owner : m.owner = [] := z_owner
  replace z_set : m.set = [] := z_set
  replace z_data : m.data = .empty := z_data
  clear h
  unfold okM
  rw [hc]
  unfold okRest itemB
  rw [z_to, z_count, z_code, z_epoch, z_nodes, z_owner, z_set, z_data]
  rw [Bool.eq_iff_iff]
  simp only [emsM, emN, emB, emI, emU, emT, emL, inB_0, List.all_cons, List.all_nil, List.length_nil, Bool.and_true, Bool.true_and, Bool.and_eq_true, decide_eq_true_eq]
  have e0 : ((0 : Nat) : Int) ≤ 64 := by decide
  have e1 : ((0 : Nat) : Int) ≤ 1024 := by decide
  have e2 : ((ByteArray.empty.size : Nat) : Int) ≤ 255 := by decide
  have e3 : ((ByteArray.empty.size : Nat) : Int) ≤ 1024 := by decide
  have n1 : ∀ n : Nat, ((n : Int) ≤ 64) = (n ≤ 64) := fun n => propext (by omega)
  have n2 : ∀ n : Nat, ((n : Int) ≤ 255) = (n ≤ 255) := fun n => propext (by omega)
  have n3 : ∀ n : Nat, ((n : Int) ≤ 1024) = (n ≤ 1024) := fun n => propext (by omega)
  constructor <;> intro hh <;> simp_all
theorem rest_8 (hc : m.kind = 8) (h : m = onlyM m) : okRest m = okM m := by
  have z_to : m.«to» = PMsg.zero.«to» := (congrArg PMsg.«to» h).trans (by unfold onlyM; rw [hc]; rfl)
  have z_count : m.count = PMsg.zero.count := (congrArg PMsg.count h).trans (by unfold onlyM; rw [hc]; rfl)
  have z_code : m.code = PMsg.zero.code := (congrArg PMsg.code h).trans (by unfold onlyM; rw [hc]; rfl)
  have z_digest : m.digest = PMsg.zero.digest := (congrArg PMsg.digest h).trans (by unfold onlyM; rw [hc]; rfl)
  have z_at_ : m.at_ = PMsg.zero.at_ := (congrArg PMsg.at_ h).trans (by unfold onlyM; rw [hc]; rfl)
  have z_isrc : m.isrc = PMsg.zero.isrc := (congrArg PMsg.isrc h).trans (by unfold onlyM; rw [hc]; rfl)
  have z_iseq : m.iseq = PMsg.zero.iseq := (congrArg PMsg.iseq h).trans (by unfold onlyM; rw [hc]; rfl)
  have z_ilow : m.ilow = PMsg.zero.ilow := (congrArg PMsg.ilow h).trans (by unfold onlyM; rw [hc]; rfl)
  have z_ikind : m.ikind = PMsg.zero.ikind := (congrArg PMsg.ikind h).trans (by unfold onlyM; rw [hc]; rfl)
  have z_ikey : m.ikey = PMsg.zero.ikey := (congrArg PMsg.ikey h).trans (by unfold onlyM; rw [hc]; rfl)
  have z_ipart : m.ipart = PMsg.zero.ipart := (congrArg PMsg.ipart h).trans (by unfold onlyM; rw [hc]; rfl)
  have z_iat : m.iat = PMsg.zero.iat := (congrArg PMsg.iat h).trans (by unfold onlyM; rw [hc]; rfl)
  have z_iN : m.iN = PMsg.zero.iN := (congrArg PMsg.iN h).trans (by unfold onlyM; rw [hc]; rfl)
  have z_epoch : m.epoch = PMsg.zero.epoch := (congrArg PMsg.epoch h).trans (by unfold onlyM; rw [hc]; rfl)
  have z_nodes : m.nodes = PMsg.zero.nodes := (congrArg PMsg.nodes h).trans (by unfold onlyM; rw [hc]; rfl)
  have z_owner : m.owner = PMsg.zero.owner := (congrArg PMsg.owner h).trans (by unfold onlyM; rw [hc]; rfl)
  have z_set : m.set = PMsg.zero.set := (congrArg PMsg.set h).trans (by unfold onlyM; rw [hc]; rfl)
  have z_data : m.data = PMsg.zero.data := (congrArg PMsg.data h).trans (by unfold onlyM; rw [hc]; rfl)
  replace z_to : m.«to» = 0 := z_to
  replace z_count : m.count = 0 := z_count
  replace z_code : m.code = 0 := z_code
  replace z_digest : m.digest = 0 := z_digest
  replace z_at_ : m.at_ = 0 := z_at_
  replace z_isrc : m.isrc = 0 := z_isrc
  replace z_iseq : m.iseq = 0 := z_iseq
  replace z_ilow : m.ilow = 0 := z_ilow
  replace z_ikind : m.ikind = 0 := z_ikind
  replace z_ikey : m.ikey = .empty := z_ikey
  replace z_ipart : m.ipart = 0 := z_ipart
  replace z_iat : m.iat = 0 := z_iat
  replace z_iN : m.iN = 0 := z_iN
  replace z_epoch : m.epoch = 0 := z_epoch
  replace z_nodes : m.nodes = 0 := z_nodes
  replace z_owner : m.owner = [] := z_owner
  replace z_set : m.set = [] := z_set
  replace z_data : m.data = .empty := z_data
  clear h
  unfold okM
  rw [hc]
  unfold okRest itemB
  rw [z_to, z_count, z_code, z_isrc, z_iseq, z_ilow, z_ikey, z_ipart, z_epoch, z_nodes, z_owner, z_set, z_data]
  rw [Bool.eq_iff_iff]
  simp only [emsM, emN, emB, emI, emU, emT, emL, inB_0, List.all_cons, List.all_nil, List.length_nil, Bool.and_true, Bool.true_and, Bool.and_eq_true, decide_eq_true_eq]
  have e0 : ((0 : Nat) : Int) ≤ 64 := by decide
  have e1 : ((0 : Nat) : Int) ≤ 1024 := by decide
  have e2 : ((ByteArray.empty.size : Nat) : Int) ≤ 255 := by decide
  have e3 : ((ByteArray.empty.size : Nat) : Int) ≤ 1024 := by decide
  have n1 : ∀ n : Nat, ((n : Int) ≤ 64) = (n ≤ 64) := fun n => propext (by omega)
  have n2 : ∀ n : Nat, ((n : Int) ≤ 255) = (n ≤ 255) := fun n => propext (by omega)
  have n3 : ∀ n : Nat, ((n : Int) ≤ 1024) = (n ≤ 1024) := fun n => propext (by omega)
  constructor <;> intro hh <;> simp_all
theorem rest_9 (hc : m.kind = 9) (h : m = onlyM m) : okRest m = okM m := by
  have z_to : m.«to» = PMsg.zero.«to» := (congrArg PMsg.«to» h).trans (by unfold onlyM; rw [hc]; rfl)
  have z_count : m.count = PMsg.zero.count := (congrArg PMsg.count h).trans (by unfold onlyM; rw [hc]; rfl)
  have z_code : m.code = PMsg.zero.code := (congrArg PMsg.code h).trans (by unfold onlyM; rw [hc]; rfl)
  have z_isrc : m.isrc = PMsg.zero.isrc := (congrArg PMsg.isrc h).trans (by unfold onlyM; rw [hc]; rfl)
  have z_iseq : m.iseq = PMsg.zero.iseq := (congrArg PMsg.iseq h).trans (by unfold onlyM; rw [hc]; rfl)
  have z_ilow : m.ilow = PMsg.zero.ilow := (congrArg PMsg.ilow h).trans (by unfold onlyM; rw [hc]; rfl)
  have z_ikind : m.ikind = PMsg.zero.ikind := (congrArg PMsg.ikind h).trans (by unfold onlyM; rw [hc]; rfl)
  have z_ikey : m.ikey = PMsg.zero.ikey := (congrArg PMsg.ikey h).trans (by unfold onlyM; rw [hc]; rfl)
  have z_ipart : m.ipart = PMsg.zero.ipart := (congrArg PMsg.ipart h).trans (by unfold onlyM; rw [hc]; rfl)
  have z_iat : m.iat = PMsg.zero.iat := (congrArg PMsg.iat h).trans (by unfold onlyM; rw [hc]; rfl)
  have z_iN : m.iN = PMsg.zero.iN := (congrArg PMsg.iN h).trans (by unfold onlyM; rw [hc]; rfl)
  have z_epoch : m.epoch = PMsg.zero.epoch := (congrArg PMsg.epoch h).trans (by unfold onlyM; rw [hc]; rfl)
  have z_nodes : m.nodes = PMsg.zero.nodes := (congrArg PMsg.nodes h).trans (by unfold onlyM; rw [hc]; rfl)
  have z_owner : m.owner = PMsg.zero.owner := (congrArg PMsg.owner h).trans (by unfold onlyM; rw [hc]; rfl)
  have z_set : m.set = PMsg.zero.set := (congrArg PMsg.set h).trans (by unfold onlyM; rw [hc]; rfl)
  have z_data : m.data = PMsg.zero.data := (congrArg PMsg.data h).trans (by unfold onlyM; rw [hc]; rfl)
  replace z_to : m.«to» = 0 := z_to
  replace z_count : m.count = 0 := z_count
  replace z_code : m.code = 0 := z_code
  replace z_isrc : m.isrc = 0 := z_isrc
  replace z_iseq : m.iseq = 0 := z_iseq
  replace z_ilow : m.ilow = 0 := z_ilow
  replace z_ikind : m.ikind = 0 := z_ikind
  replace z_ikey : m.ikey = .empty := z_ikey
  replace z_ipart : m.ipart = 0 := z_ipart
  replace z_iat : m.iat = 0 := z_iat
  replace z_iN : m.iN = 0 := z_iN
  replace z_epoch : m.epoch = 0 := z_epoch
  replace z_nodes : m.nodes = 0 := z_nodes
  replace z_owner : m.owner = [] := z_owner
  replace z_set : m.set = [] := z_set
  replace z_data : m.data = .empty := z_data
  clear h
  unfold okM
  rw [hc]
  unfold okRest itemB
  rw [z_to, z_count, z_code, z_isrc, z_iseq, z_ilow, z_ikey, z_ipart, z_epoch, z_nodes, z_owner, z_set, z_data]
  rw [Bool.eq_iff_iff]
  simp only [emsM, emN, emB, emI, emU, emT, emL, inB_0, List.all_cons, List.all_nil, List.length_nil, Bool.and_true, Bool.true_and, Bool.and_eq_true, decide_eq_true_eq]
  have e0 : ((0 : Nat) : Int) ≤ 64 := by decide
  have e1 : ((0 : Nat) : Int) ≤ 1024 := by decide
  have e2 : ((ByteArray.empty.size : Nat) : Int) ≤ 255 := by decide
  have e3 : ((ByteArray.empty.size : Nat) : Int) ≤ 1024 := by decide
  have n1 : ∀ n : Nat, ((n : Int) ≤ 64) = (n ≤ 64) := fun n => propext (by omega)
  have n2 : ∀ n : Nat, ((n : Int) ≤ 255) = (n ≤ 255) := fun n => propext (by omega)
  have n3 : ∀ n : Nat, ((n : Int) ≤ 1024) = (n ≤ 1024) := fun n => propext (by omega)
  constructor <;> intro hh <;> simp_all
theorem rest_10 (hc : m.kind = 10) (h : m = onlyM m) : okRest m = okM m := by
  have z_to : m.«to» = PMsg.zero.«to» := (congrArg PMsg.«to» h).trans (by unfold onlyM; rw [hc]; rfl)
  have z_n : m.n = PMsg.zero.n := (congrArg PMsg.n h).trans (by unfold onlyM; rw [hc]; rfl)
  have z_count : m.count = PMsg.zero.count := (congrArg PMsg.count h).trans (by unfold onlyM; rw [hc]; rfl)
  have z_digest : m.digest = PMsg.zero.digest := (congrArg PMsg.digest h).trans (by unfold onlyM; rw [hc]; rfl)
  have z_at_ : m.at_ = PMsg.zero.at_ := (congrArg PMsg.at_ h).trans (by unfold onlyM; rw [hc]; rfl)
  have z_isrc : m.isrc = PMsg.zero.isrc := (congrArg PMsg.isrc h).trans (by unfold onlyM; rw [hc]; rfl)
  have z_iseq : m.iseq = PMsg.zero.iseq := (congrArg PMsg.iseq h).trans (by unfold onlyM; rw [hc]; rfl)
  have z_ilow : m.ilow = PMsg.zero.ilow := (congrArg PMsg.ilow h).trans (by unfold onlyM; rw [hc]; rfl)
  have z_ikind : m.ikind = PMsg.zero.ikind := (congrArg PMsg.ikind h).trans (by unfold onlyM; rw [hc]; rfl)
  have z_ikey : m.ikey = PMsg.zero.ikey := (congrArg PMsg.ikey h).trans (by unfold onlyM; rw [hc]; rfl)
  have z_ipart : m.ipart = PMsg.zero.ipart := (congrArg PMsg.ipart h).trans (by unfold onlyM; rw [hc]; rfl)
  have z_iat : m.iat = PMsg.zero.iat := (congrArg PMsg.iat h).trans (by unfold onlyM; rw [hc]; rfl)
  have z_iN : m.iN = PMsg.zero.iN := (congrArg PMsg.iN h).trans (by unfold onlyM; rw [hc]; rfl)
  have z_epoch : m.epoch = PMsg.zero.epoch := (congrArg PMsg.epoch h).trans (by unfold onlyM; rw [hc]; rfl)
  have z_nodes : m.nodes = PMsg.zero.nodes := (congrArg PMsg.nodes h).trans (by unfold onlyM; rw [hc]; rfl)
  have z_owner : m.owner = PMsg.zero.owner := (congrArg PMsg.owner h).trans (by unfold onlyM; rw [hc]; rfl)
  have z_set : m.set = PMsg.zero.set := (congrArg PMsg.set h).trans (by unfold onlyM; rw [hc]; rfl)
  have z_data : m.data = PMsg.zero.data := (congrArg PMsg.data h).trans (by unfold onlyM; rw [hc]; rfl)
  replace z_to : m.«to» = 0 := z_to
  replace z_n : m.n = 0 := z_n
  replace z_count : m.count = 0 := z_count
  replace z_digest : m.digest = 0 := z_digest
  replace z_at_ : m.at_ = 0 := z_at_
  replace z_isrc : m.isrc = 0 := z_isrc
  replace z_iseq : m.iseq = 0 := z_iseq
  replace z_ilow : m.ilow = 0 := z_ilow
  replace z_ikind : m.ikind = 0 := z_ikind
  replace z_ikey : m.ikey = .empty := z_ikey
  replace z_ipart : m.ipart = 0 := z_ipart
  replace z_iat : m.iat = 0 := z_iat
  replace z_iN : m.iN = 0 := z_iN
  replace z_epoch : m.epoch = 0 := z_epoch
  replace z_nodes : m.nodes = 0 := z_nodes
  replace z_owner : m.owner = [] := z_owner
  replace z_set : m.set = [] := z_set
  replace z_data : m.data = .empty := z_data
  clear h
  unfold okM
  rw [hc]
  unfold okRest itemB
  rw [z_to, z_n, z_count, z_isrc, z_iseq, z_ilow, z_ikey, z_ipart, z_epoch, z_nodes, z_owner, z_set, z_data]
  rw [Bool.eq_iff_iff]
  simp only [emsM, emN, emB, emI, emU, emT, emL, inB_0, List.all_cons, List.all_nil, List.length_nil, Bool.and_true, Bool.true_and, Bool.and_eq_true, decide_eq_true_eq]
  have e0 : ((0 : Nat) : Int) ≤ 64 := by decide
  have e1 : ((0 : Nat) : Int) ≤ 1024 := by decide
  have e2 : ((ByteArray.empty.size : Nat) : Int) ≤ 255 := by decide
  have e3 : ((ByteArray.empty.size : Nat) : Int) ≤ 1024 := by decide
  have n1 : ∀ n : Nat, ((n : Int) ≤ 64) = (n ≤ 64) := fun n => propext (by omega)
  have n2 : ∀ n : Nat, ((n : Int) ≤ 255) = (n ≤ 255) := fun n => propext (by omega)
  have n3 : ∀ n : Nat, ((n : Int) ≤ 1024) = (n ≤ 1024) := fun n => propext (by omega)
  constructor <;> intro hh <;> simp_all
theorem rest_11 (hc : m.kind = 11) (h : m = onlyM m) : okRest m = okM m := by
  have z_to : m.«to» = PMsg.zero.«to» := (congrArg PMsg.«to» h).trans (by unfold onlyM; rw [hc]; rfl)
  have z_n : m.n = PMsg.zero.n := (congrArg PMsg.n h).trans (by unfold onlyM; rw [hc]; rfl)
  have z_count : m.count = PMsg.zero.count := (congrArg PMsg.count h).trans (by unfold onlyM; rw [hc]; rfl)
  have z_code : m.code = PMsg.zero.code := (congrArg PMsg.code h).trans (by unfold onlyM; rw [hc]; rfl)
  have z_digest : m.digest = PMsg.zero.digest := (congrArg PMsg.digest h).trans (by unfold onlyM; rw [hc]; rfl)
  have z_at_ : m.at_ = PMsg.zero.at_ := (congrArg PMsg.at_ h).trans (by unfold onlyM; rw [hc]; rfl)
  have z_isrc : m.isrc = PMsg.zero.isrc := (congrArg PMsg.isrc h).trans (by unfold onlyM; rw [hc]; rfl)
  have z_iseq : m.iseq = PMsg.zero.iseq := (congrArg PMsg.iseq h).trans (by unfold onlyM; rw [hc]; rfl)
  have z_ilow : m.ilow = PMsg.zero.ilow := (congrArg PMsg.ilow h).trans (by unfold onlyM; rw [hc]; rfl)
  have z_ikind : m.ikind = PMsg.zero.ikind := (congrArg PMsg.ikind h).trans (by unfold onlyM; rw [hc]; rfl)
  have z_ikey : m.ikey = PMsg.zero.ikey := (congrArg PMsg.ikey h).trans (by unfold onlyM; rw [hc]; rfl)
  have z_ipart : m.ipart = PMsg.zero.ipart := (congrArg PMsg.ipart h).trans (by unfold onlyM; rw [hc]; rfl)
  have z_iat : m.iat = PMsg.zero.iat := (congrArg PMsg.iat h).trans (by unfold onlyM; rw [hc]; rfl)
  have z_iN : m.iN = PMsg.zero.iN := (congrArg PMsg.iN h).trans (by unfold onlyM; rw [hc]; rfl)
  have z_set : m.set = PMsg.zero.set := (congrArg PMsg.set h).trans (by unfold onlyM; rw [hc]; rfl)
  have z_data : m.data = PMsg.zero.data := (congrArg PMsg.data h).trans (by unfold onlyM; rw [hc]; rfl)
  replace z_to : m.«to» = 0 := z_to
  replace z_n : m.n = 0 := z_n
  replace z_count : m.count = 0 := z_count
  replace z_code : m.code = 0 := z_code
  replace z_digest : m.digest = 0 := z_digest
  replace z_at_ : m.at_ = 0 := z_at_
  replace z_isrc : m.isrc = 0 := z_isrc
  replace z_iseq : m.iseq = 0 := z_iseq
  replace z_ilow : m.ilow = 0 := z_ilow
  replace z_ikind : m.ikind = 0 := z_ikind
  replace z_ikey : m.ikey = .empty := z_ikey
  replace z_ipart : m.ipart = 0 := z_ipart
  replace z_iat : m.iat = 0 := z_iat
  replace z_iN : m.iN = 0 := z_iN
  replace z_set : m.set = [] := z_set
  replace z_data : m.data = .empty := z_data
  clear h
  unfold okM
  rw [hc]
  unfold okRest itemB
  rw [z_to, z_n, z_count, z_code, z_isrc, z_iseq, z_ilow, z_ikey, z_ipart, z_set, z_data]
  rw [Bool.eq_iff_iff]
  simp only [emsM, emN, emB, emI, emU, emT, emL, inB_0, List.all_cons, List.all_nil, List.length_nil, Bool.and_true, Bool.true_and, Bool.and_eq_true, decide_eq_true_eq]
  have e0 : ((0 : Nat) : Int) ≤ 64 := by decide
  have e1 : ((0 : Nat) : Int) ≤ 1024 := by decide
  have e2 : ((ByteArray.empty.size : Nat) : Int) ≤ 255 := by decide
  have e3 : ((ByteArray.empty.size : Nat) : Int) ≤ 1024 := by decide
  have n1 : ∀ n : Nat, ((n : Int) ≤ 64) = (n ≤ 64) := fun n => propext (by omega)
  have n2 : ∀ n : Nat, ((n : Int) ≤ 255) = (n ≤ 255) := fun n => propext (by omega)
  have n3 : ∀ n : Nat, ((n : Int) ≤ 1024) = (n ≤ 1024) := fun n => propext (by omega)
  constructor <;> intro hh <;> simp_all
theorem rest_12 (hc : m.kind = 12) (h : m = onlyM m) : okRest m = okM m := by
  have z_to : m.«to» = PMsg.zero.«to» := (congrArg PMsg.«to» h).trans (by unfold onlyM; rw [hc]; rfl)
  have z_n : m.n = PMsg.zero.n := (congrArg PMsg.n h).trans (by unfold onlyM; rw [hc]; rfl)
  have z_count : m.count = PMsg.zero.count := (congrArg PMsg.count h).trans (by unfold onlyM; rw [hc]; rfl)
  have z_code : m.code = PMsg.zero.code := (congrArg PMsg.code h).trans (by unfold onlyM; rw [hc]; rfl)
  have z_digest : m.digest = PMsg.zero.digest := (congrArg PMsg.digest h).trans (by unfold onlyM; rw [hc]; rfl)
  have z_at_ : m.at_ = PMsg.zero.at_ := (congrArg PMsg.at_ h).trans (by unfold onlyM; rw [hc]; rfl)
  have z_isrc : m.isrc = PMsg.zero.isrc := (congrArg PMsg.isrc h).trans (by unfold onlyM; rw [hc]; rfl)
  have z_iseq : m.iseq = PMsg.zero.iseq := (congrArg PMsg.iseq h).trans (by unfold onlyM; rw [hc]; rfl)
  have z_ilow : m.ilow = PMsg.zero.ilow := (congrArg PMsg.ilow h).trans (by unfold onlyM; rw [hc]; rfl)
  have z_ikind : m.ikind = PMsg.zero.ikind := (congrArg PMsg.ikind h).trans (by unfold onlyM; rw [hc]; rfl)
  have z_ikey : m.ikey = PMsg.zero.ikey := (congrArg PMsg.ikey h).trans (by unfold onlyM; rw [hc]; rfl)
  have z_ipart : m.ipart = PMsg.zero.ipart := (congrArg PMsg.ipart h).trans (by unfold onlyM; rw [hc]; rfl)
  have z_iat : m.iat = PMsg.zero.iat := (congrArg PMsg.iat h).trans (by unfold onlyM; rw [hc]; rfl)
  have z_iN : m.iN = PMsg.zero.iN := (congrArg PMsg.iN h).trans (by unfold onlyM; rw [hc]; rfl)
  have z_epoch : m.epoch = PMsg.zero.epoch := (congrArg PMsg.epoch h).trans (by unfold onlyM; rw [hc]; rfl)
  have z_nodes : m.nodes = PMsg.zero.nodes := (congrArg PMsg.nodes h).trans (by unfold onlyM; rw [hc]; rfl)
  have z_owner : m.owner = PMsg.zero.owner := (congrArg PMsg.owner h).trans (by unfold onlyM; rw [hc]; rfl)
  have z_set : m.set = PMsg.zero.set := (congrArg PMsg.set h).trans (by unfold onlyM; rw [hc]; rfl)
  have z_data : m.data = PMsg.zero.data := (congrArg PMsg.data h).trans (by unfold onlyM; rw [hc]; rfl)
  replace z_to : m.«to» = 0 := z_to
  replace z_n : m.n = 0 := z_n
  replace z_count : m.count = 0 := z_count
  replace z_code : m.code = 0 := z_code
  replace z_digest : m.digest = 0 := z_digest
  replace z_at_ : m.at_ = 0 := z_at_
  replace z_isrc : m.isrc = 0 := z_isrc
  replace z_iseq : m.iseq = 0 := z_iseq
  replace z_ilow : m.ilow = 0 := z_ilow
  replace z_ikind : m.ikind = 0 := z_ikind
  replace z_ikey : m.ikey = .empty := z_ikey
  replace z_ipart : m.ipart = 0 := z_ipart
  replace z_iat : m.iat = 0 := z_iat
  replace z_iN : m.iN = 0 := z_iN
  replace z_epoch : m.epoch = 0 := z_epoch
  replace z_nodes : m.nodes = 0 := z_nodes
  replace z_owner : m.owner = [] := z_owner
  replace z_set : m.set = [] := z_set
  replace z_data : m.data = .empty := z_data
  clear h
  unfold okM
  rw [hc]
  unfold okRest itemB
  rw [z_to, z_n, z_count, z_code, z_isrc, z_iseq, z_ilow, z_ikey, z_ipart, z_epoch, z_nodes, z_owner, z_set, z_data]
  rw [Bool.eq_iff_iff]
  simp only [emsM, emN, emB, emI, emU, emT, emL, inB_0, List.all_cons, List.all_nil, List.length_nil, Bool.and_true, Bool.true_and, Bool.and_eq_true, decide_eq_true_eq]
  have e0 : ((0 : Nat) : Int) ≤ 64 := by decide
  have e1 : ((0 : Nat) : Int) ≤ 1024 := by decide
  have e2 : ((ByteArray.empty.size : Nat) : Int) ≤ 255 := by decide
  have e3 : ((ByteArray.empty.size : Nat) : Int) ≤ 1024 := by decide
  have n1 : ∀ n : Nat, ((n : Int) ≤ 64) = (n ≤ 64) := fun n => propext (by omega)
  have n2 : ∀ n : Nat, ((n : Int) ≤ 255) = (n ≤ 255) := fun n => propext (by omega)
  have n3 : ∀ n : Nat, ((n : Int) ≤ 1024) = (n ≤ 1024) := fun n => propext (by omega)
  constructor <;> intro hh <;> simp_all
theorem rest_13 (hc : m.kind = 13) (h : m = onlyM m) : okRest m = okM m := by
  have z_to : m.«to» = PMsg.zero.«to» := (congrArg PMsg.«to» h).trans (by unfold onlyM; rw [hc]; rfl)
  have z_n : m.n = PMsg.zero.n := (congrArg PMsg.n h).trans (by unfold onlyM; rw [hc]; rfl)
  have z_count : m.count = PMsg.zero.count := (congrArg PMsg.count h).trans (by unfold onlyM; rw [hc]; rfl)
  have z_code : m.code = PMsg.zero.code := (congrArg PMsg.code h).trans (by unfold onlyM; rw [hc]; rfl)
  have z_digest : m.digest = PMsg.zero.digest := (congrArg PMsg.digest h).trans (by unfold onlyM; rw [hc]; rfl)
  have z_at_ : m.at_ = PMsg.zero.at_ := (congrArg PMsg.at_ h).trans (by unfold onlyM; rw [hc]; rfl)
  have z_isrc : m.isrc = PMsg.zero.isrc := (congrArg PMsg.isrc h).trans (by unfold onlyM; rw [hc]; rfl)
  have z_iseq : m.iseq = PMsg.zero.iseq := (congrArg PMsg.iseq h).trans (by unfold onlyM; rw [hc]; rfl)
  have z_ilow : m.ilow = PMsg.zero.ilow := (congrArg PMsg.ilow h).trans (by unfold onlyM; rw [hc]; rfl)
  have z_ikind : m.ikind = PMsg.zero.ikind := (congrArg PMsg.ikind h).trans (by unfold onlyM; rw [hc]; rfl)
  have z_ikey : m.ikey = PMsg.zero.ikey := (congrArg PMsg.ikey h).trans (by unfold onlyM; rw [hc]; rfl)
  have z_ipart : m.ipart = PMsg.zero.ipart := (congrArg PMsg.ipart h).trans (by unfold onlyM; rw [hc]; rfl)
  have z_iat : m.iat = PMsg.zero.iat := (congrArg PMsg.iat h).trans (by unfold onlyM; rw [hc]; rfl)
  have z_iN : m.iN = PMsg.zero.iN := (congrArg PMsg.iN h).trans (by unfold onlyM; rw [hc]; rfl)
  have z_epoch : m.epoch = PMsg.zero.epoch := (congrArg PMsg.epoch h).trans (by unfold onlyM; rw [hc]; rfl)
  have z_nodes : m.nodes = PMsg.zero.nodes := (congrArg PMsg.nodes h).trans (by unfold onlyM; rw [hc]; rfl)
  have z_owner : m.owner = PMsg.zero.owner := (congrArg PMsg.owner h).trans (by unfold onlyM; rw [hc]; rfl)
  have z_set : m.set = PMsg.zero.set := (congrArg PMsg.set h).trans (by unfold onlyM; rw [hc]; rfl)
  have z_data : m.data = PMsg.zero.data := (congrArg PMsg.data h).trans (by unfold onlyM; rw [hc]; rfl)
  replace z_to : m.«to» = 0 := z_to
  replace z_n : m.n = 0 := z_n
  replace z_count : m.count = 0 := z_count
  replace z_code : m.code = 0 := z_code
  replace z_digest : m.digest = 0 := z_digest
  replace z_at_ : m.at_ = 0 := z_at_
  replace z_isrc : m.isrc = 0 := z_isrc
  replace z_iseq : m.iseq = 0 := z_iseq
  replace z_ilow : m.ilow = 0 := z_ilow
  replace z_ikind : m.ikind = 0 := z_ikind
  replace z_ikey : m.ikey = .empty := z_ikey
  replace z_ipart : m.ipart = 0 := z_ipart
  replace z_iat : m.iat = 0 := z_iat
  replace z_iN : m.iN = 0 := z_iN
  replace z_epoch : m.epoch = 0 := z_epoch
  replace z_nodes : m.nodes = 0 := z_nodes
  replace z_owner : m.owner = [] := z_owner
  replace z_set : m.set = [] := z_set
  replace z_data : m.data = .empty := z_data
  clear h
  unfold okM
  rw [hc]
  unfold okRest itemB
  rw [z_to, z_n, z_count, z_code, z_isrc, z_iseq, z_ilow, z_ikey, z_ipart, z_epoch, z_nodes, z_owner, z_set, z_data]
  rw [Bool.eq_iff_iff]
  simp only [emsM, emN, emB, emI, emU, emT, emL, inB_0, List.all_cons, List.all_nil, List.length_nil, Bool.and_true, Bool.true_and, Bool.and_eq_true, decide_eq_true_eq]
  have e0 : ((0 : Nat) : Int) ≤ 64 := by decide
  have e1 : ((0 : Nat) : Int) ≤ 1024 := by decide
  have e2 : ((ByteArray.empty.size : Nat) : Int) ≤ 255 := by decide
  have e3 : ((ByteArray.empty.size : Nat) : Int) ≤ 1024 := by decide
  have n1 : ∀ n : Nat, ((n : Int) ≤ 64) = (n ≤ 64) := fun n => propext (by omega)
  have n2 : ∀ n : Nat, ((n : Int) ≤ 255) = (n ≤ 255) := fun n => propext (by omega)
  have n3 : ∀ n : Nat, ((n : Int) ≤ 1024) = (n ≤ 1024) := fun n => propext (by omega)
  constructor <;> intro hh <;> simp_all
theorem rest_14 (hc : m.kind = 14) (h : m = onlyM m) : okRest m = okM m := by
  have z_move : m.move = PMsg.zero.move := (congrArg PMsg.move h).trans (by unfold onlyM; rw [hc]; rfl)
  have z_part : m.part = PMsg.zero.part := (congrArg PMsg.part h).trans (by unfold onlyM; rw [hc]; rfl)
  have z_to : m.«to» = PMsg.zero.«to» := (congrArg PMsg.«to» h).trans (by unfold onlyM; rw [hc]; rfl)
  have z_n : m.n = PMsg.zero.n := (congrArg PMsg.n h).trans (by unfold onlyM; rw [hc]; rfl)
  have z_count : m.count = PMsg.zero.count := (congrArg PMsg.count h).trans (by unfold onlyM; rw [hc]; rfl)
  have z_code : m.code = PMsg.zero.code := (congrArg PMsg.code h).trans (by unfold onlyM; rw [hc]; rfl)
  have z_digest : m.digest = PMsg.zero.digest := (congrArg PMsg.digest h).trans (by unfold onlyM; rw [hc]; rfl)
  have z_at_ : m.at_ = PMsg.zero.at_ := (congrArg PMsg.at_ h).trans (by unfold onlyM; rw [hc]; rfl)
  have z_isrc : m.isrc = PMsg.zero.isrc := (congrArg PMsg.isrc h).trans (by unfold onlyM; rw [hc]; rfl)
  have z_iseq : m.iseq = PMsg.zero.iseq := (congrArg PMsg.iseq h).trans (by unfold onlyM; rw [hc]; rfl)
  have z_ilow : m.ilow = PMsg.zero.ilow := (congrArg PMsg.ilow h).trans (by unfold onlyM; rw [hc]; rfl)
  have z_ikind : m.ikind = PMsg.zero.ikind := (congrArg PMsg.ikind h).trans (by unfold onlyM; rw [hc]; rfl)
  have z_ikey : m.ikey = PMsg.zero.ikey := (congrArg PMsg.ikey h).trans (by unfold onlyM; rw [hc]; rfl)
  have z_ipart : m.ipart = PMsg.zero.ipart := (congrArg PMsg.ipart h).trans (by unfold onlyM; rw [hc]; rfl)
  have z_iat : m.iat = PMsg.zero.iat := (congrArg PMsg.iat h).trans (by unfold onlyM; rw [hc]; rfl)
  have z_iN : m.iN = PMsg.zero.iN := (congrArg PMsg.iN h).trans (by unfold onlyM; rw [hc]; rfl)
  have z_set : m.set = PMsg.zero.set := (congrArg PMsg.set h).trans (by unfold onlyM; rw [hc]; rfl)
  have z_data : m.data = PMsg.zero.data := (congrArg PMsg.data h).trans (by unfold onlyM; rw [hc]; rfl)
  replace z_move : m.move = 0 := z_move
  replace z_part : m.part = 0 := z_part
  replace z_to : m.«to» = 0 := z_to
  replace z_n : m.n = 0 := z_n
  replace z_count : m.count = 0 := z_count
  replace z_code : m.code = 0 := z_code
  replace z_digest : m.digest = 0 := z_digest
  replace z_at_ : m.at_ = 0 := z_at_
  replace z_isrc : m.isrc = 0 := z_isrc
  replace z_iseq : m.iseq = 0 := z_iseq
  replace z_ilow : m.ilow = 0 := z_ilow
  replace z_ikind : m.ikind = 0 := z_ikind
  replace z_ikey : m.ikey = .empty := z_ikey
  replace z_ipart : m.ipart = 0 := z_ipart
  replace z_iat : m.iat = 0 := z_iat
  replace z_iN : m.iN = 0 := z_iN
  replace z_set : m.set = [] := z_set
  replace z_data : m.data = .empty := z_data
  clear h
  unfold okM
  rw [hc]
  unfold okRest itemB
  rw [z_move, z_part, z_to, z_n, z_count, z_code, z_isrc, z_iseq, z_ilow, z_ikey, z_ipart, z_set, z_data]
  rw [Bool.eq_iff_iff]
  simp only [emsM, emN, emB, emI, emU, emT, emL, inB_0, List.all_cons, List.all_nil, List.length_nil, Bool.and_true, Bool.true_and, Bool.and_eq_true, decide_eq_true_eq]
  have e0 : ((0 : Nat) : Int) ≤ 64 := by decide
  have e1 : ((0 : Nat) : Int) ≤ 1024 := by decide
  have e2 : ((ByteArray.empty.size : Nat) : Int) ≤ 255 := by decide
  have e3 : ((ByteArray.empty.size : Nat) : Int) ≤ 1024 := by decide
  have n1 : ∀ n : Nat, ((n : Int) ≤ 64) = (n ≤ 64) := fun n => propext (by omega)
  have n2 : ∀ n : Nat, ((n : Int) ≤ 255) = (n ≤ 255) := fun n => propext (by omega)
  have n3 : ∀ n : Nat, ((n : Int) ≤ 1024) = (n ≤ 1024) := fun n => propext (by omega)
  constructor <;> intro hh <;> simp_all
theorem rest_any (h1 : 1 ≤ m.kind) (h2 : m.kind ≤ 14) (h : m = onlyM m) : okRest m = okM m := by
  have : m.kind = 1 ∨ m.kind = 2 ∨ m.kind = 3 ∨ m.kind = 4 ∨ m.kind = 5 ∨ m.kind = 6 ∨ m.kind = 7 ∨ m.kind = 8 ∨ m.kind = 9 ∨ m.kind = 10 ∨ m.kind = 11 ∨ m.kind = 12 ∨ m.kind = 13 ∨ m.kind = 14 := by omega
  rcases this with hc | hc | hc | hc | hc | hc | hc | hc | hc | hc | hc | hc | hc | hc
  · exact rest_1 hc h
  · exact rest_2 hc h
  · exact rest_3 hc h
  · exact rest_4 hc h
  · exact rest_5 hc h
  · exact rest_6 hc h
  · exact rest_7 hc h
  · exact rest_8 hc h
  · exact rest_9 hc h
  · exact rest_10 hc h
  · exact rest_11 hc h
  · exact rest_12 hc h
  · exact rest_13 hc h
  · exact rest_14 hc h
theorem sameB_comm (a b : PMsg) : sameB a b = sameB b a := by
  rw [Bool.eq_iff_iff, sameB_iff, sameB_iff]
  exact eq_comm
/-- Whether a message is right is the document's. -/
theorem right_doc (hf : m.Fits) (hk : m.kind < 256) (hik : m.ikind < 256) : errM m = rightR m := by
  unfold errM rightR
  rw [bytes_em hf hk hik]
  by_cases h : 1 ≤ m.kind ∧ m.kind ≤ 14
  · rw [if_pos h, if_pos h]
    have e : (okM m && sameB (onlyM m) m) = okR m := by
      rw [okR_rest, sameB_comm m (onlyM m)]
      cases hs : sameB (onlyM m) m
      · simp
      · have hm := sameB_iff.1 hs
        rw [rest_any h.1 h.2 hm.symm]
        simp
    rw [e]
    cases okR m <;> rfl
  · rw [if_neg h, if_neg h]
/-- What is wrong has another field, or one beyond its bounds. -/
theorem right_other (hf : m.Fits) (hk : m.kind < 256) (hik : m.ikind < 256) (h : 1 ≤ m.kind ∧ m.kind ≤ 14) (hs : sameB m (onlyM m) = false) : errM m = 1 := by
  unfold errM
  rw [bytes_em hf hk hik, if_pos h, sameB_comm (onlyM m) m, hs, Bool.and_false]
  rfl
theorem only_fits (hf : m.Fits) : (onlyM m).Fits := by
  unfold onlyM
  generalize m.kind = k
  unfold prs
  split <;> exact ⟨by first | exact hf.digest | exact zero_fits.digest, by first | exact hf.at0 | exact zero_fits.at0, by first | exact hf.at1 | exact zero_fits.at1, by first | exact hf.iat0 | exact zero_fits.iat0, by first | exact hf.iat1 | exact zero_fits.iat1, by first | exact hf.iN0 | exact zero_fits.iN0, by first | exact hf.iN1 | exact zero_fits.iN1, by first | exact hf.key | exact zero_fits.key, by first | exact hf.data | exact zero_fits.data⟩
theorem only_kind : (onlyM m).kind = m.kind := by
  unfold onlyM
  generalize m.kind = k
  unfold prs
  split <;> rfl
theorem only_ikind (h : m.ikind < 256) : (onlyM m).ikind < 256 := by
  unfold onlyM
  generalize m.kind = k
  unfold prs
  split <;> first | exact h | exact (by decide : 0 < 256)
end
end Go.Proofs.Ytmmhchpilcjflaa
