import PyProof.Rows.All
import Wide.All
import OpenK.AllK
import Wide.FinOn
import HandS.Head0
import HandS.Head1
import HandS.Head2
import HandS.HeadEnd
import HandS.HeadHook1
import HandS.HeadHook2
import KE.KStateDown
import KE.KDictKeyed
import KE.KDictPairs
import KE.SortData
import HandS.ForMost
import HandS.DictTup
import HandS.DictComp
import HandS.SetKeys
import HandS.Zip
import HandS.Walk
import HandS.Evl
import HandS.Conv
import HandS.IsInst
import HandS.TupAny
import HandS.TupLen
import KE.SortCalls
import HandS.More
import KE.KDictCopyH
import KE.KDictWalk
import KE.KEqDict
import PyProof.NeKinds
import PyProof.ReprRoads
import HandS.RaiseMore
import HandS.New0
import PySem.Challenge.RW_everyworth_k39_whole_rules_alike_everywh
set_option Elab.async false
set_option linter.all false
set_option maxRecDepth 100000
set_option maxHeartbeats 0
namespace Ew
open PySem PySem.Spec PyProof.Rows L2
/-! ### what the program's top leaves -/
def topS (i : Nat) : Stmt := PySem.Challenge.pw_everyworth_k39_whole_rules_alike_everywh.main.body.getD i (.Pass ⟨0, 0, 0, 0⟩)
abbrev s_put_terms : Stmt := topS 28
abbrev s_fitted : Stmt := topS 26
abbrev s_matched : Stmt := topS 29
abbrev s_variable : Stmt := topS 20
abbrev s_united : Stmt := topS 22
abbrev s_packed : Stmt := topS 21
abbrev s_Polynomials_one : Stmt := inClass (topS 23) 1
abbrev s_Polynomials_plus : Stmt := inClass (topS 23) 2
abbrev s_Polynomials_times : Stmt := inClass (topS 23) 3
abbrev s_InSemiring___init__ : Stmt := inClass (topS 17) 0
abbrev s_InSemiring_sum_of : Stmt := inClass (topS 17) 2
abbrev s_is_name : Stmt := topS 11
abbrev s_is_number : Stmt := topS 12
abbrev s_Facts_arity : Stmt := inClass (topS 15) 2
abbrev s_Facts_find : Stmt := inClass (topS 15) 10
abbrev s_Facts_count : Stmt := inClass (topS 15) 12
abbrev s_Facts___init__ : Stmt := inClass (topS 15) 0
abbrev s_Facts_add : Stmt := inClass (topS 15) 3
abbrev s_Facts_rows : Stmt := inClass (topS 15) 11
abbrev s_variables_of : Stmt := topS 25
abbrev s_numbers_in : Stmt := topS 32
abbrev s_check_heads : Stmt := topS 34
abbrev s_head_map : Stmt := topS 30
abbrev s_frozen : Stmt := topS 33
abbrev s_rule_meaning : Stmt := topS 27
abbrev s_all_maps : Stmt := topS 31
abbrev s_is_renaming : Stmt := topS 35
abbrev s_alike : Stmt := topS 36
abbrev s__law_pot : Stmt := topS 38
abbrev s__law_next : Stmt := topS 39
abbrev s__law_term : Stmt := topS 59
abbrev s__law_atoms : Stmt := topS 60
abbrev s__law_variables : Stmt := topS 61
abbrev s__law_rule : Stmt := topS 62
abbrev s__law_put_in : Stmt := topS 65
abbrev s__law_second : Stmt := topS 66
abbrev s__law_means : Stmt := topS 63
abbrev s__law_ways : Stmt := topS 64
abbrev s__law_is_renaming : Stmt := topS 67
abbrev s_law : Stmt := topS 68
def d_is_name : He.DefD := ⟨("is_name", none), "is_name", "is_name", defArgs s_is_name, defBody s_is_name, defScope s_is_name, [], []⟩
def d_is_number : He.DefD := ⟨("is_number", none), "is_number", "is_number", defArgs s_is_number, defBody s_is_number, defScope s_is_number, [], []⟩
def d_variable : He.DefD := ⟨("variable", none), "variable", "variable", defArgs s_variable, defBody s_variable, defScope s_variable, [], []⟩
def d_packed : He.DefD := ⟨("packed", none), "packed", "packed", defArgs s_packed, defBody s_packed, defScope s_packed, [], []⟩
def d_united : He.DefD := ⟨("united", none), "united", "united", defArgs s_united, defBody s_united, defScope s_united, [], []⟩
def d_variables_of : He.DefD := ⟨("variables_of", none), "variables_of", "variables_of", defArgs s_variables_of, defBody s_variables_of, defScope s_variables_of, [], []⟩
def d_fitted : He.DefD := ⟨("fitted", none), "fitted", "fitted", defArgs s_fitted, defBody s_fitted, defScope s_fitted, [], []⟩
def d_rule_meaning : He.DefD := ⟨("rule_meaning", none), "rule_meaning", "rule_meaning", defArgs s_rule_meaning, defBody s_rule_meaning, defScope s_rule_meaning, [], []⟩
def d_put_terms : He.DefD := ⟨("put_terms", none), "put_terms", "put_terms", defArgs s_put_terms, defBody s_put_terms, defScope s_put_terms, [], []⟩
def d_matched : He.DefD := ⟨("matched", none), "matched", "matched", defArgs s_matched, defBody s_matched, defScope s_matched, [], []⟩
def d_head_map : He.DefD := ⟨("head_map", none), "head_map", "head_map", defArgs s_head_map, defBody s_head_map, defScope s_head_map, [], []⟩
def d_all_maps : He.DefD := ⟨("all_maps", none), "all_maps", "all_maps", defArgs s_all_maps, defBody s_all_maps, defScope s_all_maps, [], []⟩
def d_numbers_in : He.DefD := ⟨("numbers_in", none), "numbers_in", "numbers_in", defArgs s_numbers_in, defBody s_numbers_in, defScope s_numbers_in, [], []⟩
def d_frozen : He.DefD := ⟨("frozen", none), "frozen", "frozen", defArgs s_frozen, defBody s_frozen, defScope s_frozen, [], []⟩
def d_check_heads : He.DefD := ⟨("check_heads", none), "check_heads", "check_heads", defArgs s_check_heads, defBody s_check_heads, defScope s_check_heads, [], []⟩
def d_is_renaming : He.DefD := ⟨("is_renaming", none), "is_renaming", "is_renaming", defArgs s_is_renaming, defBody s_is_renaming, defScope s_is_renaming, [], []⟩
def d_alike : He.DefD := ⟨("alike", none), "alike", "alike", defArgs s_alike, defBody s_alike, defScope s_alike, [], []⟩
def d__law_pot : He.DefD := ⟨("_law_pot", none), "_law_pot", "_law_pot", defArgs s__law_pot, defBody s__law_pot, defScope s__law_pot, [], []⟩
def d__law_next : He.DefD := ⟨("_law_next", none), "_law_next", "_law_next", defArgs s__law_next, defBody s__law_next, defScope s__law_next, [], []⟩
def d__law_term : He.DefD := ⟨("_law_term", none), "_law_term", "_law_term", defArgs s__law_term, defBody s__law_term, defScope s__law_term, [], []⟩
def d__law_atoms : He.DefD := ⟨("_law_atoms", none), "_law_atoms", "_law_atoms", defArgs s__law_atoms, defBody s__law_atoms, defScope s__law_atoms, [], []⟩
def d__law_variables : He.DefD := ⟨("_law_variables", none), "_law_variables", "_law_variables", defArgs s__law_variables, defBody s__law_variables, defScope s__law_variables, [], []⟩
def d__law_rule : He.DefD := ⟨("_law_rule", none), "_law_rule", "_law_rule", defArgs s__law_rule, defBody s__law_rule, defScope s__law_rule, [], []⟩
def d__law_means : He.DefD := ⟨("_law_means", none), "_law_means", "_law_means", defArgs s__law_means, defBody s__law_means, defScope s__law_means, [], []⟩
def d__law_ways : He.DefD := ⟨("_law_ways", none), "_law_ways", "_law_ways", defArgs s__law_ways, defBody s__law_ways, defScope s__law_ways, [], []⟩
def d__law_put_in : He.DefD := ⟨("_law_put_in", none), "_law_put_in", "_law_put_in", defArgs s__law_put_in, defBody s__law_put_in, defScope s__law_put_in, [], []⟩
def d__law_second : He.DefD := ⟨("_law_second", none), "_law_second", "_law_second", defArgs s__law_second, defBody s__law_second, defScope s__law_second, [], []⟩
def d__law_is_renaming : He.DefD := ⟨("_law_is_renaming", none), "_law_is_renaming", "_law_is_renaming", defArgs s__law_is_renaming, defBody s__law_is_renaming, defScope s__law_is_renaming, [], []⟩
def d_law : He.DefD := ⟨("law", none), "law", "law", defArgs s_law, defBody s_law, defScope s_law, [], []⟩
def d_Facts___init__ : He.DefD := ⟨("Facts", some "__init__"), "__init__", "Facts.__init__", defArgs s_Facts___init__, defBody s_Facts___init__, defScope s_Facts___init__, [], []⟩
def d_Facts_arity : He.DefD := ⟨("Facts", some "arity"), "arity", "Facts.arity", defArgs s_Facts_arity, defBody s_Facts_arity, defScope s_Facts_arity, [], []⟩
def d_Facts_add : He.DefD := ⟨("Facts", some "add"), "add", "Facts.add", defArgs s_Facts_add, defBody s_Facts_add, defScope s_Facts_add, [], []⟩
def d_Facts_find : He.DefD := ⟨("Facts", some "find"), "find", "Facts.find", defArgs s_Facts_find, defBody s_Facts_find, defScope s_Facts_find, [], []⟩
def d_Facts_rows : He.DefD := ⟨("Facts", some "rows"), "rows", "Facts.rows", defArgs s_Facts_rows, defBody s_Facts_rows, defScope s_Facts_rows, [], []⟩
def d_Facts_count : He.DefD := ⟨("Facts", some "count"), "count", "Facts.count", defArgs s_Facts_count, defBody s_Facts_count, defScope s_Facts_count, [], []⟩
def d_InSemiring___init__ : He.DefD := ⟨("InSemiring", some "__init__"), "__init__", "InSemiring.__init__", defArgs s_InSemiring___init__, defBody s_InSemiring___init__, defScope s_InSemiring___init__, [], []⟩
def d_InSemiring_sum_of : He.DefD := ⟨("InSemiring", some "sum_of"), "sum_of", "InSemiring.sum_of", defArgs s_InSemiring_sum_of, defBody s_InSemiring_sum_of, defScope s_InSemiring_sum_of, [], []⟩
def d_Polynomials_one : He.DefD := ⟨("Polynomials", some "one"), "one", "Polynomials.one", defArgs s_Polynomials_one, defBody s_Polynomials_one, defScope s_Polynomials_one, [], []⟩
def d_Polynomials_plus : He.DefD := ⟨("Polynomials", some "plus"), "plus", "Polynomials.plus", defArgs s_Polynomials_plus, defBody s_Polynomials_plus, defScope s_Polynomials_plus, [], []⟩
def d_Polynomials_times : He.DefD := ⟨("Polynomials", some "times"), "times", "Polynomials.times", defArgs s_Polynomials_times, defBody s_Polynomials_times, defScope s_Polynomials_times, [], []⟩
def jfn1 : List He.DefD := [d_is_name, d_is_number, d_variable, d_packed, d_united, d_variables_of, d_fitted, d_rule_meaning, d_put_terms, d_matched, d_head_map, d_all_maps, d_numbers_in, d_frozen, d_check_heads, d_is_renaming]
def jfn2 : List He.DefD := [d_alike, d__law_pot, d__law_next, d__law_term, d__law_atoms, d__law_variables, d__law_rule, d__law_means, d__law_ways, d__law_put_in, d__law_second, d__law_is_renaming, d_law, d_Facts___init__, d_Facts_arity, d_Facts_add]
def jfn3 : List He.DefD := [d_Facts_find, d_Facts_rows, d_Facts_count, d_InSemiring___init__, d_InSemiring_sum_of, d_Polynomials_one, d_Polynomials_plus, d_Polynomials_times]
def jfn : List He.DefD := jfn1 ++ jfn2 ++ jfn3
def jfa1 : List He.Fa := [.glo "is_name", .glo "is_number", .glo "variable", .glo "packed", .glo "united", .glo "variables_of", .glo "fitted", .glo "rule_meaning", .glo "put_terms", .glo "matched", .glo "head_map", .glo "all_maps", .glo "numbers_in", .glo "frozen", .glo "check_heads", .glo "is_renaming"]
def jfa2 : List He.Fa := [.glo "alike", .glo "_law_pot", .glo "_law_next", .glo "_law_term", .glo "_law_atoms", .glo "_law_variables", .glo "_law_rule", .glo "_law_means", .glo "_law_ways", .glo "_law_put_in", .glo "_law_second", .glo "_law_is_renaming", .glo "law", .glo "Facts", .glo "InSemiring", .glo "Polynomials"]
def jfa3 : List He.Fa := [.free "list", .free "len", .free "isinstance", .free "all", .free "tuple", .free "sorted", .free "dict", .free "zip", .free "max", .free "range", .free "repr", .free "enumerate", .free "abs", .free "int", .free "str", .free "bool"]
def jfa4 : List He.Fa := [.int "MOST_NAME_SIGNS" 12, .int "WIDEST_TABLE" 4, .int "MOST_MONOMIALS" 400, .str "SMALL_LETTERS" "abcdefghijklmnopqrstuvwxyz", .cls "Facts", .cls "InSemiring", .cls "Polynomials", .noat "Facts" "arities", .noat "Facts" "known", .noat "Facts" "there", .noat "Facts" "places", .noat "InSemiring" "semiring", .meth "Facts" "arity", .meth "Facts" "add", .meth "Facts" "find", .meth "Facts" "rows"]
def jfa5 : List He.Fa := [.meth "Facts" "count", .meth "InSemiring" "sum_of", .meth "Polynomials" "one", .meth "Polynomials" "plus", .meth "Polynomials" "times", .mkr "Facts", .mkr "InSemiring"]
def jfa : List He.Fa := jfa1 ++ jfa2 ++ jfa3 ++ jfa4 ++ jfa5
def jloose1 : List PySem.Str := ["_wall", "WorthError", "InvalidArgument", "UnknownTable", "UnknownFact", "DuplicateFact", "TooLarge", "SMALL_LETTERS", "MOST_NAME_SIGNS", "is_name", "is_number", "WIDEST_TABLE", "Facts", "InSemiring", "MOST_MONOMIALS", "variable"]
def jloose2 : List PySem.Str := ["packed", "united", "Polynomials", "variables_of", "fitted", "rule_meaning", "put_terms", "matched", "head_map", "all_maps", "numbers_in", "frozen", "check_heads", "is_renaming", "alike", "_law_pot"]
def jloose3 : List PySem.Str := ["_law_next", "_law_values", "_law_fitted", "_law_leaf", "_law_over", "_law_query", "_law_known", "_law_lesser", "_law_ordered", "_law_put", "_law_joined", "_law_paths", "_law_repeat", "_law_plain", "_law_boolean", "_law_all"]
def jloose4 : List PySem.Str := ["_law_used", "_law_there", "_law_fits", "_law_new_fact", "_law_term", "_law_atoms", "_law_variables", "_law_rule", "_law_means", "_law_ways", "_law_put_in", "_law_second", "_law_is_renaming"]
def jloose : List PySem.Str := jloose1 ++ jloose2 ++ jloose3 ++ jloose4
/-- a class of one's own without an __init__ of its own -/
def exP (K : PySem.W.Frag) : Bool := PySem.W.makesIn K (He.ga K "Polynomials") && (He.eqO (PySem.W.findIn K (.ref (He.ga K "Polynomials")) "__init__") (some (some (.builtin "object.__init__"))) && (decide (PySem.W.mroIn K (He.ga K "Polynomials") (.type "object") = some true) && PySem.W.keepIn K (.ref (He.ga K "Polynomials"))))
abbrev AlX : Type := Bool × He.AlD
def obsX (g : Addr → Option Obj) : AlX := (exP (He.frG g (He.asD g 5)), He.obsD jfa jfn (He.frG g (He.asD g 5)))
def hookX : PySem.W.Hook where
  α := AlX
  obs := fun s => obsX s.heap.get?
  val := fun _ => (true, He.valD jfn)
  says := fun _ h => ∃ K : PySem.W.Frag, K.In h ∧ He.SaysD jfa jfn K ∧ exP K = true
  of := fun _ _ e => ⟨_, He.frG_in, congrArg (fun z : AlX => z.2) e, congrArg (fun z : AlX => z.1) e⟩
  keeps := fun _ _ _ ⟨K, hK, c⟩ k => ⟨K, PySem.W.Frag.In.keeps hK k, c⟩
abbrev jR : PySem.W.OpenRow := PySem.W.OpenLaw.row PySem.Challenge.rw_everyworth_k39_whole_rules_alike_everywh
def obX (s : PySem.W.SharedT) : AlX := obsX (HandSHeadRun.getT s)
theorem obX_eq (s : PySem.W.SharedT) : obX s = hookX.obs s.abs := by
  have e : HandSHeadRun.getT s = s.abs.heap.get? := funext (HandSHeadRun.getT_eq s)
  show obsX (HandSHeadRun.getT s) = obsX s.abs.heap.get?
  rw [e]
theorem jrun (w : World) : HandSHeadRun.RunEq jR (PySem.W.view jR.prog [68]) hookX obX 40000 jloose w := by
  intro os
  kernel_rfl
end Ew
set_option Elab.async false
set_option linter.all false
set_option maxRecDepth 100000
set_option maxHeartbeats 4000000
namespace Ew
open PySem PySem.Spec PyProof.Rows L2
open Evl (Ex)
/-! ### data: whole numbers, texts, tuples of these, nested -/
abbrev Nk := NestedKey
/-- at a stands a tuple whose object is known: it has no dict of its own -/
def PT (H : Hp) (a : Addr) (xs : List V) : Prop := ∃ o, H a = some (.frz o (.tup xs)) ∧ o.dict = none
theorem PT.sq {K : PySem.W.Frag} {H : Hp} {a : Addr} {xs : List V} (h : PT H a xs) : SqT K H a xs := let ⟨o, e, _⟩ := h; .inl (.inr ⟨o, e⟩)
theorem PT.ex {H H' : Hp} {a : Addr} {xs : List V} (h : PT H a xs) (e : Ex H H') : PT H' a xs := let ⟨o, q, r⟩ := h; ⟨o, e _ _ q, r⟩
mutual
inductive NV (K : PySem.W.Frag) (H : Hp) : V → Nk → Prop
  | int (i : Int) : NV K H (.int i) (.num i)
  | str (x : Str) : NV K H (.str x) (.text x)
  | tup {a : Addr} {xs : List V} {ks : List Nk} : PT H a xs → NVs K H xs ks → NV K H (.ref a) (.tup ks)
inductive NVs (K : PySem.W.Frag) (H : Hp) : List V → List Nk → Prop
  | nil : NVs K H [] []
  | cons {v : V} {vs : List V} {k : Nk} {ks : List Nk} : NV K H v k → NVs K H vs ks → NVs K H (v :: vs) (k :: ks)
end
/-- the tuples stay -/
def Tx (K : PySem.W.Frag) (H H' : Hp) : Prop := (∀ a xs, SqT K H a xs → SqT K H' a xs) ∧ ∀ a xs, PT H a xs → PT H' a xs
theorem Tx.refl (K : PySem.W.Frag) (H : Hp) : Tx K H H := ⟨fun _ _ h => h, fun _ _ h => h⟩
theorem Tx.trans {K : PySem.W.Frag} {H H1 H2 : Hp} (a : Tx K H H1) (b : Tx K H1 H2) : Tx K H H2 := ⟨fun p xs h => b.1 p xs (a.1 p xs h), fun p xs h => b.2 p xs (a.2 p xs h)⟩
theorem Tx.ex {K : PySem.W.Frag} {H H' : Hp} (e : Ex H H') : Tx K H H' := ⟨fun _ _ h => Evl.ex_t e h, fun _ _ h => h.ex e⟩
/-- a mutable object is another, or a new one is laid -/
theorem Tx.upd {K : PySem.W.Frag} {H : Hp} {p : Addr} {o : HO} (m : H p = none ∨ Mut (H p)) : Tx K H (upd H p o) := by
  refine ⟨fun a xs h => ?_, fun a xs ⟨ob, h, r⟩ => ⟨ob, ?_, r⟩⟩
  rotate_left
  · have : a ≠ p := by
      rintro rfl
      rcases m with m | m
      · rw [h] at m; cases m
      · rw [h] at m; exact m
    rw [upd_ne this]; exact h
  rcases h with (h | ⟨ob, h⟩) | h
  · have : a ≠ p := by
      rintro rfl
      rcases m with m | m
      · rw [h] at m; cases m
      · rw [h] at m; exact m
    exact .inl (.inl (by rw [upd_ne this]; exact h))
  · have : a ≠ p := by
      rintro rfl
      rcases m with m | m
      · rw [h] at m; cases m
      · rw [h] at m; exact m
    exact .inl (.inr ⟨ob, by rw [upd_ne this]; exact h⟩)
  · exact .inr h
mutual
theorem NV.tx {K : PySem.W.Frag} {H H' : Hp} (e : Tx K H H') : ∀ (d : Nk) (v : V), NV K H v d → NV K H' v d
  | .none, _, h => by cases h
  | .num i, _, h => by cases h; exact .int i
  | .text x, _, h => by cases h; exact .str x
  | .tup ks, _, h => by
    cases h with
    | tup h1 h2 => exact .tup (e.2 _ _ h1) (NVs.tx e ks _ h2)
theorem NVs.tx {K : PySem.W.Frag} {H H' : Hp} (e : Tx K H H') : ∀ (ds : List Nk) (vs : List V), NVs K H vs ds → NVs K H' vs ds
  | [], _, h => by cases h; exact .nil
  | d :: ds, _, h => by
    cases h with
    | cons h1 h2 => exact .cons (NV.tx e d _ h1) (NVs.tx e ds _ h2)
end
theorem NV.t {K : PySem.W.Frag} {H H' : Hp} {v : V} {d : Nk} (h : NV K H v d) (e : Tx K H H') : NV K H' v d := NV.tx e d v h
theorem NVs.t {K : PySem.W.Frag} {H H' : Hp} {vs : List V} {ds : List Nk} (h : NVs K H vs ds) (e : Tx K H H') : NVs K H' vs ds := NVs.tx e ds vs h
theorem NV.ex {K : PySem.W.Frag} {H H' : Hp} {v : V} {d : Nk} (h : NV K H v d) (e : Ex H H') : NV K H' v d := h.t (Tx.ex e)
theorem NVs.ex {K : PySem.W.Frag} {H H' : Hp} {vs : List V} {ds : List Nk} (h : NVs K H vs ds) (e : Ex H H') : NVs K H' vs ds := h.t (Tx.ex e)
theorem NVs.len {K : PySem.W.Frag} {H : Hp} : ∀ {vs : List V} {ds : List Nk}, NVs K H vs ds → vs.length = ds.length
  | _, [], h => by cases h; rfl
  | _, d :: ds, h => by
    cases h with
    | cons h1 h2 => rw [List.length_cons, List.length_cons, NVs.len h2]
theorem NVs.get {K : PySem.W.Frag} {H : Hp} : ∀ {vs : List V} {ds : List Nk} {i : Nat} {d : Nk}, NVs K H vs ds → ds[i]? = some d → ∃ v, vs[i]? = some v ∧ NV K H v d
  | _, [], _, _, _, e => by simp at e
  | _, _ :: _, 0, _, h, e => by
    cases h with
    | cons h1 h2 =>
      simp only [List.getElem?_cons_zero, Option.some.injEq] at e
      subst e
      exact ⟨_, rfl, h1⟩
  | _, _ :: ds, i + 1, d, h, e => by
    cases h with
    | cons h1 h2 =>
      rw [List.getElem?_cons_succ] at e
      obtain ⟨v, e1, e2⟩ := NVs.get (i := i) h2 e
      exact ⟨v, by rw [List.getElem?_cons_succ]; exact e1, e2⟩
theorem NVs.getV {K : PySem.W.Frag} {H : Hp} : ∀ {vs : List V} {ds : List Nk} {i : Nat} {v : V}, NVs K H vs ds → vs[i]? = some v → ∃ d, ds[i]? = some d ∧ NV K H v d
  | _, [], _, _, h, e => by cases h; simp at e
  | _, _ :: _, 0, _, h, e => by
    cases h with
    | cons h1 h2 =>
      simp only [List.getElem?_cons_zero, Option.some.injEq] at e
      subst e
      exact ⟨_, rfl, h1⟩
  | _, _ :: ds, i + 1, d, h, e => by
    cases h with
    | cons h1 h2 =>
      rw [List.getElem?_cons_succ] at e
      obtain ⟨v, e1, e2⟩ := NVs.getV (i := i) h2 e
      exact ⟨v, by rw [List.getElem?_cons_succ]; exact e1, e2⟩
theorem NVs.snoc {K : PySem.W.Frag} {H : Hp} {v : V} {d : Nk} (r : NV K H v d) : ∀ {vs : List V} {ds : List Nk}, NVs K H vs ds → NVs K H (vs ++ [v]) (ds ++ [d])
  | _, [], h => by cases h; exact .cons r .nil
  | _, x :: ds, h => by
    cases h with
    | cons h1 h2 => exact .cons h1 (NVs.snoc r h2)
theorem NVs.app {K : PySem.W.Frag} {H : Hp} {ws : List V} {es : List Nk} (r : NVs K H ws es) : ∀ {vs : List V} {ds : List Nk}, NVs K H vs ds → NVs K H (vs ++ ws) (ds ++ es)
  | _, [], h => by cases h; exact r
  | _, x :: ds, h => by
    cases h with
    | cons h1 h2 => exact .cons h1 (NVs.app r h2)
/-! ### what it is at the library's level -/
section
variable {X : Cx} {pins : List (Addr × Obj)} {σ : L2.St} {H : Hp} {s : Shared}
mutual
theorem NV.is (I : Inv X pins σ H s) : ∀ (d : Nk) (v : V) (u : Value), NV X.K H v d → RelV v u → NestedIs s.heap d u
  | .none, _, _, h, r => by cases h
  | .num i, _, _, h, r => by
    cases h
    obtain ⟨t, rfl⟩ := r
    exact .int i t
  | .text x, _, _, h, r => by
    cases h
    obtain ⟨t, rfl⟩ := r
    exact .text x t
  | .tup ks, _, _, h, r => by
    cases h with
    | tup h1 h2 =>
      cases r
      obtain ⟨its, rv, ⟨o, ho, hc, n, hd⟩, _⟩ := I.tuple h1.sq
      exact .tup ho hc hd (by simpa using NVs.is I ks _ its h2 rv)
theorem NVs.is (I : Inv X pins σ H s) : ∀ (ds : List Nk) (vs : List V) (us : List Value), NVs X.K H vs ds → Vals vs us → NestedAll s.heap ds us
  | [], _, _, h, r => by
    cases h
    cases r
    exact .nil
  | d :: ds, _, _, h, r => by
    cases h with
    | cons h1 h2 =>
      cases r with
      | cons r1 r2 => exact .cons (NV.is I d _ _ h1 r1) (NVs.is I ds _ _ h2 r2)
end
end
/-! ### ==, != of data -/
section
open SeqAt
variable {prog : Program} {w : World}
theorem rcAt_key (x y : Nk) (A : Around) (s : Shared) (a b : Value) (ra : NestedIs s.heap x a) (rb : NestedIs s.heap y b) (hu : A.units + min x.depth y.depth < cLine) : RcAt A s a b (NestedKey.beq x y) := by
  have hu0 : A.units < cLine := by omega
  cases ra with
  | none =>
    cases rb with
    | none => exact RcAt.none_none
    | bool e => exact RcAt.none_bool _
    | int y u => exact RcAt.none_int y u
    | text y u => exact RcAt.none_str y u
    | tup k1 k2 k3 k4 => exact RcAt.none_tuple ⟨_, k1, k2, _, k3⟩ hu0
  | @bool c i e =>
    cases rb with
    | none => exact RcAt.bool_none c
    | @bool d j e' =>
      subst e e'
      have h := RcAt.bool_bool (A := A) (s := s) c d
      have q : NestedKey.beq (.num (if c = true then 1 else 0)) (.num (if d = true then 1 else 0)) = (c == d) := by cases c <;> cases d <;> rfl
      rw [q]
      exact h
    | int y u =>
      subst e
      have h := RcAt.bool_int (A := A) (s := s) c y u
      exact h
    | text y u => exact RcAt.bool_str c y u
    | tup k1 k2 k3 k4 => exact RcAt.bool_tuple c ⟨_, k1, k2, _, k3⟩ hu0
  | int i t =>
    cases rb with
    | none => exact RcAt.int_none i t
    | @bool d j e' =>
      subst e'
      exact RcAt.int_bool i t d
    | int y u => exact RcAt.int_int i t y u
    | text y u => exact RcAt.int_str i t y u
    | tup k1 k2 k3 k4 => exact RcAt.int_tuple i t ⟨_, k1, k2, _, k3⟩ hu0
  | text x t =>
    cases rb with
    | none => exact RcAt.str_none x t
    | @bool d j e' => exact RcAt.str_bool x t d
    | int y u => exact RcAt.str_int x t y u
    | text y u => exact RcAt.str_str x t y u
    | tup k1 k2 k3 k4 => exact RcAt.str_tuple x t ⟨_, k1, k2, _, k3⟩ hu0
  | @tup l o vs n xs h1 h2 h3 h4 =>
    have hl : s.heap.IsTuple l vs := ⟨_, h1, h2, _, h3⟩
    cases rb with
    | none => exact RcAt.tuple_none hl hu0
    | @bool d _ e => exact RcAt.tuple_bool d hl hu0
    | int y u => exact RcAt.tuple_int y u hl hu0
    | text y u => exact RcAt.tuple_str y u hl hu0
    | @tup l' o' vs' n' ys k1 k2 k3 k4 =>
      have hl' : s.heap.IsTuple l' vs' := ⟨_, k1, k2, _, k3⟩
      have n1 : vs.size = xs.length := by simpa using NestedAll.length _ _ h4
      have n2 : vs'.size = ys.length := by simpa using NestedAll.length _ _ k4
      show RcAt A s (.ref l) (.ref l') (NestedKey.beqAll xs ys)
      rw [← beqAll_eq xs ys, ← n1, ← n2]
      refine RcAt.tuples hl hl' hu0 fun j j1 j2 => ?_
      have := eqAt_keys xs ys A.in1 s vs.toList vs'.toList h4 k4 (by
        have e1 : NestedKey.depth (.tup xs) = NestedKey.depthAll xs + 1 := by simp [NestedKey.depth]
        have e2 : NestedKey.depth (.tup ys) = NestedKey.depthAll ys + 1 := by simp [NestedKey.depth]
        show A.units + 1 + min (NestedKey.depthAll xs) (NestedKey.depthAll ys) < cLine
        omega) j (by simpa using j1) (by simpa using j2)
      simpa using this
theorem rcNeAt_key (x y : Nk) (A : Around) (s : Shared) (a b : Value) (ra : NestedIs s.heap x a) (rb : NestedIs s.heap y b) (hu : A.units + min x.depth y.depth < cLine) : RcNeAt A s a b (!NestedKey.beq x y) := by
  have hu0 : A.units < cLine := by omega
  cases ra with
  | none =>
    cases rb with
    | none => exact RcNeAt.none_none
    | bool e => exact RcNeAt.none_bool _
    | int y u => exact RcNeAt.none_int y u
    | text y u => exact RcNeAt.none_str y u
    | tup k1 k2 k3 k4 => exact RcNeAt.none_tuple ⟨_, k1, k2, _, k3⟩ hu0
  | @bool c i e =>
    cases rb with
    | none => exact RcNeAt.bool_none c
    | @bool d j e' =>
      subst e e'
      have h := RcNeAt.bool_bool (A := A) (s := s) c d
      have q : NestedKey.beq (.num (if c = true then 1 else 0)) (.num (if d = true then 1 else 0)) = (c == d) := by cases c <;> cases d <;> rfl
      rw [q]
      exact h
    | int y u =>
      subst e
      have h := RcNeAt.bool_int (A := A) (s := s) c y u
      exact h
    | text y u => exact RcNeAt.bool_str c y u
    | tup k1 k2 k3 k4 => exact RcNeAt.bool_tuple c ⟨_, k1, k2, _, k3⟩ hu0
  | int i t =>
    cases rb with
    | none => exact RcNeAt.int_none i t
    | @bool d j e' =>
      subst e'
      exact RcNeAt.int_bool i t d
    | int y u => exact RcNeAt.int_int i t y u
    | text y u => exact RcNeAt.int_str i t y u
    | tup k1 k2 k3 k4 => exact RcNeAt.int_tuple i t ⟨_, k1, k2, _, k3⟩ hu0
  | text x t =>
    cases rb with
    | none => exact RcNeAt.str_none x t
    | @bool d j e' => exact RcNeAt.str_bool x t d
    | int y u => exact RcNeAt.str_int x t y u
    | text y u => exact RcNeAt.str_str x t y u
    | tup k1 k2 k3 k4 => exact RcNeAt.str_tuple x t ⟨_, k1, k2, _, k3⟩ hu0
  | @tup l o vs n xs h1 h2 h3 h4 =>
    have hl : s.heap.IsTuple l vs := ⟨_, h1, h2, _, h3⟩
    cases rb with
    | none => exact RcNeAt.tuple_none hl hu0
    | @bool d _ e => exact RcNeAt.tuple_bool d hl hu0
    | int y u => exact RcNeAt.tuple_int y u hl hu0
    | text y u => exact RcNeAt.tuple_str y u hl hu0
    | @tup l' o' vs' n' ys k1 k2 k3 k4 =>
      have hl' : s.heap.IsTuple l' vs' := ⟨_, k1, k2, _, k3⟩
      have n1 : vs.size = xs.length := by simpa using NestedAll.length _ _ h4
      have n2 : vs'.size = ys.length := by simpa using NestedAll.length _ _ k4
      show RcNeAt A s (.ref l) (.ref l') (!NestedKey.beqAll xs ys)
      rw [← beqAll_eq xs ys, ← n1, ← n2]
      refine RcNeAt.tuples hl hl' hu0 fun j j1 j2 => ?_
      have := eqAt_keys xs ys A.in1 s vs.toList vs'.toList h4 k4 (by
        have e1 : NestedKey.depth (.tup xs) = NestedKey.depthAll xs + 1 := by simp [NestedKey.depth]
        have e2 : NestedKey.depth (.tup ys) = NestedKey.depthAll ys + 1 := by simp [NestedKey.depth]
        show A.units + 1 + min (NestedKey.depthAll xs) (NestedKey.depthAll ys) < cLine
        omega) j (by simpa using j1) (by simpa using j2)
      simpa using this
end
section
variable {X : Cx}
def rEqN (K : PySem.W.Frag) : R2 := fun x y H Q => ∃ d e, NV K H x d ∧ NV K H y e ∧ d.depth ≤ 60 ∧ Q (.bl (decide (d = e))) H
def rNeN (K : PySem.W.Frag) : R2 := fun x y H Q => ∃ d e, NV K H x d ∧ NV K H y e ∧ d.depth ≤ 60 ∧ Q (.bl (!decide (d = e))) H
theorem op_eqN (hu : X.A.units + 64 < cLine) : OpR X (compareOp .Eq) (rEqN X.K) := by
  rintro pins s σ H x y v u Q I rx ry ⟨d, e, hd, he, d1, q⟩
  have h := rcAt_key d e X.A s v u (NV.is I d x v hd rx) (NV.is I e y u he ry) (by omega)
  exact h X.prog X.w X.xe _ ⟨.bl _, H, I, rfl, by rw [← NestedKey.decide_eq]; exact q⟩
theorem op_neN (hu : X.A.units + 64 < cLine) : OpR X (compareOp .NotEq) (rNeN X.K) := by
  rintro pins s σ H x y v u Q I rx ry ⟨d, e, hd, he, d1, q⟩
  have h := rcNeAt_key d e X.A s v u (NV.is I d x v hd rx) (NV.is I e y u he ry) (by omega)
  exact h X.prog X.w X.xe _ ⟨.bl _, H, I, rfl, by rw [← NestedKey.decide_eq]; exact q⟩
end
/-! ### new tuples whose object is known -/
def tTupF (t : TA) : TE := fun σ H Q => t σ H fun xs H1 => xs.length ≤ sizeLine ∧ ∀ p o, H1 p = none → o.dict = none → Q (.ref p) (upd H1 p (.frz o (.tup xs)))
def kTupF (K : PySem.W.Frag) (x : V) (H : Hp) (Q : VK) : Prop := ∃ p xs, x = .ref p ∧ SqL K H p xs ∧ ∀ q o, H q = none → o.dict = none → Q (.ref q) (upd H q (.frz o (.tup xs)))
def rSlF (K : PySem.W.Frag) : V → Option Int → Option Int → Hp → VK → Prop := fun x lo hi H Q => ∃ a xs, x = .ref a ∧ SqT K H a xs ∧
  ¬ (HT.sIx xs.length 0 lo = 0 ∧ HT.sIx xs.length xs.length hi = xs.length) ∧ ∀ p o, H p = none → o.dict = none → Q (.ref p) (upd H p (.frz o (.tup (cutV xs lo hi))))
def rCatF (K : PySem.W.Frag) : R2 := fun x y H Q => ∃ a b xs ys, x = .ref a ∧ y = .ref b ∧ SqT K H a xs ∧ SqT K H b ys ∧ xs.length + ys.length ≤ sizeLine ∧
  (xs = [] → Q (.ref b) H) ∧ (xs ≠ [] → ys = [] → Q (.ref a) H) ∧ (xs ≠ [] → ys ≠ [] → ∀ p o, H p = none → o.dict = none → Q (.ref p) (upd H p (.frz o (.tup (xs ++ ys)))))
section
variable {X : Cx} {es : List Expr} {pos p : Pos} {t : TA} {a : Expr} {ta : TE}
theorem frz_ok {P : Program} {w : World} {H : Hp} {h : Heap} {q : Addr} {xs : List V} {us : List Value} (z : xs.length ≤ sizeLine) (r : Vals xs us) (e : h.get? q = some { cls := .type "tuple", data := .seq us.toArray }) :
    ObjOk P w H h q (.frz { cls := .type "tuple", data := .seq us.toArray } (.tup xs)) := ⟨e, z, us, r, ⟨_, e, rfl, _, rfl⟩⟩
theorem pe_tupF {x1} (h : PA X es t) : PE X (.Tuple es x1 pos) (tTupF t) := by
  refine ⟨fun pins s σ H Q I hq => ?_⟩
  refine wpAny_Tuple_spliced (thn (h.run pos pins s σ H _ I hq) fun us s1 ⟨xs, H1, I1, r, z, q⟩ => ⟨by rw [← r.length]; exact z, ?_⟩)
  have hf : H1 s1.heap.objs.size = none := I1.hok.fresh (Nat.le_refl _)
  exact ⟨.ref s1.heap.objs.size, _, I1.laid (t' := s1.toks) (fun b u e => Heap.get?_push_of_some _ e) (Nat.le_refl _) (frz_ok z r (Heap.get?_push_size _ rfl)), rfl, q _ _ hf rfl⟩
theorem rl_tupleF (pins : List (Addr × Obj)) (s : Shared) (σ : L2.St) (H : Hp) (x : V) (v : Value) (Q : VK) (I : Inv X pins σ H s) (r : RelV x v) (h : kTupF X.K x H Q) :
    wpAny (model X.prog X.w) X.A (call (.type "tuple") [v]) (EP X pins σ Q) X.xe s := by
  obtain ⟨p, xs, rfl, hs, q⟩ := h
  obtain rfl : v = .ref p := r
  obtain ⟨its, rv, pl, hz⟩ := I.list hs
  refine call_tuple_list pl.isList (fun h' hk => ?_) (by rw [List.size_toArray, ← rv.length]; exact hz)
  have I1 : Inv X pins σ H { s with heap := h' } := I.kept (t' := s.toks) hk
  exact ⟨.ref h'.objs.size, _, I1.laid (t' := s.toks) (fun b o e => Heap.get?_push_of_some _ e) (Nat.le_refl _) (frz_ok hz rv (Heap.get?_push_size _ rfl)), rfl, q _ _ (I1.hok.fresh (Nat.le_refl _)) rfl⟩
theorem pe_tupleOfF (hg : Gl X "tuple") (hm : X.mg "tuple" = none) (ha : PE X a ta) (na : starEach [a] X.env = (false, eval a X.env) :: starEach [] X.env := by rfl) :
    PE X (.Call (.Name "tuple" p) [a] [] pos) (tThen ta (kTupF X.K)) := by
  refine ⟨fun pins s σ H Q I h => ?_⟩
  exact Call_ (ld_blt I hg hm boot_tuple (PyProof.Rows.callWith_type1 (one_arg ha I h (fun v s2 x H2 I2 r q => rl_tupleF pins s2 σ H2 x v Q I2 r q) na) na))
theorem sl_tupF : SlR X (rSlF X.K) := by
  intro pins s σ H x v vl vu lo hi sl Q I rx hs pl pu h
  obtain ⟨a, xs, rfl, hx, hw, q⟩ := h
  cases rx
  obtain ⟨its, r, ht, hz⟩ := I.tuple hx
  have hlen : its.toArray.size = xs.length := by rw [List.size_toArray]; exact r.length.symm
  refine ⟨"tuple", _, PyProof.Rows.slot_tuple_getitem.lookup, ht.typeIs, ?_⟩
  refine HT.getItem_tuple_cut ht hs pl pu (by rw [hlen]; exact hw) ?_ (by rw [hlen]; exact hz)
  rw [hlen]
  exact ⟨.ref s.heap.objs.size, _, I.laid (t' := s.toks) (fun b ob q => Heap.get?_push_of_some _ q) (Nat.le_refl _) (frz_ok (Nat.le_trans (cutV_length xs lo hi) hz) ((r.drop (HT.sIx xs.length 0 lo)).take (HT.sIx xs.length xs.length hi - HT.sIx xs.length 0 lo)) (Heap.get?_push_size _ rfl)), rfl, q _ _ (I.hok.fresh (Nat.le_refl _)) rfl⟩
theorem op_catF : OpR X (binaryOp .Add) (rCatF X.K) := by
  intro pins s σ H x y v u Q I rx ry h
  obtain ⟨a, b, xs, ys, rfl, rfl, ha, hb, hz, q0, q1, q2⟩ := h
  by_cases hx : xs = []
  · subst hx
    exact op_catA pins s σ H _ _ v u Q I rx ry ⟨a, b, [], ys, rfl, rfl, ha, hb, hz, q0, fun z => absurd rfl z, fun z => absurd rfl z⟩
  · cases rx
    cases ry
    obtain ⟨its, r1, p1, _⟩ := I.tuple ha
    obtain ⟨its2, r2, p2, _⟩ := I.tuple hb
    refine HT.cat_tup p1 p2 (fun z => hx (r1.nil_iff.mp z)) (fun z => ⟨.ref a, H, I, rfl, q1 hx (r2.nil_iff.mp z)⟩) (fun z => ?_) (by rw [← r1.length, ← r2.length]; exact hz)
    exact ⟨.ref s.heap.objs.size, _, I.laid (t' := s.toks) (fun b ob q => Heap.get?_push_of_some _ q) (Nat.le_refl _) (frz_ok (by rw [List.length_append]; exact hz) (r1.append r2) (Heap.get?_push_size _ rfl)), rfl, q2 hx (fun w => z (r2.nil_iff.mpr w)) _ _ (I.hok.fresh (Nat.le_refl _)) rfl⟩
end
end Ew
set_option Elab.async false
set_option linter.all false
set_option maxRecDepth 100000
set_option maxHeartbeats 4000000
namespace Ew
open PySem PySem.Spec PyProof.Rows L2
open Evl (Ex)
/-! ### what a piece of code may do to the heap: a relation that grows -/
structure Gw (K : PySem.W.Frag) where
  Ok : Hp → Prop
  R : Hp → Hp → Prop
  ok1 : ∀ {H H'}, R H H' → Ok H
  ok2 : ∀ {H H'}, R H H' → Ok H'
  rf : ∀ {H}, Ok H → R H H
  tr : ∀ {H H1 H2}, R H H1 → R H1 H2 → R H H2
  tx : ∀ {H H'}, R H H' → Tx K H H'
  new : ∀ {H p o}, Ok H → H p = none → R H (upd H p o)
  loc : ∀ {H0 H1 H2 p o}, R H0 H1 → H0 p = none → R H1 H2 → H1 p = some o → H2 p = some o
  chg : ∀ {H H' p o}, R H H' → H p = none → R H (upd H' p o)
  back : ∀ {H H' p}, R H H' → H' p = none → H p = none
  exr : ∀ {H H'}, Ok H → Ex H H' → R H H'
/-- nothing that was tracked changes -/
def gx (K : PySem.W.Frag) : Gw K where
  Ok := fun _ => True
  R := Ex
  ok1 := fun _ => trivial
  ok2 := fun _ => trivial
  rf := fun _ => Ex.refl _
  tr := fun a b => a.trans b
  tx := fun e => Tx.ex e
  new := fun _ h => Ex.new h
  loc := fun _ _ e h => e _ _ h
  chg := fun e h => Ex.mut e h
  back := fun e h => Evl.fresh_back e h
  exr := fun _ e => e
/-- the pot of draws: a list of the script's copy at l, and three whole numbers -/
structure PotAt (K : PySem.W.Frag) (pot l : Addr) (H : Hp) : Prop where
  ne : l ≠ pot
  scr : ∃ ns : List Int, H l = some (.lst (ns.map V.int)) ∧ ns.length ≤ 100
  cells : ∃ i b c : Int, H pot = some (.lst [.ref l, .int i, .int b, .int c]) ∧ 0 ≤ i ∧ i ≤ 100 ∧ 0 ≤ b
/-- all but the pot stays -/
def gp (K : PySem.W.Frag) (pot l : Addr) : Gw K where
  Ok := PotAt K pot l
  R := fun H H' => PotAt K pot l H ∧ PotAt K pot l H' ∧ ∀ a o, a ≠ pot → H a = some o → H' a = some o
  ok1 := fun e => e.1
  ok2 := fun e => e.2.1
  rf := fun o => ⟨o, o, fun _ _ _ h => h⟩
  tr := fun a b => ⟨a.1, b.2.1, fun p o n h => b.2.2 p o n (a.2.2 p o n h)⟩
  tx := fun {H H'} e => by
    obtain ⟨⟨_, _, i, b, c, hp, _⟩, _, k⟩ := e
    refine ⟨fun a xs h => ?_, fun a xs ⟨ob, h, r⟩ => ⟨ob, k a _ (fun q => by rw [q, hp] at h; cases h) h, r⟩⟩
    rcases h with (h | ⟨ob, h⟩) | h
    · exact .inl (.inl (k a _ (fun q => by rw [q, hp] at h; cases h) h))
    · exact .inl (.inr ⟨ob, k a _ (fun q => by rw [q, hp] at h; cases h) h⟩)
    · exact .inr h
  new := fun {H p o} ok h => by
    refine ⟨ok, ?_, fun a o' _ e => by rw [upd_ne (ne_of_none e h)]; exact e⟩
    obtain ⟨n, ⟨ns, hl, h1⟩, i, b, c, hp, r⟩ := ok
    exact ⟨n, ⟨ns, by rw [upd_ne (ne_of_none hl h)]; exact hl, h1⟩, i, b, c, by rw [upd_ne (ne_of_none hp h)]; exact hp, r⟩
  loc := fun {H0 H1 H2 p o} e0 h0 e1 h => by
    obtain ⟨_, _, i, b, c, hp, _⟩ := e0.1
    exact e1.2.2 p o (fun q => by rw [q, hp] at h0; cases h0) h
  chg := fun {H H' p o} e h => by
    obtain ⟨⟨n, ⟨ns, hl, h1⟩, i, b, c, hp, r⟩, ⟨n', ⟨ns', hl', h1'⟩, i', b', c', hp', r'⟩, k⟩ := e
    refine ⟨⟨n, ⟨ns, hl, h1⟩, i, b, c, hp, r⟩, ⟨n', ⟨ns', by rw [upd_ne (ne_of_none hl h)]; exact hl', h1'⟩, i', b', c', by rw [upd_ne (ne_of_none hp h)]; exact hp', r'⟩, fun a o' na ea => ?_⟩
    rw [upd_ne (ne_of_none ea h)]
    exact k a o' na ea
  back := fun {H H' p} e h => by
    cases q : H p with
    | none => rfl
    | some o =>
      by_cases hp : p = pot
      · obtain ⟨_, _, i, b, c, hpot, _⟩ := e.2.1
        rw [hp, hpot] at h; cases h
      · rw [e.2.2 p o hp q] at h; cases h
  exr := fun {H H'} ok e => by
    refine ⟨ok, ?_, fun a o _ h => e _ _ h⟩
    obtain ⟨n, ⟨ns, hl, h1⟩, i, b, c, hp, r⟩ := ok
    exact ⟨n, ⟨ns, e _ _ hl, h1⟩, i, b, c, e _ _ hp, r⟩
section
variable {K : PySem.W.Frag} (G : Gw K)
/-! ### what evaluates to what -/
def EvP (te : TE) (σ : L2.St) (H : Hp) (P : V → Hp → Prop) : Prop := ∀ H1, G.R H H1 → ∀ Q : VK, (∀ v H2, G.R H1 H2 → P v H2 → Q v H2) → te σ H1 Q
def EvA (ta : TA) (σ : L2.St) (H : Hp) (P : List V → Hp → Prop) : Prop := ∀ H1, G.R H H1 → ∀ Q : List V → Hp → Prop, (∀ vs H2, G.R H1 H2 → P vs H2 → Q vs H2) → ta σ H1 Q
def EvT (tt : TT) (σ : L2.St) (H : Hp) (b : Bool) : Prop := ∀ H1, G.R H H1 → ∀ Q : Bool → Hp → Prop, (∀ H2, G.R H1 H2 → Q b H2) → tt σ H1 Q
/-- a source of a walk -/
def EvI (wi : TI) (σ : L2.St) (H : Hp) (P : It → Hp → Prop) : Prop := ∀ H1, G.R H H1 → ∀ Q : It → Hp → Prop, (∀ J H2, G.R H1 H2 → P J H2 → Q J H2) → wi σ H1 Q
/-- a target that stores without ado -/
def StT (g : TG) (x : V) (σ : L2.St) (H : Hp) (σ2 : L2.St) : Prop := ∀ H1, G.R H H1 → ∀ Q : L2.St → Hp → Prop, Q σ2 H1 → g x σ H1 Q
/-- data; a bool; a new list of data -/
abbrev ED (te : TE) (σ : L2.St) (H : Hp) (d : Nk) : Prop := EvP G te σ H (fun v H2 => NV K H2 v d)
abbrev EDs (ta : TA) (σ : L2.St) (H : Hp) (ds : List Nk) : Prop := EvA G ta σ H (fun vs H2 => NVs K H2 vs ds)
abbrev EB (te : TE) (σ : L2.St) (H : Hp) (b : Bool) : Prop := EvP G te σ H (fun v _ => v = .bl b)
/-- at p stands a list of data that is no part of what was -/
def NL (K : PySem.W.Frag) (H H2 : Hp) (p : Addr) (ds : List Nk) : Prop := H p = none ∧ ∃ xs, H2 p = some (.lst xs) ∧ NVs K H2 xs ds
abbrev EL (te : TE) (σ : L2.St) (H : Hp) (ds : List Nk) : Prop := EvP G te σ H (fun v H2 => ∃ p, v = .ref p ∧ NL K H H2 p ds)
end
section
variable {K : PySem.W.Frag} {G : Gw K} {σ : L2.St} {H H' : Hp} {te ta tb tc : TE} {t u : TT} {P P' : V → Hp → Prop}
theorem NL.mono {H0 H2 H3 : Hp} {p : Addr} {ds : List Nk} (h : NL K H0 H2 p ds) (a : G.R H0 H2) (b : G.R H2 H3) : NL K H0 H3 p ds := by
  obtain ⟨h1, xs, h2, h3⟩ := h
  exact ⟨h1, xs, G.loc a h1 b h2, h3.t (G.tx b)⟩
theorem NL.base {H0 H1 H2 : Hp} {p : Addr} {ds : List Nk} (h : NL K H1 H2 p ds) (a : G.R H0 H1) : NL K H0 H2 p ds := ⟨G.back a h.1, h.2⟩
theorem EvP.mono (a : G.R H H') (h : EvP G te σ H P) : EvP G te σ H' P := fun H1 b Q q => h H1 (G.tr a b) Q q
theorem EvA.mono {tas : TA} {PA : List V → Hp → Prop} (a : G.R H H') (h : EvA G tas σ H PA) : EvA G tas σ H' PA := fun H1 b Q q => h H1 (G.tr a b) Q q
theorem EvT.mono {b : Bool} (a : G.R H H') (h : EvT G t σ H b) : EvT G t σ H' b := fun H1 c Q q => h H1 (G.tr a c) Q q
theorem EvP.imp (h : EvP G te σ H P) (f : ∀ v H2, G.R H H2 → P v H2 → P' v H2) : EvP G te σ H P' := fun H1 a Q q => h H1 a Q fun v H2 b p => q v H2 b (f v H2 (G.tr a b) p)
theorem ed_eq {d e : Nk} (h : ED G te σ H d) (q : d = e) : ED G te σ H e := q ▸ h
theorem eb_eq {b c : Bool} (h : EB G te σ H b) (q : b = c) : EB G te σ H c := q ▸ h
theorem et_eq {b c : Bool} (h : EvT G t σ H b) (q : b = c) : EvT G t σ H c := q ▸ h
theorem ev_var {i : Nat} {v : V} (h : σ[i]? = some (some v)) (p : ∀ H2, G.R H H2 → P v H2) : EvP G (tVar i) σ H P := fun H1 a Q q => ⟨v, h, q v H1 (G.rf (G.ok2 a)) (p H1 a)⟩
theorem ed_var {i : Nat} {v : V} {d : Nk} (h : σ[i]? = some (some v)) (r : NV K H v d) : ED G (tVar i) σ H d := ev_var h fun _ a => r.t (G.tx a)
theorem ev_c {v : V} (p : ∀ H2, G.R H H2 → P v H2) : EvP G (tC v) σ H P := fun H1 a Q q => q v H1 (G.rf (G.ok2 a)) (p H1 a)
theorem ed_int {i : Int} : ED G (tC (.int i)) σ H (.num i) := ev_c fun _ _ => .int i
theorem ed_str {x : Str} : ED G (tC (.str x)) σ H (.text x) := ev_c fun _ _ => .str x
theorem eb_c {b : Bool} : EB G (tC (.bl b)) σ H b := ev_c fun _ _ => rfl
theorem ea_nil : EvA G tNil σ H (fun vs _ => vs = []) := fun H1 a Q q => q [] H1 (G.rf (G.ok2 a)) rfl
theorem ea_cons {tr : TA} {P1 : V → Hp → Prop} {PA : List V → Hp → Prop} {PB : List V → Hp → Prop} (h : EvP G te σ H P1) (hr : ∀ v H1, G.R H H1 → P1 v H1 → EvA G tr σ H1 PA)
    (f : ∀ v vs H1 H2, G.R H H1 → P1 v H1 → G.R H1 H2 → PA vs H2 → PB (v :: vs) H2) : EvA G (tCons te tr) σ H PB := fun H1 a Q q =>
  h H1 a _ fun v H2 b p => hr v H2 (G.tr a b) p H2 (G.rf (G.ok2 b)) _ fun vs H3 c p2 => q (v :: vs) H3 (G.tr b c) (f v vs H2 H3 (G.tr a b) p c p2)
theorem eds_nil : EDs G tNil σ H [] := fun H1 a Q q => q [] H1 (G.rf (G.ok2 a)) .nil
theorem eds_cons {tr : TA} {d : Nk} {ds : List Nk} (h : ED G te σ H d) (hr : EDs G tr σ H ds) : EDs G (tCons te tr) σ H (d :: ds) :=
  ea_cons h (fun v H1 a _ => hr.mono a) fun v vs H1 H2 a p b p2 => .cons (p.t (G.tx b)) p2
theorem ed_tup {tr : TA} {ds : List Nk} (h : EDs G tr σ H ds) (hz : ds.length ≤ 100000 := by first | decide | simp) : ED G (tTupF tr) σ H (.tup ds) := fun H1 a Q q =>
  h H1 a _ fun vs H2 b p => ⟨Evl.sz_of (by rw [NVs.len p]; exact hz), fun l o hl ho => q (.ref l) _ (G.tr b (G.new (G.ok2 b) hl)) (.tup ⟨o, upd_same, ho⟩ (p.t (G.tx (G.new (G.ok2 b) hl))))⟩
theorem el_lst {tr : TA} {ds : List Nk} (h : EDs G tr σ H ds) (hz : ds.length ≤ 100000 := by first | decide | simp) : EL G (tLst tr) σ H ds := fun H1 a Q q =>
  h H1 a _ fun vs H2 b p => ⟨Evl.sz_of (by rw [NVs.len p]; exact hz), fun l hl => q (.ref l) _ (G.tr b (G.new (G.ok2 b) hl)) ⟨l, rfl, G.back (G.tr a b) hl, vs, upd_same, p.t (G.tx (G.new (G.ok2 b) hl))⟩⟩
/-- a two-place operation on values -/
theorem ev_op {r : R2} {P1 P2 P3 : V → Hp → Prop} (ha : EvP G ta σ H P1) (hb : ∀ x H1, G.R H H1 → P1 x H1 → EvP G tb σ H1 P2)
    (hr : ∀ x y H1 H2, G.R H H1 → P1 x H1 → G.R H1 H2 → P2 y H2 → ∀ Q : VK, (∀ v H3, G.R H2 H3 → P3 v H3 → Q v H3) → r x y H2 Q) : EvP G (tOp r ta tb) σ H P3 := fun H1 a Q q =>
  ha H1 a _ fun x H2 b p => hb x H2 (G.tr a b) p H2 (G.rf (G.ok2 b)) _ fun y H3 c p2 =>
    hr x y H2 H3 (G.tr a b) p c p2 Q fun v H4 d p3 => q v H4 (G.tr (G.tr b c) d) p3
/-- .. of data, that leaves the heap and gives a value -/
theorem ev_opD {r : R2} {d e : Nk} {P3 : V → Hp → Prop} (ha : ED G ta σ H d) (hb : ED G tb σ H e) (hr : ∀ x y H2, G.R H H2 → NV K H2 x d → NV K H2 y e → ∀ Q : VK, (∀ v, P3 v H2 → Q v H2) → r x y H2 Q) : EvP G (tOp r ta tb) σ H P3 :=
  ev_op ha (fun x H1 a _ => hb.mono a) fun x y H1 H2 a p b p2 Q q => hr x y H2 (G.tr a b) (p.t (G.tx b)) p2 Q fun v p3 => q v H2 (G.rf (G.ok2 b)) p3
theorem eb_eqN {d e : Nk} (ha : ED G ta σ H d) (hb : ED G tb σ H e) (hd : d.depth ≤ 60 := by first | decide | simp [NestedKey.depth]) : EB G (tOp (rEqN K) ta tb) σ H (decide (d = e)) :=
  ev_opD ha hb fun x y H2 _ p1 p2 Q q => ⟨d, e, p1, p2, hd, q _ rfl⟩
theorem eb_neN {d e : Nk} (ha : ED G ta σ H d) (hb : ED G tb σ H e) (hd : d.depth ≤ 60 := by first | decide | simp [NestedKey.depth]) : EB G (tOp (rNeN K) ta tb) σ H (!decide (d = e)) :=
  ev_opD ha hb fun x y H2 _ p1 p2 Q q => ⟨d, e, p1, p2, hd, q _ rfl⟩
/-- t[i] -/
theorem ed_ix {ds : List Nk} {i : Nat} {d : Nk} (ha : ED G ta σ H (.tup ds)) (hb : ED G tb σ H (.num i)) (hi : ds[i]? = some d) : ED G (tOp (rIxT K) ta tb) σ H d :=
  ev_opD ha hb fun x y H2 _ p1 p2 Q q => by
    cases p1 with
    | tup h1 h2 =>
      cases p2
      obtain ⟨v, e1, e2⟩ := h2.get hi
      exact ⟨_, _, _, v, rfl, rfl, h1.sq, atI_nat e1, q v e2⟩
/-- xs[i] of a list of data that stays -/
theorem ed_ixL {ds : List Nk} {i : Nat} {d : Nk} {p : Addr} (ha : EvP G ta σ H (fun v _ => v = .ref p)) (hl : ∀ H2, G.R H H2 → ∃ xs, SqL K H2 p xs ∧ NVs K H2 xs ds) (hb : EvP G tb σ H (fun v _ => v = .int i)) (hi : ds[i]? = some d) : ED G (tOp (rIxL K) ta tb) σ H d :=
  ev_op ha (fun x H1 a _ => hb.mono a) fun x y H1 H2 a p1 b p2 Q q => by
    subst p1 p2
    obtain ⟨xs, h1, h2⟩ := hl H2 (G.tr a b)
    obtain ⟨v, e1, e2⟩ := h2.get hi
    exact ⟨_, xs, _, v, rfl, rfl, h1, atI_nat e1, q v H2 (G.rf (G.ok2 b)) e2⟩
theorem et_test {b : Bool} (h : EB G te σ H b) : EvT G (tTest te) σ H b := fun H1 a _ q => h H1 a _ fun v H2 c p => ⟨b, p, q H2 c⟩
theorem et_B {b : Bool} (h : EB G te σ H b) : EvT G (tB te) σ H b := fun H1 a _ q => h H1 a _ fun v H2 c p => ⟨b, p, q H2 c⟩
theorem et_and {a b : Bool} (h1 : EvT G t σ H a) (h2 : a = true → EvT G u σ H b) : EvT G (tAnd t u) σ H (a && b) := fun H1 e Q q => h1 H1 e _ fun H2 e2 => by
  cases a with
  | true =>
    rw [if_pos rfl]
    exact h2 rfl H2 (G.tr e e2) Q fun H3 e3 => q H3 (G.tr e2 e3)
  | false =>
    rw [if_neg (by simp)]
    exact q H2 e2
theorem et_or {a b : Bool} (h1 : EvT G t σ H a) (h2 : a = false → EvT G u σ H b) : EvT G (tOr t u) σ H (a || b) := fun H1 e Q q => h1 H1 e _ fun H2 e2 => by
  cases a with
  | true =>
    rw [if_pos rfl]
    exact q H2 e2
  | false =>
    rw [if_neg (by simp)]
    exact h2 rfl H2 (G.tr e e2) Q fun H3 e3 => q H3 (G.tr e2 e3)
theorem et_not {a : Bool} (h1 : EvT G t σ H a) : EvT G (tNot t) σ H (!a) := fun H1 e _ q => h1 H1 e _ fun H2 e2 => q H2 e2
theorem eb_and {a b : Bool} (h1 : EB G ta σ H a) (h2 : a = true → EB G tb σ H b) : EB G (tAndV ta tb) σ H (a && b) := fun H1 e Q q => h1 H1 e _ fun v H2 e2 p => ⟨a, p, by
  cases a with
  | true =>
    rw [if_pos rfl]
    exact h2 rfl H2 (G.tr e e2) Q fun v H3 e3 p3 => q v H3 (G.tr e2 e3) p3
  | false =>
    rw [if_neg (by simp)]
    exact q _ H2 e2 rfl⟩
theorem eb_not {a : Bool} (h1 : EB G ta σ H a) : EB G (tNotV ta) σ H (!a) := fun H1 e _ q => h1 H1 e _ fun v H2 e2 p => ⟨a, p, q _ H2 e2 rfl⟩
theorem ev_if {b : Bool} (h : EvT G t σ H b) (h1 : b = true → EvP G ta σ H P) (h2 : b = false → EvP G tb σ H P) : EvP G (tIf t ta tb) σ H P := fun H1 e Q q => h H1 e _ fun H2 e2 => by
  cases b with
  | true =>
    rw [if_pos rfl]
    exact h1 rfl H2 (G.tr e e2) Q fun v H3 e3 p => q v H3 (G.tr e2 e3) p
  | false =>
    rw [if_neg (by simp)]
    exact h2 rfl H2 (G.tr e e2) Q fun v H3 e3 p => q v H3 (G.tr e2 e3) p
/-- a call on values -/
theorem ev_cb {r : List V → Hp → VK → Prop} {tas : TA} {PA : List V → Hp → Prop} (h : EvA G tas σ H PA) (hr : ∀ vs H2, G.R H H2 → PA vs H2 → ∀ Q : VK, (∀ v H3, G.R H2 H3 → P v H3 → Q v H3) → r vs H2 Q) : EvP G (tCB r tas) σ H P := fun H1 a Q q =>
  h H1 a _ fun vs H2 b p => hr vs H2 (G.tr a b) p Q fun v H3 c p3 => q v H3 (G.tr b c) p3
/-- a def's call -/
theorem ev_call {sp : Sp} {dvs : List V} {E : XK} {tas : TA} {PA : List V → Hp → Prop} (h : EvA G tas σ H PA) (hs : ∀ vs H2, G.R H H2 → PA vs H2 → ∀ Q : VK, (∀ v H3, G.R H2 H3 → P v H3 → Q v H3) → sp (vs ++ dvs) H2 Q E) : EvP G (tCall sp dvs E tas) σ H P := fun H1 a Q q =>
  h H1 a _ fun vs H2 b p => hs vs H2 (G.tr a b) p Q fun v H3 c p3 => q v H3 (G.tr b c) p3
/-! ### statements -/
variable {D : Ends} {tu tw tz : TS} {g : TG}
theorem s_asg {i : Nat} (ok : G.Ok H) (h : EvP G te σ H P) (k : ∀ v H1, G.R H H1 → P v H1 → D.nx (σ.set i (some v)) H1) : tAsg te (gName i) D σ H := h H (G.rf ok) _ fun v H1 a p => k v H1 a p
theorem q_asg {i : Nat} (ok : G.Ok H) (h : EvP G te σ H P) (k : ∀ v H1, G.R H H1 → P v H1 → tz D (σ.set i (some v)) H1) : tSeq (tAsg te (gName i)) tz D σ H := s_asg (D := { D with nx := tz D }) ok h k
theorem s_ret (ok : G.Ok H) (h : EvP G te σ H P) (k : ∀ v H1, G.R H H1 → P v H1 → D.rt v H1) : tRet te D σ H := h H (G.rf ok) _ k
theorem s_if {b : Bool} (ok : G.Ok H) (h : EvT G t σ H b) (h1 : b = true → ∀ H1, G.R H H1 → tu D σ H1) (h2 : b = false → ∀ H1, G.R H H1 → tw D σ H1) : tIfS t tu tw D σ H := h H (G.rf ok) _ fun H1 a => by
  cases b with
  | true =>
    rw [if_pos rfl]
    exact h1 rfl H1 a
  | false =>
    rw [if_neg (by simp)]
    exact h2 rfl H1 a
theorem q_if {b : Bool} (ok : G.Ok H) (h : EvT G t σ H b) (h1 : b = true → ∀ H1, G.R H H1 → tu { D with nx := tz D } σ H1) (h2 : b = false → ∀ H1, G.R H H1 → tw { D with nx := tz D } σ H1) : tSeq (tIfS t tu tw) tz D σ H := s_if (D := { D with nx := tz D }) ok h h1 h2
/-- an if without else -/
theorem q_when {b : Bool} (ok : G.Ok H) (h : EvT G t σ H b) (h1 : b = true → ∀ H1, G.R H H1 → tu { D with nx := tz D } σ H1) (h2 : b = false → ∀ H1, G.R H H1 → tz D σ H1) : tSeq (tIfS t tu tNext) tz D σ H := s_if (D := { D with nx := tz D }) ok h h1 h2
theorem s_when {b : Bool} (ok : G.Ok H) (h : EvT G t σ H b) (h1 : b = true → ∀ H1, G.R H H1 → tu D σ H1) (h2 : b = false → ∀ H1, G.R H H1 → D.nx σ H1) : tIfS t tu tNext D σ H := s_if ok h h1 h2
theorem s_drop (ok : G.Ok H) (h : EvP G te σ H P) (k : ∀ v H1, G.R H H1 → P v H1 → D.nx σ H1) : tDrop te D σ H := h H (G.rf ok) _ k
theorem q_drop (ok : G.Ok H) (h : EvP G te σ H P) (k : ∀ v H1, G.R H H1 → P v H1 → tz D σ H1) : tSeq (tDrop te) tz D σ H := s_drop (D := { D with nx := tz D }) ok h k
/-- l.append(e), l a list of one's own: what follows is shown at the heap behind -/
theorem s_app {l : Addr} {xs : List V} (ok : G.Ok H) (ha : EvP G ta σ H (fun v _ => v = .ref l)) (h : EvP G te σ H P) (hl : ∀ H1, G.R H H1 → H1 l = some (.lst xs)) (hz : xs.length < 100000) (k : ∀ v H1, G.R H H1 → P v H1 → D.nx σ (upd H1 l (.lst (xs ++ [v])))) :
    tDrop (tBM K "list" rAppend ta (tCons te tNil)) D σ H := ha H (G.rf ok) _ fun v H1 a p => by
  subst p
  exact ⟨Or.inl ⟨rfl, xs, SqL.of (hl H1 a)⟩, h H1 a _ fun v H2 b p => ⟨l, xs, v, rfl, rfl, hl H2 (G.tr a b), Evl.sz_lt hz, k v H2 (G.tr a b) p⟩⟩
theorem q_app {l : Addr} {xs : List V} (ok : G.Ok H) (ha : EvP G ta σ H (fun v _ => v = .ref l)) (h : EvP G te σ H P) (hl : ∀ H1, G.R H H1 → H1 l = some (.lst xs)) (hz : xs.length < 100000) (k : ∀ v H1, G.R H H1 → P v H1 → tz D σ (upd H1 l (.lst (xs ++ [v])))) :
    tSeq (tDrop (tBM K "list" rAppend ta (tCons te tNil))) tz D σ H := s_app (D := { D with nx := tz D }) ok ha h hl hz k
/-! ### sources of walks -/
theorem ei_tup {tl : TE} {ds : List Nk} (h : ED G tl σ H (.tup ds)) : EvI G (iTup K tl) σ H (fun J H2 => ∃ a xs, J = Itt K a ∧ SqT K H2 a xs ∧ NVs K H2 xs ds) := fun H1 a Q q =>
  h H1 a _ fun v H2 b p => by
    cases p with
    | tup h1 h2 => exact ⟨_, rfl, ⟨_, h1.sq⟩, q _ H2 b ⟨_, _, rfl, h1.sq, h2⟩⟩
theorem ei_list {tl : TE} {ds : List Nk} (h : EvP G tl σ H (fun v H2 => ∃ p xs, v = .ref p ∧ SqL K H2 p xs ∧ NVs K H2 xs ds)) : EvI G (iList K tl) σ H (fun J H2 => ∃ a xs, J = Itl K a ∧ SqL K H2 a xs ∧ NVs K H2 xs ds) := fun H1 a Q q =>
  h H1 a _ fun v H2 b p => by
    obtain ⟨l, xs, rfl, h1, h2⟩ := p
    exact ⟨_, rfl, ⟨_, h1⟩, q _ H2 b ⟨_, _, rfl, h1, h2⟩⟩
theorem ei_range {tas : TA} {n : Int} (h : EvA G tas σ H (fun vs _ => vs = [.int n])) (hn : 0 ≤ n ∧ n ≤ 100000) : EvI G (iRng1 tas) σ H (fun J _ => J = Itr 0 n.toNat) := fun H1 a Q q =>
  h H1 a _ fun vs H2 b p => ⟨n, p, by omega, by omega, q _ H2 b rfl⟩
/-! ### targets -/
theorem st_name {i : Nat} {x : V} : StT G (gName i) x σ H (σ.set i (some x)) := fun _ _ _ q => q
theorem st_pair {i j : Nat} {a : Addr} {x y : V} (h : SqT K H a [x, y]) : StT G (gTup K 2 (gCons (gName i) (gCons (gName j) gNil))) (.ref a) σ H ((σ.set i (some x)).set j (some y)) := fun H1 e _ q =>
  ⟨a, [x, y], rfl, (G.tx e).1 _ _ h, rfl, x, [y], rfl, y, [], rfl, rfl, q⟩
end
end Ew
set_option Elab.async false
set_option linter.all false
set_option maxRecDepth 100000
set_option maxHeartbeats 4000000
namespace Ew
open PySem PySem.Spec PyProof.Rows L2
open Evl (Ex)
/-! ### list comprehensions over any walk -/
section
variable {K : PySem.W.Frag} {G : Gw K} {σ : L2.St} {H : Hp} {wi : TI} {g : TG} {tt : TT} {te : TE} {vs : List Nat}
/-- A: what is known of the items so far, behind i turns -/
theorem ev_lc {n : Nat} {src : It → Hp → Prop} (A : Nat → List V → Hp → Prop) (hi : EvI G wi σ H src) (hn : n ≤ 50000)
    (A0 : ∀ H1, A 0 [] H1) (At : ∀ i acc Ha Hb, Tx K Ha Hb → A i acc Ha → A i acc Hb) (Al : ∀ i acc Ha, A i acc Ha → acc.length ≤ i)
    (ht : ∀ J H1, G.R H H1 → src J H1 → ∃ Y, Walk J n (fun H2 => G.R H1 H2) Y ∧ ∀ i H2 x H3, i < n → G.R H1 H2 → Y i H2 x H3 → G.R H2 H3 ∧ ∃ σ2 b, StT G g x (wipe σ vs) H3 σ2 ∧ wipe σ2 vs = wipe σ vs ∧ EvT G tt σ2 H3 b ∧
      (b = true → ∃ P : V → Hp → Prop, EvP G te σ2 H3 P ∧ ∀ v H4 acc, G.R H3 H4 → P v H4 → A i acc H4 → A (i + 1) (acc ++ [v]) H4) ∧ (b = false → ∀ H4 acc, G.R H3 H4 → A i acc H4 → A (i + 1) acc H4)) :
    EvP G (tLc wi g tt te vs) σ H (fun v H2 => ∃ p xs, v = .ref p ∧ H p = none ∧ H2 p = some (.lst xs) ∧ A n xs H2) := by
  intro H1 a Q q
  refine hi H1 a _ fun J H2 b hs => ?_
  obtain ⟨Y, hw, turn⟩ := ht J H2 (G.tr a b) hs
  intro L hL
  have r0 : G.R H2 (upd H2 L (.lst [])) := G.new (G.ok2 b) hL
  refine lc_it hw (fun i H' => G.R H2 H' ∧ ∃ acc, H' L = some (.lst acc) ∧ A i acc H') ⟨r0, [], upd_same, A0 _⟩ (fun i H' _ p => p.1) (fun i x Ha Hb hin p y => ?_) (fun H' p => ?_)
  · obtain ⟨ra, acc, hacc, hA⟩ := p
    obtain ⟨rb, σ2, bb, hst, hwp, htest, hyes, hno⟩ := turn i Ha x Hb hin ra y
    have okb := G.ok2 rb
    refine hst Hb (G.rf okb) _ ⟨hwp, htest Hb (G.rf okb) _ fun Hc rc => ?_⟩
    have hc : Hc L = some (.lst acc) := G.loc (G.tr ra rb) hL rc (G.loc ra hL rb hacc)
    cases bb with
    | true =>
      rw [if_pos rfl]
      obtain ⟨P, hP, hk⟩ := hyes rfl
      refine hP Hc rc _ fun v Hd rd pv => ?_
      have hd : Hd L = some (.lst acc) := G.loc (G.tr (G.tr ra rb) rc) hL rd hc
      have hAd : A i acc Hd := At i acc _ _ (G.tx (G.tr (G.tr rb rc) rd)) hA
      have hA2 := hk v Hd acc (G.tr rc rd) pv hAd
      refine ⟨acc, hd, Evl.sz_lt (by have := Al i acc _ hAd; omega), G.chg (G.tr (G.tr (G.tr ra rb) rc) rd) hL, _, upd_same, At _ _ _ _ (Tx.upd (.inr (by rw [hd]; trivial))) hA2⟩
    | false =>
      rw [if_neg (by simp)]
      exact ⟨G.tr (G.tr ra rb) rc, acc, hc, hno rfl Hc acc rc (At i acc _ _ (G.tx (G.tr rb rc)) hA)⟩
  · obtain ⟨ra, acc, hacc, hA⟩ := p
    exact q (.ref L) H' (G.tr b ra) ⟨L, acc, rfl, G.back (G.tr a b) hL, hacc, hA⟩
/-- data from data: the turn i gives r i, or nothing -/
theorem el_lc {n : Nat} {src : It → Hp → Prop} (r : Nat → Option Nk) (hi : EvI G wi σ H src) (hn : n ≤ 50000)
    (ht : ∀ J H1, G.R H H1 → src J H1 → ∃ Y, Walk J n (fun H2 => G.R H1 H2) Y ∧ ∀ i H2 x H3, i < n → G.R H1 H2 → Y i H2 x H3 → G.R H2 H3 ∧ ∃ σ2, StT G g x (wipe σ vs) H3 σ2 ∧ wipe σ2 vs = wipe σ vs ∧ EvT G tt σ2 H3 (r i).isSome ∧
      ∀ d, r i = some d → ED G te σ2 H3 d) :
    EL G (tLc wi g tt te vs) σ H ((List.range n).filterMap r) := by
  refine (ev_lc (fun i acc H' => NVs K H' acc ((List.range i).filterMap r)) hi hn (fun _ => .nil) (fun i acc Ha Hb e h => h.t e) (fun i acc Ha h => ?_) fun J H1 a hs => ?_).imp fun v H2 _ h => ?_
  · rw [h.len]
    exact Nat.le_trans (List.length_filterMap_le _ _) (by simp)
  · obtain ⟨Y, hw, turn⟩ := ht J H1 a hs
    refine ⟨Y, hw, fun i H2 x H3 hin r2 y => ?_⟩
    obtain ⟨rb, σ2, hst, hwp, htest, hyes⟩ := turn i H2 x H3 hin r2 y
    refine ⟨rb, σ2, _, hst, hwp, htest, fun e => ?_, fun e H4 acc _ h => ?_⟩
    · obtain ⟨d, hd⟩ := Option.isSome_iff_exists.mp e
      refine ⟨_, hyes d hd, fun v H4 acc _ pv h => ?_⟩
      have e2 : (List.range (i + 1)).filterMap r = (List.range i).filterMap r ++ [d] := by
        rw [List.range_succ, List.filterMap_append]
        simp [List.filterMap_cons, hd]
      rw [e2]
      exact h.snoc pv
    · have hn : r i = none := by
        cases q : r i with
        | none => rfl
        | some d => rw [q] at e; cases e
      have e2 : (List.range (i + 1)).filterMap r = (List.range i).filterMap r := by
        rw [List.range_succ, List.filterMap_append]
        simp [List.filterMap_cons, hn]
      rw [e2]
      exact h
  · obtain ⟨p, xs, e, h1, h2, h3⟩ := h
    exact ⟨p, e, h1, xs, h2, h3⟩
theorem range_fm {α β : Type} (f : α → Option β) : ∀ l : List α, (List.range l.length).filterMap (fun i => (l[i]?).bind f) = l.filterMap f
  | [] => rfl
  | a :: l => by
    rw [List.length_cons, List.range_succ_eq_map, List.filterMap_cons, List.filterMap_map]
    have ih := range_fm f l
    have e : ((fun i => (a :: l)[i]?.bind f) ∘ Nat.succ) = fun i => (l[i]?).bind f := by
      funext i
      simp
    rw [e, ih]
    rw [List.filterMap_cons]
    cases h : f a <;> simp [h]
/-- over a tuple of data -/
theorem el_lcT {tl : TE} {ds : List Nk} (f : Nk → Option Nk) (h : ED G tl σ H (.tup ds)) (hn : ds.length ≤ 50000)
    (ht : ∀ (i : Nat) (d : Nk) (x : V) H1, G.R H H1 → ds[i]? = some d → NV K H1 x d → ∃ σ2, StT G g x (wipe σ vs) H1 σ2 ∧ wipe σ2 vs = wipe σ vs ∧ EvT G tt σ2 H1 (f d).isSome ∧ ∀ e, f d = some e → ED G te σ2 H1 e) :
    EL G (tLc (iTup K tl) g tt te vs) σ H (ds.filterMap f) := by
  rw [← range_fm f ds]
  refine el_lc (fun i => (ds[i]?).bind f) (ei_tup h) hn fun J H1 a hs => ?_
  obtain ⟨p, xs, rfl, h1, h2⟩ := hs
  have hl := h2.len
  refine ⟨YAt xs, ?_, fun i H2 x H3 hin r2 y => ?_⟩
  · have w := walk_tup (K := K) (a := p) (xs := xs)
    rw [hl] at w
    exact w.mono (fun H2 r => (G.tx r).1 _ _ h1) fun i H2 x H3 _ _ y => y
  · obtain ⟨rfl, hx⟩ := y
    obtain ⟨d, hd, hv⟩ := h2.getV hx
    obtain ⟨σ2, q1, q2, q3, q4⟩ := ht i d x H3 (G.tr a r2) hd (hv.t (G.tx r2))
    refine ⟨G.rf (G.ok2 r2), σ2, q1, q2, by rw [hd]; exact q3, fun e he => q4 e (by rw [hd] at he; exact he)⟩
/-- over a list of data that stays -/
theorem el_lcL {tl : TE} {ds : List Nk} (f : Nk → Option Nk) (h : EvP G tl σ H (fun v H2 => ∃ p xs, v = .ref p ∧ (∀ H3, G.R H2 H3 → SqL K H3 p xs) ∧ NVs K H2 xs ds)) (hn : ds.length ≤ 50000)
    (ht : ∀ (i : Nat) (d : Nk) (x : V) H1, G.R H H1 → ds[i]? = some d → NV K H1 x d → ∃ σ2, StT G g x (wipe σ vs) H1 σ2 ∧ wipe σ2 vs = wipe σ vs ∧ EvT G tt σ2 H1 (f d).isSome ∧ ∀ e, f d = some e → ED G te σ2 H1 e) :
    EL G (tLc (iList K tl) g tt te vs) σ H (ds.filterMap f) := by
  rw [← range_fm f ds]
  refine el_lc (src := fun J H2 => ∃ a xs, J = Itl K a ∧ (∀ H3, G.R H2 H3 → SqL K H3 a xs) ∧ NVs K H2 xs ds) (fun i => (ds[i]?).bind f) (fun H1 a Q q => h H1 a _ fun v H2 b p => ?_) hn fun J H1 a hs => ?_
  · obtain ⟨l, xs, rfl, h1, h2⟩ := p
    exact ⟨_, rfl, ⟨_, h1 H2 (G.rf (G.ok2 b))⟩, q _ H2 b ⟨_, _, rfl, h1, h2⟩⟩
  obtain ⟨p, xs, rfl, h1, h2⟩ := hs
  have hl := h2.len
  refine ⟨YAt xs, ?_, fun i H2 x H3 hin r2 y => ?_⟩
  · have w := walk_list (K := K) (a := p) (xs := xs)
    rw [hl] at w
    exact w.mono (fun H2 r => h1 H2 r) fun i H2 x H3 _ _ y => y
  · obtain ⟨rfl, hx⟩ := y
    obtain ⟨d, hd, hv⟩ := h2.getV hx
    obtain ⟨σ2, q1, q2, q3, q4⟩ := ht i d x H3 (G.tr a r2) hd (hv.t (G.tx r2))
    refine ⟨G.rf (G.ok2 r2), σ2, q1, q2, by rw [hd]; exact q3, fun e he => q4 e (by rw [hd] at he; exact he)⟩
/-- over range(n) -/
theorem el_lcR {tas : TA} {n : Nat} (f : Nat → Option Nk) (h : EvA G tas σ H (fun vs _ => vs = [.int n])) (hn : n ≤ 50000)
    (ht : ∀ (i : Nat) H1, G.R H H1 → i < n → ∃ σ2, StT G g (.int i) (wipe σ vs) H1 σ2 ∧ wipe σ2 vs = wipe σ vs ∧ EvT G tt σ2 H1 (f i).isSome ∧ ∀ e, f i = some e → ED G te σ2 H1 e) :
    EL G (tLc (iRng1 tas) g tt te vs) σ H ((List.range n).filterMap f) := by
  refine el_lc f (ei_range h ⟨by omega, by omega⟩) hn fun J H1 a hs => ?_
  subst hs
  refine ⟨YFn fun i => .int ((0 : Int) + (i : Nat)), ?_, fun i H2 x H3 hin r2 y => ?_⟩
  · have w := walk_range (lo := 0) (n := ((n : Int)).toNat)
    have e : ((n : Int)).toNat = n := Int.toNat_natCast n
    rw [e] at w ⊢
    exact w.mono (fun _ _ => trivial) fun i H2 x H3 _ _ y => y
  · obtain ⟨rfl, rfl⟩ := y
    show G.R H3 H3 ∧ ∃ σ2, StT G g (.int ((0 : Int) + (i : Nat))) (wipe σ vs) H3 σ2 ∧ _
    rw [Int.zero_add]
    obtain ⟨σ2, q⟩ := ht i H3 (G.tr a r2) hin
    exact ⟨G.rf (G.ok2 r2), σ2, q⟩
end
/-! ### defs, methods by names -/
structure Callee (P : Program) (w : World) (K : PySem.W.Frag) (mg : Str → Option Value) (base : Heap) (x : Str) (k : Nat) (ps : List Str) (sp : Sp) : Prop where
  ex : ∃ f fd, FnOk P w K mg base CX0 k f fd ps sp ∧ mg x = some (.ref f) ∧ PySem.W.keepIn K (.ref f) = true ∧ Binds K fd ps []
theorem Callee.mono {P : Program} {w : World} {K : PySem.W.Frag} {mg : Str → Option Value} {base : Heap} {x : Str} {j k : Nat} {ps : List Str} {sp : Sp} (c : Callee P w K mg base x j ps sp) (h : j ≤ k) : Callee P w K mg base x k ps sp := by
  obtain ⟨f, fd, F, g, kp, b⟩ := c.ex
  exact ⟨f, fd, F.mono h, g, kp, b⟩
structure MCallee (P : Program) (w : World) (K : PySem.W.Frag) (mg : Str → Option Value) (base : Heap) (C : Addr) (m : Str) (k : Nat) (ps : List Str) (sp : Sp) : Prop where
  ex : ∃ f fd, FnOk P w K mg base CX0 k f fd ps sp ∧ Meth K C m f ∧ Binds K fd ps []
  cl : Cls K C
theorem MCallee.mono {P : Program} {w : World} {K : PySem.W.Frag} {mg : Str → Option Value} {base : Heap} {C : Addr} {m : Str} {j k : Nat} {ps : List Str} {sp : Sp} (c : MCallee P w K mg base C m j ps sp) (h : j ≤ k) : MCallee P w K mg base C m k ps sp := by
  obtain ⟨⟨f, fd, F, g, b⟩, cl⟩ := c
  exact ⟨⟨f, fd, F.mono h, g, b⟩, cl⟩
section
variable {X : Cx} {x : Str} {k : Nat} {ps : List Str} {sp : Sp} {p pos apos : Pos} {e o : Expr} {es : List Expr} {t : TA} {ta : TE} {C : Addr} {m : Str}
theorem pe_cal (c : Callee X.prog X.w X.K X.mg X.base x k ps sp) (hr : Room k X.A) (ha : PA X (e :: es) t) (hg : Gl X x := by rfl)
    (hdb : (x == ("__debug__" : Str)) = false := by decide) (he : starEach (e :: es) X.env = (false, eval e X.env) :: starEach es X.env := by rfl) (hpl : (backTo pos (starEach es X.env)).any (·.1) = false := by rfl) :
    PE X (.Call (.Name x p) (e :: es) [] pos) (tCall sp [] E0 t) := by
  obtain ⟨f, fd, F, g, kp, b⟩ := c.ex
  exact pe_call F hr hg g kp b .nil pass0 ha hdb he hpl
theorem pe_mcal (ho : PE X o ta) (c : MCallee X.prog X.w X.K X.mg X.base C m k ps sp) (hr : Room k X.A) (ha : PA X (e :: es) t) {pl : Sem Bool}
    (hst : starEach (e :: es) X.env = (false, eval e X.env) :: starEach es X.env := by rfl) (hpl : (backTo pos (starEach es X.env)).any (·.1) = false := by rfl)
    (ht : eval (.Call (.Attribute o m apos) (e :: es) [] pos) X.env = (do
      let ov ← eval o X.env
      standAt apos.atName
      let (f, first) ← holding [ov] (getMethod ov m pl)
      callWith pos f first (backTo pos (starEach (e :: es) X.env)) (backToKw pos (keywordEach [] X.env))) := by rfl) :
    PE X (.Call (.Attribute o m apos) (e :: es) [] pos) (tMeth C m sp [] E0 ta t) := by
  obtain ⟨f, fd, F, g, b⟩ := c.ex
  exact pe_meth ho c.cl g F hr b .nil pass0 ha hst hpl ht
end
end Ew
set_option Elab.async false
set_option linter.all false
set_option maxRecDepth 100000
set_option maxHeartbeats 4000000
namespace Ew
open PySem PySem.Spec PyProof.Rows L2
open Evl (Ex)
/-! ### dicts whose keys are tuples, nested -/
abbrev Xs := List (Nk × Addr × Value)
/-- the dict at d, its entries as they are -/
def dnE (P : Program) (w : World) (d : Addr) (ep : Nat) (xs : Xs) : HO := .ext fun h => ∃ o es, h.get? d = some o ∧ o.ExactDict ∧ o.data = .dict es ep ∧ es.toList = xs.map (entryOfKey (nestedKind P w)) ∧ (xs.map (·.1)).Nodup
/-- as it is made -/
abbrev dnO (P : Program) (w : World) (d : Addr) (xs : Xs) : HO := dnE P w d 0 xs
theorem dnE_ok {P : Program} {w : World} {H : Hp} {h : Heap} {d : Addr} {xs : Xs} {o : Obj} {es : Array DictEntry} {ep : Nat} (h1 : h.get? d = some o) (h2 : o.ExactDict) (h3 : o.data = .dict es ep) (h4 : es.toList = xs.map (entryOfKey (nestedKind P w))) (h5 : (xs.map (·.1)).Nodup) :
    ObjOk P w H h d (dnE P w d ep xs) := ⟨⟨o, es, h1, h2, h3, h4, h5⟩, ⟨o, h1⟩, fun _ _ ⟨o, es, e, r⟩ k => ⟨o, es, k o e, r⟩⟩
theorem dnO_ok {P : Program} {w : World} {H : Hp} {h : Heap} {d : Addr} {xs : Xs} {o : Obj} {es : Array DictEntry} (h1 : h.get? d = some o) (h2 : o.ExactDict) (h3 : o.data = .dict es 0) (h4 : es.toList = xs.map (entryOfKey (nestedKind P w))) (h5 : (xs.map (·.1)).Nodup) :
    ObjOk P w H h d (dnO P w d xs) := dnE_ok h1 h2 h3 h4 h5
def epAt (h : Heap) (d : Addr) : Nat := match h.get? d with
  | some o => (match o.data with
    | .dict _ ep => ep
    | _ => 0)
  | none => 0
theorem epAt_eq {h : Heap} {d : Addr} {o : Obj} {es : Array DictEntry} {ep : Nat} (h1 : h.get? d = some o) (h3 : o.data = .dict es ep) : epAt h d = ep := by
  simp only [epAt, h1, h3]
abbrev DRel (K : PySem.W.Frag) (H : Hp) : List (Nk × V) → Xs → Prop := Paired fun p q => p.1 = q.1 ∧ NV K H (.ref q.2.1) p.1 ∧ p.1.depth ≤ 8 ∧ RelV p.2 q.2.2
/-- at d stands a dict of the pairs kvs -/
structure DN (P : Program) (w : World) (K : PySem.W.Frag) (H : Hp) (d : Addr) (kvs : List (Nk × V)) : Prop where
  len : kvs.length ≤ sizeLine
  sys : (d == sysModules) = false
  ex : ∃ xs ep, DRel K H kvs xs ∧ H d = some (dnE P w d ep xs)
theorem DRel.tx {K : PySem.W.Frag} {H H' : Hp} (e : Tx K H H') {kvs : List (Nk × V)} {xs : Xs} (r : DRel K H kvs xs) : DRel K H' kvs xs := L2.Paired.mapP r fun _ _ z => ⟨z.1, z.2.1.t e, z.2.2⟩
theorem DN.mono {P : Program} {w : World} {K : PySem.W.Frag} {H H' : Hp} {d : Addr} {kvs : List (Nk × V)} (h : DN P w K H d kvs) (e : Tx K H H') (k : ∀ o, H d = some o → H' d = some o) : DN P w K H' d kvs := by
  obtain ⟨h1, h2, xs, ep, h3, h4⟩ := h
  exact ⟨h1, h2, xs, ep, h3.tx e, k _ h4⟩
theorem DN.ex' {P : Program} {w : World} {K : PySem.W.Frag} {H H' : Hp} {d : Addr} {kvs : List (Nk × V)} (h : DN P w K H d kvs) (e : Ex H H') : DN P w K H' d kvs := h.mono (Tx.ex e) (e d)
theorem DRel.val {K : PySem.W.Frag} {H : Hp} {kvs : List (Nk × V)} {xs : Xs} (r : DRel K H kvs xs) (k : Nk) : RelO (valV kvs k) ((atKey xs k).map (·.2)) := by
  induction r with
  | nil => exact True.intro
  | @cons p q ps qs h t ih =>
    obtain ⟨h1, _, _, h2⟩ := h
    by_cases e : p.1 = k
    · have b : atKey (q :: qs) k = some q.2 := by simp [atKey, List.find?_cons, h1.symm.trans e]
      rw [valV_pos e, b]
      exact h2
    · have b : atKey (q :: qs) k = atKey qs k := by
        have e' : ¬ q.1 = k := fun z => e (h1.trans z)
        simp [atKey, List.find?_cons, e']
      rw [valV_neg e, b]
      exact ih
theorem DRel.put {K : PySem.W.Frag} {H : Hp} {kvs : List (Nk × V)} {xs : Xs} (r : DRel K H kvs xs) (k : Nk) {b : Addr} {y : V} {u : Value} (hb : NV K H (.ref b) k) (hd : k.depth ≤ 8) (ry : RelV y u) : DRel K H (putK kvs k y) (storedH xs k b u) := by
  have e : (kvs.any fun kv => decide (kv.1 = k)) = (atKey xs k).isSome := by
    rw [valV_any, (r.val k).isSome_eq, Option.isSome_map]
  unfold putK storedH
  rw [e]
  by_cases q : (atKey xs k).isSome = true
  · rw [if_pos q, if_pos q]
    clear q e
    induction r with
    | nil => exact .nil
    | @cons p q ps qs h t ih =>
      rw [List.map_cons, List.map_cons]
      refine .cons ?_ ih
      obtain ⟨h1, h2, h3, h4⟩ := h
      unfold putAt
      by_cases e : p.1 = k
      · rw [if_pos e, if_pos (h1.symm.trans e)]
        exact ⟨h1, h2, h3, ry⟩
      · rw [if_neg e, if_neg (fun z => e (h1.trans z))]
        exact ⟨h1, h2, h3, h4⟩
  · rw [if_neg q, if_neg q]
    exact Paired.snoc r ⟨rfl, hb, hd, ry⟩
section
variable {X : Cx} {pins : List (Addr × Obj)} {σ : L2.St} {H : Hp} {s : Shared} {d : Addr} {kvs : List (Nk × V)}
theorem NV.key (I : Inv X pins σ H s) {k : Nk} {b : Addr} (h : NV X.K H (.ref b) k) (hd : k.depth ≤ 8) : (nestedKind X.prog X.w).is s.heap k b := ⟨NV.is I k (.ref b) (.ref b) h rfl, hd⟩
/-- the dict at the library's level -/
theorem dn_of (I : Inv X pins σ H s) (h : DN X.prog X.w X.K H d kvs) : ∃ xs ep, DRel X.K H kvs xs ∧ H d = some (dnE X.prog X.w d ep xs) ∧ s.heap.DictOfH (nestedKind X.prog X.w) d xs := by
  obtain ⟨_, _, xs, ep, r, hd⟩ := h
  obtain ⟨⟨o, es, h1, h2, h3, h4, h5⟩, _⟩ := (show ObjOk X.prog X.w H s.heap d (dnE X.prog X.w d ep xs) from I.hok d _ hd)
  refine ⟨xs, ep, r, hd, o, es, ep, h1, h2, h3, h4, fun x hx => ?_, h5⟩
  have all : ∀ {l : List (Nk × V)} {m : Xs}, DRel X.K H l m → ∀ x ∈ m, (nestedKind X.prog X.w).is s.heap x.1 x.2.1 := by
    intro l m q
    induction q with
    | nil => intro x hx; exact nomatch hx
    | @cons p q ps qs hq t ih =>
      intro x hx
      rcases List.mem_cons.mp hx with e | hx
      · subst e
        have hq1 := hq.1
        have h2 := hq.2.1
        have h3 := hq.2.2.1
        rw [hq1] at h2 h3
        exact h2.key I h3
      · exact ih x hx
  exact all r x hx
theorem dn_new (I : Inv X pins σ H s) {xs : Xs} {h' : Heap} {t' : Nat} (h : DN X.prog X.w X.K H d kvs) (hm : h'.DictOfH (nestedKind X.prog X.w) d xs) (hs : Heap.SameBut d s.heap h') : Inv X pins σ (upd H d (dnE X.prog X.w d (epAt h' d) xs)) { s with heap := h', toks := t' } := by
  obtain ⟨_, _, xs0, _, _, hd⟩ := h
  obtain ⟨o, es, ep, h1, h2, h3, h4, _, h5⟩ := hm
  rw [epAt_eq h1 h3]
  exact d_write I (by rw [hd]; trivial) hs ⟨o, h1⟩ (dnE_ok h1 h2 h3 h4 h5)
theorem dn_mut (h : DN X.prog X.w X.K H d kvs) : Mut (H d) := by
  obtain ⟨_, _, xs0, _, _, hd⟩ := h
  rw [hd]
  trivial
theorem dn_at (I : Inv X pins σ H s) (h : DN X.prog X.w X.K H d kvs) : s.TypeIs (.ref d) "dict" ∧ ∀ a, Value.ref d = .ref a → ∃ ob, s.heap.get? a = some ob ∧ ob.dict = none := by
  obtain ⟨xs, _, _, _, o, es, ep, h1, h2, _⟩ := dn_of I h
  refine ⟨⟨o, h1, h2.1⟩, fun a e => ?_⟩
  cases e
  exact ⟨o, h1, h2.2.1⟩
end
section
variable {X : Cx} {e o i value : Expr} {pos pos' apos cpos : Pos} {td ty tv : TE}
/-! ### {}, d[k], k in d, d[k] = v -/
def tDNewN (P : Program) (w : World) (K : PySem.W.Frag) : TE := fun _ H Q => ∀ p ob, H p = none → DN P w K (upd H p ob) p [] → Q (.ref p) (upd H p ob)
theorem pe_dnewN : PE X (.Dict [] [] pos) (tDNewN X.prog X.w X.K) := by
  refine ⟨fun pins s σ H Q I h => wpAny_Dict_empty ?_⟩
  have hf : H s.heap.objs.size = none := I.hok.fresh (Nat.le_refl _)
  refine ⟨.ref s.heap.objs.size, upd H s.heap.objs.size (dnO X.prog X.w s.heap.objs.size []), I.laid (t' := s.toks) (fun _ _ q => Heap.get?_push_of_some _ q) (Nat.le_refl _) ?_, rfl, ?_⟩
  · exact dnO_ok (Heap.get?_push_size _ rfl) ⟨rfl, rfl, rfl⟩ rfl rfl List.nodup_nil
  · exact h _ _ hf ⟨Nat.zero_le _, beq_eq_false_iff_ne.mpr (Ne.symm (Nat.ne_of_lt I.big)), [], 0, .nil, upd_same⟩
/-- what the dict at a holds at the key y -/
def NGet (P : Program) (w : World) (K : PySem.W.Frag) (H : Hp) (d : Addr) (y : V) (r : Option V) : Prop := ∃ kvs k b, DN P w K H d kvs ∧ y = .ref b ∧ NV K H y k ∧ k.depth ≤ 8 ∧ r = valV kvs k
def tNGet (P : Program) (w : World) (K : PySem.W.Frag) (td ty : TE) : TE := fun σ H Q => td σ H fun x H1 => ty σ H1 fun y H2 => ∃ a v, x = .ref a ∧ NGet P w K H2 a y (some v) ∧ Q v H2
theorem room8 {A : Around} (hu : A.units + 64 < cLine) : A.in1.units + 8 < cLine := by
  show A.units + 1 + 8 < cLine
  omega
theorem pe_ngetI (hu : X.A.units + 64 < cLine) (ho : PE X o td) (hi : PE X i ty) (hs : NoSl i) : PE X (.Subscript o i pos) (tNGet X.prog X.w X.K td ty) := by
  refine ⟨fun pins s σ H Q I h => subD_of PySem.F.slot_dict_getitem.lookup hs (thn (ho.run pins s σ H _ I h) fun u s1 ⟨x, H1, I1, rx, q1⟩ => thn (hi.run pins s1 σ H1 _ I1 q1) fun iv s2 ⟨y, H2, I2, ry, a, v, ex, g, q2⟩ => ?_)⟩
  obtain ⟨kvs, k, b, hd, ey, hk, hk8, er⟩ := g
  subst ex ey
  cases rx
  cases ry
  obtain ⟨xs, ep, rel, _, hm⟩ := dn_of I2 hd
  refine ⟨(dn_at I2 hd).1, ?_⟩
  obtain ⟨w', hw, rw'⟩ := RelO.some_of (v := v) (o := (atKey xs k).map (·.2)) (by rw [er]; exact rel.val k)
  obtain ⟨p, hp, hp2⟩ := Option.map_eq_some_iff.mp hw
  refine wpAny_getItem_heap (room8 hu) (hk.key I2 hk8) hm hp ?_
  rw [hp2]
  exact ⟨v, H2, I2.tok _, rw', q2⟩
def tNIn (P : Program) (w : World) (K : PySem.W.Frag) (ty td : TE) : TE := fun σ H Q => ty σ H fun y H1 => td σ H1 fun x H2 => ∃ a ov, x = .ref a ∧ NGet P w K H2 a y ov ∧ Q (.bl ov.isSome) H2
theorem pc_nin (hu : X.A.units + 64 < cLine) (hi : PE X i ty) (ho : PE X o td) : PC X .In i o (tNIn X.prog X.w X.K ty td) := by
  refine ⟨fun pins s σ H Q I h => thn (hi.run pins s σ H _ I h) fun iv s1 ⟨y, H1, I1, ry, q1⟩ => thn (ho.run pins s1 σ H1 _ I1 q1) fun u s2 ⟨x, H2, I2, rx, a, ov, ex, g, q2⟩ => ?_⟩
  obtain ⟨kvs, k, b, hd, ey, hk, hk8, er⟩ := g
  subst ex ey
  cases rx
  cases ry
  obtain ⟨xs, ep, rel, _, hm⟩ := dn_of I2 hd
  refine wpAny_in_heap (room8 hu) (hk.key I2 hk8) hd.sys hm ?_
  have e1 : (atKey xs k).isSome = ov.isSome := by
    rw [er, (rel.val k).isSome_eq, Option.isSome_map]
  rw [e1]
  exact ⟨.bl _, H2, I2.tok _, rfl, q2⟩
/-- d[y] = v: ob is the dict's object behind it -/
def sNPut (P : Program) (w : World) (K : PySem.W.Frag) (td ty tv : TE) : TS := fun D σ H => tv σ H fun v H1 => td σ H1 fun x H2 => ty σ H2 fun y H3 => ∃ d kvs k b, x = .ref d ∧ y = .ref b ∧ DN P w K H3 d kvs ∧ NV K H3 y k ∧ k.depth ≤ 8 ∧ kvs.length < sizeLine ∧
  ∀ ob, DN P w K (upd H3 d ob) d (putK kvs k v) → D.nx σ (upd H3 d ob)
theorem dn_put {K : PySem.W.Frag} {P : Program} {w : World} {H : Hp} {d b : Addr} {kvs : List (Nk × V)} {k : Nk} {v : V} {r : Value} {xs : Xs} {ep ep' : Nat} (hd : DN P w K H d kvs) (rel : DRel K H kvs xs) (hx : H d = some (dnE P w d ep xs)) (hk : NV K H (.ref b) k) (hk8 : k.depth ≤ 8) (hl : kvs.length < sizeLine) (rv : RelV v r) :
    DN P w K (upd H d (dnE P w d ep' (storedH xs k b r))) d (putK kvs k v) :=
  ⟨Nat.le_trans (length_putK _ _ _) hl, hd.sys, _, ep', (rel.put k hk hk8 rv).tx (Tx.upd (.inr (by rw [hx]; trivial))), upd_same⟩
theorem ps_nput (hu : X.A.units + 64 < cLine) (ho : PE X o td) (hi : PE X i ty) (hv : PE X value tv) (hs : swapsWith value (some (.Subscript o i pos')) pos.line X.env = pure false) :
    PS X (.Assign [.Subscript o i pos'] value pos) (sNPut X.prog X.w X.K td ty tv) := by
  refine ⟨fun pins s σ H D I h => wpAny_Assign_Subscript (thn (hv.run pins s σ H _ I h) fun r s1 ⟨v, H1, I1, rv, q1⟩ => thn (ho.run pins s1 σ H1 _ I1 q1) fun u s2 ⟨x, H2, I2, rx, q2⟩ => thn (hi.run pins s2 σ H2 _ I2 q2) fun iv s3 ⟨y, H3, I3, ry, q3⟩ => ?_) hs⟩
  obtain ⟨d, kvs, k, b, ex, ey, hd, hk, hk8, hl, q⟩ := q3
  subst ex ey
  cases rx
  cases ry
  obtain ⟨xs, ep, rel, hx, hm⟩ := dn_of I3 hd
  refine wpAny_setItem_heap (hsz := by rw [← rel.length]; exact hd.len) (room8 hu) (hk.key I3 hk8) hm fun h' hm' hs' => ?_
  exact ⟨σ, _, dn_new I3 hd hm' hs', q _ (dn_put hd rel hx hk hk8 hl rv)⟩
/-! ### methods of such dicts -/
def tNM (P : Program) (w : World) (K : PySem.W.Frag) (r : V → List V → Hp → VK → Prop) (to : TE) (t : TA) : TE := fun σ H Q => to σ H fun x H1 => (∃ d kvs, x = .ref d ∧ DN P w K H1 d kvs) ∧ t σ H1 fun xs H2 => r x xs H2 Q
def tNM0 (P : Program) (w : World) (K : PySem.W.Frag) (r : V → List V → Hp → VK → Prop) (to : TE) : TE := fun σ H Q => to σ H fun x H1 => (∃ d kvs, x = .ref d ∧ DN P w K H1 d kvs) ∧ r x [] H1 Q
variable {es : List Expr} {to : TE} {t : TA} {name : Str} {id : String} {r : V → List V → Hp → VK → Prop}
theorem pe_nm (slot : Slot "dict" name id) (hty : typeOf (.builtin id) = pure (.type "method_descriptor")) (hm : MtR X id r) (ho : PE X o to) (ha : PA X (e :: es) t)
    (hbase : attributeBase o name X.env (eval o X.env) = eval o X.env := by rfl)
    (hfew : ((backTo cpos (starEach (e :: es) X.env)).all (fun x => !x.1) && (backToKw cpos (keywordEach [] X.env)).all (fun x => x.1.isSome)
      && decide ((e :: es).length + ([] : List Keyword).length + (if ([] : List Keyword).isEmpty then 0 else 1) < 30)) = true := by rfl)
    (hline : (apos.endLine == cpos.line) = true := by rfl) (hs : starEach (e :: es) X.env = (false, eval e X.env) :: starEach es X.env := by rfl) (hplain : (backTo cpos (starEach es X.env)).any (·.1) = false := by rfl) :
    PE X (.Call (.Attribute o name apos) (e :: es) [] cpos) (tNM X.prog X.w X.K r to t) := by
  refine ⟨fun pins s σ H Q I h => wpAny_Call_method_late hbase hfew hline rfl (thn (ho.run pins s σ H _ I h) fun v s1 ⟨x, H1, I1, r1, ⟨d, kvs, ex, hd⟩, q1⟩ => ?_)⟩
  subst ex
  cases r1
  obtain ⟨h1, h2⟩ := dn_at I1 hd
  refine ⟨"dict", id, PySem.F.plainAttrs_dict, slot, hty, h1, h2, ?_⟩
  have hA := ha.run cpos pins s1 σ H1 _ I1 q1
  rw [hs] at hA ⊢
  refine Calls.callWith_builtin (by show (false || (backTo cpos (starEach es X.env)).any (·.1)) = false; rw [hplain] <;> rfl) (Calls.evalArgs_plain ?_)
  exact thn hA fun us s2 ⟨vs, H2, I2, r2, q2⟩ => hm pins s2 σ H2 (.ref d) vs _ us Q I2 rfl r2 q2
theorem pe_nm0 (slot : Slot "dict" name id) (hty : typeOf (.builtin id) = pure (.type "method_descriptor")) (hm : MtR X id r) (ho : PE X o to)
    (hbase : attributeBase o name X.env (eval o X.env) = eval o X.env := by rfl) (hline : (apos.endLine == cpos.line) = true := by rfl) : PE X (.Call (.Attribute o name apos) [] [] cpos) (tNM0 X.prog X.w X.K r to) := by
  refine ⟨fun pins s σ H Q I h => wpAny_Call_method0_late hbase hline (thn (ho.run pins s σ H _ I h) fun v s1 ⟨x, H1, I1, r1, ⟨d, kvs, ex, hd⟩, q1⟩ => ?_)⟩
  subst ex
  cases r1
  obtain ⟨h1, h2⟩ := dn_at I1 hd
  exact ⟨"dict", id, PySem.F.plainAttrs_dict, slot, hty, h1, h2, Calls.callWith_builtin rfl (PySem.evalArgs_none (hm pins s1 σ H1 (.ref d) [] _ [] Q I1 rfl .nil q1))⟩
/-- d.get(k), d.get(k, x) -/
def rNGet (P : Program) (w : World) (K : PySem.W.Frag) : V → List V → Hp → VK → Prop := fun x xs H Q => ∃ d y ov, x = .ref d ∧ NGet P w K H d y ov ∧ ((xs = [y] ∧ Q (ov.getD .non) H) ∨ ∃ z, xs = [y, z] ∧ Q (ov.getD z) H)
theorem mt_nget (hu : X.A.units + 64 < cLine) : MtR X "dict.get" (rNGet X.prog X.w X.K) := by
  rintro pins s σ H x xs v us Q I rx rxs ⟨d, y, ov, rfl, ⟨kvs, k, b, hd, rfl, hk, hk8, er⟩, h⟩
  cases rx
  obtain ⟨ys, ep, rel, hx, hm⟩ := dn_of I hd
  have rv := rel.val k
  rw [← er] at rv
  rcases h with ⟨rfl, q⟩ | ⟨z, rfl, q⟩
  · obtain ⟨u, rfl, ru⟩ := vals1 rxs
    cases ru
    refine get_keyed (kvs := pairsH ys) (room8 hu) (hk.key I hk8) hd.sys ⟨ys, hm, rfl⟩ ?_
    rw [valueAt_pairsH]
    exact ⟨_, H, I.tok _, rv.getD (show L2.RelV .non Value.none from rfl), q⟩
  · obtain ⟨u, u2, rfl, ru, rz⟩ := vals2 rxs
    cases ru
    refine getOr_keyed (kvs := pairsH ys) (room8 hu) (hk.key I hk8) hd.sys ⟨ys, hm, rfl⟩ ?_
    rw [valueAt_pairsH]
    exact ⟨_, H, I.tok _, rv.getD rz, q⟩
/-- d.setdefault(k, x) -/
def rNSetd (P : Program) (w : World) (K : PySem.W.Frag) : V → List V → Hp → VK → Prop := fun x xs H Q => ∃ d kvs k b z, x = .ref d ∧ xs = [.ref b, z] ∧ DN P w K H d kvs ∧ NV K H (.ref b) k ∧ k.depth ≤ 8 ∧ kvs.length < sizeLine ∧
  (∀ v, valV kvs k = some v → Q v H) ∧ (valV kvs k = none → ∀ ob, DN P w K (upd H d ob) d (putK kvs k z) → Q z (upd H d ob))
theorem mt_nsetd (hu : X.A.units + 64 < cLine) : MtR X "dict.setdefault" (rNSetd X.prog X.w X.K) := by
  rintro pins s σ H x xs v us Q I rx rxs ⟨d, kvs, k, b, z, rfl, rfl, hd, hk, hk8, hl, q1, q2⟩
  cases rx
  obtain ⟨u, u2, rfl, ru, rz⟩ := vals2 rxs
  cases ru
  obtain ⟨ys, ep, rel, hx, hm⟩ := dn_of I hd
  have rv := rel.val k
  refine call_setdefault_heap (hsz := by rw [← rel.length]; exact hd.len) (room8 hu) (hk.key I hk8) hd.sys hm (fun p hp => ?_) fun hn h' hm' hs' => ?_
  · rw [hp] at rv
    cases ev : valV kvs k with
    | none => rw [ev] at rv; exact rv.elim
    | some v0 =>
      rw [ev] at rv
      exact ⟨v0, H, I.tok _, rv, q1 v0 ev⟩
  · rw [hn] at rv
    cases ev : valV kvs k with
    | some v0 => rw [ev] at rv; exact rv.elim
    | none => exact ⟨z, _, dn_new I hd hm' hs', rz, q2 ev _ (dn_put hd rel hx hk hk8 hl rz)⟩
/-- len(d) -/
def rNLen (P : Program) (w : World) (K : PySem.W.Frag) : List V → Hp → VK → Prop := fun xs H Q => ∃ d kvs, xs = [.ref d] ∧ DN P w K H d kvs ∧ Q (.int (kvs.length : Nat)) H
theorem call_nlen : CallR X (.builtin "len") (rNLen X.prog X.w X.K) := by
  rintro pins s σ H xs us Q I r ⟨d, kvs, rfl, hd, q⟩
  obtain ⟨u, rfl, ru⟩ := vals1 r
  cases ru
  obtain ⟨ys, ep, rel, hx, hm⟩ := dn_of I hd
  have hl := rel.length
  have hz := hd.len
  refine call_len_dictH hd.sys hm (by rw [← hl]; rw [sizeLine_eq] at hz; omega) ?_
  rw [← hl]
  exact ⟨.int _, H, I.tok _, ⟨_, rfl⟩, q⟩
end
end Ew
set_option Elab.async false
set_option linter.all false
set_option maxRecDepth 100000
set_option maxHeartbeats 4000000
namespace Ew
open PySem PySem.Spec PyProof.Rows L2
open Evl (Ex)
/-! ### association lists -/
section
variable {κ β γ : Type} [DecidableEq κ]
def aGet (m : List (κ × β)) (k : κ) : Option β := (m.find? fun p => decide (p.1 = k)).map (·.2)
def aPut (m : List (κ × β)) (k : κ) (v : β) : List (κ × β) := if (m.any fun p => decide (p.1 = k)) = true then m.map (fun p => if p.1 = k then (p.1, v) else p) else m ++ [(k, v)]
theorem aGet_nil (k : κ) : aGet ([] : List (κ × β)) k = none := rfl
theorem aGet_pos {p : κ × β} {r : List (κ × β)} {k : κ} (e : p.1 = k) : aGet (p :: r) k = some p.2 := by simp [aGet, List.find?_cons, e]
theorem aGet_neg {p : κ × β} {r : List (κ × β)} {k : κ} (e : ¬ p.1 = k) : aGet (p :: r) k = aGet r k := by simp [aGet, List.find?_cons, e]
theorem any_aGet (k : κ) : ∀ m : List (κ × β), (m.any fun p => decide (p.1 = k)) = (aGet m k).isSome
  | [] => rfl
  | p :: r => by
    rw [List.any_cons]
    by_cases e : p.1 = k
    · simp [aGet_pos e, e]
    · rw [aGet_neg e, decide_eq_false e, Bool.false_or, any_aGet k r]
theorem aPut_old {m : List (κ × β)} {k : κ} {v w : β} (h : aGet m k = some w) : aPut m k v = m.map (fun p => if p.1 = k then (p.1, v) else p) := by
  unfold aPut
  rw [any_aGet, h]
  exact if_pos rfl
theorem aPut_new {m : List (κ × β)} {k : κ} {v : β} (h : aGet m k = none) : aPut m k v = m ++ [(k, v)] := by
  unfold aPut
  rw [any_aGet, h]
  exact if_neg (by simp)
theorem aGet_map {κ' : Type} [DecidableEq κ'] {f : κ → κ'} (hf : ∀ a b, f a = f b → a = b) (g : β → γ) (k : κ) : ∀ m : List (κ × β), aGet (m.map fun p => (f p.1, g p.2)) (f k) = (aGet m k).map g
  | [] => rfl
  | p :: r => by
    rw [List.map_cons]
    by_cases e : p.1 = k
    · rw [aGet_pos e, aGet_pos (p := (f p.1, g p.2)) (by rw [e])]
      rfl
    · rw [aGet_neg e, aGet_neg (p := (f p.1, g p.2)) (fun z => e (hf _ _ z))]
      exact aGet_map hf g k r
theorem aPut_map {κ' : Type} [DecidableEq κ'] {f : κ → κ'} (hf : ∀ a b, f a = f b → a = b) (g : β → γ) (k : κ) (v : β) (m : List (κ × β)) : aPut (m.map fun p => (f p.1, g p.2)) (f k) (g v) = (aPut m k v).map fun p => (f p.1, g p.2) := by
  unfold aPut
  rw [any_aGet, any_aGet, aGet_map hf g]
  cases h : aGet m k with
  | none => simp
  | some w =>
    simp only [Option.map_some, Option.isSome_some, if_true, List.map_map]
    refine List.map_congr_left fun p _ => ?_
    by_cases e : p.1 = k
    · simp [e]
    · have e' : ¬ f p.1 = f k := fun z => e (hf _ _ z)
      simp [e, e']
theorem aPut_len (m : List (κ × β)) (k : κ) (v : β) : (aPut m k v).length ≤ m.length + 1 := by
  unfold aPut
  split
  · rw [List.length_map]; omega
  · rw [List.length_append]; simp
/-- values told by data -/
abbrev MRel (R : V → β → Prop) : List (κ × V) → List (κ × β) → Prop := Paired fun p q => p.1 = q.1 ∧ R p.2 q.2
theorem MRel.imp {R R' : V → β → Prop} {kvs : List (κ × V)} {m : List (κ × β)} (h : MRel R kvs m) (f : ∀ v d, R v d → R' v d) : MRel R' kvs m := L2.Paired.mapP h fun _ _ z => ⟨z.1, f _ _ z.2⟩
theorem MRel.some {R : V → β → Prop} {kvs : List (κ × V)} {m : List (κ × β)} (h : MRel R kvs m) {k : κ} {d : β} (e : aGet m k = some d) : ∃ v, valV kvs k = some v ∧ R v d := by
  induction h with
  | nil => cases e
  | @cons p q ps qs h t ih =>
    by_cases c : q.1 = k
    · rw [aGet_pos c] at e
      cases e
      exact ⟨p.2, valV_pos (h.1.trans c), h.2⟩
    · rw [aGet_neg c] at e
      rw [valV_neg (fun z => c (h.1.symm.trans z))]
      exact ih e
theorem MRel.none {R : V → β → Prop} {kvs : List (κ × V)} {m : List (κ × β)} (h : MRel R kvs m) {k : κ} (e : aGet m k = none) : valV kvs k = none := by
  induction h with
  | nil => rfl
  | @cons p q ps qs h t ih =>
    by_cases c : q.1 = k
    · rw [aGet_pos c] at e
      cases e
    · rw [aGet_neg c] at e
      rw [valV_neg (fun z => c (h.1.symm.trans z))]
      exact ih e
theorem MRel.any {R : V → β → Prop} {kvs : List (κ × V)} {m : List (κ × β)} (h : MRel R kvs m) (k : κ) : (kvs.any fun p => decide (p.1 = k)) = m.any fun p => decide (p.1 = k) := by
  induction h with
  | nil => rfl
  | cons h t ih => rw [List.any_cons, List.any_cons, ih, h.1]
theorem MRel.put {R : V → β → Prop} {kvs : List (κ × V)} {m : List (κ × β)} (h : MRel R kvs m) (k : κ) {v : V} {d : β} (r : R v d) : MRel R (putK kvs k v) (aPut m k d) := by
  unfold putK aPut
  rw [h.any k]
  by_cases c : (m.any fun p => decide (p.1 = k)) = true
  · rw [if_pos c, if_pos c]
    clear c
    induction h with
    | nil => exact .nil
    | @cons p q ps qs h t ih =>
      rw [List.map_cons, List.map_cons]
      refine .cons ?_ ih
      by_cases e : p.1 = k
      · rw [if_pos e, if_pos (h.1.symm.trans e)]
        exact ⟨h.1, r⟩
      · rw [if_neg e, if_neg (fun z => e (h.1.trans z))]
        exact h
  · rw [if_neg c, if_neg c]
    exact Paired.snoc h ⟨rfl, r⟩
theorem MRel.len {R : V → β → Prop} {kvs : List (κ × V)} {m : List (κ × β)} (h : MRel R kvs m) : kvs.length = m.length := Paired.length h
end
/-- a key of a flat dict as data -/
def kN : Key → Nk
  | .inl i => .num i
  | .inr x => .text x
theorem NV.kV {K : PySem.W.Frag} {H : Hp} {y : V} {k : Key} (h : NV K H y (kN k)) : y = L2.kV k := by
  cases k with
  | inl i => cases h; rfl
  | inr x => cases h; rfl
theorem kN_inj : ∀ a b : Key, kN a = kN b → a = b
  | .inl i, .inl j, e => by cases e; rfl
  | .inl i, .inr j, e => by cases e
  | .inr i, .inl j, e => by cases e
  | .inr i, .inr j, e => by cases e; rfl
/-- at a stands a dict with int and text keys, its values data -/
def DKA (K : PySem.W.Frag) (H : Hp) (a : Addr) (m : List (Key × Nk)) : Prop := ∃ kvs, H a = some (.dK kvs) ∧ MRel (NV K H) kvs m
theorem DKA.mono {K : PySem.W.Frag} {H H' : Hp} {a : Addr} {m : List (Key × Nk)} (h : DKA K H a m) (e : Tx K H H') (k : ∀ o, H a = some o → H' a = some o) : DKA K H' a m := by
  obtain ⟨kvs, h1, h2⟩ := h
  exact ⟨kvs, k _ h1, h2.imp fun _ _ r => r.t e⟩
/-- .. with nested keys -/
def DNA (P : Program) (w : World) (K : PySem.W.Frag) (H : Hp) (a : Addr) (m : List (Nk × Nk)) : Prop := ∃ kvs, DN P w K H a kvs ∧ MRel (NV K H) kvs m
theorem DNA.mono {P : Program} {w : World} {K : PySem.W.Frag} {H H' : Hp} {a : Addr} {m : List (Nk × Nk)} (h : DNA P w K H a m) (e : Tx K H H') (k : ∀ o, H a = some o → H' a = some o) : DNA P w K H' a m := by
  obtain ⟨kvs, h1, h2⟩ := h
  exact ⟨kvs, h1.mono e k, h2.imp fun _ _ r => r.t e⟩
section
variable {K : PySem.W.Frag} {G : Gw K} {σ : L2.St} {H : Hp} {te td ty tz ta tb tc : TE} {a : Addr} {P : V → Hp → Prop}
abbrev EA (G : Gw K) (te : TE) (σ : L2.St) (H : Hp) (a : Addr) : Prop := EvP G te σ H (fun v _ => v = .ref a)
theorem ea_var {i : Nat} (h : σ[i]? = some (some (.ref a))) : EA G (tVar i) σ H a := ev_var h fun _ _ => rfl
theorem ed_dget {m : List (Key × Nk)} {k : Key} {d : Nk} (ha : EA G td σ H a) (hm : ∀ H2, G.R H H2 → DKA K H2 a m) (hk : ED G ty σ H (kN k)) (hg : aGet m k = some d) : ED G (tDGet td ty) σ H d := fun H1 r Q q =>
  ha H1 r _ fun x H2 r2 e => hk H2 (G.tr r r2) _ fun y H3 r3 ky => by
    subst e
    obtain ⟨kvs, h1, h2⟩ := hm H3 (G.tr (G.tr r r2) r3)
    obtain ⟨v, hv, hd⟩ := h2.some hg
    exact ⟨a, v, rfl, .inl ⟨kvs, k, .inl h1, ky.kV, hv.symm⟩, q v H3 (G.tr r2 r3) hd⟩
/-- tuple(a new list of data) -/
theorem ed_tupleL {ds : List Nk} (h : EL G te σ H ds) : ED G (tThen te (kTupF K)) σ H (.tup ds) := fun H1 r Q q =>
  h H1 r _ fun v H2 r2 p => by
    obtain ⟨l, rfl, hn, xs, hl, hv⟩ := p
    exact ⟨l, xs, rfl, SqL.of hl, fun p o hp ho => q _ _ (G.tr r2 (G.new (G.ok2 r2) hp)) (.tup ⟨o, upd_same, ho⟩ (hv.t (G.tx (G.new (G.ok2 r2) hp))))⟩
end
/-! ### the program's data -/
inductive Tm where
  | var (x : Str)
  | val (c : Nk)
  deriving DecidableEq
def Tm.enc : Tm → Nk
  | .var x => .tup [.text "var", .text x]
  | .val c => .tup [.text "value", c]
abbrev Atom := Str × List Tm
def encA (a : Atom) : Nk := .tup [.text a.1, .tup (a.2.map Tm.enc)]
abbrev Rule := List Str × List Atom
def encH (h : List Str) : Nk := .tup (h.map .text)
def encR (r : Rule) : Nk := .tup [encH r.1, .tup (r.2.map encA)]
theorem Tm.enc_inj : ∀ a b : Tm, a.enc = b.enc → a = b
  | .var x, .var y, e => by
    injection e with e
    injection e with _ e
    injection e with e _
    injection e with e
    rw [e]
  | .val x, .val y, e => by
    injection e with e
    injection e with _ e
    injection e with e _
    rw [e]
  | .var x, .val y, e => by
    injection e with e
    injection e with e _
    injection e with e
    exact absurd e (by decide)
  | .val x, .var y, e => by
    injection e with e
    injection e with e _
    injection e with e
    exact absurd e (by decide)
/-! ### the text -/
abbrev FnP (K : PySem.W.Frag) (x qual : Str) (st : Stmt) (f : Addr) (fd : FuncData) : Prop := FunD K x qual (defArgs st) (defBody st) (defScope st) [] [] f fd
theorem mk_ok {P : Program} {w : World} {K : PySem.W.Frag} {mg : Str → Option Value} {base : Heap} {x qual : Str} {st : Stmt} {f : Addr} {fd : FuncData} {N ps : List Str} {k : Nat} {sp : Sp} (F : FnP K x qual st f fd) (S : FnScope N ps (defScope st))
    (len : ∀ vs H Q E, sp vs H Q E → vs.length = ps.length)
    (hbody : ∀ (cdv : Value) (A : Around) (outer : List Env) (s : Shared) (H : Hp) (vs : List V) (Q : VK) (E : XK), Room k (A.deeper (envOfC qual (defScope st) s.heap.objs.size f cdv)) → sp vs H Q E →
      ∃ t, PSs (cxOf CX0 P w K mg base N qual (defScope st) f cdv A outer s H E).nox (defBody st) t ∧ t { nx := fun _ H' => Q .non H', rt := Q } (start N vs) H) : FnOk P w K mg base CX0 (k + 1) f fd ps sp :=
  F.ok S len fun cdv A outer s H vs Q E hr h => by
    obtain ⟨t, h1, h2⟩ := hbody cdv A outer s H vs Q E hr h
    exact ⟨t, h1.nox, h2⟩
/-- the built-ins' names are free -/
structure Txt (mg : Str → Option Value) : Prop where
  f_list : mg "list" = none
  f_len : mg "len" = none
  f_isinstance : mg "isinstance" = none
  f_all : mg "all" = none
  f_tuple : mg "tuple" = none
  f_sorted : mg "sorted" = none
  f_dict : mg "dict" = none
  f_zip : mg "zip" = none
  f_max : mg "max" = none
  f_range : mg "range" = none
  f_repr : mg "repr" = none
  f_enumerate : mg "enumerate" = none
  f_abs : mg "abs" = none
  f_int : mg "int" = none
  f_str : mg "str" = none
  f_bool : mg "bool" = none
end Ew
set_option Elab.async false
set_option linter.all false
set_option maxRecDepth 100000
set_option maxHeartbeats 4000000
namespace Ew
open PySem PySem.Spec PyProof.Rows L2
open Evl (Ex)
/-! ### the rules with the written part told apart (within a comprehension the reading may not speak of its context) -/
section
variable {X : Cx} {P : Program} {w : World} {K : PySem.W.Frag} {a b e o i value : Expr} {es elts : List Expr} {pos pos' apos cpos p tpos : Pos} {ta tb te to td ty tv : TE} {t : TA} {C : Addr} {m name : Str} {id : String} {kk : Nat} {lo hi : Option Expr} {tl th : TO} {tg : Expr}
theorem k_eq (hu : X.A.units + 64 < cLine) (hK : X.K = K := by rfl) : OpR X (compareOp .Eq) (rEqN K) := by subst hK; exact op_eqN hu
theorem k_ne (hu : X.A.units + 64 < cLine) (hK : X.K = K := by rfl) : OpR X (compareOp .NotEq) (rNeN K) := by subst hK; exact op_neN hu
theorem k_ixT (ha : PE X a ta) (hb : PE X b tb) (hs : PlainIx b := by exact fun _ _ => rfl) (hK : X.K = K := by rfl) : PE X (.Subscript a b pos) (tOp (rIxT K) ta tb) := by subst hK; exact pe_ix ix_tup ha hb hs
theorem k_ixL (ha : PE X a ta) (hb : PE X b tb) (hs : PlainIx b := by exact fun _ _ => rfl) (hK : X.K = K := by rfl) : PE X (.Subscript a b pos) (tOp (rIxL K) ta tb) := by subst hK; exact pe_ix ix_list ha hb hs
theorem k_nget (hu : X.A.units + 64 < cLine) (ho : PE X o td) (hi : PE X i ty) (hs : NoSl i := by exact fun _ _ => rfl) (hK : X.K = K := by rfl) (hP : X.prog = P := by rfl) (hw : X.w = w := by rfl) : PE X (.Subscript o i pos) (tNGet P w K td ty) := by subst hK hP hw; exact pe_ngetI hu ho hi hs
theorem k_nin (hu : X.A.units + 64 < cLine) (hi : PE X i ty) (ho : PE X o td) (hK : X.K = K := by rfl) (hP : X.prog = P := by rfl) (hw : X.w = w := by rfl) (h1 : behindInMarks .In o = false := by rfl) : PE X (.Compare i [.In] [o] pos) (tNIn P w K ty td) := by subst hK hP hw; exact pe_cmp (pc_nin hu hi ho) h1
theorem k_dnewN (hK : X.K = K := by rfl) (hP : X.prog = P := by rfl) (hw : X.w = w := by rfl) : PE X (.Dict [] [] pos) (tDNewN P w K) := by subst hK hP hw; exact pe_dnewN
theorem k_nput (hu : X.A.units + 64 < cLine) (ho : PE X o td) (hi : PE X i ty) (hv : PE X value tv) (hs : swapsWith value (some (.Subscript o i pos')) pos.line X.env = pure false := by rfl) (hK : X.K = K := by rfl) (hP : X.prog = P := by rfl) (hw : X.w = w := by rfl) :
    PS X (.Assign [.Subscript o i pos'] value pos) (sNPut P w K td ty tv) := by subst hK hP hw; exact ps_nput hu ho hi hv hs
theorem k_tuple (T : Txt X.mg) (ha : PE X a ta) (hg : Gl X "tuple" := by rfl) (hK : X.K = K := by rfl) (na : starEach [a] X.env = (false, eval a X.env) :: starEach [] X.env := by rfl) : PE X (.Call (.Name "tuple" p) [a] [] pos) (tThen ta (kTupF K)) := by subst hK; exact pe_tupleOfF hg T.f_tuple ha na
theorem k_itup (hl : PE X a ta) (hK : X.K = K := by rfl) : PI X tg a (iTup K ta) := by subst hK; exact pi_tup hl
theorem k_ilist (hl : PE X a ta) (hK : X.K = K := by rfl) : PI X tg a (iList K ta) := by subst hK; exact pi_list hl
theorem k_zip (T : Txt X.mg) (ha : PA X [a, b] t) (hg : Gl X "zip" := by rfl) (hK : X.K = K := by rfl) (hs : starEach [a, b] X.env = (false, eval a X.env) :: starEach [b] X.env := by rfl) (hpl : (backTo pos (starEach [b] X.env)).any (·.1) = false := by rfl) :
    PI X (.Tuple elts kk tpos) (.Call (.Name "zip" p) [a, b] [] pos) (RZ.iZipA K t) := by subst hK; exact RZ.pi_zipA hg T.f_zip ha hs hpl
theorem k_enum (T : Txt X.mg) (ha : PA X [a] t) (hg : Gl X "enumerate" := by rfl) (hK : X.K = K := by rfl) (hs : starEach [a] X.env = [(false, eval a X.env)] := by rfl) :
    PI X (.Tuple elts kk tpos) (.Call (.Name "enumerate" p) [a] [] pos) (iEnum K t) := by subst hK; exact pi_enum hg T.f_enumerate ha hs
theorem k_range (T : Txt X.mg) (ha : PA X [a] t) (hg : Gl X "range" := by rfl) (hs : starEach [a] X.env = [(false, eval a X.env)] := by rfl) : PI X tg (.Call (.Name "range" p) [a] [] pos) (iRng1 t) := pi_range1 hg T.f_range ha hs
theorem k_slT (he : PE X e te) (hl : PO X lo tl) (hu : PO X hi th) (hK : X.K = K := by rfl) : PE X (.Subscript e (.Slice lo hi none p) pos) (tSl (rSlF K) te tl th) := by subst hK; exact pe_slice sl_tupF he hl hu
theorem k_catT (hK : X.K = K := by rfl) : OpR X (binaryOp .Add) (rCatF K) := by subst hK; exact op_catF
theorem k_slL (he : PE X e te) (hl : PO X lo tl) (hu : PO X hi th) (hK : X.K = K := by rfl) : PE X (.Subscript e (.Slice lo hi none p) pos) (tSl (rSlL K) te tl th) := by subst hK; exact pe_slice sl_list he hl hu
theorem k_pgt {n : Nat} {tgs : TGs} (h : PGs X es tgs) (hc : X.calm = true := by rfl) (hn : (assignEach es X.env).length = n := by rfl) (hst : (assignEach es X.env).findIdx? (·.1) = none := by rfl) (hK : X.K = K := by rfl) : PG X (.Tuple es kk pos) (gTup K n tgs) := by subst hK; exact pg_tup hc h hn hst
theorem k_fld (he : PE X e te) (hb : attributeBase e m X.env (eval e X.env) = eval e X.env := by rfl) (hK : X.K = K := by rfl) : PE X (.Attribute e m pos) (tFld K te m) := by subst hK; exact pe_fld he hb
theorem k_append (ho : PE X o to) (ha : PA X [e] t) (hbase : attributeBase o "append" X.env (eval o X.env) = eval o X.env := by rfl)
    (hfew : ((backTo cpos (starEach [e] X.env)).all (fun x => !x.1) && (backToKw cpos (keywordEach [] X.env)).all (fun x => x.1.isSome)
      && decide ([e].length + ([] : List Keyword).length + (if ([] : List Keyword).isEmpty then 0 else 1) < 30)) = true := by rfl)
    (hline : (apos.endLine == cpos.line) = true := by rfl) (hs : starEach [e] X.env = (false, eval e X.env) :: starEach [] X.env := by rfl) (hplain : (backTo cpos (starEach [] X.env)).any (·.1) = false := by rfl) (hK : X.K = K := by rfl) :
    PE X (.Call (.Attribute o "append" apos) [e] [] cpos) (tBM K "list" rAppend to t) := by subst hK; exact pe_bm PySem.F.plainAttrs_list PySem.F.slot_list_append PySem.F.type_list_append mt_append ho ha hbase hfew hline hs hplain
theorem k_popAt (ho : PE X o to) (ha : PA X [e] t) (hbase : attributeBase o "pop" X.env (eval o X.env) = eval o X.env := by rfl)
    (hfew : ((backTo cpos (starEach [e] X.env)).all (fun x => !x.1) && (backToKw cpos (keywordEach [] X.env)).all (fun x => x.1.isSome)
      && decide ([e].length + ([] : List Keyword).length + (if ([] : List Keyword).isEmpty then 0 else 1) < 30)) = true := by rfl)
    (hline : (apos.endLine == cpos.line) = true := by rfl) (hs : starEach [e] X.env = (false, eval e X.env) :: starEach [] X.env := by rfl) (hplain : (backTo cpos (starEach [] X.env)).any (·.1) = false := by rfl) (hK : X.K = K := by rfl) :
    PE X (.Call (.Attribute o "pop" apos) [e] [] cpos) (tBM K "list" rPopAt to t) := by subst hK; exact pe_bm PySem.F.plainAttrs_list PySem.F.slot_list_pop PySem.F.type_list_pop mt_popAt ho ha hbase hfew hline hs hplain
/-- built-ins by their names, the rule at the written part told apart -/
theorem k_cb {x : Str} {r : List V → Hp → VK → Prop} (hm : X.mg x = none) (hc : CallR X (.builtin id) r) (ha : PA X (e :: es) t) (hg : Gl X x := by rfl) (hv : bootBuiltins x = some (.builtin id) := by decide +kernel) (hn : x ≠ "__name__" := by decide) (hdb : (x == ("__debug__" : Str)) = false := by decide)
    (he : starEach (e :: es) X.env = (false, eval e X.env) :: starEach es X.env := by rfl) (hpl : (backTo pos (starEach es X.env)).any (·.1) = false := by rfl) : PE X (.Call (.Name x p) (e :: es) [] pos) (tCB r t) := pe_callB hc hg hm hv ha hn hdb he hpl
theorem k_cty {x : Str} {T : String} {r : List V → Hp → VK → Prop} (hm : X.mg x = none) (hc : CallR X (.type T) r) (ha : PA X (e :: es) t) (hg : Gl X x := by rfl) (hv : bootBuiltins x = some (.type T) := by decide +kernel) (hn : x ≠ "__name__" := by decide) (hdb : (x == ("__debug__" : Str)) = false := by decide)
    (he : starEach (e :: es) X.env = (false, eval e X.env) :: starEach es X.env := by rfl) (hpl : (backTo pos (starEach es X.env)).any (·.1) = false := by rfl) : PE X (.Call (.Name x p) (e :: es) [] pos) (tCB r t) := pe_callTy hc hg hm hv ha hn hdb he hpl
def rLenS (K : PySem.W.Frag) : List V → Hp → VK → Prop := fun xs H Q => ∃ p ys, xs = [.ref p] ∧ (SqL K H p ys ∨ SqT K H p ys) ∧ Q (.int ys.length) H
theorem k_len (hK : X.K = K := by rfl) : CallR X (.builtin "len") (rLenS K) := by subst hK; exact call_len_seq
theorem k_nlen (hK : X.K = K := by rfl) (hP : X.prog = P := by rfl) (hw : X.w = w := by rfl) : CallR X (.builtin "len") (rNLen P w K) := by subst hK hP hw; exact call_nlen
def rListS (K : PySem.W.Frag) : List V → Hp → VK → Prop := fun xs H Q => ∃ p ys, xs = [.ref p] ∧ (SqL K H p ys ∨ SqT K H p ys) ∧ ∀ l, H l = none → Q (.ref l) (upd H l (.lst ys))
theorem k_listS (hK : X.K = K := by rfl) : CallR X (.type "list") (rListS K) := by subst hK; exact call_list_of
theorem k_all (hc : X.calm = true := by rfl) (hK : X.K = K := by rfl) : CallR X (.builtin "all") (rAll K) := by subst hK; exact cr_all hc
theorem k_max (hc : X.calm = true := by rfl) (hK : X.K = K := by rfl) : CallR X (.builtin "max") (rMax K) := by subst hK; exact cr_max hc
theorem k_isi (hK : X.K = K := by rfl) : CallR X (.builtin "isinstance") (rIsi K) := by subst hK; exact call_isi
end
/-! ### what they evaluate to -/
section
variable {K : PySem.W.Frag} {G : Gw K} {σ : L2.St} {H : Hp} {te td ty tz ta tb tc : TE} {a : Addr} {P : V → Hp → Prop} {t : TA}
/-- one argument -/
theorem ea_one {P1 : V → Hp → Prop} (h : EvP G te σ H P1) : EvA G (tCons te tNil) σ H (fun vs H2 => ∃ v, vs = [v] ∧ P1 v H2) := fun H1 r Q q =>
  h H1 r _ fun v H2 r2 p => q [v] H2 r2 ⟨v, rfl, p⟩
end
end Ew
set_option Elab.async false
set_option linter.all false
set_option maxRecDepth 100000
set_option maxHeartbeats 4000000
namespace Ew
open PySem PySem.Spec PyProof.Rows L2
open Evl (Ex)
section
variable {K : PySem.W.Frag} {G : Gw K} {σ : L2.St} {H : Hp} {te td ty tz ta tb tc tl : TE} {a : Addr} {P : V → Hp → Prop} {t tas : TA} {g : TG} {tt : TT} {vs : List Nat}
theorem et_yes : EvT G tYes σ H true := fun H1 a _ q => q H1 (G.rf (G.ok2 a))
/-- over a tuple that tells xs -/
theorem el_lcA {α : Type} {xs : List α} (e : α → Nk) (f : α → Option Nk) (h : ED G tl σ H (.tup (xs.map e))) (hn : xs.length ≤ 50000)
    (ht : ∀ (i : Nat) (c : α) (x : V) H1, G.R H H1 → xs[i]? = some c → NV K H1 x (e c) → ∃ σ2, StT G g x (wipe σ vs) H1 σ2 ∧ wipe σ2 vs = wipe σ vs ∧ EvT G tt σ2 H1 (f c).isSome ∧ ∀ r, f c = some r → ED G te σ2 H1 r) :
    EL G (tLc (iTup K tl) g tt te vs) σ H (xs.filterMap f) := by
  rw [← range_fm f xs]
  refine el_lc (fun i => (xs[i]?).bind f) (ei_tup h) hn fun J H1 a hs => ?_
  obtain ⟨p, us, rfl, h1, h2⟩ := hs
  have hl : us.length = xs.length := by rw [h2.len, List.length_map]
  refine ⟨YAt us, ?_, fun i H2 x H3 hin r2 y => ?_⟩
  · have w := walk_tup (K := K) (a := p) (xs := us)
    rw [hl] at w
    exact w.mono (fun H2 r => (G.tx r).1 _ _ h1) fun i H2 x H3 _ _ y => y
  · obtain ⟨rfl, hx⟩ := y
    obtain ⟨d, hd, hv⟩ := h2.getV hx
    rw [List.getElem?_map] at hd
    cases hc : xs[i]? with
    | none => rw [hc] at hd; cases hd
    | some c =>
      rw [hc] at hd
      cases hd
      obtain ⟨σ2, q1, q2, q3, q4⟩ := ht i c x H3 (G.tr a r2) hc (hv.t (G.tx r2))
      exact ⟨G.rf (G.ok2 r2), σ2, q1, q2, q3, q4⟩
theorem fm_some {α β : Type} (f : α → β) : ∀ xs : List α, xs.filterMap (fun a => some (f a)) = xs.map f
  | [] => rfl
  | a :: xs => by rw [List.filterMap_cons, List.map_cons, fm_some f xs]
/-- .. without a test -/
theorem el_lcB {α : Type} {xs : List α} (e : α → Nk) (f : α → Nk) (h : ED G tl σ H (.tup (xs.map e))) (hn : xs.length ≤ 50000)
    (ht : ∀ (i : Nat) (c : α) (x : V) H1, G.R H H1 → xs[i]? = some c → NV K H1 x (e c) → ∃ σ2, StT G g x (wipe σ vs) H1 σ2 ∧ wipe σ2 vs = wipe σ vs ∧ ED G te σ2 H1 (f c)) :
    EL G (tLc (iTup K tl) g tYes te vs) σ H (xs.map f) := by
  rw [← fm_some f xs]
  refine el_lcA e (fun c => some (f c)) h hn fun i c x H1 r hc hx => ?_
  obtain ⟨σ2, q1, q2, q3⟩ := ht i c x H1 r hc hx
  exact ⟨σ2, q1, q2, et_yes, fun r e => by cases e; exact q3⟩
end
/-! ### environments of terms -/
abbrev EnvT := List (Str × Tm)
def encM (m : EnvT) : List (Key × Nk) := m.map fun p => (Sum.inr p.1, p.2.enc)
def putTm (m : EnvT) : Tm → Tm
  | .var x => (aGet m x).getD (.var x)
  | .val c => .val c
def putT (m : EnvT) (ts : List Tm) : List Tm := ts.map (putTm m)
theorem encM_get (m : EnvT) (x : Str) : aGet (encM m) (.inr x) = (aGet m x).map Tm.enc := aGet_map (f := (Sum.inr : Str → Key)) (fun _ _ e => Sum.inr.inj e) Tm.enc x m
theorem encM_put (m : EnvT) (x : Str) (t : Tm) : aPut (encM m) (.inr x) t.enc = encM (aPut m x t) := aPut_map (f := (Sum.inr : Str → Key)) (fun _ _ e => Sum.inr.inj e) Tm.enc x t m
def Tm.kind : Tm → Nk
  | .var _ => .text "var"
  | .val _ => .text "value"
def Tm.cont : Tm → Nk
  | .var x => .text x
  | .val c => c
theorem Tm.enc_eq (t : Tm) : t.enc = .tup [t.kind, t.cont] := by cases t <;> rfl
def Tm.isVar : Tm → Bool
  | .var _ => true
  | .val _ => false
theorem Tm.kind_var (t : Tm) : decide (t.kind = .text "var") = t.isVar := by
  cases t with
  | var x => exact decide_eq_true rfl
  | val c => exact decide_eq_false fun e => by injection e with e; exact absurd e (by decide)
theorem Tm.kind_val (t : Tm) : decide (t.kind = .text "value") = !t.isVar := by
  cases t with
  | val c => exact decide_eq_true rfl
  | var x => exact decide_eq_false fun e => by injection e with e; exact absurd e (by decide)
theorem Tm.kind_depth (t : Tm) : t.kind.depth ≤ 60 := by cases t <;> simp [Tm.kind, NestedKey.depth]
section
variable {K : PySem.W.Frag} {G : Gw K} {σ : L2.St} {H : Hp} {te td ty tz ta tb tc tl : TE}
theorem ed_kind {t : Tm} {b : Int} (h : ED G te σ H t.enc) : ED G (tOp (rIxT K) te (tC (.int 0))) σ H t.kind := ed_ix (i := 0) (ed_eq h t.enc_eq) ed_int rfl
theorem ed_cont {t : Tm} (h : ED G te σ H t.enc) : ED G (tOp (rIxT K) te (tC (.int 1))) σ H t.cont := ed_ix (i := 1) (ed_eq h t.enc_eq) ed_int rfl
theorem et_isVar {t : Tm} (h : ED G te σ H t.enc) : EvT G (tTest (tOp (rEqN K) (tOp (rIxT K) te (tC (.int 0))) (tC (.str "var")))) σ H t.isVar :=
  et_test (eb_eq (eb_eqN (ed_ix (i := 0) (ed_eq h t.enc_eq) ed_int rfl) ed_str t.kind_depth) t.kind_var)
theorem et_isVal {t : Tm} (h : ED G te σ H t.enc) : EvT G (tTest (tOp (rEqN K) (tOp (rIxT K) te (tC (.int 0))) (tC (.str "value")))) σ H (!t.isVar) :=
  et_test (eb_eq (eb_eqN (ed_ix (i := 0) (ed_eq h t.enc_eq) ed_int rfl) ed_str t.kind_depth) t.kind_val)
end
end Ew
set_option Elab.async false
set_option linter.all false
set_option maxRecDepth 100000
set_option maxHeartbeats 4000000
namespace Ew
open PySem PySem.Spec PyProof.Rows L2
open Evl (Ex)
abbrev N_put_terms : List Str := ["terms", "table", "term"]
theorem sc_put_terms : FnScope N_put_terms ["terms", "table"] (defScope s_put_terms) := ⟨rfl, rfl, rfl, by decide +kernel, rfl, by decide +kernel, by decide +kernel⟩
def spPutTerms (K : PySem.W.Frag) : Sp := fun vs H Q _ => ∃ v a ts m, vs = [v, .ref a] ∧ NV K H v (.tup (ts.map Tm.enc)) ∧ DKA K H a (encM m) ∧ ts.length ≤ 1000 ∧ (∀ x, Tm.var x ∈ ts → (aGet m x).isSome = true) ∧
  ∀ v' H', Ex H H' → NV K H' v' (.tup ((putT m ts).map Tm.enc)) → Q v' H'
section
variable {P : Program} {w : World} {K : PySem.W.Frag} {mg : Str → Option Value} {base : Heap}
theorem ok_put_terms {k : Nat} {f : Addr} {fd : FuncData} (F : FnP K "put_terms" "put_terms" s_put_terms f fd) (T : Txt mg) : FnOk P w K mg base CX0 (k + 1) f fd ["terms", "table"] (spPutTerms K) := by
  refine mk_ok F sc_put_terms (fun vs H Q E h => ?_) (fun cdv A outer s H vs Q E hr h => ?_)
  · obtain ⟨v, a, ts, m, rfl, _⟩ := h
    rfl
  · obtain ⟨v, a, ts, m, rfl, hv, hm, hz, hk, q⟩ := h
    have nd := sc_put_terms.nd
    refine ⟨_, (pss_one (ps_ret (k_tuple (K := K) T (pe_lc (own := [("term", 2)]) rfl nd (k_itup (K := K) (pv 0)) (blkOk_by (N := N_put_terms) (sc := defScope s_put_terms) (by decide +kernel)) (fun _ _ _ _ _ => (pg_name (i := 2) nd rfl (by first | exact Or.inl rfl | exact Or.inr rfl))) (fun _ _ _ _ _ => pts_nil) (fun _ _ _ _ _ => (pe_ifExp (pt_cmpR (k_eq (K := K) hr.units) (k_ixT (K := K) (pv 2) pe_int) pe_str (nomark _)) (pe_dget (hu_of hr) (pv 1) (k_ixT (K := K) (pv 2) pe_int) (fun _ _ => rfl)) (pv 2))))))), ?_⟩
    refine s_ret (G := gx K) trivial (ed_tupleL (el_lcB Tm.enc (fun t => (putTm m t).enc) (ed_var rfl hv) (by omega) fun i t x H1 r ht hx => ⟨_, st_name, rfl, ?_⟩)) fun v' H1 r p => q v' H1 r (by rw [putT, List.map_map]; exact p)
    have h2 : ED (gx K) (tVar 2) [some v, some (.ref a), some x] H1 t.enc := ed_var rfl hx
    refine ev_if (et_isVar h2) (fun e => ?_) fun e => ?_
    · cases t with
      | val c => cases e
      | var y =>
        obtain ⟨t', ht'⟩ := Option.isSome_iff_exists.mp (hk y (List.mem_of_getElem? ht))
        refine ed_dget (a := a) (k := .inr y) (ea_var rfl) (fun H2 r2 => hm.mono ((gx K).tx (r.trans r2)) ((r.trans r2) a)) (ed_cont h2) ?_
        rw [encM_get, ht']
        show some t'.enc = some ((aGet m y).getD _).enc
        rw [ht']
        rfl
    · cases t with
      | var y => cases e
      | val c => exact h2
end
end Ew
set_option Elab.async false
set_option linter.all false
set_option maxRecDepth 100000
set_option maxHeartbeats 4000000
namespace Ew
open PySem PySem.Spec PyProof.Rows L2
open Evl (Ex)
/-! ### promises for calls outside every repr -/
structure FnG (P : Program) (w : World) (K : PySem.W.Frag) (mg : Str → Option Value) (base : Heap) (k : Nat) (f : Addr) (fd : FuncData) (ps : List Str) (sp : Sp) : Prop where
  len : ∀ vs H Q E, sp vs H Q E → vs.length = ps.length
  run : ∀ (A : Around) (outer : List Env) (s : Shared) (H : Hp) (args : Args) (us : List Value) (vs : List V) (Q : VK) (E : XK), A.guards = some [] → Room k A → Env0 P w K mg base A outer s H → BindsTo s fd args (ps.zip us) → Vals vs us → sp vs H Q E →
    codeAny (model P w) A (.call (.ref f) args) (CR CX0 outer P w H s Q E) s
theorem FnG.mono {P : Program} {w : World} {K : PySem.W.Frag} {mg : Str → Option Value} {base : Heap} {j k : Nat} {f : Addr} {fd : FuncData} {ps : List Str} {sp : Sp} (F : FnG P w K mg base j f fd ps sp) (h : j ≤ k) :
    FnG P w K mg base k f fd ps sp := ⟨F.len, fun A outer s H args us vs Q E g hr => F.run A outer s H args us vs Q E g (hr.mono h)⟩
theorem guards_deeper (A : Around) (env : Env) : (A.deeper env).guards = A.guards := rfl
theorem mk_okG {P : Program} {w : World} {K : PySem.W.Frag} {mg : Str → Option Value} {base : Heap} {x qual : Str} {st : Stmt} {f : Addr} {fd : FuncData} {N ps : List Str} {k : Nat} {sp : Sp} (F : FnP K x qual st f fd) (S : FnScope N ps (defScope st))
    (len : ∀ vs H Q E, sp vs H Q E → vs.length = ps.length)
    (hbody : ∀ (cdv : Value) (A : Around) (outer : List Env) (s : Shared) (H : Hp) (vs : List V) (Q : VK) (E : XK), (A.deeper (envOfC qual (defScope st) s.heap.objs.size f cdv)).guards = some [] → Room k (A.deeper (envOfC qual (defScope st) s.heap.objs.size f cdv)) → sp vs H Q E →
      ∃ t, PSs (cxOf CX0 P w K mg base N qual (defScope st) f cdv A outer s H E).nox (defBody st) t ∧ t { nx := fun _ H' => Q .non H', rt := Q } (start N vs) H) : FnG P w K mg base (k + 1) f fd ps sp := by
  obtain ⟨oc, od, dV, kV, doc, pm, an, cdv, ct, osl, rfl, lk, hcd, _, _⟩ := F.ex
  refine ⟨len, fun A outer s H args us vs Q E hgu hr e0 hb r hsp => ?_⟩
  have hl := len _ _ _ _ hsp
  have KX : K.In s.heap := e0.mod.kin.keeps fun b o e => (e0.bs b o e).1
  have lim : s.heap.NoLimit := e0.mod.nolimit.keeps fun b o e => (e0.bs b o e).1
  have hkind : ∀ y ∈ ps.zip us, (defScope st).names.lookup y.1 = some .local ∨ ((defScope st).names.lookup y.1 = some .cell ∧ ((cellsFrom (s.heap.objs.size + 1) (defScope st).names []).lookup y.1).isSome = true) := fun ⟨n, v⟩ hy => by
    rcases S.par n (List.of_mem_zip hy).1 with q | q
    · exact .inl q
    · exact .inr ⟨q, PySem.W.cellsFrom_some _ _ _ (.inl q)⟩
  refine codeAny_call_function hr.depth (KX _ _ lk) rfl S.co S.gen rfl (PySem.W.codeRec_of KX hcd) (hb _ _ _ _ ?_)
  refine wpAny_newFunctionEnv_cells S.kind hkind fun env he s1 x => ?_
  subst he
  refine ⟨lim.keeps x.toInCall.keep, codeAny_func ?_⟩
  obtain ⟨t, ht, hq⟩ := hbody cdv A outer s H vs Q E hgu (hr.deeper _) hsp
  have ht := ht.nox
  have I : Inv (cxOf CX0 P w K mg base N qual (defScope st) f cdv A outer s H E) [] (start N vs) H s1 := inv_start S hr.hd e0 hl r x
  refine wpAny_mono (ht.run [] s1 (start N vs) H _ I hq) (fun fl s' hs => ?_) fun e s' hs => hs
  have fin : ∀ {σ' : L2.St} {H' : Hp} {v : V} {u : Value}, Inv (cxOf CX0 P w K mg base N qual (defScope st) f cdv A outer s H E) [] σ' H' s' → RelV v u → Q v H' → CE outer P w H s Q u s' :=
    fun {σ' H' v u} J rv q => ⟨v, H', J.os, J.bare, J.base, J.hok, rv, q⟩
  cases fl with
  | ret u =>
    obtain ⟨v, σ', H', J, rv, q⟩ := hs
    exact fin J rv q
  | next =>
    obtain ⟨σ', H', J, q⟩ := hs
    exact fin (v := V.non) (u := Value.none) J rfl q
  | brk =>
    obtain ⟨_, _, _, q⟩ := hs
    exact False.elim q
  | cont =>
    obtain ⟨_, _, _, q⟩ := hs
    exact False.elim q
structure CalleeG (P : Program) (w : World) (K : PySem.W.Frag) (mg : Str → Option Value) (base : Heap) (x : Str) (k : Nat) (ps : List Str) (sp : Sp) : Prop where
  ex : ∃ f fd, FnG P w K mg base k f fd ps sp ∧ mg x = some (.ref f) ∧ PySem.W.keepIn K (.ref f) = true ∧ Binds K fd ps []
theorem CalleeG.mono {P : Program} {w : World} {K : PySem.W.Frag} {mg : Str → Option Value} {base : Heap} {x : Str} {j k : Nat} {ps : List Str} {sp : Sp} (c : CalleeG P w K mg base x j ps sp) (h : j ≤ k) : CalleeG P w K mg base x k ps sp := by
  obtain ⟨f, fd, F, g, kp, b⟩ := c.ex
  exact ⟨f, fd, F.mono h, g, kp, b⟩
section
variable {X : Cx} {x : Str} {k : Nat} {ps : List Str} {sp : Sp} {p pos apos : Pos} {e o : Expr} {es : List Expr} {t : TA}
theorem run_fnG {f : Addr} {fd : FuncData} {pins : List (Addr × Obj)} {σ : L2.St} {H : Hp} {s : Shared} {Q : VK} {us : List Value} {vs : List V} (F : FnG X.prog X.w X.K X.mg X.base k f fd ps sp) (hgu : X.A.guards = some []) (hr : Room k X.A) (hb : Binds X.K fd ps [])
    (I : Inv X pins σ H s) (r : Vals vs us) (h : sp vs H Q E0) : wpAny (model X.prog X.w) X.A (call (.ref f) us) (EP X pins σ Q) X.xe s := by
  have hl : us.length = ps.length := by rw [← r.length]; exact F.len _ _ _ _ h
  have hbb := hb s us I.kIn (by rw [List.append_nil]; exact hl)
  rw [List.append_nil] at hbb
  refine wpAny_call (codeAny_mono (F.run X.A X.stack s H ⟨us, []⟩ us vs Q E0 hgu hr I.env0 hbb r h) fun r s' hq => ?_)
  cases r with
  | error e => exact (pass0 (X := X)) pins σ H s e s' I hq
  | ok fl =>
    cases fl with
    | ret u => exact I.after hq
    | next => exact False.elim hq
    | brk => exact False.elim hq
    | cont => exact False.elim hq
theorem pe_calG (c : CalleeG X.prog X.w X.K X.mg X.base x k ps sp) (hgu : X.A.guards = some []) (hr : Room k X.A) (ha : PA X (e :: es) t) (hg : Gl X x := by rfl)
    (hdb : (x == ("__debug__" : Str)) = false := by decide) (he : starEach (e :: es) X.env = (false, eval e X.env) :: starEach es X.env := by rfl) (hpl : (backTo pos (starEach es X.env)).any (·.1) = false := by rfl) :
    PE X (.Call (.Name x p) (e :: es) [] pos) (tCall sp [] E0 t) := by
  obtain ⟨f, fd, F, g, kp, b⟩ := c.ex
  refine ⟨fun pins s σ H Q I h => ?_⟩
  refine wpAny_Call_Name_kw (ld_glob I hg g ?_ hdb)
  refine PySem.W.callWith_K (h₀ := X.base) I.ok.mod.kin kp (thn (ha.run pos pins s σ H _ I h) fun us s1 ⟨vs, H1, I1, r, q⟩ => ⟨I1.kIn, ?_⟩) he hpl
  have q : sp (vs ++ []) H1 Q E0 := q
  rw [List.append_nil] at q
  exact run_fnG F hgu hr b I1 r q
end
/-! ### the law's call -/
theorem law_callG {P : Program} {w : World} {K : PySem.W.Frag} {mg mb : Str → Option Value} {k : Nat} {fa a : Addr} {fd : FuncData} {x : Str} {sp : Sp} {s₁ : Shared} {vs : List Value} {ns : List Int}
    (KX : K.In s₁.heap) (hns : s₁.heap.Ns mainGlobals mg) (hb : s₁.heap.Ns builtinsNs mb) (hbb : ∀ x : Str, x ≠ "__name__" → mb x = bootBuiltins x) (hlim : s₁.heap.NoLimit) (hg : s₁.gens = #[])
    (ha : s₁.heap.get? a = some { cls := .type "list", data := .seq vs.toArray }) (hi : IntsAre vs ns) (hl : ns.length ≤ sizeLine) (hr : Room k callerA)
    (F : ∀ base : Heap, K.In base → base.Ns mainGlobals mg → FnG P w K mg base k fa fd [x] sp) (hbind : ∀ (s : Shared) (u : Value), BindsTo s fd ⟨[u], []⟩ [(x, u)])
    (hsp : ∀ H : Hp, Only H → SqL K H a (ns.map V.int) → sp [.ref a] H (fun v _ => v = .bl true) fun _ _ _ => False) :
    codeAny (model P w) callerA (.call (.ref fa) ⟨[.ref a], []⟩) (fun r s' => r = .ok (.ret (.bool true)) ∧ OldK s₁.heap s'.heap ∧ s'.os = s₁.os ∧ AllBare s'.gens) s₁ := by
  have rv := vals_ints hi
  have lenV := hi.length
  have core : ∀ H : Hp, Only H → SqL K H a (ns.map V.int) → HOk P w H s₁.heap → (∀ b, H b ≠ none → b = a) → (H a ≠ none → K.lookup a = none) →
      codeAny (model P w) callerA (.call (.ref fa) ⟨[.ref a], []⟩) (fun r s' => r = .ok (.ret (.bool true)) ∧ OldK s₁.heap s'.heap ∧ s'.os = s₁.os ∧ AllBare s'.gens) s₁ := by
    intro H hO hS hok hA hK
    have base_of : ∀ {b : Addr} {o : Obj}, s₁.heap.get? b = some o → H b = none → (hidT s₁.heap H).get? b = some o := fun e n => hidT_get e n
    have noA : ∀ {b : Addr} {o : Obj} {es : Array DictEntry} {ep : Nat}, s₁.heap.get? b = some o → o.data = .dict es ep → H b = none := fun {b o es ep} e d => by
      cases q : H b with
      | none => rfl
      | some u =>
        have e' : b = a := hA b (by rw [q]; simp)
        subst e'
        rw [ha] at e; cases e
        have d' : Data.seq vs.toArray _ = Data.dict es ep := d
        cases d'
    have nsK : ∀ {b : Addr} {m : Str → Option Value}, s₁.heap.Ns b m → (hidT s₁.heap H).Ns b m := fun {b m} ⟨o, es, ep, e, d, r⟩ => ⟨o, es, ep, base_of e (noA e d), d, r⟩
    have hKb : K.In (hidT s₁.heap H) := fun b o e => base_of (KX b o e) (by
      cases q : H b with
      | none => rfl
      | some u =>
        have e' : b = a := hA b (by rw [q]; simp)
        subst e'
        rw [hK (by rw [q]; simp)] at e; cases e)
    have hM : Mod K mg (hidT s₁.heap H) := ⟨hKb, nsK hns, ⟨mb, nsK hb, hbb⟩, let ⟨mc, h1, h2⟩ := hlim; ⟨mc, nsK h1, h2⟩⟩
    have e0 : Env0 P w K mg (hidT s₁.heap H) callerA [] s₁ H := ⟨rfl, hM, fun b o e => of_hidT e, Nat.le_of_eq (hidT_size _ _), trivial, fun b hb => absurd (show b ∈ ([] : List Addr) from hb) (by simp), hok, .of_eq hg⟩
    refine codeAny_mono ((F _ hKb (nsK hns)).run callerA [] s₁ H ⟨[.ref a], []⟩ [.ref a] [.ref a] _ _ rfl hr e0 (hbind s₁ (.ref a)) (.cons rfl .nil) (hsp H hO hS)) fun r s' h => ?_
    cases r with
    | error e => exact False.elim h
    | ok fl =>
      cases fl with
      | next => exact False.elim h
      | brk => exact False.elim h
      | cont => exact False.elim h
      | ret u =>
        obtain ⟨v, H', os, bare, un, hok', r', q⟩ := h
        have q' : v = .bl true := q
        subst q'
        obtain rfl : u = Value.bool true := r'
        refine ⟨rfl, OldK.of_keep fun b o e => ?_, os, bare⟩
        cases q : H b with
        | none => exact un.keep b o e q (by intro z; exact absurd (show b ∈ ([] : List Addr) from z) (by simp)) (by simp)
        | some u =>
          rcases hO b with z | ⟨ob, xs, z⟩
          · rw [q] at z; cases z
          · have z2 := un.frzs b ob _ z
            obtain ⟨e1, _⟩ := hok b _ z
            obtain ⟨e2, _⟩ := hok' b _ z2
            rw [e] at e1; cases e1
            exact e2
  cases hk : K.lookup a with
  | some o =>
    have e := KX a o hk
    rw [ha] at e
    cases e
    refine core (fun _ => none) (fun _ => .inl rfl) (.inr ⟨_, vs.toArray, _, hk, rfl, rfl, rfl, by rw [List.size_toArray, lenV]; exact hl, by simpa using rv⟩) (fun b u z => by have z' : (none : Option HO) = some u := z; cases z') (fun b z => absurd rfl z) fun z => absurd rfl z
  | none =>
    refine core (fun b => if b = a then some (.frz { cls := .type "list", data := .seq vs.toArray } (.lst (ns.map V.int))) else none) (fun b => ?_) (.inl (.inr ⟨{ cls := .type "list", data := .seq vs.toArray }, if_pos rfl⟩)) (fun b u z => ?_) (fun b z => ?_) fun _ => hk
    · by_cases hb : b = a
      · exact .inr ⟨_, _, if_pos hb⟩
      · exact .inl (if_neg hb)
    · by_cases hb : b = a
      · have z' := (if_pos hb).symm.trans z
        cases z'
        subst hb
        exact ⟨ha, by rw [List.length_map]; exact hl, vs, _, rv, ha⟩
      · have z' := (if_neg hb).symm.trans z
        cases z'
    · by_cases hb : b = a
      · exact hb
      · exact absurd (if_neg hb) z
theorem walk_ofG {l : PySem.W.OpenLaw} {n k : Nat} {q : Program} {loose : List Str} {XP : (Str → Option Value) → Heap → Prop} {YP : World → Heap → Prop} {d : DefRec} {x : Str}
    (hn : l.most = some n) (hn2 : n ≤ sizeLine) (hdf : d.params.defaults = []) (hr : Room k callerA)
    (F : ∀ (w : World) (mg : Str → Option Value) (fa : Addr) (h : Heap), YP w h → h.Ns mainGlobals mg → mg d.name = some (.ref fa) →
      ∃ (K : PySem.W.Frag) (fd : FuncData) (sp : Sp), K.In h ∧ (∀ (s : Shared) (u : Value), BindsTo s fd ⟨[u], []⟩ [(x, u)]) ∧
        (∀ (H : Hp) (a : Addr) (ns : List Int), ns.length ≤ n → Only H → SqL K H a (ns.map V.int) → sp [.ref a] H (fun v _ => v = .bl true) fun _ _ _ => False) ∧
        ∀ base : Heap, K.In base → base.Ns mainGlobals mg → FnG l.prog w K mg base k fa fd [x] sp) :
    PySem.W.WalkO q loose XP YP l.row.toRowW d [] (fun f vs => PySem.call f vs) := by
  refine Att.attach_call hn hdf fun w s₀ s₁ mg mb fa o pm cd doc a vs ns G Y ho hd hcd hmg hobj hints hlen hg => ?_
  obtain ⟨K, fd, sp, KX, hb, hsp, hF⟩ := F w mg fa _ Y G.T.g hmg
  exact law_callG KX G.T.g G.T.b G.T.builtins G.T.nolimit hg hobj hints (Nat.le_trans hlen hn2) hr hF hb (fun H hO hS => hsp H a ns hlen hO hS)
end Ew
set_option Elab.async false
set_option linter.all false
set_option maxRecDepth 100000
set_option maxHeartbeats 4000000
namespace Ew
open PySem PySem.Spec PyProof.Rows L2
open Evl (Ex)
/-! ### data as the sorter reads them -/
mutual
def toPy : Nk → PyData
  | .none => .none
  | .num i => .int i
  | .text x => .str x
  | .tup ks => .tuple (toPys ks)
def toPys : List Nk → List PyData
  | [] => []
  | d :: ds => toPy d :: toPys ds
end
theorem toPys_map : ∀ ds : List Nk, toPys ds = ds.map toPy
  | [] => rfl
  | d :: ds => by rw [toPys, toPys_map ds]; rfl
section
variable {X : Cx} {pins : List (Addr × Obj)} {σ : L2.St} {H : Hp} {s : Shared}
mutual
theorem NV.reads (I : Inv X pins σ H s) : ∀ (d : Nk) (v : V) (u : Value), NV X.K H v d → RelV v u → ∃ as, Reads s.heap u (toPy d) as
  | .none, _, _, h, r => by cases h
  | .num i, _, _, h, r => by
    cases h
    obtain ⟨t, rfl⟩ := r
    exact ⟨_, .int i t⟩
  | .text x, _, _, h, r => by
    cases h
    obtain ⟨t, rfl⟩ := r
    exact ⟨_, .str x t⟩
  | .tup ks, _, _, h, r => by
    cases h with
    | tup h1 h2 =>
      cases r
      obtain ⟨its, rv, ⟨o, ho, hc, n, hd⟩, _⟩ := I.tuple h1.sq
      obtain ⟨as, q⟩ := NVs.reads I ks _ its h2 rv
      exact ⟨_, .tuple ho hc hd (by simpa using q)⟩
theorem NVs.reads (I : Inv X pins σ H s) : ∀ (ds : List Nk) (vs : List V) (us : List Value), NVs X.K H vs ds → Vals vs us → ∃ as, ReadsAll s.heap us (toPys ds) as
  | [], _, _, h, r => by
    cases h
    cases r
    exact ⟨_, .nil⟩
  | d :: ds, _, _, h, r => by
    cases h with
    | cons h1 h2 =>
      cases r with
      | cons r1 r2 =>
        obtain ⟨a1, q1⟩ := NV.reads I d _ _ h1 r1
        obtain ⟨a2, q2⟩ := NVs.reads I ds _ _ h2 r2
        exact ⟨_, .cons q1 q2⟩
end
open PySem.W (EachIs)
abbrev EachRd (h : Heap) : List Value → List Nk → Prop := EachIs (fun u d => ∃ as, Reads h u (toPy d) as)
theorem NVs.each (I : Inv X pins σ H s) : ∀ {ds : List Nk} {vs : List V} {us : List Value}, NVs X.K H vs ds → Vals vs us → EachRd s.heap us ds
  | [], _, _, h, r => by
    cases h
    cases r
    exact .nil
  | d :: ds, _, _, h, r => by
    cases h with
    | cons h1 h2 =>
      cases r with
      | cons r1 r2 => exact .cons (NV.reads I d _ _ h1 r1) (NVs.each I h2 r2)
end
open PySem.W (EachIs)
/-- values of which one knows that they are these data and tell the tracked values -/
theorem each_rel {K : PySem.W.Frag} {H : Hp} : ∀ {vs : List V} {us : List Value} {ds : List Nk}, NVs K H vs ds → Vals vs us → EachIs (fun u d => ∃ v, RelV v u ∧ NV K H v d) us ds
  | _, _, [], h, r => by
    cases h
    cases r
    exact .nil
  | _, _, d :: ds, h, r => by
    cases h with
    | cons h1 h2 =>
      cases r with
      | cons r1 r2 => exact .cons ⟨_, r1, h1⟩ (each_rel h2 r2)
theorem rel_each {K : PySem.W.Frag} {H : Hp} : ∀ {us : List Value} {ds : List Nk}, EachIs (fun u d => ∃ v, RelV v u ∧ NV K H v d) us ds → ∃ vs, Vals vs us ∧ NVs K H vs ds
  | _, _, .nil => ⟨[], .nil, .nil⟩
  | _, _, .cons ⟨v, r, h⟩ t => by
    obtain ⟨vs, r2, h2⟩ := rel_each t
    exact ⟨v :: vs, .cons r r2, .cons h h2⟩
/-! ### the sort of ds is out -/
structure SrtTo (P : Program) (w : World) (ds out : List Nk) : Prop where
  run : ∀ (A : Around) (s : Shared) (us : List Value), A.units + 64 < cLine → EachRd s.heap us ds → ∃ κ, PySem.W.SortsAt P w A s κ us ∧ ∀ {R : Value → Nk → Prop}, EachIs R us ds → EachIs R (PySem.W.sortVals κ false us us) out
abbrev sortN (ds : List Nk) : List Nk := ds.mergeSort (PySem.W.dataLe false toPy)
def ToPyDepth (ds : List Nk) : Prop := ∀ d ∈ ds, (toPy d).depth ≤ 60
theorem srt_data {P : Program} {w : World} {ds : List Nk} (hal : PySem.W.AllAlike (ds.map toPy)) (hk : PySem.W.Sortable (ds.map toPy)) (hu : ToPyDepth ds) : SrtTo P w ds (sortN ds) := by
  refine ⟨fun A s us hA e => ⟨PySem.W.dataKind s.heap (ds.map toPy), PySem.W.SortsAt.data (PySem.W.each_map (R := fun v d => ∃ as, Reads s.heap v d as) toPy e) hal hk fun d hd => ?_, fun {R} eR => PySem.W.sortVals_data false eR e hal⟩⟩
  obtain ⟨d', hd', rfl⟩ := List.mem_map.mp hd
  have := hu d' hd'
  omega
/-! ### sorted(..) -/
section
variable {X : Cx} {P : Program} {w : World} {K : PySem.W.Frag} {pins : List (Addr × Obj)} {σ : L2.St} {H : Hp} {s : Shared}
/-- sorted, behind the collecting of the items -/
theorem srt_tail {us : List Value} {ys : List V} {ds out : List Nk} {Q : VK} (hu : X.A.units + 80 < cLine) (I : Inv X pins σ H s) (rv : Vals ys us) (hv : NVs X.K H ys ds) (hS : SrtTo X.prog X.w ds out) (hl : out.length = ds.length) (hz : us.length ≤ sizeLine)
    (q : ∀ l zs, H l = none → NVs X.K (upd H l (.lst zs)) zs out → Q (.ref l) (upd H l (.lst zs))) :
    wpAny (model X.prog X.w) X.A.in1 (call (.builtin "list.sort") [.ref s.heap.objs.size]) (fun _ s' => EP X pins σ Q (.ref s.heap.objs.size) s') X.xe { s with heap := s.heap.push (PyProof.Rows.seqObj "list" us.toArray 0) } := by
  have hob : (s.heap.push (PyProof.Rows.seqObj "list" us.toArray 0)).get? s.heap.objs.size = some (PyProof.Rows.seqObj "list" us.toArray 0) := Heap.get?_push_size _ rfl
  have kb : ∀ b o, s.heap.get? b = some o → (PySem.W.sortingHeap (s.heap.push (PyProof.Rows.seqObj "list" us.toArray 0)) s.heap.objs.size us).get? b = some o := fun b o e =>
    PySem.W.sortingHeap_old (Nat.ne_of_lt (Heap.lt_size e)) (Heap.get?_push_of_some _ e)
  have e' : EachRd (PySem.W.sortingHeap (s.heap.push (PyProof.Rows.seqObj "list" us.toArray 0)) s.heap.objs.size us) us ds := (hv.each I rv).mono fun _ _ ⟨as, r⟩ => ⟨as, PyProof.Rows.Reads.keeps kb r⟩
  obtain ⟨κ, S, hR⟩ := hS.run X.A.in1.in1 { s with heap := PySem.W.sortingHeap (s.heap.push (PyProof.Rows.seqObj "list" us.toArray 0)) s.heap.objs.size us } us (by show X.A.units + 1 + 1 + 64 < cLine; omega) e'
  obtain ⟨zs, rz, hzv⟩ := rel_each (hR (each_rel hv rv))
  refine wpAny_call_entry PyProof.Rows.slot_list_sort ⟨_, hob, rfl⟩ PyProof.Rows.entry_list_sort (PySem.W.list_sort_vals (s := { s with heap := s.heap.push (PyProof.Rows.seqObj "list" us.toArray 0) }) hob S hz ⟨.none, rfl, ?_⟩) (PyProof.Rows.args_list_sort _)
  have hn : H s.heap.objs.size = none := I.hok.fresh (Nat.le_refl _)
  have hlz : zs.length ≤ sizeLine := by
    rw [NVs.len hzv, hl, ← hv.len, rv.length]
    exact hz
  obtain ⟨n, hat⟩ := PyProof.Rows.sortedHeap_at (vs := us) (out := (PySem.W.sortVals κ false us us).toArray) hob
  have kF : ∀ b o, s.heap.get? b = some o → (PyProof.Rows.sortedHeap (s.heap.push (PyProof.Rows.seqObj "list" us.toArray 0)) s.heap.objs.size us (PySem.W.sortVals κ false us us).toArray).get? b = some o := fun b o e =>
    (PyProof.Rows.sortedHeap_old (Nat.ne_of_lt (Heap.lt_size e)) (Nat.lt_trans (Heap.lt_size e) (by rw [PyProof.Rows.size_push']; exact Nat.lt_succ_self _))).trans (Heap.get?_push_of_some _ e)
  have I1 : Inv X pins σ H { s with heap := PyProof.Rows.sortedHeap (s.heap.push (PyProof.Rows.seqObj "list" us.toArray 0)) s.heap.objs.size us (PySem.W.sortVals κ false us us).toArray } := I.kept (t' := s.toks) kF
  refine ⟨.ref s.heap.objs.size, upd H s.heap.objs.size (.lst zs), ?_, rfl, q _ zs hn (hzv.t (Tx.upd (.inl hn)))⟩
  exact I1.take (t' := s.toks) (fun b ob _ e => e) (I.fpOk (Nat.le_refl _) hn) ⟨hlz, _, n, rz, hat⟩
/-- sorted(..) of anything: the collecting, then the sort -/
theorem sorted_by {v : Value} {Q : Value → Shared → Prop} (ha : argsOk "sorted" ⟨[v], []⟩)
    (hc : wpAny (model X.prog X.w) X.A.in1 (collect v) (fun us s1 => us.length ≤ sizeLine ∧ wpAny (model X.prog X.w) X.A.in1 (call (.builtin "list.sort") [.ref s1.heap.objs.size]) (fun _ s' => Q (.ref s1.heap.objs.size) s') X.xe { s1 with heap := s1.heap.push (PyProof.Rows.seqObj "list" us.toArray 0) }) X.xe s) :
    wpAny (model X.prog X.w) X.A (call (.builtin "sorted") [v]) Q X.xe s := by
  refine Calls.call_function_entry PyProof.Rows.kind_sorted PyProof.Rows.plain_sorted PyProof.Rows.entry_sorted ha ?_
  unfold Builtin.«sorted»
  refine wpAny_bind (m := checkCount "sorted" 1 1 _) (wpAny_pure ?_)
  refine wpAny_bind (wpAny_mono hc (fun us s1 h => ?_) fun _ _ e => e)
  obtain ⟨hz, h⟩ := h
  refine wpAny_bind (wpAny_newList ?_ hz)
  refine wpAny_bind (wpAny_holding (wpAny_mono h (fun _ s' x => ?_) fun _ _ e => e))
  exact wpAny_pure ⟨_, rfl, x⟩
/-- sorted(list or tuple of data) -/
def rSrt (P : Program) (w : World) (K : PySem.W.Frag) : List V → Hp → VK → Prop := fun xs H Q => ∃ p ys ds out, xs = [.ref p] ∧ (SqL K H p ys ∨ SqT K H p ys) ∧ NVs K H ys ds ∧ SrtTo P w ds out ∧ out.length = ds.length ∧
  ∀ l zs, H l = none → NVs K (upd H l (.lst zs)) zs out → Q (.ref l) (upd H l (.lst zs))
theorem cr_srt (hu : X.A.units + 80 < cLine) : CallR X (.builtin "sorted") (rSrt X.prog X.w X.K) := by
  intro pins s σ H xs us Q I r h
  obtain ⟨p, ys, ds, out, rfl, hs, hv, hS, hl, q⟩ := h
  rw [Vals.ref1 r]
  refine sorted_by (PyProof.Rows.args_sorted1 _) ?_
  have fin : ∀ {its : List Value} {h' : Heap}, (∀ b o, s.heap.get? b = some o → h'.get? b = some o) → Vals ys its → its.length ≤ sizeLine → its.length ≤ sizeLine ∧ wpAny (model X.prog X.w) X.A.in1 (call (.builtin "list.sort") [.ref h'.objs.size]) (fun _ s' => EP X pins σ Q (.ref h'.objs.size) s') X.xe { s with heap := h'.push (PyProof.Rows.seqObj "list" its.toArray 0) } := fun {its h'} hk rv hz =>
    ⟨hz, srt_tail (s := { s with heap := h' }) hu (I.kept (t' := s.toks) hk) rv hv hS hl hz q⟩
  rcases hs with hs | hs
  · obtain ⟨its, rv, pl, hz⟩ := I.list hs
    obtain ⟨o, ho, hc, n, hd⟩ := pl.isList
    exact wpAny_collect_seq p (.inl rfl) ho hc hd (fun h' hk => by
      have e : its.toArray.toList = its := by simp
      rw [e]
      exact fin hk rv (by rw [← rv.length]; exact hz)) (by rw [List.size_toArray, ← rv.length]; exact hz)
  · obtain ⟨its, rv, ⟨o, ho, hc, n, hd⟩, hz⟩ := I.tuple hs
    exact wpAny_collect_seq p (.inr rfl) ho hc hd (fun h' hk => by
      have e : its.toArray.toList = its := by simp
      rw [e]
      exact fin hk rv (by rw [← rv.length]; exact hz)) (by rw [List.size_toArray, ← rv.length]; exact hz)
/-! ### a dict by its entries -/
/-- the pairs of the dict at a are those of m, and what they tell -/
def DEnt (P : Program) (w : World) (K : PySem.W.Frag) (H : Hp) (a : Addr) (m : List (Nk × V)) : Prop := (∃ kvs : List (Key × V), H a = some (.dK kvs) ∧ m = kvs.map fun p => (kN p.1, p.2)) ∨ DN P w K H a m
theorem DEnt.len {P : Program} {w : World} {K : PySem.W.Frag} {H : Hp} {a : Addr} {m : List (Nk × V)} (I : Inv X pins σ H s) (h : DEnt P w K H a m) : m.length ≤ sizeLine := by
  rcases h with ⟨kvs, h1, rfl⟩ | h
  · obtain ⟨z, _⟩ := dk_of I.hok h1
    rw [List.length_map]
    exact z
  · exact h.len
theorem nv_kV {K : PySem.W.Frag} {H : Hp} (k : Key) : NV K H (kV k) (kN k) := by
  cases k with
  | inl i => exact .int i
  | inr x => exact .str x
theorem DEnt.raw {a : Addr} {m : List (Nk × V)} (I : Inv X pins σ H s) (h : DEnt X.prog X.w X.K H a m) :
    (a == sysModules) = false ∧ ∃ o es ep, s.heap.get? a = some o ∧ o.ExactDict ∧ o.data = .dict es ep ∧ es.size = m.length ∧ ∀ (i : Nat) (k : Nk) (v : V), m[i]? = some (k, v) → ∃ (en : DictEntry) (x : V), es[i]? = some en ∧ RelV x en.key ∧ NV X.K H x k ∧ RelV v en.val := by
  rcases h with ⟨kvs, h1, rfl⟩ | h
  · obtain ⟨z, hs, vs, kv, dd⟩ := dk_of I.hok h1
    obtain ⟨es, ep, ⟨o, ho, hx, hdt⟩, l1, get⟩ := dd.raw
    have l2 : kvs.length = vs.length := Paired.length kv
    refine ⟨hs, o, es, ep, ho, hx, hdt, by rw [List.length_map, l2, ← l1], fun i k v e => ?_⟩
    rw [List.getElem?_map] at e
    cases hk : kvs[i]? with
    | none => rw [hk] at e; cases e
    | some p =>
      rw [hk] at e
      have e := Option.some.inj e
      have e1 : kN p.1 = k := (Prod.mk.inj e).1
      have e2 : p.2 = v := (Prod.mk.inj e).2
      subst e1 e2
      obtain ⟨u, hu, ru⟩ := kv_get kv (k := p.1) (v := p.2) hk
      have hi : i < es.size := by
        have := (List.getElem?_eq_some_iff.mp hu).1
        omega
      have q := get i hi _ _ hu
      refine ⟨es[i], kV p.1, Array.getElem?_eq_getElem hi, relV_key q.1, nv_kV _, ?_⟩
      rw [q.2]
      exact ru
  · obtain ⟨xs, ep, rel, hx⟩ := h.ex
    obtain ⟨o, es, h1, h2, h3, h4, h5⟩ := (show ObjOk X.prog X.w H s.heap a (dnE X.prog X.w a ep xs) from I.hok a _ hx).1
    have l1 : es.size = xs.length := size_of_entries h4
    have l2 : m.length = xs.length := rel.length
    refine ⟨h.sys, o, es, ep, h1, h2, h3, by omega, fun i k v e => ?_⟩
    obtain ⟨b, hb, e1, e2, _, e3⟩ := paired_get rel e
    have q := entry_at h4 i
    rw [hb] at q
    exact ⟨_, .ref b.2.1, q, rfl, e2, e3⟩
end
end Ew
set_option Elab.async false
set_option linter.all false
set_option maxRecDepth 100000
set_option maxHeartbeats 4000000
namespace Ew
open PySem PySem.Spec PyProof.Rows L2
open Evl (Ex)
open PySem.W (EachIs)
theorem nvs_of {K : PySem.W.Frag} {H : Hp} : ∀ {vs : List V} {ds : List Nk}, vs.length = ds.length → (∀ (j : Nat) (v : V) (d : Nk), vs[j]? = some v → ds[j]? = some d → NV K H v d) → NVs K H vs ds
  | [], [], _, _ => .nil
  | [], _ :: _, h, _ => by simp at h
  | _ :: _, [], h, _ => by simp at h
  | v :: vs, d :: ds, h, f => .cons (f 0 v d rfl rfl) (nvs_of (by simpa using h) fun j y w h1 h2 => f (j + 1) y w (by simpa using h1) (by simpa using h2))
theorem vals_refs : ∀ as : List Addr, Vals (as.map V.ref) (as.map Value.ref)
  | [] => .nil
  | a :: as => .cons rfl (vals_refs as)
section
variable {X : Cx} {P : Program} {w : World} {K : PySem.W.Frag} {pins : List (Addr × Obj)} {σ : L2.St} {H : Hp} {s : Shared} {pos apos cpos : Pos} {o : Expr} {to : TE} {name : Str} {id : String} {r : V → List V → Hp → VK → Prop}
/-! ### d.items(), d.values() -/
def tEM0 (P : Program) (w : World) (K : PySem.W.Frag) (r : V → List V → Hp → VK → Prop) (to : TE) : TE := fun σ H Q => to σ H fun x H1 => (∃ d m, x = .ref d ∧ DEnt P w K H1 d m) ∧ r x [] H1 Q
theorem pe_em0 (slot : Slot "dict" name id) (hty : typeOf (.builtin id) = pure (.type "method_descriptor")) (hm : MtR X id r) (ho : PE X o to)
    (hbase : attributeBase o name X.env (eval o X.env) = eval o X.env := by rfl) (hline : (apos.endLine == cpos.line) = true := by rfl) (hK : X.K = K := by rfl) (hP : X.prog = P := by rfl) (hw : X.w = w := by rfl) :
    PE X (.Call (.Attribute o name apos) [] [] cpos) (tEM0 P w K r to) := by
  subst hK hP hw
  refine ⟨fun pins s σ H Q I h => wpAny_Call_method0_late hbase hline (thn (ho.run pins s σ H _ I h) fun v s1 ⟨x, H1, I1, r1, ⟨d, m, ex, hd⟩, q1⟩ => ?_)⟩
  subst ex
  cases r1
  obtain ⟨hs, od, es, ep, h1, h2, h3, _⟩ := hd.raw I1
  have raw : s1.heap.DictRaw d es ep := ⟨od, h1, h2, h3⟩
  exact ⟨"dict", id, PySem.F.plainAttrs_dict, slot, hty, raw.typeIs, fun b e => by cases e; exact ⟨od, h1, h2.2.1⟩, Calls.callWith_builtin rfl (PySem.evalArgs_none (hm pins s1 σ H1 (.ref d) [] _ [] Q I1 rfl .nil q1))⟩
open PySem.Calls in
theorem callValues {A : Around} {E : Value → Shared → Prop} {prog : Program} {w : World} {s : Shared} {d : Addr} {es : Array DictEntry} {ep : Nat} {Q : Value → Shared → Prop} (hd : (d == sysModules) = false) (hm : s.heap.DictRaw d es ep)
    (h : Q (.ref s.heap.objs.size) { s with heap := s.heap.push { cls := .type "dict_values", data := .fields #[.ref d] } }) : wpAny (model prog w) A (call (.builtin "dict.values") [.ref d]) Q E s :=
  call_meetsIn PySem.F.slot_dict_values hm.typeIs PySem.F.entry_dict_values (PySem.F.args_dict_values_1 _) (meets_dict_values_raw d hd) ⟨⟨es, ep, hm⟩, h⟩
def valsO (p d : Addr) : HO := .ext fun h => h.IsValuesView p d
theorem valsO_ok {P : Program} {w : World} {H : Hp} {h : Heap} {p d : Addr} (e : h.get? p = some { cls := .type "dict_values", data := .fields #[.ref d] }) : ObjOk P w H h p (valsO p d) :=
  ⟨⟨_, e, rfl, rfl⟩, ⟨_, e⟩, fun h1 h2 x k => let ⟨o, ho, r⟩ := x; ⟨o, k o ho, r⟩⟩
def rItems (P : Program) (w : World) (K : PySem.W.Frag) : V → List V → Hp → VK → Prop := fun x xs H Q => ∃ a m, x = .ref a ∧ xs = [] ∧ DEnt P w K H a m ∧ ∀ p, H p = none → Q (.ref p) (upd H p (DX.itemsO p a))
def rVals (P : Program) (w : World) (K : PySem.W.Frag) : V → List V → Hp → VK → Prop := fun x xs H Q => ∃ a m, x = .ref a ∧ xs = [] ∧ DEnt P w K H a m ∧ ∀ p, H p = none → Q (.ref p) (upd H p (valsO p a))
theorem mt_items : MtR X "dict.items" (rItems X.prog X.w X.K) := by
  intro pins s σ H x xs v us Q I rx rxs h
  obtain ⟨a, m, rfl, rfl, ha, q⟩ := h
  cases rx
  cases rxs
  obtain ⟨hs, od, es, ep, h1, h2, h3, _⟩ := ha.raw I
  refine DT.callItems (es := es) (ep := ep) hs ⟨od, h1, h2, h3⟩ ?_
  have hf : H s.heap.objs.size = none := I.hok.fresh (Nat.le_refl _)
  exact ⟨.ref s.heap.objs.size, upd H s.heap.objs.size (DX.itemsO s.heap.objs.size a), I.laid (t' := s.toks) (fun b u e => Heap.get?_push_of_some _ e) (Nat.le_refl _) (DX.itemsO_ok (Heap.get?_push_size _ rfl)), rfl, q _ hf⟩
theorem mt_vals : MtR X "dict.values" (rVals X.prog X.w X.K) := by
  intro pins s σ H x xs v us Q I rx rxs h
  obtain ⟨a, m, rfl, rfl, ha, q⟩ := h
  cases rx
  cases rxs
  obtain ⟨hs, od, es, ep, h1, h2, h3, _⟩ := ha.raw I
  refine callValues (es := es) (ep := ep) hs ⟨od, h1, h2, h3⟩ ?_
  have hf : H s.heap.objs.size = none := I.hok.fresh (Nat.le_refl _)
  exact ⟨.ref s.heap.objs.size, upd H s.heap.objs.size (valsO s.heap.objs.size a), I.laid (t' := s.toks) (fun b u e => Heap.get?_push_of_some _ e) (Nat.le_refl _) (valsO_ok (Heap.get?_push_size _ rfl)), rfl, q _ hf⟩
/-! ### list(d.values()) -/
def rListVals (P : Program) (w : World) (K : PySem.W.Frag) : List V → Hp → VK → Prop := fun xs H Q => ∃ p a m, xs = [.ref p] ∧ H p = some (valsO p a) ∧ DEnt P w K H a m ∧ ∀ l, H l = none → Q (.ref l) (upd H l (.lst (m.map (·.2))))
theorem call_listVals (hc : X.calm = true) : CallR X (.type "list") (rListVals X.prog X.w X.K) := by
  intro pins s σ H xs us Q I r h
  obtain ⟨p, a, m, rfl, hp, ha, q⟩ := h
  obtain rfl := Vals.ref1 r
  have view : s.heap.IsValuesView p a := (show ObjOk X.prog X.w H s.heap p (valsO p a) from I.hok p _ hp).1
  obtain ⟨hs, od, es, ep, h1, h2, h3, hl, get⟩ := ha.raw I
  have hz := ha.len I
  refine PySem.W.kdl_call (PySem.KdlSrc.rawValues (d := a) (es := es) (ep := ep)) (I.ok.hd hc) ⟨view, od, h1, h2, h3⟩ (by rw [hl]; exact hz) fun h' tk acc' c' hkeep hS hacc => ?_
  refine ⟨.ref s.heap.objs.size, upd H s.heap.objs.size (.lst (m.map (·.2))), I.laid hkeep (Nat.le_refl _) (show ObjOk X.prog X.w _ _ _ (.lst (m.map (·.2))) from ⟨?_, acc'.toList, c', ?_, ?_⟩), rfl, q _ (I.hok.fresh (Nat.le_refl _))⟩
  · rw [List.length_map]; exact hz
  · have el : acc'.toList.length = acc'.size := by simp
    refine vals_of_at (by rw [List.length_map, el, hacc.1, hl]) fun j x w h1 h2 => ?_
    obtain ⟨hi, rfl⟩ := hacc.2 j w (by rw [← Array.getElem?_toList]; exact h2)
    rw [List.getElem?_map] at h1
    cases hm : m[j]? with
    | none => rw [hm] at h1; cases h1
    | some kv =>
      rw [hm] at h1
      cases h1
      obtain ⟨en, y, e1, _, _, e2⟩ := get j kv.1 kv.2 hm
      have : en = es[j] := by
        rw [Array.getElem?_eq_getElem hi] at e1
        exact (Option.some.inj e1).symm
      rw [← this]
      exact e2
  · rw [Array.toArray_toList]; exact hS
/-! ### sorted(d.items()) -/
/-- objects already laid are tracked -/
theorem takeG {h' : Heap} {tk : Nat} {P : Addr → HO → Prop} (I0 : Inv X pins σ H s) : ∀ (L : List Addr) (H1 : Hp), Inv X pins σ H1 { s with heap := h', toks := tk } → L.Nodup →
    (∀ a ∈ L, s.heap.objs.size ≤ a ∧ H1 a = none ∧ ∃ ho, P a ho ∧ ∀ H2, ObjOk X.prog X.w H2 h' a ho) →
    ∃ H2, Inv X pins σ H2 { s with heap := h', toks := tk } ∧ (∀ b o, H1 b = some o → H2 b = some o) ∧ ∀ a ∈ L, ∃ ho, P a ho ∧ H2 a = some ho
  | [], H1, I1, _, _ => ⟨H1, I1, fun _ _ e => e, fun _ h => nomatch h⟩
  | a :: L, H1, I1, hn, h => by
    obtain ⟨hb, hnone, ho, hP, ok⟩ := h a (List.mem_cons_self ..)
    have I2 : Inv X pins σ (upd H1 a ho) { s with heap := h', toks := tk } := I1.take (h' := h') (t' := tk) (fun b ob _ e => e) (I0.fpOk hb hnone) (ok _)
    rw [List.nodup_cons] at hn
    obtain ⟨H2, I3, g, q⟩ := takeG I0 L (upd H1 a ho) I2 hn.2 fun c hc => by
      obtain ⟨c1, c2, c3⟩ := h c (List.mem_cons_of_mem _ hc)
      exact ⟨c1, by rw [upd_ne (fun z => hn.1 (by rw [← z]; exact hc))]; exact c2, c3⟩
    refine ⟨H2, I3, fun b o e => g b o (by rw [upd_ne (ne_of_none e hnone)]; exact e), fun c hc => ?_⟩
    rcases List.mem_cons.mp hc with rfl | hc
    · exact ⟨ho, hP, g _ _ upd_same⟩
    · exact q c hc
def encP (p : Nk × Nk) : Nk := .tup [p.1, p.2]
def rSrtIt (P : Program) (w : World) (K : PySem.W.Frag) : List V → Hp → VK → Prop := fun xs H Q => ∃ p a m md out, xs = [.ref p] ∧ H p = some (DX.itemsO p a) ∧ DEnt P w K H a m ∧ MRel (NV K H) m md ∧ SrtTo P w (md.map encP) out ∧ out.length = md.length ∧
  ∀ H' l zs, Ex H H' → H l = none → H' l = some (.lst zs) → NVs K H' zs out → Q (.ref l) H'
theorem cr_srtIt (hc : X.calm = true) (hu : X.A.units + 80 < cLine) : CallR X (.builtin "sorted") (rSrtIt X.prog X.w X.K) := by
  intro pins s σ H xs us Q I r h
  obtain ⟨p, a, m, md, out, rfl, hp, ha, hmd, hS, hol, q⟩ := h
  obtain rfl := Vals.ref1 r
  have view : s.heap.IsItemsView p a := (show ObjOk X.prog X.w H s.heap p (DX.itemsO p a) from I.hok p _ hp).1
  obtain ⟨hs, od, es, ep, h1, h2, h3, hl, get⟩ := ha.raw I
  have hz := ha.len I
  have hlm : m.length = md.length := hmd.len
  refine DT.sortedI (es := es) (ep := ep) (I.ok.hd hc) view ⟨od, h1, h2, h3⟩ (by rw [hl]; exact hz) fun h' tk as hk hlt hla hG => ?_
  have nd : as.Nodup := List.Pairwise.imp (fun h => Nat.ne_of_lt h) hG.rise
  have I1 : Inv X pins σ H { s with heap := h', toks := tk } := I.kept (t' := tk) hk
  -- the pairs that were made
  have pr : ∀ (j : Nat) (b : Addr), as[j]? = some b → ∃ (kv : Nk × V) (en : DictEntry) (x : V), m[j]? = some kv ∧ RelV x en.key ∧ NV X.K H x kv.1 ∧ RelV kv.2 en.val ∧ h'.get? b = some { cls := .type "tuple", data := .seq #[en.key, en.val] } := by
    intro j b hj
    obtain ⟨en, he, hg⟩ := hG.pairs j b hj
    have hjm : j < m.length := by
      have := (List.getElem?_eq_some_iff.mp hj).1
      omega
    obtain ⟨en2, x, e1, e2, e3, e4⟩ := get j (m[j]).1 (m[j]).2 (by simp [hjm])
    rw [he] at e1
    cases e1
    exact ⟨m[j], en, x, List.getElem?_eq_getElem hjm, e2, e3, e4, hg⟩
  obtain ⟨H2, I2, g, qt⟩ := takeG (P := fun b ho => ∃ (j : Nat) (kv : Nk × V) (x : V) (ob : Obj), as[j]? = some b ∧ m[j]? = some kv ∧ ho = .frz ob (.tup [x, kv.2]) ∧ NV X.K H x kv.1 ∧ ob.dict = none) I as H I1 nd fun b hb => by
    obtain ⟨j, hj⟩ := List.mem_iff_getElem?.mp hb
    obtain ⟨kv, en, x, e1, e2, e3, e4, hg⟩ := pr j b hj
    have hbl : s.heap.objs.size ≤ b := Nat.le_of_lt (hG.above b hb)
    exact ⟨hbl, I.hok.fresh hbl, _, ⟨j, kv, x, _, hj, e1, rfl, e3, rfl⟩, fun H3 => frz_ok (us := [en.key, en.val]) (by rw [sizeLine_eq]; show 2 ≤ 16777216; omega) (.cons e2 (.cons e4 .nil)) hg⟩
  have ex2 : Ex H H2 := fun b o e => g b o e
  have nvs : NVs X.K H2 (as.map V.ref) (md.map encP) := by
    refine nvs_of (by rw [List.length_map, List.length_map]; omega) fun j v d hv hd => ?_
    rw [List.getElem?_map] at hv hd
    cases hj : as[j]? with
    | none => rw [hj] at hv; cases hv
    | some b =>
      rw [hj] at hv
      cases hv
      obtain ⟨ho, ⟨i, kv, x, ob, i1, i2, rfl, hx, hob⟩, hH⟩ := qt b (List.mem_of_getElem? hj)
      have eij : i = j := (List.getElem?_inj (List.getElem?_eq_some_iff.mp i1).1 nd).mp (i1.trans hj.symm)
      subst eij
      obtain ⟨md1, hmj, r1, r2⟩ := paired_get hmd i2
      rw [hmj] at hd
      cases hd
      exact .tup ⟨ob, hH, hob⟩ (.cons (r1 ▸ hx.ex ex2) (.cons (r2.ex ex2) .nil))
  refine srt_tail (s := { s with heap := h', toks := tk }) hu I2 (vals_refs as) nvs hS (by rw [List.length_map]; exact hol) (by rw [List.length_map]; omega) fun l zs hn hzs => ?_
  have e2 : Ex H2 (upd H2 l (.lst zs)) := Ex.new hn
  refine q _ l zs (ex2.trans e2) ?_ upd_same hzs
  cases hq : H l with
  | none => rfl
  | some o => rw [ex2 _ _ hq] at hn; cases hn
end
end Ew
set_option Elab.async false
set_option linter.all false
set_option maxRecDepth 100000
set_option maxHeartbeats 4000000
namespace Ew
open PySem PySem.Spec PyProof.Rows L2
open Evl (Ex)
/-! ### dict(pairs) -/
def mergeN (kvs : List (Nk × V)) : List (Nk × V) := kvs.foldl (fun acc p => putK acc p.1 p.2) []
section
variable {X : Cx} {P : Program} {w : World} {K : PySem.W.Frag} {pins : List (Addr × Obj)} {σ : L2.St} {H : Hp} {s : Shared}
/-- at p a pair of a tuple that is the key, and a value -/
abbrev PairN (K : PySem.W.Frag) (H : Hp) (p : Addr) (kv : Nk × V) : Prop := ∃ b, SqT K H p [.ref b, kv.2] ∧ NV K H (.ref b) kv.1 ∧ kv.1.depth ≤ 8
theorem pairsN_of (I : Inv X pins σ H s) : ∀ {ps : List Addr} {kvs : List (Nk × V)}, Paired (PairN X.K H) ps kvs →
    ∃ xs : Xs, DRel X.K H kvs xs ∧ xs.length = ps.length ∧ ∀ (j : Nat) (x : Nk × Addr × Value), xs[j]? = some x → ∃ b : Addr, ps[j]? = some b ∧ IsTup s.heap b #[.ref x.2.1, x.2.2]
  | _, _, .nil => ⟨[], .nil, rfl, fun j q e => by simp at e⟩
  | _, _, .cons (a := p) (b := kv) ⟨b, h, hk, h8⟩ t => by
    obtain ⟨xs, r, hl, hp⟩ := pairsN_of I t
    obtain ⟨its, rv, ht, _⟩ := I.tuple h
    obtain ⟨u, y, ei, ru, ry⟩ := vals2 rv
    subst ei
    cases ru
    refine ⟨(kv.1, b, y) :: xs, .cons ⟨rfl, hk, h8, ry⟩ r, by rw [List.length_cons, List.length_cons, hl], fun j q e => ?_⟩
    cases j with
    | zero =>
      have e' : (kv.1, b, y) = q := Option.some.inj e
      subst e'
      exact ⟨p, rfl, ht⟩
    | succ j =>
      obtain ⟨b', e1, e2⟩ := hp j q (by simpa using e)
      exact ⟨b', by simpa using e1, e2⟩
/-- the argument: a tuple of which the object is known, or a list -/
def SeqP (K : PySem.W.Frag) (H : Hp) (a : Addr) (xs : List V) : Prop := PT H a xs ∨ SqL K H a xs
theorem SeqP.of {a : Addr} {xs : List V} (I : Inv X pins σ H s) (h : SeqP X.K H a xs) : ∃ (T : String) (its : List Value), (T = "tuple" ∨ T = "list") ∧ Vals xs its ∧ PlainSeq T s.heap a its.toArray ∧ xs.length ≤ sizeLine := by
  rcases h with ⟨o, h, hd⟩ | h
  · obtain ⟨e, z, its, rv, o', h1, h2, n, h3⟩ := (show ObjOk X.prog X.w H s.heap a (.frz o (.tup xs)) from I.hok a _ h)
    rw [e] at h1
    cases h1
    exact ⟨"tuple", its, .inl rfl, rv, ⟨o, n, e, h2, hd, h3⟩, z⟩
  · obtain ⟨its, rv, ⟨o, n, h1, h2, h3, h4⟩, z⟩ := I.list h
    exact ⟨"list", its, .inr rfl, rv, ⟨o, n, h1, h2, h3, h4⟩, z⟩
theorem DRel.merge {ps : List (Nk × V)} {xs : Xs} (r : DRel K H ps xs) : ∀ {acc : List (Nk × V)} {ys : Xs}, DRel K H acc ys → DRel K H (ps.foldl (fun acc p => putK acc p.1 p.2) acc) (storedAllH ys xs) := by
  induction r with
  | nil => exact fun h => h
  | @cons p q ps qs h t ih =>
    intro acc ys hA
    obtain ⟨h1, h2, h3, h4⟩ := h
    have := hA.put p.1 h2 h3 h4
    rw [List.foldl_cons]
    show DRel K H _ (storedAllH (storedH ys q.1 q.2.1 q.2.2) qs)
    rw [← h1]
    exact ih this
theorem length_mergeN_go (ps : List (Nk × V)) : ∀ acc : List (Nk × V), (ps.foldl (fun acc p => putK acc p.1 p.2) acc).length ≤ acc.length + ps.length := by
  induction ps with
  | nil => intro acc; exact Nat.le_refl _
  | cons p ps ih =>
    intro acc
    rw [List.foldl_cons]
    have h1 := ih (putK acc p.1 p.2)
    have h2 := length_putK acc p.1 p.2
    rw [List.length_cons]
    omega
theorem length_mergeN (ps : List (Nk × V)) : (mergeN ps).length ≤ ps.length := by
  have := length_mergeN_go ps []
  rw [List.length_nil, Nat.zero_add] at this
  exact this
def rDictN (P : Program) (w : World) (K : PySem.W.Frag) : List V → Hp → VK → Prop := fun xs H Q => ∃ a ps kvs, xs = [.ref a] ∧ SeqP K H a (ps.map V.ref) ∧ Paired (PairN K H) ps kvs ∧
  ∀ p ob, H p = none → DN P w K (upd H p ob) p (mergeN kvs) → Q (.ref p) (upd H p ob)
theorem call_dictN (hc : X.calm = true) (hu : X.A.units + 80 < cLine) : CallR X (.type "dict") (rDictN X.prog X.w X.K) := by
  intro pins s σ H xs us Q I r h
  obtain ⟨a, ps, kvs, rfl, hs, hp, q⟩ := h
  obtain rfl := Vals.ref1 r
  obtain ⟨T, its, hT, rv, pl, hz⟩ := SeqP.of I hs
  have ei := refs_at rv
  subst ei
  rw [List.length_map] at hz
  obtain ⟨ys, rel, hl, get⟩ := pairsN_of I hp
  have his : ∀ {l : List (Nk × V)} {m : Xs}, DRel X.K H l m → ∀ x ∈ m, (nestedKind X.prog X.w).is s.heap x.1 x.2.1 := by
    intro l m q
    induction q with
    | nil => intro x hx; exact nomatch hx
    | @cons p q ps qs hq t ih =>
      intro x hx
      rcases List.mem_cons.mp hx with e | hx
      · subst e
        have hq1 := hq.1
        exact NV.key I (hq1 ▸ hq.2.1) (hq1 ▸ hq.2.2.1)
      · exact ih x hx
  have items : PairItems s.heap (ps.map Value.ref).toArray (fun j => ps.getD j 0) (ys.map fun x => (Value.ref x.2.1, x.2.2)) := by
    refine ⟨by simp [hl], fun j k v hj => ?_⟩
    rw [List.getElem?_map] at hj
    cases hy : ys[j]? with
    | none => rw [hy] at hj; cases hj
    | some x =>
      rw [hy] at hj
      cases hj
      obtain ⟨b, e1, e2⟩ := get j x hy
      refine ⟨by simp [e1], ?_⟩
      show PairAt s.heap (ps.getD j 0) _ _
      rw [List.getD_eq_getElem?_getD, e1]
      exact .inl e2
  have have_ : PairsHaveH (nestedKind X.prog X.w) (ys.map fun x => (Value.ref x.2.1, x.2.2)).length (PairRel (ys.map fun x => (Value.ref x.2.1, x.2.2))) ys := by
    refine ⟨by simp, fun i key v h => ?_⟩
    have h : (ys.map fun x => (Value.ref x.2.1, x.2.2))[i]? = some (key, v) := h
    rw [List.getElem?_map] at h
    cases hy : ys[i]? with
    | none => rw [hy] at h; cases h
    | some x =>
      rw [hy] at h
      cases h
      exact ⟨x.1, x.2.1, rfl, rfl⟩
  have stay : KeysStay (nestedKind X.prog X.w) s.heap s.heap.objs.size [] ys := fun h' hk x hx =>
    nestedKind_stays.all h' (fun b o _ e => hk b o (Nat.ne_of_lt (Heap.lt_size e)) (by simp) e) _ _ (his rel x hx)
  have hlk : kvs.length = ys.length := rel.length
  have fin : ∀ (h' : Heap) (tk : Nat), h'.DictOfH (nestedKind X.prog X.w) s.heap.objs.size (storedAllH [] ys) → (∀ b o, b ∉ ([] : List Addr) → s.heap.get? b = some o → h'.get? b = some o) → EP X pins σ Q (.ref s.heap.objs.size) { s with heap := h', toks := tk } := by
    intro h' tk hd hk
    have hn : H s.heap.objs.size = none := I.hok.fresh (Nat.le_refl _)
    have hm : (s.heap.objs.size == sysModules) = false := beq_eq_false_iff_ne.mpr (Nat.ne_of_gt I.big)
    obtain ⟨o, es, ep, h1, h2, h3, h4, _, h5⟩ := hd
    refine ⟨.ref s.heap.objs.size, upd H s.heap.objs.size (dnE X.prog X.w s.heap.objs.size ep (storedAllH [] ys)), I.laid (t' := tk) (fun b o e => hk b o (by simp) e) (Nat.le_refl _) (dnE_ok h1 h2 h3 h4 h5), rfl, q _ _ hn ⟨?_, hm, _, ep, (rel.merge .nil).tx (Tx.upd (.inl hn)), upd_same⟩⟩
    have := length_mergeN kvs
    omega
  have hsz : (ys.map fun x => (Value.ref x.2.1, x.2.2)).length ≤ sizeLine := by rw [List.length_map]; omega
  have hroom : (nestedKind X.prog X.w).room X.A.in1.in1 := room8 (A := X.A.in1) (by show X.A.units + 1 + 64 < cLine; omega)
  rcases hT with rfl | rfl
  · exact PySem.call_dict_pairsH (PairArg.tuple a (ps.map Value.ref).toArray (fun j => ps.getD j 0) (ys.map fun x => (Value.ref x.2.1, x.2.2))) (I.ok.hd hc) hroom ⟨pl, items⟩ have_ stay hsz fin
  · exact PySem.call_dict_pairsH (PairArg.list a (ps.map Value.ref).toArray (fun j => ps.getD j 0) (ys.map fun x => (Value.ref x.2.1, x.2.2))) (I.ok.hd hc) hroom ⟨pl, items⟩ have_ stay hsz fin
/-- the same, keys whole numbers or texts -/
def rDictK (K : PySem.W.Frag) : List V → Hp → VK → Prop := fun xs H Q => ∃ (a : Addr) (ps : List Addr) (kvs : List (Key × V)), xs = [.ref a] ∧ SeqP K H a (ps.map V.ref) ∧ Paired (fun p kv => SqT K H p [kV kv.1, kv.2]) ps kvs ∧
  ∀ p, H p = none → Q (.ref p) (upd H p (.dK (mergeK [] kvs)))
theorem call_dictK (hc : X.calm = true) : CallR X (.type "dict") (rDictK X.K) := by
  intro pins s σ H xs us Q I r h
  obtain ⟨a, ps, kvs, rfl, hs, hp, q⟩ := h
  obtain rfl := Vals.ref1 r
  obtain ⟨T, its, hT, rv, pl, hz⟩ := SeqP.of I hs
  have ei := refs_at rv
  subst ei
  rw [List.length_map] at hz
  obtain ⟨prs, rel, hl, get⟩ := pairs_of I hp
  -- the keys' values
  have keys : ∃ psV : List (Value × Value), psV.length = ps.length ∧ (∀ (j : Nat) (k v : Value), psV[j]? = some (k, v) → ∃ (b : Addr) (key : Key), ps[j]? = some b ∧ IsTup s.heap b #[k, v] ∧ prs[j]? = some (key, v) ∧ keyIs key k = true) := by
    have : ∀ (n : Nat), n ≤ ps.length → ∃ psV : List (Value × Value), psV.length = n ∧ (∀ (j : Nat) (k v : Value), psV[j]? = some (k, v) → ∃ (b : Addr) (key : Key), ps[j]? = some b ∧ IsTup s.heap b #[k, v] ∧ prs[j]? = some (key, v) ∧ keyIs key k = true) := by
      intro n
      induction n with
      | zero => exact fun _ => ⟨[], rfl, fun j k v e => by simp at e⟩
      | succ n ih =>
        intro hn
        obtain ⟨L, hL, g⟩ := ih (Nat.le_of_succ_le hn)
        have hpr : n < prs.length := by omega
        obtain ⟨b, u, e1, e2, e3⟩ := get n prs[n] (List.getElem?_eq_getElem hpr)
        refine ⟨L ++ [(u, prs[n].2)], by simp [hL], fun j k v e => ?_⟩
        by_cases hj : j < L.length
        · rw [List.getElem?_append_left hj] at e
          exact g j k v e
        · rw [List.getElem?_append_right (by omega)] at e
          have hj0 : j - L.length = 0 := by
            have := (List.getElem?_eq_some_iff.mp e).1
            simp at this
            omega
          rw [hj0] at e
          have ej : j = n := by omega
          subst ej
          cases e
          exact ⟨b, prs[j].1, e1, e2, by rw [List.getElem?_eq_getElem hpr], e3⟩
    exact this ps.length (Nat.le_refl _)
  obtain ⟨psV, hv, gv⟩ := keys
  have items : PairItems s.heap (ps.map Value.ref).toArray (fun j => ps.getD j 0) psV := by
    refine ⟨by simp [hv], fun j k v hj => ?_⟩
    obtain ⟨b, key, e1, e2, _⟩ := gv j k v hj
    refine ⟨by simp [e1], ?_⟩
    show PairAt s.heap (ps.getD j 0) _ _
    rw [List.getD_eq_getElem?_getD, e1]
    exact .inl e2
  have have_ : PairsHave (mixKind X.prog X.w) psV.length (PairRel psV) prs := by
    refine ⟨by omega, fun i key v h => ?_⟩
    obtain ⟨b, k, _, _, e3, e4⟩ := gv i key v h
    exact ⟨k, e3, e4⟩
  have fin : ∀ (h' : Heap) (tk : Nat), h'.DictOf (mixKind X.prog X.w) s.heap.objs.size (merged [] prs) → (∀ b o, b ∉ ([] : List Addr) → s.heap.get? b = some o → h'.get? b = some o) → EP X pins σ Q (.ref s.heap.objs.size) { s with heap := h', toks := tk } := by
    intro h' tk hd hk
    have hm : (s.heap.objs.size == sysModules) = false := beq_eq_false_iff_ne.mpr (Nat.ne_of_gt I.big)
    have hlen : (mergeK [] kvs).length ≤ sizeLine := by
      refine Nat.le_trans (length_mergeK kvs []) ?_
      rw [List.length_nil, Nat.zero_add, rel.length, hl]
      exact hz
    exact ⟨.ref s.heap.objs.size, upd H s.heap.objs.size (.dK (mergeK [] kvs)), I.laid (t' := tk) (fun b o e => hk b o (by simp) e) (Nat.le_refl _) (show ObjOk X.prog X.w _ _ _ (.dK (mergeK [] kvs)) from ⟨hlen, hm, merged [] prs, KV.merge rel .nil, hd⟩), rfl, q _ (I.hok.fresh (Nat.le_refl _))⟩
  have hsz : psV.length ≤ sizeLine := by omega
  rcases hT with rfl | rfl
  · exact PySem.call_dict_pairs (PairArg.tuple a (ps.map Value.ref).toArray (fun j => ps.getD j 0) psV) (I.ok.hd hc) ⟨pl, items⟩ have_ hsz fin
  · exact PySem.call_dict_pairs (PairArg.list a (ps.map Value.ref).toArray (fun j => ps.getD j 0) psV) (I.ok.hd hc) ⟨pl, items⟩ have_ hsz fin
end
end Ew
set_option Elab.async false
set_option linter.all false
set_option maxRecDepth 100000
set_option maxHeartbeats 4000000
namespace Ew
open PySem PySem.Spec PyProof.Rows L2
open Evl (Ex)
/-! ### dict comprehensions, keys tuples (after HandS.DictComp) -/
/-- d[k] = v by a comprehension -/
theorem d_dictSetN {X : Cx} {pins : List (Addr × Obj)} {σ : L2.St} {H : Hp} {s : Shared} {E : Value → Shared → Prop} {D b : Addr} {kvs : List (Nk × V)} {k : Nk} {v : V} {u r : Value} {Q : Unit → Shared → Prop} (hu : X.A.units + 64 < cLine) (I : Inv X pins σ H s) (hd : DN X.prog X.w X.K H D kvs) (hk : NV X.K H (.ref b) k) (hk8 : k.depth ≤ 8) (hz : kvs.length < sizeLine)
    (ry : RelV (.ref b) u) (rv : RelV v r) (h : ∀ ob s', DN X.prog X.w X.K (upd H D ob) D (putK kvs k v) → Inv X pins σ (upd H D ob) s' → Q () s') : wpAny (model X.prog X.w) X.A (dictSet D u r) Q E s := by
  cases ry
  obtain ⟨xs, ep, rel, hx, hm⟩ := dn_of I hd
  refine wpAny_dictSet_heap (hsz := by rw [← rel.length]; exact hd.len) (show (nestedKind X.prog X.w).room X.A from by show X.A.units + 8 < cLine; omega) (hk.key I hk8) hm fun h' hm' hs' => ?_
  exact h _ _ (dn_put hd rel hx hk hk8 hz rv) (dn_new I hd hm' hs')
section
variable {X : Cx}
/-- {k: v for target in iter if ..}, keys tuples: D the new dict -/
def tDcN (P : Program) (w : World) (K : PySem.W.Frag) (wi : TI) (g : TG) (tt : TT) (tk tv : TE) (vs : List Nat) : TE := fun σ H Q => wi σ H fun J H1 => ∀ D ob, H1 D = none → DN P w K (upd H1 D ob) D [] → ∃ W : Nat → Nat → Hp → Prop, (∃ m, W 0 m (upd H1 D ob)) ∧ ∀ i m H, W i m H →
  (J.stop i H ∧ Q (.ref D) H) ∨ (J.go i H ∧ ∃ Nx : Hp → Prop, (∀ H', Nx H' → ∃ m', m' < m ∧ W (i + 1) m' H') ∧ ∀ x H', J.yld i H x H' → g x (wipe σ vs) H' fun σ2 H2 => wipe σ2 vs = wipe σ vs ∧ tt σ2 H2 fun b H3 =>
    if b = true then tk σ2 H3 fun y H4 => tv σ2 H4 fun z H5 => ∃ kvs k b, y = .ref b ∧ DN P w K H5 D kvs ∧ NV K H5 (.ref b) k ∧ k.depth ≤ 8 ∧ kvs.length < sizeLine ∧ ∀ ob, DN P w K (upd H5 D ob) D (putK kvs k z) → Nx (upd H5 D ob) else Nx H3)
theorem dcN_core {pins : List (Addr × Obj)} {s : Shared} {σ : L2.St} {H : Hp} {Q : VK} {kx vx tg iter : Expr} {ifs : List Expr} {scope : Scope} {own : List (Str × Nat)} {pos pos' : Pos} {wi : TI} {g : TG} {tt : TT} {tk tv : TE} {use : Option (Value → Sem Unit)} {Qf : Value → Shared → Prop}
    (hc : X.calm = true) (hu : X.A.units + 64 < cLine) (hN : X.N.Nodup) (I : Inv X pins σ H s) (hi : PI X tg iter wi) (ok : BlkOk X.N X.env.scope scope own)
    (hg : ∀ (s : Shared) (H : Hp) (C : Addr) (cl : List (Str × Addr)) (fp : List Addr), PG (X.blk s H scope (compEnvC scope cl C X.env) fp) tg g) (ht : ∀ (s : Shared) (H : Hp) (C : Addr) (cl : List (Str × Addr)) (fp : List Addr), PTs (X.blk s H scope (compEnvC scope cl C X.env) fp) ifs tt)
    (hk : ∀ (s : Shared) (H : Hp) (C : Addr) (cl : List (Str × Addr)) (fp : List Addr), PE (X.blk s H scope (compEnvC scope cl C X.env) fp) kx tk)
    (he : ∀ (s : Shared) (H : Hp) (C : Addr) (cl : List (Str × Addr)) (fp : List Addr), PE (X.blk s H scope (compEnvC scope cl C X.env) fp) vx tv) (hs : ∀ x, foldedSetIterable iter X.env x = pure x)
    (h : tDcN X.prog X.w X.K wi g tt tk tv (own.map (·.2)) σ H Q)
    (hRR : ∀ D C s' m H', Inv X pins σ H' s' → Q (.ref D) H' → s'.heap.Ns C m → FpOk X pins H' C → compPost (model X.prog X.w) X.A X.xe use Qf (.ref D) C (.ok .next) s') :
    wpAny (model X.prog X.w) X.A (comprehension (.DictComp kx vx [⟨tg, iter, ifs, 0⟩] scope pos) scope X.env pos' newDict false (eval iter X.env) use) Qf X.xe s := by
  have hfree : ∀ y ∈ scope.names, y.2 = .free → ∃ c, X.env.cells.lookup y.1 = some c := fun y hy e => by
    rcases ok.free y hy e with k | k
    · exact I.ok.has _ (.inl k)
    · exact I.ok.has _ (.inr k)
  refine wpAny_comprehension_free (use := use) rfl hs (closure_ok hfree) ok.kind (fun y hy e => by rw [ok.uniq y hy, e])
    (thn (hi.run pins s σ H _ I h) fun xv s1 hx => thn hx fun itv s2 h2 => ?_)
  obtain ⟨it, fp, tn, J, H2, e, I2, T, st2, f2, q⟩ := h2
  subst e
  refine wpAny_newObj_type (newEnv_comp ?_)
  generalize hD : s2.heap.objs.size = D
  have hDn : H2 D = none := I2.hok.fresh (Nat.le_of_eq hD)
  obtain ⟨W, ⟨m0, w0⟩, turn⟩ := q D _ hDn ⟨Nat.zero_le _, beq_eq_false_iff_ne.mpr (by rw [← hD]; exact Ne.symm (Nat.ne_of_lt I2.big)), [], 0, .nil, upd_same⟩
  -- the new list
  generalize hs3 : ({ s2 with heap := s2.heap.push { cls := .type "dict", data := .dict #[] } } : Shared) = s3
  have I3 : Inv X pins σ (upd H2 D (dnO X.prog X.w D [])) s3 := by
    rw [← hs3]
    refine I2.laid (t' := s2.toks) (fun b o e => Heap.get?_push_of_some _ e) (Nat.le_of_eq hD) ?_
    rw [← hD]
    exact dnO_ok (Heap.get?_push_size _ rfl) ⟨rfl, rfl, rfl⟩ rfl rfl List.nodup_nil
  have h3 : s3.heap = s2.heap.push { cls := .type "dict", data := .dict #[] } := by rw [← hs3]
  have sz : ∀ b ∈ fp, b < s2.heap.objs.size := fun b hb => by
    obtain ⟨o, e, _⟩ := T.obj _ _ st2 b hb
    exact Heap.lt_size e
  have f3 : ∀ b ∈ fp, FpOk X pins (upd H2 D (dnO X.prog X.w D [])) b ∧ b < s3.heap.objs.size := fun b hb => by
    have hlt := sz b hb
    refine ⟨⟨?_, (f2 b hb).2⟩, by rw [h3, Heap.size_push]; exact Nat.lt_succ_of_lt hlt⟩
    rw [upd_ne (by rw [← hD]; exact Nat.ne_of_lt hlt)]
    exact (f2 b hb).1
  have st3 : tn 0 s3.heap := T.keep _ _ _ st2 fun b _ o e => by rw [h3]; exact Heap.get?_push_of_some _ e
  have I4 := block_start I3 ok hN f3
  have pg := hg s3 (upd H2 D (dnO X.prog X.w D [])) s3.heap.objs.size (cellsFrom (s3.heap.objs.size + 1) scope.names (cloFrom X.env.cells scope.names [])) fp
  have pt := ht s3 (upd H2 D (dnO X.prog X.w D [])) s3.heap.objs.size (cellsFrom (s3.heap.objs.size + 1) scope.names (cloFrom X.env.cells scope.names [])) fp
  have pk := hk s3 (upd H2 D (dnO X.prog X.w D [])) s3.heap.objs.size (cellsFrom (s3.heap.objs.size + 1) scope.names (cloFrom X.env.cells scope.names [])) fp
  have pe := he s3 (upd H2 D (dnO X.prog X.w D [])) s3.heap.objs.size (cellsFrom (s3.heap.objs.size + 1) scope.names (cloFrom X.env.cells scope.names [])) fp
  show codeAny _ _ (.compStart (.DictComp kx vx [⟨tg, iter, ifs, 0⟩] scope pos) 0 (.ref it) (.ref D) (compEnvC scope (cellsFrom (s3.heap.objs.size + 1) scope.names (cloFrom X.env.cells scope.names [])) s3.heap.objs.size X.env)) (compPost (model X.prog X.w) X.A X.xe use Qf (.ref D) s3.heap.objs.size) { s3 with heap := pushCells (s3.heap.push { cls := .type "dict", data := .dict #[] }) scope.names }
  have nfp : ∀ b ∈ fp, (upd H2 D (dnO X.prog X.w D [])) b = none := fun b hb => (f3 b hb).1.1
  generalize hce : compEnvC scope (cellsFrom (s3.heap.objs.size + 1) scope.names (cloFrom X.env.cells scope.names [])) s3.heap.objs.size X.env = ce at I4 pg pt pk pe ⊢
  have cL : ce.locals = s3.heap.objs.size := by subst hce; rfl
  generalize hH3 : upd H2 D (dnO X.prog X.w D []) = H3 at I3 I4 pg pt pk pe w0 nfp f3
  generalize hs4 : ({ s3 with heap := pushCells (s3.heap.push { cls := .type "dict", data := .dict #[] }) scope.names } : Shared) = s4 at I4 ⊢
  have st4 : tn 0 s4.heap := T.keep _ _ _ st3 fun b _ o e => by rw [← hs4]; exact pushCells_keeps _ _ _ _ (Heap.get?_push_of_some _ e)
  have stat : ∀ {σ' : L2.St} {H' : Hp} {s' : Shared}, Inv (X.blk s3 H3 scope ce fp) [] σ' H' s' → (∀ b ∈ fp, H' b = none) → ∀ b ∈ fp, FpOk (X.blk s3 H3 scope ce fp) [] H' b := fun {σ' H' s'} I' hn b hb =>
    ⟨hn b hb, (I'.ok.exf b hb).1, I'.ok.exfs b hb, .inl hb, fun x c e => (I'.ok.exf b hb).2 x c e, fun p hp => absurd (show p ∈ ([] : List (Addr × Obj)) ++ [] from hp) (by simp)⟩
  have loop : codeAny (model X.prog X.w) X.A (.compLoop (.DictComp kx vx [⟨tg, iter, ifs, 0⟩] scope pos) 0 (.ref it) (.ref D) ce) (compPost (model X.prog X.w) X.A X.xe use Qf (.ref D) s3.heap.objs.size) s4 := by
    refine compLoop_anyD (fun n s' => ∃ i H', Inv (X.blk s3 H3 scope ce fp) [] (wipe σ (own.map (·.2))) H' s' ∧ tn i s'.heap ∧ (∀ b ∈ fp, H' b = none) ∧ W i n H') ?_ m0 ⟨0, H3, I4, st4, nfp, w0⟩
    rintro n s5 ⟨i, H5, I5, st5, n5, w5⟩
    rcases turn i n H5 w5 with ⟨stop, qq⟩ | ⟨go, Nx, hNx, step⟩
    · have td := T.done (X.blk s3 H3 scope ce fp) rfl rfl rfl hc i [] s5 _ H5 (fun _ _ => False) I5 (stat I5 n5) st5 stop
      refine thnF td fun r s6 ⟨hr, I6⟩ => ?_
      subst hr
      -- back in the def's context
      have I7 : Inv X pins σ H5 s6 := I3.call' (ch := fp) I6.os I6.base I6.hok I6.bare fun b hb => ⟨(f3 b hb).1.2.2.2.1, (f3 b hb).1.2.1, (f3 b hb).1.2.2.2.2.1, (f3 b hb).1.2.2.2.2.2⟩
      have nC : H5 s3.heap.objs.size = none := by
        have z : H5 ce.locals = none := I6.free
        rw [cL] at z
        exact z
      obtain ⟨m, hn, _⟩ := I6.loc
      have hn : s6.heap.Ns ce.locals m := hn
      rw [cL] at hn
      exact hRR D s3.heap.objs.size s6 m H5 I7 qq hn (I3.fpOk (Nat.le_refl _) nC)
    · have ti := T.item (X.blk s3 H3 scope ce fp) rfl rfl rfl hc i [] s5 _ H5 (fun _ _ => False) I5 (stat I5 n5) st5 go
      refine thnF ti fun r s6 ⟨u, hr, h6⟩ => ?_
      subst hr
      refine thnF h6 fun _ s7 ⟨x, H7, I7, r7, y7, st7, n7⟩ => ?_
      have I7' := I7.pinned (stat I7 n7) (T.obj _ _ st7)
      refine thnF (pg.run _ s7 _ H7 x u _ I7' r7 (step x H7 y7)) fun _ s8 ⟨σ8, H8, I8, hw8, q8⟩ => ?_
      refine thnF (pt.run _ s8 σ8 H8 _ I8 q8) fun b s9 ⟨H9, I9, q9⟩ => ?_
      -- the turn's end
      have fin : ∀ {s' : Shared} {H' : Hp}, Inv (X.blk s3 H3 scope ce fp) ([] ++ pinsAt fp s7.heap) σ8 H' s' → Nx H' → ∃ m, m < n ∧ ∃ i H', Inv (X.blk s3 H3 scope ce fp) [] (wipe σ (own.map (·.2))) H' s' ∧ tn i s'.heap ∧ (∀ b ∈ fp, H' b = none) ∧ W i m H' := fun {s' H'} I' nx => by
        obtain ⟨m', hm, w'⟩ := hNx H' nx
        have pin' : ∀ b ∈ fp, ∀ o, s7.heap.get? b = some o → s'.heap.get? b = some o ∧ H' b = none := fun b hb o e =>
          let z := I'.pin (b, o) (List.mem_append_right _ (List.mem_append_right _ (mem_pinsAt hb e)))
          ⟨z.1, z.2.1⟩
        have hl : (wipe σ (own.map (·.2))).length = σ8.length := by rw [← hw8, wipe_length]
        refine ⟨m', hm, i + 1, H', (I'.unpinned (pins := [])).weak hl (fun j v e => ?_), T.keep _ _ _ st7 fun b hb o e => (pin' b hb o e).1, fun b hb => ?_, w'⟩
        · rw [← hw8] at e
          exact (wipe_some e).1
        · obtain ⟨o, e, _⟩ := T.obj _ _ st7 b hb
          exact (pin' b hb o e).2
      cases b with
      | false =>
        simp only [Bool.false_eq_true, if_false] at q9 ⊢
        exact fin I9 q9
      | true =>
        simp only [if_true] at q9 ⊢
        refine thnF (pk.run _ s9 σ8 H9 _ I9 q9) fun z s10 ⟨yk, H10, I10, r10, q10⟩ => ?_
        refine thnF (pe.run _ s10 σ8 H10 _ I10 q10) fun z2 s11 ⟨yv, H11, I11, r11, kvs, k, b, ek, hD11, hk11, hk8, hz11, nx⟩ => ?_
        subst ek
        exact d_dictSetN (X := X.blk s3 H3 scope ce fp) hu I11 hD11 hk11 hk8 hz11 r10 r11 fun ob s12 hd12 I12 => fin I12 (nx ob hd12)
  exact codeAny_compStart_dict loop (T.self X.A 0 _ _ _ st4 loop)
/-- as a value -/
theorem pe_dcN {P : Program} {w : World} {K : PySem.W.Frag} {kx vx tg iter : Expr} {ifs : List Expr} {scope : Scope} {own : List (Str × Nat)} {pos : Pos} {wi : TI} {g : TG} {tt : TT} {tk tv : TE} (hc : X.calm = true) (hu : X.A.units + 64 < cLine) (hN : X.N.Nodup) (hi : PI X tg iter wi) (ok : BlkOk X.N X.env.scope scope own)
    (hg : ∀ (s : Shared) (H : Hp) (C : Addr) (cl : List (Str × Addr)) (fp : List Addr), PG (X.blk s H scope (compEnvC scope cl C X.env) fp) tg g) (ht : ∀ (s : Shared) (H : Hp) (C : Addr) (cl : List (Str × Addr)) (fp : List Addr), PTs (X.blk s H scope (compEnvC scope cl C X.env) fp) ifs tt)
    (hk : ∀ (s : Shared) (H : Hp) (C : Addr) (cl : List (Str × Addr)) (fp : List Addr), PE (X.blk s H scope (compEnvC scope cl C X.env) fp) kx tk)
    (he : ∀ (s : Shared) (H : Hp) (C : Addr) (cl : List (Str × Addr)) (fp : List Addr), PE (X.blk s H scope (compEnvC scope cl C X.env) fp) vx tv) (hs : ∀ x, foldedSetIterable iter X.env x = pure x := by intro _; rfl) (hK : X.K = K := by rfl) (hP : X.prog = P := by rfl) (hw : X.w = w := by rfl) :
    PE X (.DictComp kx vx [⟨tg, iter, ifs, 0⟩] scope pos) (tDcN P w K wi g tt tk tv (own.map (·.2))) := by
  subst hK hP hw
  refine ⟨fun pins s σ H Q I h => ?_⟩
  rw [arm_eval_DictComp]
  refine dcN_core hc hu hN I hi ok hg ht hk he hs h fun D C s' m H' I' q hn f => ⟨m, hn, fun h'' sb => ?_⟩
  obtain ⟨f0, f1, f2, f3, f4, f5⟩ := f
  exact ⟨.ref D, H', I'.turned (t' := s'.toks) (fun b o hb e => (sb.2 b hb).trans e) f0 f1 f3 f4 f5, rfl, q⟩
end
end Ew
set_option Elab.async false
set_option linter.all false
set_option maxRecDepth 100000
set_option maxHeartbeats 4000000
namespace Ew
open PySem PySem.Spec PyProof.Rows L2
open Evl (Ex)
open PySem.W (EachIs)
/-! ### == and != of lists of data -/
section
open SeqAt
variable {X : Cx}
theorem nested_len {h : Heap} {ds : List Nk} {us : List Value} (r : NestedAll h ds us) : us.length = ds.length := NestedAll.length _ _ r
theorem keys_all {ds es : List Nk} (hl : ds.length = es.length) : (List.range ds.length).all (keyEqAt ds es) = decide (ds = es) := by
  have h := beqAll_eq ds es
  rw [hl, Nat.min_self] at h
  rw [hl]
  have hb : (es.length == es.length) = true := beq_self_eq_true _
  rw [hb, Bool.and_true] at h
  rw [h]
  have e : NestedKey.beqAll ds es = NestedKey.beq (.tup ds) (.tup es) := by rw [NestedKey.beq]
  rw [e, ← NestedKey.decide_eq]
  by_cases q : ds = es
  · rw [decide_eq_true q, decide_eq_true (by rw [q])]
  · rw [decide_eq_false q, decide_eq_false (fun z => q (by injection z))]
theorem lists_rc (ds es : List Nk) (A : Around) (s : Shared) (a b : Addr) (us vs : List Value) (ha : s.heap.IsList a us.toArray) (hb : s.heap.IsList b vs.toArray) (ra : NestedAll s.heap ds us) (rb : NestedAll s.heap es vs) (hd : ∀ d ∈ ds, d.depth ≤ 50) (hu : A.units + 64 < cLine) :
    RcAt A s (.ref a) (.ref b) (decide (ds = es)) := by
  have n1 := nested_len ra
  have n2 := nested_len rb
  by_cases hl : ds.length = es.length
  · rw [← keys_all hl]
    have e1 : us.toArray.size = ds.length := by simpa using n1
    rw [← e1]
    refine RcAt.lists ha hb (by simp; omega) (by omega) fun j j1 j2 => ?_
    have hdd : NestedKey.depthAll ds ≤ 50 := by
      clear hl ra n1 e1 ha j1 j2 j
      induction ds with
      | nil => simp [NestedKey.depthAll]
      | cons d ds ih =>
        have h1 := hd d List.mem_cons_self
        have h2 := ih fun x hx => hd x (List.mem_cons_of_mem _ hx)
        simp only [NestedKey.depthAll]
        omega
    have := eqAt_keys ds es A.in1 s us vs ra rb (by show A.units + 1 + min (NestedKey.depthAll ds) (NestedKey.depthAll es) < cLine; omega) j (by simpa using j1) (by simpa using j2)
    simpa using this
  · rw [decide_eq_false (fun q => hl (by rw [q]))]
    exact RcAt.lists_lengths ha hb (by simp; omega) (by omega)
theorem lists_rcNe (ds es : List Nk) (A : Around) (s : Shared) (a b : Addr) (us vs : List Value) (ha : s.heap.IsList a us.toArray) (hb : s.heap.IsList b vs.toArray) (ra : NestedAll s.heap ds us) (rb : NestedAll s.heap es vs) (hd : ∀ d ∈ ds, d.depth ≤ 50) (hu : A.units + 64 < cLine) :
    RcNeAt A s (.ref a) (.ref b) (!decide (ds = es)) := by
  have n1 := nested_len ra
  have n2 := nested_len rb
  by_cases hl : ds.length = es.length
  · rw [← keys_all hl]
    have e1 : us.toArray.size = ds.length := by simpa using n1
    rw [← e1]
    refine RcNeAt.lists ha hb (by simp; omega) (by omega) fun j j1 j2 => ?_
    have hdd : NestedKey.depthAll ds ≤ 50 := by
      clear hl ra n1 e1 ha j1 j2 j
      induction ds with
      | nil => simp [NestedKey.depthAll]
      | cons d ds ih =>
        have h1 := hd d List.mem_cons_self
        have h2 := ih fun x hx => hd x (List.mem_cons_of_mem _ hx)
        simp only [NestedKey.depthAll]
        omega
    have := eqAt_keys ds es A.in1 s us vs ra rb (by show A.units + 1 + min (NestedKey.depthAll ds) (NestedKey.depthAll es) < cLine; omega) j (by simpa using j1) (by simpa using j2)
    simpa using this
  · rw [decide_eq_false (fun q => hl (by rw [q]))]
    exact RcNeAt.lists_lengths ha hb (by simp; omega) (by omega)
def rEqL (K : PySem.W.Frag) : R2 := fun x y H Q => ∃ a b xs ys ds es, x = .ref a ∧ y = .ref b ∧ SqL K H a xs ∧ SqL K H b ys ∧ NVs K H xs ds ∧ NVs K H ys es ∧ (∀ d ∈ ds, d.depth ≤ 50) ∧ Q (.bl (decide (ds = es))) H
def rNeL (K : PySem.W.Frag) : R2 := fun x y H Q => ∃ a b xs ys ds es, x = .ref a ∧ y = .ref b ∧ SqL K H a xs ∧ SqL K H b ys ∧ NVs K H xs ds ∧ NVs K H ys es ∧ (∀ d ∈ ds, d.depth ≤ 50) ∧ Q (.bl (!decide (ds = es))) H
theorem op_eqL (hu : X.A.units + 64 < cLine) : OpR X (compareOp .Eq) (rEqL X.K) := by
  rintro pins s σ H x y v u Q I rx ry ⟨a, b, xs, ys, ds, es, rfl, rfl, h1, h2, h3, h4, h5, q⟩
  cases rx
  cases ry
  obtain ⟨us, r1, p1, _⟩ := I.list h1
  obtain ⟨vs, r2, p2, _⟩ := I.list h2
  exact lists_rc ds es X.A s a b us vs p1.isList p2.isList (NVs.is I ds _ _ h3 r1) (NVs.is I es _ _ h4 r2) h5 hu X.prog X.w X.xe _ ⟨.bl _, H, I, rfl, q⟩
theorem op_neL (hu : X.A.units + 64 < cLine) : OpR X (compareOp .NotEq) (rNeL X.K) := by
  rintro pins s σ H x y v u Q I rx ry ⟨a, b, xs, ys, ds, es, rfl, rfl, h1, h2, h3, h4, h5, q⟩
  cases rx
  cases ry
  obtain ⟨us, r1, p1, _⟩ := I.list h1
  obtain ⟨vs, r2, p2, _⟩ := I.list h2
  exact lists_rcNe ds es X.A s a b us vs p1.isList p2.isList (NVs.is I ds _ _ h3 r1) (NVs.is I es _ _ h4 r2) h5 hu X.prog X.w X.xe _ ⟨.bl _, H, I, rfl, q⟩
theorem k_eqL {K : PySem.W.Frag} (hu : X.A.units + 64 < cLine) (hK : X.K = K := by rfl) : OpR X (compareOp .Eq) (rEqL K) := by subst hK; exact op_eqL hu
theorem k_neL {K : PySem.W.Frag} (hu : X.A.units + 64 < cLine) (hK : X.K = K := by rfl) : OpR X (compareOp .NotEq) (rNeL K) := by subst hK; exact op_neL hu
end
/-! ### C() where there is no __init__ but object's -/
structure Mk0 (K : PySem.W.Frag) (C : Addr) : Prop where
  makes : PySem.W.makesIn K C = true
  init : PySem.W.findIn K (.ref C) "__init__" = some (some (.builtin "object.__init__"))
  top : PySem.W.mroIn K C (.type "object") = some true
  kp : PySem.W.keepIn K (.ref C) = true
def tMake0 (C : Addr) : TE := fun σ H Q => ∀ x dx, H x = none → H dx = none → dx ≠ x → Q (.ref x) (upd (upd H dx (.own x)) x (.ins C dx []))
section
variable {X : Cx} {C : Addr} {x : Str} {p pos : Pos}
theorem run_make0 {pins : List (Addr × Obj)} {σ : L2.St} {H : Hp} {s : Shared} {Q : VK} (M : Mk0 X.K C) (I : Inv X pins σ H s) (h : tMake0 C σ H Q) : wpAny (model X.prog X.w) X.A (call (.ref C) []) (EP X pins σ Q) X.xe s := by
  have hq := h (s.heap.objs.size + 1) s.heap.objs.size (I.hok.fresh (Nat.le_succ _)) (I.hok.fresh (Nat.le_refl _)) (Nat.ne_of_lt (Nat.lt_succ_self _))
  have I2 := Inv.made (C := C) I
  refine wpAny_call (make_map0 I.kIn M.makes M.init (fun self => PySem.W.Looks.of_pure (PySem.W.oi_bind self)) ?_)
  have ho : ((s.heap.push PySem.W.emptyDict).push (PySem.W.instObj C s.heap.objs.size)).get? (s.heap.objs.size + 1) = some (PySem.W.instObj C s.heap.objs.size) := by
    have := Heap.get?_push_size (s.heap.push PySem.W.emptyDict) (o := PySem.W.instObj C s.heap.objs.size) rfl
    rwa [Heap.size_push] at this
  have t1 : PySem.W.Looks (model X.prog X.w) ((s.heap.push PySem.W.emptyDict).push (PySem.W.instObj C s.heap.objs.size)) (typeOf (.ref (s.heap.objs.size + 1))) (.ref C) := NwA.type_at ho rfl
  have t2 : PySem.W.Looks (model X.prog X.w) ((s.heap.push PySem.W.emptyDict).push (PySem.W.instObj C s.heap.objs.size)) (isInstance (.ref (s.heap.objs.size + 1)) (.type "object")) true := t1.andThen (PySem.W.looks_mroIn I2.kIn M.top)
  refine codeAny_call_builtin PySem.W.oi_plain PySem.W.entry_oi (@PySem.W.check_slot (model X.prog X.w) _ _ _ "object.__init__" "object" "__init__" (.ref (s.heap.objs.size + 1)) [] [] _ PySem.W.oi_kind PySem.W.oi_split t2 (PySem.W.oi_args _) ?_)
  rw [PySem.W.oi_run]
  exact wpAny_pure ⟨rfl, ⟨V.ref (s.heap.objs.size + 1), _, I2, rfl, hq⟩⟩
theorem pe_mk0 (M : Mk0 X.K C) (hg : Gl X x) (hm : X.mg x = some (.ref C)) (hdb : (x == ("__debug__" : Str)) = false := by decide) : PE X (.Call (.Name x p) [] [] pos) (tMake0 C) := by
  refine ⟨fun pins s σ H Q I h => ?_⟩
  refine wpAny_Call_Name_kw (ld_glob I hg hm ?_ hdb)
  exact PySem.W.callWith_K0 I.kIn M.kp (run_make0 M I h)
end
end Ew
set_option Elab.async false
set_option linter.all false
set_option maxRecDepth 100000
set_option maxHeartbeats 4000000
namespace Ew
open PySem PySem.Spec PyProof.Rows L2
open Evl (Ex)
open PySem.W (EachIs)
/-! ### dicts with tuple keys, walked (they stay while they are walked) -/
section
variable {X : Cx} {pins : List (Addr × Obj)} {σ : L2.St} {H : Hp} {s : Shared} {d : Addr} {ep : Nat} {xs : Xs}
theorem dnE_raw (I : Inv X pins σ H s) (h : H d = some (dnE X.prog X.w d ep xs)) : ∃ es, s.heap.DictRaw d es ep ∧ es.size = xs.length ∧ ∀ (i : Nat) (x : Nk × Addr × Value), xs[i]? = some x → ∃ hi : i < es.size, es[i].key = .ref x.2.1 ∧ es[i].val = x.2.2 := by
  obtain ⟨o, es, h1, h2, h3, h4, _⟩ := (show ObjOk X.prog X.w H s.heap d (dnE X.prog X.w d ep xs) from I.hok d _ h).1
  have l1 : es.size = xs.length := size_of_entries h4
  refine ⟨es, ⟨o, h1, h2, h3⟩, l1, fun i x e => ?_⟩
  have hi : i < es.size := by
    have := (List.getElem?_eq_some_iff.mp e).1
    omega
  have q := entry_at h4 i
  rw [e, Array.getElem?_eq_getElem hi] at q
  have q := Option.some.inj q
  exact ⟨hi, by rw [q]; rfl, by rw [q]; rfl⟩
end
def ItNK (P : Program) (w : World) (d : Addr) (ep : Nat) (xs : Xs) : It :=
  ⟨fun i H => H d = some (dnE P w d ep xs) ∧ i < xs.length, fun i H x H' => H' = H ∧ ∃ y, xs[i]? = some y ∧ x = .ref y.2.1, fun i H => H d = some (dnE P w d ep xs) ∧ xs.length ≤ i⟩
def ItNI (P : Program) (w : World) (d : Addr) (ep : Nat) (xs : Xs) (kvs : List (Nk × V)) : It :=
  ⟨fun i H => H d = some (dnE P w d ep xs) ∧ i < xs.length, fun i H x H' => ∃ T y kv, xs[i]? = some y ∧ kvs[i]? = some kv ∧ x = .ref T ∧ H T = none ∧ H' = upd H T (.tup [.ref y.2.1, kv.2]), fun i H => H d = some (dnE P w d ep xs) ∧ xs.length ≤ i⟩
section
variable {P : Program} {w : World} {K : PySem.W.Frag} {tg : Expr} {d : Addr} {ep : Nat} {xs : Xs} {kvs : List (Nk × V)}
theorem turn_nk (it : Addr) : Turn P w K tg (ItNK P w d ep xs) [it] it (fun i h => h.IsKeyIter it d i xs.length ep) where
  mem := by simp
  obj := fun i h st b hb => by
    have e : b = it := by simpa using hb
    subst e
    obtain ⟨oi, e, c, dd⟩ := st
    exact ⟨oi, e, fun v z => by rw [dd] at z; cases z⟩
  keep := fun i h h' st k => st.at fun oi e => k it (by simp) oi e
  item := by
    intro X hP hw hK hc i pins s σ H E I hf st hg
    subst hP hw hK
    obtain ⟨hd, hi⟩ := hg
    obtain ⟨f0, f1, f2, f3, f4, f5⟩ := hf it (by simp)
    obtain ⟨es, raw, hsz, get⟩ := dnE_raw I hd
    obtain ⟨y, hy⟩ : ∃ p, xs[i]? = some p := ⟨xs[i], List.getElem?_eq_getElem hi⟩
    obtain ⟨hi', hk, hv⟩ := get i y hy
    rw [← hsz] at st
    refine wpAny_pyNext_keys_item_raw st raw hi' fun h' st' sb => ?_
    have I1 : Inv X pins σ H { s with heap := h' } := I.turned (t' := s.toks) (fun b ob hb e => (sb.2 b hb).trans e) f0 f1 f3 f4 f5
    obtain ⟨oi, e, c, dd⟩ := id st'
    refine ⟨es[i].key, rfl, go_of (s := { s with heap := h' }) e c dd (by decide) ⟨.ref y.2.1, H, I1, hk, ⟨rfl, y, hy, rfl⟩, ?_, fun b hb => (hf b hb).1⟩⟩
    show h'.IsKeyIter it d (i + 1) xs.length ep
    rw [← hsz]
    exact st'
  done := by
    intro X hP hw hK hc i pins s σ H E I hf st hg
    subst hP hw hK
    obtain ⟨hd, hi⟩ := hg
    obtain ⟨f0, f1, f2, f3, f4, f5⟩ := hf it (by simp)
    obtain ⟨es, raw, hsz, get⟩ := dnE_raw I hd
    rw [← hsz] at st hi
    exact wpAny_pyNext_keys_end_raw (I.ok.hd hc) st raw hi fun h' eb => ⟨rfl, I.turned (t' := s.toks) (fun b ob hb e => eb b ob hb e) f0 f1 f3 f4 f5⟩
  self := fun A i s Q E st h => wpAny_pyIter_keyiter st h
theorem turn_ni {elts : List Expr} {kk : Nat} {tpos : Pos} (it : Addr) (hl : kvs.length = xs.length) (rel : ∀ (i : Nat) (y : Nk × Addr × Value) (kv : Nk × V), xs[i]? = some y → kvs[i]? = some kv → RelV kv.2 y.2.2) :
    Turn P w K (.Tuple elts kk tpos) (ItNI P w d ep xs kvs) [it] it (fun i h => ∃ ok ov, IsItemIter h it d i xs.length ep ok ov) where
  mem := by simp
  obj := fun i h st b hb => by
    have e : b = it := by simpa using hb
    subst e
    obtain ⟨ok, ov, e⟩ := st
    exact ⟨_, e, fun v z => nomatch z⟩
  keep := fun i h h' st k => let ⟨ok, ov, e⟩ := st; ⟨ok, ov, k it (by simp) _ e⟩
  item := by
    intro X hP hw hK hc i pins s σ H E I hf st hg
    subst hP hw hK
    obtain ⟨hd, hi⟩ := hg
    obtain ⟨es, raw, hsz, get⟩ := dnE_raw I hd
    obtain ⟨y, hy⟩ : ∃ p, xs[i]? = some p := ⟨xs[i], List.getElem?_eq_getElem hi⟩
    obtain ⟨kv, hkv⟩ : ∃ p, kvs[i]? = some p := ⟨kvs[i]'(by omega), List.getElem?_eq_getElem (by omega)⟩
    obtain ⟨hi', hk, hv⟩ := get i y hy
    have rv := rel i y kv hy hkv
    obtain ⟨ok, ov, he⟩ := st
    rw [← hsz] at he
    have hlt : it < s.heap.objs.size := Heap.lt_size he
    refine wpAny_pyNext_items_item_raw he raw hi' fun h' ho hT hz hk2 => ?_
    refine ⟨_, rfl, wpAny_letOwnedTupleGo_items (s := { s with heap := h' }) ho fun h'' he' sb => ?_⟩
    have hT2 : h''.get? s.heap.objs.size = some { cls := .type "tuple", data := .seq #[es[i].key, es[i].val] } := (sb.2 _ (Nat.ne_of_gt hlt)).trans hT
    have new : ObjOk X.prog X.w (upd H s.heap.objs.size (.tup [.ref y.2.1, kv.2])) h'' s.heap.objs.size (.tup [.ref y.2.1, kv.2]) :=
      ⟨by show 2 ≤ sizeLine; decide, [es[i].key, es[i].val], .cons hk (.cons (by rw [hv]; exact rv) .nil), ⟨_, hT2, rfl, _, rfl⟩⟩
    have I1 : Inv X pins σ (upd H s.heap.objs.size (.tup [.ref y.2.1, kv.2])) { s with heap := h'' } :=
      I.turnedNew (t' := s.toks) (ch := [it]) (fun b ob hb e => (sb.2 b (by simpa using hb)).trans (hk2 b ob (by simpa using hb) e)) hf (Nat.le_refl _) new
    refine ⟨.ref s.heap.objs.size, _, I1, rfl, ⟨_, y, kv, hy, hkv, rfl, I.hok.fresh (Nat.le_refl _), rfl⟩, ⟨es[i].key, es[i].val, ?_⟩, fun b hb => ?_⟩
    · rw [← hsz]; exact he'
    · have e : b = it := by simpa using hb
      rw [e, upd_ne (Nat.ne_of_lt hlt)]
      exact (hf it (by simp)).1
  done := by
    intro X hP hw hK hc i pins s σ H E I hf st hg
    subst hP hw hK
    obtain ⟨hd, hi⟩ := hg
    obtain ⟨f0, f1, f2, f3, f4, f5⟩ := hf it (by simp)
    obtain ⟨es, raw, hsz, get⟩ := dnE_raw I hd
    obtain ⟨ok, ov, he⟩ := st
    rw [← hsz] at he hi
    exact wpAny_pyNext_items_end_raw (I.ok.hd hc) he raw hi fun h' eb => ⟨rfl, I.turned (t' := s.toks) (fun b ob hb e => eb b ob hb e) f0 f1 f3 f4 f5⟩
  self := fun A i s Q E st h => let ⟨_, _, e⟩ := st; wpAny_pyIter_itemiter e h
theorem walk_nk : Walk (ItNK P w d ep xs) xs.length (fun H => H d = some (dnE P w d ep xs)) (fun i H x H' => H' = H ∧ ∃ y, xs[i]? = some y ∧ x = .ref y.2.1) :=
  ⟨fun _ _ hi q => ⟨q, hi⟩, fun _ q => ⟨q, Nat.le_refl _⟩, fun _ _ _ _ _ _ y => y⟩
theorem walk_ni : Walk (ItNI P w d ep xs kvs) xs.length (fun H => H d = some (dnE P w d ep xs)) (fun i H x H' => ∃ T y kv, xs[i]? = some y ∧ kvs[i]? = some kv ∧ x = .ref T ∧ H T = none ∧ H' = upd H T (.tup [.ref y.2.1, kv.2])) :=
  ⟨fun _ _ hi q => ⟨q, hi⟩, fun _ q => ⟨q, Nat.le_refl _⟩, fun _ _ _ _ _ _ y => y⟩
end
def iNK (P : Program) (w : World) (K : PySem.W.Frag) (td : TE) : TI := fun σ H R => td σ H fun x H1 => ∃ d kvs, x = .ref d ∧ DN P w K H1 d kvs ∧ ∀ xs ep, DRel K H1 kvs xs → H1 d = some (dnE P w d ep xs) → R (ItNK P w d ep xs) H1
def iNI (P : Program) (w : World) (K : PySem.W.Frag) (td : TE) : TI := fun σ H R => td σ H fun x H1 => ∃ d kvs, x = .ref d ∧ DN P w K H1 d kvs ∧ ∀ xs ep, DRel K H1 kvs xs → H1 d = some (dnE P w d ep xs) → R (ItNI P w d ep xs kvs) H1
section
variable {X : Cx} {tg e : Expr} {td : TE} {apos cpos : Pos} {P : Program} {w : World} {K : PySem.W.Frag}
theorem pi_nk (he : PE X e td) (hK : X.K = K := by rfl) (hP : X.prog = P := by rfl) (hw : X.w = w := by rfl) : PI X tg e (iNK P w K td) := by
  subst hK hP hw
  refine ⟨fun pins s σ H R I h => ?_⟩
  refine thn (he.run pins s σ H _ I h) fun u s1 ⟨x, H1, I1, rx, d, kvs, ex, hd, q⟩ => ?_
  subst ex
  obtain rfl : u = Value.ref d := rx
  obtain ⟨xs, ep, rel, hx⟩ := hd.ex
  obtain ⟨es, raw, hsz, get⟩ := dnE_raw I1 hx
  refine wpAny_pyIter_dict_raw hd.sys raw (pi_one (tk := s1.toks) I1 _ (turn_nk (d := d) (ep := ep) (xs := xs) _) ⟨_, Heap.get?_push_size _ rfl, rfl, ?_⟩ (q xs ep rel hx))
  rw [hsz] <;> rfl
theorem pi_ni {elts : List Expr} {kk : Nat} {tpos : Pos} (he : PE X e td) (hbase : attributeBase e "items" X.env (eval e X.env) = eval e X.env := by rfl) (hline : (apos.endLine == cpos.line) = true := by rfl) (hK : X.K = K := by rfl) (hP : X.prog = P := by rfl) (hw : X.w = w := by rfl) :
    PI X (.Tuple elts kk tpos) (.Call (.Attribute e "items" apos) [] [] cpos) (iNI P w K td) := by
  subst hK hP hw
  refine ⟨fun pins s σ H R I h => ?_⟩
  refine wpAny_Call_method (T := "dict") (id := "dict.items") hbase rfl hline F.plainAttrs_dict F.slot_dict_items F.type_dict_items (thn (he.run pins s σ H _ I h) fun u s1 ⟨x, H1, I1, rx, d, kvs, ex, hd, q⟩ => ?_)
  subst ex
  obtain rfl : u = Value.ref d := rx
  obtain ⟨xs, ep, rel, hx⟩ := hd.ex
  obtain ⟨es, raw, hsz, get⟩ := dnE_raw I1 hx
  refine ⟨raw.typeIs, fun b e => by cases e; obtain ⟨o, h1, h2, _⟩ := raw; exact ⟨o, h1, h2.2.1⟩, ?_⟩
  have I2 : Inv X pins σ H1 { s1 with heap := s1.heap.push { cls := .type "dict_items", data := .fields #[.ref d] } } := I1.kept (t' := s1.toks) fun b ob q => Heap.get?_push_of_some _ q
  show wpAny _ _ (callWith cpos (.builtin "dict.items") [.ref d] [] []) _ X.xe s1
  refine Calls.callWith_builtin rfl (PySem.evalArgs_none (DT.callItems (es := es) (ep := ep) hd.sys raw ?_))
  refine wpAny_pyIter_items_raw (d := d) (es := es) (ep := ep) ⟨_, Heap.get?_push_size _ rfl, rfl, rfl⟩ (raw.push _) (pi_one (tk := s1.toks) I2 _ (turn_ni (d := d) (ep := ep) (xs := xs) (kvs := kvs) _ rel.length fun i y kv h1 h2 => ?_) ⟨.none, .none, ?_⟩ (q xs ep rel hx))
  · obtain ⟨b, hb, _, _, _, r⟩ := paired_get rel h2
    rw [h1] at hb
    cases hb
    exact r
  · rw [← hsz]
    exact Heap.get?_push_size _ rfl
end
end Ew
set_option Elab.async false
set_option linter.all false
set_option maxRecDepth 100000
set_option maxHeartbeats 4000000
namespace Ew
open PySem PySem.Spec PyProof.Rows L2
open Evl (Ex)
open PySem.W (EachIs)
/-! ### two dicts with tuple keys are equal -/
section
variable {prog : Program} {w : World} {A : Around} {E : Value → Shared → Prop} {s : Shared}
open PySem.Calls in
theorem samePairsN {nm : String} {a b : Addr} {ka kb : Xs} {Q : Bool → Shared → Prop} (hu : A.units + 8 < cLine) (ha : (a == sysModules) = false) (hb : (b == sysModules) = false)
    (da : s.heap.DictOfH (nestedKind prog w) a ka) (db : s.heap.DictOfH (nestedKind prog w) b kb) (hl : ka.length = kb.length)
    (hits : ∀ (i : Nat) (x : Nk × Addr × Value), ka[i]? = some x → ∃ y, atKey kb x.1 = some y ∧ SeqAt.EqAt A s x.2.2 y.2 true) (h : Q true s) :
    wpAny (model prog w) A (Builtin.Dict.samePairs nm a b) Q E s := by
  obtain ⟨oa, es, ep, hoa, _, hda, hea, hia, _⟩ := da
  obtain ⟨ob, es', ep', hob, _, hdb, heb, hib, hnb⟩ := db
  have hla : es.size = ka.length := size_of_entries hea
  have hlb : es'.size = kb.length := size_of_entries heb
  have hsz : es.size = es'.size := by omega
  unfold Builtin.Dict.samePairs Builtin.Dict.showsAll
  rw [if_neg (show ¬ (a == sysModules) = true by rw [ha]; exact Bool.false_ne_true), if_neg (show ¬ (b == sysModules) = true by rw [hb]; exact Bool.false_ne_true)]
  refine wpAny_bind (wpAny_pure (wpAny_bind (wpAny_pure ?_)))
  refine wpAny_bind (wpAny_dictEntries hoa hda ?_)
  dsimp only
  refine wpAny_bind (wpAny_dictEntries hob hdb ?_)
  rw [if_neg (by rw [hsz]; simp)]
  refine wpAny_bind (wpAny_dictEpoch hoa hda ?_)
  refine wpAny_bind ?_
  rw [Std.Legacy.Range.forIn_eq_forIn_range']
  simp only [Std.Legacy.Range.size, Nat.sub_zero, Nat.add_sub_cancel, Nat.div_one]
  refine wpAny_forIn_list _
    (fun rest q s' => s' = s ∧ q = (none, ()) ∧ ∃ i, rest = List.range' i (es.size - i) ∧ i ≤ es.size)
    _ ?_ ?_ _ _ ⟨rfl, rfl, 0, by simp, Nat.zero_le _⟩
  · rintro x rest q s' ⟨rfl, rfl, i, hr, hi⟩
    have hlt : i < es.size := by
      rcases Nat.lt_or_ge i es.size with h | h
      · exact h
      · rw [Nat.sub_eq_zero_of_le h] at hr; simp at hr
    obtain ⟨rfl, hrest⟩ : x = i ∧ rest = List.range' (i + 1) (es.size - (i + 1)) := by
      have e : es.size - i = (es.size - (i + 1)) + 1 := by omega
      rw [e, List.range'_succ] at hr
      injection hr with h1 h2
      exact ⟨h1, h2⟩
    refine wpAny_bind (wpAny_dictEntries hoa hda ?_)
    rw [Array.getElem?_eq_getElem hlt]
    have hlt' : x < ka.length := by omega
    have q := entry_at hea x
    rw [Array.getElem?_eq_getElem hlt, List.getElem?_eq_getElem hlt'] at q
    have een : es[x] = entryOfKey (nestedKind prog w) ka[x] := Option.some.inj q
    obtain ⟨y, hy, heq⟩ := hits x ka[x] (List.getElem?_eq_getElem hlt')
    have hka := hia ka[x] (List.getElem_mem hlt')
    show wpAny _ _ (holding [es[x].key, es[x].val] _ >>= _) _ _ _
    have ek : es[x].key = .ref ka[x].2.1 := by rw [een]; rfl
    have ev : es[x].val = ka[x].2.2 := by rw [een]; rfl
    have eh : es[x].hash = (nestedKind prog w).hash ka[x].1 := by rw [een]; rfl
    rw [ek, ev, eh]
    refine wpAny_bind (wpAny_holding (wpAny_bind (wpAny_dictFind_heap (knd := nestedKind prog w) (k := ka[x].1) hu hka hob hdb heb hib hnb (fun hno => ?_) fun j p hj => ?_)))
    · rw [atKey_none_of_get hno] at hy
      cases hy
    · have hp := atKey_of_get hnb hj
      rw [hy] at hp
      have hp := Option.some.inj hp
      subst hp
      refine wpAny_bind (wpAny_dictEntries hob hdb ?_)
      have qj := entry_at heb j
      rw [hj] at qj
      rw [qj]
      refine wpAny_holding (heq prog w _ _ ?_)
      show wpAny _ _ (if (!true) = true then _ else _) _ _ _
      rw [if_neg (by decide)]
      refine wpAny_bind (wpAny_dictEpoch hoa hda ?_)
      rw [if_neg (by simp)]
      exact wpAny_pure ⟨rfl, rfl, x + 1, hrest, hlt⟩
  · rintro q s' ⟨rfl, rfl, i, hr, hi⟩
    exact wpAny_pure h
open PySem.Calls in
theorem eqN_dict {a b : Addr} {ka kb : Xs} {Q : Value → Shared → Prop} (hu : A.units + 64 < cLine) (ha : (a == sysModules) = false) (hb : (b == sysModules) = false)
    (da : s.heap.DictOfH (nestedKind prog w) a ka) (db : s.heap.DictOfH (nestedKind prog w) b kb) (hl : ka.length = kb.length)
    (hits : ∀ (i : Nat) (x : Nk × Addr × Value), ka[i]? = some x → ∃ y, atKey kb x.1 = some y ∧ SeqAt.EqAt A.in1 s x.2.2 y.2 true) (h : Q (.bool true) s) :
    wpAny (model prog w) A (compareOp .Eq (.ref a) (.ref b)) Q E s := by
  have ta : s.TypeIs (.ref a) "dict" := da.typeIs
  have tb : s.TypeIs (.ref b) "dict" := db.typeIs
  refine wpAny_richCompare_same_room (op := .Eq) ta tb PySem.F.slot_dict_eq (wpAny_call_entry PySem.F.slot_dict_eq ta PySem.F.entry_dict_eq ?_ (PySem.F.args_dict_eq_2 _ _)) (by omega)
  show wpAny _ _ (Builtin.Dict.dictSlotArgs "__eq__" ⟨[.ref a, .ref b], []⟩ >>= _) _ _ s
  refine wpAny_bind ?_
  unfold Builtin.Dict.dictSlotArgs
  refine wpAny_bind (wpAny_notOrdered_dict ta ?_)
  show wpAny _ _ (pure (Value.ref a, Value.ref b)) _ _ s
  refine wpAny_pure ?_
  refine wpAny_bind (wpAny_isInstance (T := "dict") tb PySem.F.sub_dict_dict ?_)
  simp only [Bool.not_true, Bool.false_eq_true, if_false]
  refine wpAny_bind (wpAny_pure (wpAny_bind (wpAny_pure ?_)))
  refine wpAny_bind (samePairsN (by show A.units + 1 + 8 < cLine; omega) ha hb da db hl hits ?_)
  refine wpAny_pure ⟨_, rfl, ?_, ?_⟩
  · exact fun x => nomatch x
  · simpa using h
end
section
variable {X : Cx}
/-- d == e where each key of d stands in e with a list of the same data -/
def rEqDN (P : Program) (w : World) (K : PySem.W.Frag) : R2 := fun x y H Q => ∃ a b ks ls, x = .ref a ∧ y = .ref b ∧ DN P w K H a ks ∧ DN P w K H b ls ∧ ks.length = ls.length ∧
  (∀ p ∈ ks, ∃ l m xs ys ds, p.2 = .ref l ∧ valV ls p.1 = some (.ref m) ∧ SqL K H l xs ∧ SqL K H m ys ∧ NVs K H xs ds ∧ NVs K H ys ds ∧ ∀ d ∈ ds, d.depth ≤ 50) ∧ Q (.bl true) H
theorem op_eqDN (hu : X.A.units + 80 < cLine) : OpR X (compareOp .Eq) (rEqDN X.prog X.w X.K) := by
  rintro pins s σ H x y v u Q I rx ry ⟨a, b, ks, ls, rfl, rfl, ha, hb, hl, hp, q⟩
  cases rx
  cases ry
  obtain ⟨xa, _, ra, _, ma⟩ := dn_of I ha
  obtain ⟨xb, _, rb, _, mb⟩ := dn_of I hb
  have l1 := ra.length
  have l2 := rb.length
  refine eqN_dict (by omega) ha.sys hb.sys ma mb (by omega) (fun i x hx => ?_) ⟨.bl true, H, I, rfl, q⟩
  have hi : i < ks.length := by
    have := (List.getElem?_eq_some_iff.mp hx).1
    omega
  obtain ⟨x', hx', e1, _, _, rv⟩ := paired_get ra (List.getElem?_eq_getElem hi)
  rw [hx] at hx'
  cases hx'
  obtain ⟨l, m, xs, ys, ds, ep, em, h1, h2, h3, h4, h5⟩ := hp ks[i] (List.getElem_mem hi)
  have r := rb.val ks[i].1
  rw [em, e1] at r
  cases hk : atKey xb x.1 with
  | none => rw [hk] at r; exact r.elim
  | some z =>
    rw [hk] at r
    have r : RelV (.ref m) z.2 := r
    rw [ep] at rv
    obtain ⟨us, r1, p1, _⟩ := I.list h1
    obtain ⟨vs, r2, p2, _⟩ := I.list h2
    refine ⟨z, rfl, ?_⟩
    have e1 : x.2.2 = .ref l := rv
    have e2 : z.2 = .ref m := r
    rw [e1, e2]
    by_cases hlm : l = m
    · rw [hlm]
      exact SeqAt.EqAt.same _
    · have h := lists_rc ds ds X.A.in1 s l m us vs p1.isList p2.isList (NVs.is I ds _ _ h3 r1) (NVs.is I ds _ _ h4 r2) h5 (by show X.A.units + 1 + 64 < cLine; omega)
      rw [decide_eq_true rfl] at h
      exact SeqAt.EqAt.of_refs hlm h
theorem k_eqDN {P : Program} {w : World} {K : PySem.W.Frag} (hu : X.A.units + 80 < cLine) (hK : X.K = K := by rfl) (hP : X.prog = P := by rfl) (hw : X.w = w := by rfl) : OpR X (compareOp .Eq) (rEqDN P w K) := by subst hK hP hw; exact op_eqDN hu
end
/-! ### repr -/
mutual
theorem toPy_nodict : ∀ d : Nk, (toPy d).hasDict = false
  | .none => rfl
  | .num _ => rfl
  | .text _ => rfl
  | .tup ks => by rw [toPy, PyData.hasDict]; exact toPys_nodict ks
theorem toPys_nodict : ∀ ds : List Nk, PyData.hasDictAll (toPys ds) = false
  | [] => rfl
  | d :: ds => by rw [toPys, PyData.hasDictAll, toPy_nodict d, toPys_nodict ds]; rfl
end
def reprN (d : Nk) : Str := (toPy d).shown
def rRepr (K : PySem.W.Frag) : List V → Hp → VK → Prop := fun xs H Q => ∃ v d, xs = [v] ∧ NV K H v d ∧ (toPy d).showable = true ∧ (reprN d).length ≤ sizeLine ∧ (toPy d).depth ≤ 60 ∧ Q (.str (reprN d)) H
theorem cr_repr {X : Cx} (hg : X.A.guards = some []) (hu : X.A.units + 80 < cLine) : CallR X (.builtin "repr") (rRepr X.K) := by
  rintro pins s σ H xs us Q I r ⟨v, d, rfl, hv, hs, hz, hd, q⟩
  obtain ⟨u, rfl, ru⟩ := vals1 r
  cases d with
  | none => cases hv
  | num i =>
    cases hv
    obtain ⟨t, rfl⟩ := ru
    have hi : i.natAbs.log2 < 1920 := by
      have h : (PyData.int i).showable = true := hs
      rw [PyData.showable] at h
      exact of_decide_eq_true h
    refine PySem.P.repr_of_int hi ⟨.str _, H, I.tok _, ⟨_, rfl⟩, ?_⟩
    have e : reprN (.num i) = Str.ofString (toString i) := by rw [reprN, toPy, PyData.shown]
    rw [← e]
    exact q
  | text x =>
    cases hv
    obtain ⟨t, rfl⟩ := ru
    have e : reprN (.text x) = reprText x := by rw [reprN, toPy, PyData.shown]
    refine PySem.P.repr_of_str ⟨.str _, H, I.tok _, ⟨_, rfl⟩, ?_⟩ (by rw [← e]; exact hz)
    rw [← e]
    exact q
  | tup ks =>
    have hv2 := hv
    cases hv with
    | tup h1 h2 =>
      cases ru
      obtain ⟨as, rd⟩ := NV.reads I (.tup ks) _ _ hv2 rfl
      refine repr_of_reads' rd hs (fun h => by rw [toPy_nodict] at h; cases h) hg (by omega) (fun _ _ e => e) (fun h' u tk hk => ?_) hz
      exact ⟨.str _, H, I.kept (t' := tk) hk, ⟨_, rfl⟩, q⟩
theorem k_repr {X : Cx} {K : PySem.W.Frag} (hg : X.A.guards = some []) (hu : X.A.units + 80 < cLine) (hK : X.K = K := by rfl) : CallR X (.builtin "repr") (rRepr K) := by subst hK; exact cr_repr hg hu
/-! ### pairs with different texts ahead are sorted by these -/
theorem nodup_fst {α β : Type} : ∀ {l : List (α × β)} {a : α} {b c : β}, (l.map (·.1)).Nodup → (a, b) ∈ l → (a, c) ∈ l → b = c
  | [], _, _, _, _, h, _ => nomatch h
  | p :: l, a, b, c, hn, h1, h2 => by
    rw [List.map_cons, List.nodup_cons] at hn
    rcases List.mem_cons.mp h1 with e1 | h1
    · rcases List.mem_cons.mp h2 with e2 | h2
      · rw [← e1] at e2
        exact (Prod.mk.inj e2).2.symm
      · exact absurd (List.mem_map.mpr ⟨_, h2, by rw [← e1]⟩) hn.1
    · rcases List.mem_cons.mp h2 with e2 | h2
      · exact absurd (List.mem_map.mpr ⟨_, h1, by rw [← e2]⟩) hn.1
      · exact nodup_fst hn.2 h1 h2
def encT (p : Str × Nk) : Nk := .tup [.text p.1, p.2]
section
open SeqAt
variable {P : Program} {w : World}
noncomputable def nameKind (h : Heap) (bs : List (Str × Nk)) : PyProof.Rows.KeyKind where
  toKeyOrd := PyProof.Rows.strKind.toKeyOrd
  keyOf v := open Classical in if q : ∃ p, p ∈ bs ∧ NestedIs h (encT p) v then some q.choose.1.cps.toList else none
  dflt := ([] : List Nat)
theorem nested_name {h : Heap} {x y : Str} {d e : Nk} {v : Value} (a : NestedIs h (.tup [.text x, d]) v) (b : NestedIs h (.tup [.text y, e]) v) : x = y := by
  cases a with
  | tup h1 h2 h3 h4 =>
    cases b with
    | tup k1 k2 k3 k4 =>
      rw [h1] at k1; cases k1
      rw [h3] at k3; cases k3
      generalize hl : Array.toList _ = l at h4 k4
      cases h4 with
      | cons a1 a2 =>
        cases k4 with
        | cons b1 b2 =>
          cases a1
          cases b1
          rfl
theorem nameKind_some {h : Heap} {bs : List (Str × Nk)} {p : Str × Nk} {v : Value} (hp : p ∈ bs) (a : NestedIs h (encT p) v) : (nameKind h bs).keyOf v = some p.1.cps.toList := by
  have q : ∃ p, p ∈ bs ∧ NestedIs h (encT p) v := ⟨p, hp, a⟩
  show (open Classical in if q : ∃ p, p ∈ bs ∧ NestedIs h (encT p) v then some q.choose.1.cps.toList else none) = _
  rw [dif_pos q]
  obtain ⟨_, h2⟩ := q.choose_spec
  rw [nested_name h2 a]
theorem nameKind_inv {h : Heap} {bs : List (Str × Nk)} {v : Value} {k : List Nat} (e : (nameKind h bs).keyOf v = some k) : ∃ p, p ∈ bs ∧ NestedIs h (encT p) v ∧ k = p.1.cps.toList := by
  by_cases q : ∃ p, p ∈ bs ∧ NestedIs h (encT p) v
  · obtain ⟨p, hp, a⟩ := q
    rw [nameKind_some hp a] at e
    exact ⟨p, hp, a, (Option.some.inj e).symm⟩
  · have e' : (nameKind h bs).keyOf v = none := by
      show (open Classical in if q : ∃ p, p ∈ bs ∧ NestedIs h (encT p) v then some q.choose.1.cps.toList else none) = _
      rw [dif_neg q]
      rfl
    rw [e'] at e
    cases e
mutual
theorem reads_nested {h : Heap} : ∀ (d : Nk) (u : Value) (as : List Addr), Reads h u (toPy d) as → NestedIs h d u
  | .none, _, _, r => by rw [toPy] at r; cases r; exact .none
  | .num i, _, _, r => by rw [toPy] at r; cases r; exact .int _ _
  | .text x, _, _, r => by rw [toPy] at r; cases r; exact .text _ _
  | .tup ks, _, _, r => by
    rw [toPy] at r
    cases r with
    | tuple h1 h2 h3 h4 => exact .tup h1 h2 h3 (readsAll_nested ks _ _ h4)
theorem readsAll_nested {h : Heap} : ∀ (ds : List Nk) (us : List Value) (as : List Addr), ReadsAll h us (toPys ds) as → NestedAll h ds us
  | [], _, _, r => by rw [toPys] at r; cases r; exact .nil
  | d :: ds, _, _, r => by
    rw [toPys] at r
    cases r with
    | cons r1 r2 => exact .cons (reads_nested d _ _ r1) (readsAll_nested ds _ _ r2)
end
def leName (p q : Str × Nk) : Bool := decide (p.1.cps.toList ≤ q.1.cps.toList)
abbrev sortT (bs : List (Str × Nk)) : List (Str × Nk) := bs.mergeSort leName
theorem each_unmap {α β : Type} {R : Value → β → Prop} (f : α → β) : ∀ {us : List Value} {bs : List α}, EachIs R us (bs.map f) → EachIs (fun u b => R u (f b)) us bs
  | _, [], h => by cases h; exact .nil
  | _, b :: bs, h => by
    cases h with
    | cons h1 h2 => exact .cons h1 (each_unmap f h2)
theorem each_remap {α β : Type} {R : Value → β → Prop} (f : α → β) : ∀ {us : List Value} {bs : List α}, EachIs (fun u b => R u (f b)) us bs → EachIs R us (bs.map f)
  | _, [], h => by cases h; exact .nil
  | _, b :: bs, h => by
    cases h with
    | cons h1 h2 => exact .cons h1 (each_remap f h2)
theorem srt_names {bs : List (Str × Nk)} (hn : (bs.map (·.1)).Nodup) (hd : ∀ p ∈ bs, p.2.depth ≤ 40) : SrtTo P w (bs.map encT) ((sortT bs).map encT) := by
  refine ⟨fun A s us hA e => ?_⟩
  have en : EachIs (fun u b => NestedIs s.heap (encT b) u) us bs := (each_unmap encT e).mono fun u b ⟨as, r⟩ => reads_nested _ _ _ r
  refine ⟨nameKind s.heap bs, ⟨fun v hv => ?_, PyProof.Rows.tuples' true, ?_, fun h2 E Q hq => ?_⟩, fun {R} eR => ?_⟩
  · obtain ⟨b, hb, r⟩ := en.left v hv
    exact ⟨_, nameKind_some hb r⟩
  · intro E x y a b Q ha hb hq
    obtain ⟨p, hp, ra, rfl⟩ := nameKind_inv ha
    obtain ⟨q, hq', rb, rfl⟩ := nameKind_inv hb
    have hq : Q (decide (p.1.cps.toList < q.1.cps.toList)) s := hq
    obtain ⟨px, pd⟩ := p
    obtain ⟨qx, qd⟩ := q
    cases ra with
    | @tup l o vs n _ h1 h2 h3 h4 =>
      cases rb with
      | @tup l' o' ws m _ k1 k2 k3 k4 =>
        obtain ⟨lv, hlv⟩ : ∃ lv, vs.toList = lv := ⟨_, rfl⟩
        obtain ⟨lw, hlw⟩ : ∃ lw, ws.toList = lw := ⟨_, rfl⟩
        refine PySem.W.kat_lt h1 h3 k1 k3 ?_
        rw [hlv] at h4 ⊢
        rw [hlw] at k4 ⊢
        have sv : vs.size = lv.length := by rw [← hlv]; simp
        have sw : ws.size = lw.length := by rw [← hlw]; simp
        cases h4 with
        | cons a1 a2 =>
          cases a2 with
          | cons a3 a4 =>
            cases a4
            cases k4 with
            | cons b1 b2 =>
              cases b2 with
              | cons b3 b4 =>
                cases b4
                have fin : decide (vs.size < ws.size) = false := by rw [sv, sw]; exact decide_eq_false (by simp)
                rw [fin]
                cases a1 with
                | text _ t =>
                  cases b1 with
                  | text _ u =>
                    refine PySem.W.kat_cons (SeqAt.EqAt.str_str px t qx u _ _ _ _ ?_)
                    by_cases exy : px = qx
                    · subst exy
                      have epd : pd = qd := nodup_fst hn hp hq'
                      subst epd
                      have eb : (px == px) = true := beq_self_eq_true _
                      rw [eb]
                      have irr : decide (px.cps.toList < px.cps.toList) = false := decide_eq_false (List.lt_irrefl _)
                      rw [irr] at hq
                      refine PySem.W.kat_yes (PySem.W.kat_cons (eqAt_key pd pd A s _ _ a3 b3 (by have := hd _ hp; have h2 : pd.depth ≤ 40 := this; omega) _ _ _ _ ?_))
                      have ek : NestedKey.beq pd pd = true := by rw [← NestedKey.decide_eq]; exact decide_eq_true rfl
                      rw [ek]
                      exact PySem.W.kat_yes (PySem.W.kat_nil hq)
                    · have eb : (px == qx) = false := beq_eq_false_iff_ne.mpr exy
                      rw [eb]
                      exact PySem.W.kat_no (PyProof.Rows.oneLt_str hq)
  · obtain ⟨fs, t1, t2, t3⟩ := PySem.W.each_katTups (ds := (bs.map encT).map toPy) (PySem.W.each_map (R := fun v d => ∃ as, Reads s.heap v d as) toPy e) (fun d hd => by
      obtain ⟨d', hd', rfl⟩ := List.mem_map.mp hd
      obtain ⟨b, _, rfl⟩ := List.mem_map.mp hd'
      exact ⟨.str b.1, [toPy b.2], by rw [encT, toPy, toPys, toPys, toPys, toPy]⟩)
    refine PySem.W.kat_kind (T := .type "str") t1 (by omega) (fun f hf => ?_) (beq_self_eq_true _) ?_
    · obtain ⟨x, r, as, m1, m2⟩ := t3 f hf
      obtain ⟨d', hd', e1⟩ := List.mem_map.mp m1
      obtain ⟨b, _, rfl⟩ := List.mem_map.mp hd'
      have e2 : toPy (encT b) = .tuple [.str b.1, toPy b.2] := by rw [encT, toPy, toPys, toPys, toPys, toPy]
      rw [e2] at e1
      injection e1 with e1
      injection e1 with e1 _
      subst e1
      cases m2
      exact PySem.W.Looks.now
    · have e : (Value.type "str" != Value.type "tuple") = true := by first | decide +kernel | rfl | decide
      rw [e]
      exact hq
  · have z := PySem.W.sortVals_each (κ := nameKind s.heap bs) (rev := false) (fun b : Str × Nk => b.1.cps.toList) (each_unmap encT eR) ((PySem.W.each_mem en).mono fun u b h => nameKind_some h.2 h.1)
    have el : PySem.W.sortLe (nameKind s.heap bs).toKeyOrd false (fun b : Str × Nk => b.1.cps.toList) = leName := by
      funext p q
      show _ = decide (p.1.cps.toList ≤ q.1.cps.toList)
      unfold PySem.W.sortLe
      show (!decide (q.1.cps.toList < p.1.cps.toList)) = _
      exact PySem.W.not_lt_str _ _
    rw [el] at z
    exact each_remap encT z
end
end Ew
set_option Elab.async false
set_option linter.all false
set_option maxRecDepth 100000
set_option maxHeartbeats 4000000
namespace Ew
open PySem PySem.Spec PyProof.Rows L2
open Evl (Ex)
/-! ### more rules with the written part told apart -/
theorem hu80 {k : Nat} {A : Around} (hr : Room k A) : A.units + 80 < cLine := by
  have := hr.un
  omega
section
variable {X : Cx} {P : Program} {w : World} {K : PySem.W.Frag} {e o : Expr} {apos cpos pos p : Pos} {to td : TE} {tg : Expr}
theorem k_srt (hu : X.A.units + 80 < cLine) (hK : X.K = K := by rfl) (hP : X.prog = P := by rfl) (hw : X.w = w := by rfl) : CallR X (.builtin "sorted") (rSrt P w K) := by subst hK hP hw; exact cr_srt hu
theorem k_srtIt (hc : X.calm = true) (hu : X.A.units + 80 < cLine) (hK : X.K = K := by rfl) (hP : X.prog = P := by rfl) (hw : X.w = w := by rfl) : CallR X (.builtin "sorted") (rSrtIt P w K) := by subst hK hP hw; exact cr_srtIt hc hu
theorem k_dictN (hc : X.calm = true) (hu : X.A.units + 80 < cLine) (hK : X.K = K := by rfl) (hP : X.prog = P := by rfl) (hw : X.w = w := by rfl) : CallR X (.type "dict") (rDictN P w K) := by subst hK hP hw; exact call_dictN hc hu
theorem k_dictK (hc : X.calm = true) (hK : X.K = K := by rfl) : CallR X (.type "dict") (rDictK K) := by subst hK; exact call_dictK hc
theorem k_listVals (hc : X.calm = true) (hK : X.K = K := by rfl) (hP : X.prog = P := by rfl) (hw : X.w = w := by rfl) : CallR X (.type "list") (rListVals P w K) := by subst hK hP hw; exact call_listVals hc
theorem k_items (ho : PE X o to) (hbase : attributeBase o "items" X.env (eval o X.env) = eval o X.env := by rfl) (hline : (apos.endLine == cpos.line) = true := by rfl) (hK : X.K = K := by rfl) (hP : X.prog = P := by rfl) (hw : X.w = w := by rfl) :
    PE X (.Call (.Attribute o "items" apos) [] [] cpos) (tEM0 P w K (rItems P w K) to) := by
  subst hK hP hw
  exact pe_em0 PySem.F.slot_dict_items PySem.F.type_dict_items mt_items ho hbase hline
theorem k_vals (ho : PE X o to) (hbase : attributeBase o "values" X.env (eval o X.env) = eval o X.env := by rfl) (hline : (apos.endLine == cpos.line) = true := by rfl) (hK : X.K = K := by rfl) (hP : X.prog = P := by rfl) (hw : X.w = w := by rfl) :
    PE X (.Call (.Attribute o "values" apos) [] [] cpos) (tEM0 P w K (rVals P w K) to) := by
  subst hK hP hw
  exact pe_em0 PySem.F.slot_dict_values PySem.F.type_dict_values mt_vals ho hbase hline
theorem k_catT' (hK : X.K = K := by rfl) : OpR X (binaryOp .Add) (rCatF K) := k_catT hK
theorem k_mcal0 {C : Addr} {m : Str} {k : Nat} {ps : List Str} {sp : Sp} {mg : Str → Option Value} {base : Heap} (ho : PE X o to) (c : MCallee X.prog X.w X.K X.mg X.base C m k ps sp) (hr : Room k X.A) {pl : Sem Bool}
    (ht : eval (.Call (.Attribute o m apos) [] [] pos) X.env = (do
      let ov ← eval o X.env
      standAt apos.atName
      let (f, first) ← holding [ov] (getMethod ov m pl)
      callWith pos f first (backTo pos (starEach [] X.env)) (backToKw pos (keywordEach [] X.env))) := by rfl) :
    PE X (.Call (.Attribute o m apos) [] [] pos) (tMeth C m sp [] E0 to tNil) := by
  obtain ⟨f, fd, F, g, b⟩ := c.ex
  exact pe_meth0 ho c.cl g F hr b .nil pass0 ht
end
section
variable {X : Cx} {P : Program} {w : World} {K : PySem.W.Frag} {i o : Expr} {ty td : TE}
theorem k_pnin (hu : X.A.units + 64 < cLine) (hi : PE X i ty) (ho : PE X o td) (hK : X.K = K := by rfl) (hP : X.prog = P := by rfl) (hw : X.w = w := by rfl) : PC X .In i o (tNIn P w K ty td) := by subst hK hP hw; exact pc_nin hu hi ho
end
/-! ### what they evaluate to -/
section
variable {P : Program} {w : World} {K : PySem.W.Frag} {G : Gw K} {σ : L2.St} {H : Hp} {te td ta tb : TE} {PP : V → Hp → Prop}
/-- sorted(a list or tuple of data) -/
theorem el_srt {ds out : List Nk} (h : EvP G te σ H (fun v H2 => ∃ p ys, v = .ref p ∧ (SqL K H2 p ys ∨ SqT K H2 p ys) ∧ NVs K H2 ys ds)) (hS : SrtTo P w ds out) (hl : out.length = ds.length) : EL G (tCB (rSrt P w K) (tCons te tNil)) σ H out := fun H1 a Q q =>
  h H1 a _ fun v H2 b ⟨p, ys, e, hs, hv⟩ => ⟨p, ys, ds, out, by rw [e], hs, hv, hS, hl, fun l zs hn hz => q (.ref l) _ (G.tr b (G.new (G.ok2 b) hn)) ⟨l, rfl, G.back (G.tr a b) hn, zs, upd_same, hz⟩⟩
theorem EL.seq {ds : List Nk} (h : EL G te σ H ds) : EvP G te σ H (fun v H2 => ∃ p ys, v = .ref p ∧ (SqL K H2 p ys ∨ SqT K H2 p ys) ∧ NVs K H2 ys ds) := h.imp fun v H2 _ ⟨p, e, _, xs, h1, h2⟩ => ⟨p, xs, e, .inl (SqL.of h1), h2⟩
theorem ED.seq {ds : List Nk} (h : ED G te σ H (.tup ds)) : EvP G te σ H (fun v H2 => ∃ p ys, v = .ref p ∧ (SqL K H2 p ys ∨ SqT K H2 p ys) ∧ NVs K H2 ys ds) := h.imp fun v H2 _ h => by
  cases h with
  | tup h1 h2 => exact ⟨_, _, rfl, .inr h1.sq, h2⟩
theorem el_cat {ds es : List Nk} (h1 : EL G ta σ H ds) (h2 : EL G tb σ H es) (hz : ds.length + es.length ≤ 100000) : EL G (tOp rCat ta tb) σ H (ds ++ es) := fun H1 a Q q =>
  h1 H1 a _ fun v H2 b ⟨p, e, hn, xs, hx, hv⟩ => (h2.mono (G.tr a b)) H2 (G.rf (G.ok2 b)) _ fun u H3 c ⟨p', e', hn', ys, hy, hu⟩ => by
    subst e e'
    have hx3 : H3 p = some (.lst xs) := G.loc (G.tr a b) hn c hx
    refine ⟨p, p', xs, ys, rfl, rfl, hx3, hy, Evl.sz_of (by rw [NVs.len hv, NVs.len hu]; exact hz), fun l hl => ?_⟩
    have r := G.new (o := .lst (xs ++ ys)) (G.ok2 c) hl
    exact q (.ref l) _ (G.tr (G.tr b c) r) ⟨l, rfl, G.back (G.tr a (G.tr b c)) hl, _, upd_same, (NVs.app hu (hv.t (G.tx c))).t (G.tx r)⟩
/-- sorted(d.items()) -/
theorem el_srtIt {a : Addr} {m : List (Nk × V)} {md : List (Nk × Nk)} {out : List Nk} (ha : EA G td σ H a) (hd : ∀ H2, G.R H H2 → DEnt P w K H2 a m ∧ MRel (NV K H2) m md) (hS : SrtTo P w (md.map encP) out) (hl : out.length = md.length)
    (hm : ∀ H2 p, G.R H H2 → H2 p = none → DEnt P w K (upd H2 p (DX.itemsO p a)) a m) : EL G (tCB (rSrtIt P w K) (tCons (tEM0 P w K (rItems P w K) td) tNil)) σ H out := fun H1 r Q q =>
  ha H1 r _ fun v H2 b e => by
    subst e
    obtain ⟨d1, d2⟩ := hd H2 (G.tr r b)
    refine ⟨⟨a, m, rfl, d1⟩, a, m, rfl, rfl, d1, fun p hp => ?_⟩
    have r2 := G.new (o := DX.itemsO p a) (G.ok2 b) hp
    refine ⟨p, a, m, md, out, rfl, upd_same, hm H2 p (G.tr r b) hp, d2.imp fun _ _ z => z.t (G.tx r2), hS, hl, fun H' l zs ex hn hl2 hz => ?_⟩
    have r3 := G.exr (G.ok2 r2) ex
    exact q (.ref l) H' (G.tr b (G.tr r2 r3)) ⟨l, rfl, G.back (G.tr r (G.tr b r2)) hn, zs, hl2, hz⟩
theorem DEnt.new {a p : Addr} {m : List (Nk × V)} {o : HO} (h : DEnt P w K H a m) (hp : H p = none) : DEnt P w K (upd H p o) a m := by
  rcases h with ⟨kvs, h1, e⟩ | h
  · exact .inl ⟨kvs, by rw [upd_ne (ne_of_none h1 hp)]; exact h1, e⟩
  · exact .inr (h.ex' (Ex.new hp))
theorem DEnt.ex {a : Addr} {m : List (Nk × V)} {H' : Hp} (h : DEnt P w K H a m) (e : Ex H H') : DEnt P w K H' a m := by
  rcases h with ⟨kvs, h1, e2⟩ | h
  · exact .inl ⟨kvs, e _ _ h1, e2⟩
  · exact .inr (h.ex' e)
end
theorem ifF {p q : Hp → Prop} {H : Hp} (h : q H) : (fun (b : Bool) H1 => if b = true then p H1 else q H1) false H := by
  show (if false = true then p H else q H)
  rw [if_neg (by simp)]
  exact h
theorem ifT {p q : Hp → Prop} {H : Hp} (h : p H) : (fun (b : Bool) H1 => if b = true then p H1 else q H1) true H := by
  show (if true = true then p H else q H)
  rw [if_pos rfl]
  exact h
theorem nextI {D : Ends} {σ : L2.St} {H : Hp} (h : D.nx σ H) : tNext D σ H := h
theorem seqI {t u : TS} {D : Ends} {σ : L2.St} {H : Hp} (h : t { D with nx := u D } σ H) : tSeq t u D σ H := h
theorem ifI {t : TT} {tu tw : TS} {D : Ends} {σ : L2.St} {H : Hp} (h : t σ H fun b H' => if b = true then tu D σ H' else tw D σ H') : tIfS t tu tw D σ H := h
/-! ### loops -/
section
variable {K : PySem.W.Frag} {G : Gw K} {σ : L2.St} {H : Hp} {wi : TI} {g : TG} {tb : TS} {D : Ends} {ta td : TE}
theorem s_for {src : It → Hp → Prop} (ok : G.Ok H) (hi : EvI G wi σ H src)
    (ht : ∀ J H1, G.R H H1 → src J H1 → ∃ (n : Nat) (GG : Hp → Prop) (Y : Nat → Hp → V → Hp → Prop) (Pv : Nat → L2.St → Hp → Prop), Walk J n GG Y ∧ Pv 0 σ H1 ∧ (∀ i σ' H', i ≤ n → Pv i σ' H' → GG H') ∧
      (∀ i x σ' Ha Hb, i < n → Pv i σ' Ha → Y i Ha x Hb → g x σ' Hb fun σ2 H2 => tb { D with nx := Pv (i + 1), ct := Pv (i + 1), bk := D.nx } σ2 H2) ∧ ∀ σ' H', Pv n σ' H' → D.nx σ' H') : tFor wi g tb D σ H := hi H (G.rf ok) _ fun J H1 a hs => by
  obtain ⟨n, GG, Y, Pv, hw, h0, hg, hs, hd⟩ := ht J H1 a hs
  exact for_it hw Pv h0 hg hs hd
theorem q_for {src : It → Hp → Prop} {tz : TS} (ok : G.Ok H) (hi : EvI G wi σ H src)
    (ht : ∀ J H1, G.R H H1 → src J H1 → ∃ (n : Nat) (GG : Hp → Prop) (Y : Nat → Hp → V → Hp → Prop) (Pv : Nat → L2.St → Hp → Prop), Walk J n GG Y ∧ Pv 0 σ H1 ∧ (∀ i σ' H', i ≤ n → Pv i σ' H' → GG H') ∧
      (∀ i x σ' Ha Hb, i < n → Pv i σ' Ha → Y i Ha x Hb → g x σ' Hb fun σ2 H2 => tb { D with nx := Pv (i + 1), ct := Pv (i + 1), bk := tz D } σ2 H2) ∧ ∀ σ' H', Pv n σ' H' → tz D σ' H') : tSeq (tFor wi g tb) tz D σ H := s_for (D := { D with nx := tz D }) ok hi ht
theorem walk_zipT {a b : Addr} {xs ys : List V} {n : Nat} (hx : n = xs.length) (hy : n = ys.length) : Walk (RZ.ItzT K a b) n (fun H => SqT K H a xs ∧ SqT K H b ys) (YPair (fun i => xs[i]?) (fun i => ys[i]?)) := by
  refine ⟨fun i _ hi q => ?_, fun _ q => ⟨xs, ys, q.1, q.2, by omega⟩, fun i H v H' _ q y => ?_⟩
  · have h1 : i < xs.length := by omega
    have h2 : i < ys.length := by omega
    exact ⟨xs, ys, xs[i], ys[i], q.1, q.2, by simp [h1], by simp [h2]⟩
  · obtain ⟨T, x, z, h1, h2, h3, h4, h5⟩ := y
    exact ⟨T, x, z, h1, h2, h3, h4 xs q.1, h5 ys q.2⟩
theorem ei_zipT {ds es : List Nk} (h1 : ED G ta σ H (.tup ds)) (h2 : ED G td σ H (.tup es)) : EvI G (RZ.iZipA K (tCons ta (tCons td tNil))) σ H (fun J H2 => ∃ a b xs ys, J = RZ.ItzT K a b ∧ SqT K H2 a xs ∧ SqT K H2 b ys ∧ NVs K H2 xs ds ∧ NVs K H2 ys es) := fun H1 a Q q =>
  h1 H1 a _ fun v H2 b p => (h2.mono (G.tr a b)) H2 (G.rf (G.ok2 b)) _ fun u H3 c p2 => by
    have p := p.t (G.tx c)
    cases p with
    | tup a1 a2 =>
      cases p2 with
      | tup b1 b2 => exact ⟨_, _, _, _, rfl, .inr ⟨a1.sq, b1.sq, q _ H3 (G.tr b c) ⟨_, _, _, _, rfl, a1.sq, b1.sq, a2, b2⟩⟩⟩
end
end Ew
set_option Elab.async false
set_option linter.all false
set_option maxRecDepth 100000
set_option maxHeartbeats 4000000
namespace Ew
open PySem PySem.Spec PyProof.Rows L2
open Evl (Ex)
/-! ### terms fitted to values -/
section
variable {β : Type} [DecidableEq β]
def fit1 (emb : Nk → β) (m : List (Str × β)) (t : Tm) (v : β) : Option (List (Str × β)) := match t with
  | .val c => if emb c = v then some m else none
  | .var x => match aGet m x with
    | some w => if w = v then some m else none
    | none => some (aPut m x v)
theorem fit1_old {emb : Nk → β} {m : List (Str × β)} {x : Str} {v w : β} (h : aGet m x = some w) : fit1 emb m (.var x) v = if w = v then some m else none := by simp only [fit1, h]
theorem fit1_new {emb : Nk → β} {m : List (Str × β)} {x : Str} {v : β} (h : aGet m x = none) : fit1 emb m (.var x) v = some (aPut m x v) := by simp only [fit1, h]
def fitL (emb : Nk → β) : List (Tm × β) → List (Str × β) → Option (List (Str × β))
  | [], m => some m
  | p :: r, m => (fit1 emb m p.1 p.2).bind (fitL emb r)
theorem fitL_take (emb : Nk → β) : ∀ (zs : List (Tm × β)) (i : Nat) (p : Tm × β) (m0 m : List (Str × β)), zs[i]? = some p → fitL emb (zs.take i) m0 = some m → fitL emb (zs.take (i + 1)) m0 = fit1 emb m p.1 p.2
  | [], i, p, m0, m, h, _ => by simp at h
  | z :: zs, 0, p, m0, m, h, e => by
    simp only [List.getElem?_cons_zero, Option.some.injEq] at h
    subst h
    have e : some m0 = some m := e
    cases e
    show (fit1 emb m0 z.1 z.2).bind (fitL emb (zs.take 0)) = _
    cases h : fit1 emb m0 z.1 z.2 with
    | none => rfl
    | some m => rfl
  | z :: zs, i + 1, p, m0, m, h, e => by
    rw [List.getElem?_cons_succ] at h
    rw [List.take_succ_cons] at e
    rw [List.take_succ_cons]
    show (fit1 emb m0 z.1 z.2).bind (fitL emb (zs.take (i + 1))) = _
    have e : (fit1 emb m0 z.1 z.2).bind (fitL emb (zs.take i)) = some m := e
    cases q : fit1 emb m0 z.1 z.2 with
    | none => rw [q] at e; cases e
    | some m1 =>
      rw [q] at e
      exact fitL_take emb zs i p m1 m h e
theorem fitL_none (emb : Nk → β) : ∀ (zs : List (Tm × β)) (i : Nat) (m0 : List (Str × β)), fitL emb (zs.take i) m0 = none → fitL emb zs m0 = none
  | [], i, m0, e => by simp [fitL] at e
  | z :: zs, 0, m0, e => by simp [fitL] at e
  | z :: zs, i + 1, m0, e => by
    rw [List.take_succ_cons] at e
    show (fit1 emb m0 z.1 z.2).bind (fitL emb zs) = none
    have e : (fit1 emb m0 z.1 z.2).bind (fitL emb (zs.take i)) = none := e
    cases q : fit1 emb m0 z.1 z.2 with
    | none => rfl
    | some m1 =>
      rw [q] at e
      exact fitL_none emb zs i m1 e
end
theorem aGet_mem {κ β : Type} [DecidableEq κ] : ∀ {m : List (κ × β)} {k : κ} {v : β}, aGet m k = some v → (k, v) ∈ m
  | [], _, _, e => by cases e
  | p :: m, k, v, e => by
    by_cases h : p.1 = k
    · rw [aGet_pos h] at e
      cases e
      subst h
      exact List.mem_cons_self
    · rw [aGet_neg h] at e
      exact List.mem_cons_of_mem _ (aGet_mem e)
theorem cont_depth {t : Tm} (h : t.enc.depth ≤ 50) : t.cont.depth ≤ 50 := by
  cases t with
  | var x => simp [Tm.cont, NestedKey.depth]
  | val c =>
    have h : (NestedKey.tup [.text "value", c]).depth ≤ 50 := h
    simp only [NestedKey.depth, NestedKey.depthAll] at h
    show c.depth ≤ 50
    omega
abbrev nkId (d : Nk) : Nk := d
/-- a dict of values by names -/
def encE (m : List (Str × Nk)) : List (Key × Nk) := m.map fun p => (Sum.inr p.1, p.2)
theorem encE_get (m : List (Str × Nk)) (x : Str) : aGet (encE m) (.inr x) = aGet m x := by
  have h := aGet_map (f := (Sum.inr : Str → Key)) (fun _ _ e => Sum.inr.inj e) (fun d : Nk => d) x m
  rw [encE, h]
  cases aGet m x <;> rfl
theorem encE_put (m : List (Str × Nk)) (x : Str) (t : Nk) : aPut (encE m) (.inr x) t = encE (aPut m x t) := aPut_map (f := (Sum.inr : Str → Key)) (fun _ _ e => Sum.inr.inj e) (fun d : Nk => d) x t m
abbrev N_fitted : List Str := ["terms", "row", "known", "found", "term", "value"]
theorem sc_fitted : FnScope N_fitted ["terms", "row", "known"] (defScope s_fitted) := ⟨rfl, rfl, rfl, by decide +kernel, rfl, by decide +kernel, by decide +kernel⟩
def sp_fitted (K : PySem.W.Frag) : Sp := fun vs H Q _ => ∃ (tv rv : V) (a : Addr) (ts : List Tm) (us : List Nk) (m : List (Str × Nk)), vs = [tv, rv, .ref a] ∧ NV K H tv (.tup (ts.map Tm.enc)) ∧ NV K H rv (.tup (us.map nkId)) ∧ ts.length = us.length ∧ ts.length ≤ 100 ∧ (∀ t ∈ ts, t.enc.depth ≤ 50) ∧ (∀ u ∈ us, (nkId u).depth ≤ 50) ∧ (∀ p ∈ m, (nkId p.2).depth ≤ 50) ∧ DKA K H a (encE m) ∧ m.length ≤ 1000 ∧
  (fitL nkId (ts.zip us) m = none → ∀ H', Ex H H' → Q .non H') ∧ ∀ m', fitL nkId (ts.zip us) m = some m' → ∀ H' d, Ex H H' → H d = none → DKA K H' d (encE m') → Q (.ref d) H'
section
variable {P : Program} {w : World} {K : PySem.W.Frag} {mg : Str → Option Value} {base : Heap}
theorem ok_fitted {k : Nat} {f : Addr} {fd : FuncData} (F : FnP K "fitted" "fitted" s_fitted f fd) (T : Txt mg) : FnOk P w K mg base CX0 (k + 1) f fd ["terms", "row", "known"] (sp_fitted K) := by
  refine mk_ok F sc_fitted (fun vs H Q E h => ?_) (fun cdv A outer s H vs Q E hr h => ?_)
  · obtain ⟨tv, rv, a, ts, us, m, rfl, _⟩ := h
    rfl
  · obtain ⟨tv, rv, a, ts, us, m, rfl, ht, hr', hl, hz, hdt, hdep, hdm, hm, hml, q1, q2⟩ := h
    have nd := sc_fitted.nd
    refine ⟨_, (pss_cons (ps_set (i := 3) nd rfl (by first | exact Or.inl rfl | exact Or.inr rfl) (k_cty T.f_dict (call_dictD) (pa_cons (pv 2) pa_nil))) (pss_cons (ps_for PassesOwn.never rfl (k_zip (K := K) T (pa_cons (pv 0) (pa_cons (pv 1) pa_nil))) (k_pgt (K := K) (pgs_cons (pg_name (i := 4) nd rfl (by first | exact Or.inl rfl | exact Or.inr rfl)) (pgs_cons (pg_name (i := 5) nd rfl (by first | exact Or.inl rfl | exact Or.inr rfl)) pgs_nil))) (pss_one (ps_if (pt_cmpR (k_eq (K := K) hr.units) (k_ixT (K := K) (pv 4) pe_int) pe_str (nomark _)) (pss_one (ps_if (pt_cmpR (k_ne (K := K) hr.units) (k_ixT (K := K) (pv 4) pe_int) (pv 5) (nomark _)) (pss_one (ps_ret pe_non)) pss_nil)) (pss_one (ps_if (pt_cmpR (k_ne (K := K) hr.units) (pe_dsetd (pv 3) (k_ixT (K := K) (pv 4) pe_int) (pv 5) ⟨rfl, rfl, rfl, rfl⟩) (pv 5) (nomark _)) (pss_one (ps_ret pe_non)) pss_nil))))) (pss_one (ps_ret (pv 3))))), ?_⟩
    -- found = dict(known)
    obtain ⟨kvs0, hk0, hr0⟩ := hm
    refine ⟨.ref a, rfl, a, kvs0, rfl, Rd.of hk0, fun d hd => ?_⟩
    have e0 : Ex H (upd H d (.dK kvs0)) := Ex.new hd
    have hlz : (ts.zip us).length = ts.length := by rw [List.length_zip]; omega
    refine q_for (G := gx K) trivial (ei_zipT (ed_var rfl (ht.ex e0)) (ed_var rfl (hr'.ex e0))) fun J H1 r1 hs => ?_
    obtain ⟨ta, ra, xs, ys, rfl, h1, h2, h3, h4⟩ := hs
    have l1 : ts.length = xs.length := by rw [h3.len, List.length_map]
    have l2 : ts.length = ys.length := by rw [h4.len, List.length_map, hl]
    refine ⟨ts.length, _, _, fun i σ' H' => ∃ s4 s5 m', σ' = [some tv, some rv, some (.ref a), some (.ref d), s4, s5] ∧ Ex H H' ∧ Tx K H1 H' ∧ DKA K H' d (encE m') ∧ (∀ p ∈ m', (nkId p.2).depth ≤ 50) ∧ m'.length ≤ 1000 + i ∧ fitL nkId ((ts.zip us).take i) m = some m', walk_zipT l1 l2,
      ⟨none, none, m, rfl, e0.trans r1, Tx.refl K H1, ⟨kvs0, r1 _ _ upd_same, hr0.imp fun _ _ z => (z.ex e0).ex r1⟩, hdm, by omega, rfl⟩, fun i σ' H' _ hp => ?_, fun i x σ' Ha Hb hi hp y => ?_, fun σ' H' hp => ?_⟩
    · obtain ⟨s4, s5, m', _, _, tx, _⟩ := hp
      exact ⟨tx.1 _ _ h1, tx.1 _ _ h2⟩
    · obtain ⟨s4, s5, m', rfl, ex, tx, hdk, hdm', hlm, hf⟩ := hp
      obtain ⟨Tt, x1, y1, rfl, hT, rfl, e1, e2⟩ := y
      have r2 : Ex Ha (upd Ha Tt (.tup [x1, y1])) := Ex.new hT
      obtain ⟨t0, ht0, nx⟩ := h3.getV e1
      obtain ⟨u0, hu0, ny⟩ := h4.getV e2
      rw [List.getElem?_map] at ht0 hu0
      cases hti : ts[i]? with
      | none => rw [hti] at ht0; cases ht0
      | some t =>
      cases hui : us[i]? with
      | none => rw [hui] at hu0; cases hu0
      | some u =>
      rw [hti] at ht0
      rw [hui] at hu0
      cases ht0
      cases hu0
      have hzi : (ts.zip us)[i]? = some (t, u) := List.getElem?_zip_eq_some.mpr ⟨hti, hui⟩
      have step := fitL_take nkId (ts.zip us) i (t, u) m m' hzi hf
      have nx := (nx.t tx).ex r2
      have ny := (ny.t tx).ex r2
      have hud := hdep u (List.mem_of_getElem? hui)
      have hud' : (nkId u).depth ≤ 60 := Nat.le_trans hud (by decide)
      have htd := hdt t (List.mem_of_getElem? hti)
      refine st_pair (G := gx K) (SqT.of upd_same) _ (Ex.refl _) _ ?_
      have h4 : ED (gx K) (tVar 4) [some tv, some rv, some (.ref a), some (.ref d), some x1, some y1] (upd Ha Tt (.tup [x1, y1])) t.enc := ed_var rfl nx
      have h5 : ED (gx K) (tVar 5) [some tv, some rv, some (.ref a), some (.ref d), some x1, some y1] (upd Ha Tt (.tup [x1, y1])) (nkId u) := ed_var rfl ny
      have dk := hdk.mono (Tx.ex r2) (r2 d)
      have exn := ex.trans r2
      have txn := tx.trans (Tx.ex r2)
      refine s_if (G := gx K) trivial (et_isVal h4) (fun e => ?_) fun e => ?_
      · intro Hc r3
        cases t with
        | var y => cases e
        | val c =>
        have h4 : ED (gx K) (tVar 4) [some tv, some rv, some (.ref a), some (.ref d), some x1, some y1] Hc (Tm.val c).enc := h4.mono r3
        have h5 := h5.mono r3
        have hcd := cont_depth htd
        refine s_when (G := gx K) trivial (et_test (eb_eq (eb_neN (ed_cont h4) h5 (Nat.le_trans hcd (by decide))) (show (!decide ((Tm.val c).cont = nkId u)) = !decide (nkId c = u) from rfl))) (fun e2 => ?_) fun e2 => ?_
        · intro Hd r4
          have hne : ¬ (nkId c = u) := by simpa using e2
          refine q1 (fitL_none _ _ (i + 1) _ ?_) Hd ((exn.trans r3).trans r4)
          rw [step]
          show (if nkId c = u then some m' else none) = none
          rw [if_neg hne]
        · intro Hd r4
          have heq : nkId c = u := by simpa using e2
          refine ⟨_, _, m', rfl, (exn.trans r3).trans r4, (txn.trans (Tx.ex r3)).trans (Tx.ex r4), dk.mono ((Tx.ex r3).trans (Tx.ex r4)) (fun o z => r4 _ _ (r3 _ _ z)), hdm', by omega, ?_⟩
          rw [step]
          show (if nkId c = u then some m' else none) = some m'
          rw [if_pos heq]
      · intro Hc r3
        cases t with
        | val c => cases e
        | var y =>
        have h4 : ED (gx K) (tVar 4) [some tv, some rv, some (.ref a), some (.ref d), some x1, some y1] Hc (Tm.var y).enc := h4.mono r3
        have dk := dk.mono (Tx.ex r3) (r3 d)
        have ny := ny.ex r3
        obtain ⟨kvs, hk, hrel⟩ := dk
        refine ⟨.ref d, rfl, d, rfl, .inl ⟨kvs, .inl hk⟩, ?_⟩
        refine ed_cont h4 Hc (Ex.refl _) _ fun z Hd r4 hz => ⟨y1, rfl, ?_⟩
        have hlk : kvs.length = m'.length := by rw [hrel.len]; exact List.length_map _
        refine ⟨kvs, .inr y, r4 _ _ hk, NV.kV (k := .inr y) hz, by rw [sizeLine_eq]; omega, fun v hv => ?_, fun hv => ?_⟩
        · cases hg : aGet m' y with
          | none =>
            have := hrel.none (k := .inr y) (by rw [encE_get, hg])
            rw [this] at hv
            cases hv
          | some w0 =>
            obtain ⟨v', hv', nv⟩ := hrel.some (k := .inr y) (d := nkId w0) (by rw [encE_get, hg])
            rw [hv'] at hv
            cases hv
            refine ⟨y1, rfl, nkId w0, nkId u, nv.ex r4, ny.ex r4, (Nat.le_trans (hdm' _ (aGet_mem hg)) (by decide)), _, rfl, ?_⟩
            have fin : Ex Ha Hd := (r2.trans r3).trans r4
            by_cases hw : w0 = u
            · rw [decide_eq_true (show nkId w0 = nkId u by rw [hw])]
              refine ⟨_, _, m', rfl, ex.trans fin, tx.trans (Tx.ex fin), ⟨kvs, r4 _ _ hk, hrel.imp fun _ _ z => z.ex r4⟩, hdm', by omega, ?_⟩
              rw [step]
              exact (fit1_old hg).trans (if_pos hw)
            · rw [decide_eq_false (fun z => hw (id z))]
              refine q1 (fitL_none _ _ (i + 1) _ ?_) Hd (ex.trans fin)
              rw [step]
              exact (fit1_old hg).trans (if_neg hw)
        · have hg : aGet m' y = none := by
            cases hg : aGet m' y with
            | none => rfl
            | some w0 =>
              obtain ⟨v', hv', _⟩ := hrel.some (k := .inr y) (d := nkId w0) (by rw [encE_get, hg])
              rw [hv'] at hv
              cases hv
          have hkd := r4 _ _ hk
          have tu : Tx K Hd (upd Hd d (.dK (putK kvs (.inr y) y1))) := Tx.upd (.inr (by rw [hkd]; trivial))
          have ny2 := (ny.ex r4).t tu
          have fin : Ex H Hd := ((ex.trans r2).trans r3).trans r4
          refine ⟨y1, rfl, nkId u, nkId u, ny2, ny2, hud', _, rfl, ?_⟩
          rw [decide_eq_true rfl]
          refine ⟨_, _, aPut m' y u, rfl, fin.mut hd, ((txn.trans (Tx.ex r3)).trans (Tx.ex r4)).trans tu, ⟨_, upd_same, ?_⟩, ?_, by have := aPut_len m' y u; omega, ?_⟩
          · rw [← encE_put]
            exact (hrel.imp fun _ _ z => (z.ex r4).t tu).put (.inr y) ny2
          · intro p hp
            rw [aPut_new hg] at hp
            rcases List.mem_append.mp hp with hp | hp
            · exact hdm' p hp
            · rw [List.mem_singleton.mp hp]
              exact hud
          · rw [step]
            exact fit1_new hg
    · obtain ⟨s4, s5, m', rfl, ex, _, hd', _, _, hf⟩ := hp
      rw [← hlz, List.take_length] at hf
      exact ⟨.ref d, rfl, q2 m' hf H' d ex hd hd'⟩
end
abbrev N_matched : List Str := ["terms", "other", "known", "found", "term", "target"]
theorem sc_matched : FnScope N_matched ["terms", "other", "known"] (defScope s_matched) := ⟨rfl, rfl, rfl, by decide +kernel, rfl, by decide +kernel, by decide +kernel⟩
def sp_matched (K : PySem.W.Frag) : Sp := fun vs H Q _ => ∃ (tv rv : V) (a : Addr) (ts : List Tm) (us : List Tm) (m : List (Str × Tm)), vs = [tv, rv, .ref a] ∧ NV K H tv (.tup (ts.map Tm.enc)) ∧ NV K H rv (.tup (us.map Tm.enc)) ∧ ts.length = us.length ∧ ts.length ≤ 100 ∧ (∀ t ∈ ts, t.enc.depth ≤ 50) ∧ (∀ u ∈ us, (Tm.enc u).depth ≤ 50) ∧ (∀ p ∈ m, (Tm.enc p.2).depth ≤ 50) ∧ DKA K H a (encM m) ∧ m.length ≤ 1000 ∧
  (fitL Tm.val (ts.zip us) m = none → ∀ H', Ex H H' → Q .non H') ∧ ∀ m', fitL Tm.val (ts.zip us) m = some m' → ∀ H' d, Ex H H' → H d = none → DKA K H' d (encM m') → Q (.ref d) H'
section
variable {P : Program} {w : World} {K : PySem.W.Frag} {mg : Str → Option Value} {base : Heap}
theorem ok_matched {k : Nat} {f : Addr} {fd : FuncData} (F : FnP K "matched" "matched" s_matched f fd) (T : Txt mg) : FnOk P w K mg base CX0 (k + 1) f fd ["terms", "other", "known"] (sp_matched K) := by
  refine mk_ok F sc_matched (fun vs H Q E h => ?_) (fun cdv A outer s H vs Q E hr h => ?_)
  · obtain ⟨tv, rv, a, ts, us, m, rfl, _⟩ := h
    rfl
  · obtain ⟨tv, rv, a, ts, us, m, rfl, ht, hr', hl, hz, hdt, hdep, hdm, hm, hml, q1, q2⟩ := h
    have nd := sc_matched.nd
    refine ⟨_, (pss_cons (ps_set (i := 3) nd rfl (by first | exact Or.inl rfl | exact Or.inr rfl) (k_cty T.f_dict (call_dictD) (pa_cons (pv 2) pa_nil))) (pss_cons (ps_for PassesOwn.never rfl (k_zip (K := K) T (pa_cons (pv 0) (pa_cons (pv 1) pa_nil))) (k_pgt (K := K) (pgs_cons (pg_name (i := 4) nd rfl (by first | exact Or.inl rfl | exact Or.inr rfl)) (pgs_cons (pg_name (i := 5) nd rfl (by first | exact Or.inl rfl | exact Or.inr rfl)) pgs_nil))) (pss_one (ps_if (pt_cmpR (k_eq (K := K) hr.units) (k_ixT (K := K) (pv 4) pe_int) pe_str (nomark _)) (pss_one (ps_if (pt_cmpR (k_ne (K := K) hr.units) (pv 4) (pv 5) (nomark _)) (pss_one (ps_ret pe_non)) pss_nil)) (pss_one (ps_if (pt_cmpR (k_ne (K := K) hr.units) (pe_dsetd (pv 3) (k_ixT (K := K) (pv 4) pe_int) (pv 5) ⟨rfl, rfl, rfl, rfl⟩) (pv 5) (nomark _)) (pss_one (ps_ret pe_non)) pss_nil))))) (pss_one (ps_ret (pv 3))))), ?_⟩
    -- found = dict(known)
    obtain ⟨kvs0, hk0, hr0⟩ := hm
    refine ⟨.ref a, rfl, a, kvs0, rfl, Rd.of hk0, fun d hd => ?_⟩
    have e0 : Ex H (upd H d (.dK kvs0)) := Ex.new hd
    have hlz : (ts.zip us).length = ts.length := by rw [List.length_zip]; omega
    refine q_for (G := gx K) trivial (ei_zipT (ed_var rfl (ht.ex e0)) (ed_var rfl (hr'.ex e0))) fun J H1 r1 hs => ?_
    obtain ⟨ta, ra, xs, ys, rfl, h1, h2, h3, h4⟩ := hs
    have l1 : ts.length = xs.length := by rw [h3.len, List.length_map]
    have l2 : ts.length = ys.length := by rw [h4.len, List.length_map, hl]
    refine ⟨ts.length, _, _, fun i σ' H' => ∃ s4 s5 m', σ' = [some tv, some rv, some (.ref a), some (.ref d), s4, s5] ∧ Ex H H' ∧ Tx K H1 H' ∧ DKA K H' d (encM m') ∧ (∀ p ∈ m', (Tm.enc p.2).depth ≤ 50) ∧ m'.length ≤ 1000 + i ∧ fitL Tm.val ((ts.zip us).take i) m = some m', walk_zipT l1 l2,
      ⟨none, none, m, rfl, e0.trans r1, Tx.refl K H1, ⟨kvs0, r1 _ _ upd_same, hr0.imp fun _ _ z => (z.ex e0).ex r1⟩, hdm, by omega, rfl⟩, fun i σ' H' _ hp => ?_, fun i x σ' Ha Hb hi hp y => ?_, fun σ' H' hp => ?_⟩
    · obtain ⟨s4, s5, m', _, _, tx, _⟩ := hp
      exact ⟨tx.1 _ _ h1, tx.1 _ _ h2⟩
    · obtain ⟨s4, s5, m', rfl, ex, tx, hdk, hdm', hlm, hf⟩ := hp
      obtain ⟨Tt, x1, y1, rfl, hT, rfl, e1, e2⟩ := y
      have r2 : Ex Ha (upd Ha Tt (.tup [x1, y1])) := Ex.new hT
      obtain ⟨t0, ht0, nx⟩ := h3.getV e1
      obtain ⟨u0, hu0, ny⟩ := h4.getV e2
      rw [List.getElem?_map] at ht0 hu0
      cases hti : ts[i]? with
      | none => rw [hti] at ht0; cases ht0
      | some t =>
      cases hui : us[i]? with
      | none => rw [hui] at hu0; cases hu0
      | some u =>
      rw [hti] at ht0
      rw [hui] at hu0
      cases ht0
      cases hu0
      have hzi : (ts.zip us)[i]? = some (t, u) := List.getElem?_zip_eq_some.mpr ⟨hti, hui⟩
      have step := fitL_take Tm.val (ts.zip us) i (t, u) m m' hzi hf
      have nx := (nx.t tx).ex r2
      have ny := (ny.t tx).ex r2
      have hud := hdep u (List.mem_of_getElem? hui)
      have hud' : (Tm.enc u).depth ≤ 60 := Nat.le_trans hud (by decide)
      have htd := hdt t (List.mem_of_getElem? hti)
      refine st_pair (G := gx K) (SqT.of upd_same) _ (Ex.refl _) _ ?_
      have h4 : ED (gx K) (tVar 4) [some tv, some rv, some (.ref a), some (.ref d), some x1, some y1] (upd Ha Tt (.tup [x1, y1])) t.enc := ed_var rfl nx
      have h5 : ED (gx K) (tVar 5) [some tv, some rv, some (.ref a), some (.ref d), some x1, some y1] (upd Ha Tt (.tup [x1, y1])) (Tm.enc u) := ed_var rfl ny
      have dk := hdk.mono (Tx.ex r2) (r2 d)
      have exn := ex.trans r2
      have txn := tx.trans (Tx.ex r2)
      refine s_if (G := gx K) trivial (et_isVal h4) (fun e => ?_) fun e => ?_
      · intro Hc r3
        cases t with
        | var y => cases e
        | val c =>
        have h4 : ED (gx K) (tVar 4) [some tv, some rv, some (.ref a), some (.ref d), some x1, some y1] Hc (Tm.val c).enc := h4.mono r3
        have h5 := h5.mono r3
        have hcd := cont_depth htd
        refine s_when (G := gx K) trivial (et_test (eb_eq (eb_neN (h4) h5 (Nat.le_trans htd (by decide))) (show (!decide ((Tm.val c).enc = Tm.enc u)) = !decide (Tm.val c = u) from (by rw [decide_eq_decide.mpr ⟨fun z => Tm.enc_inj _ _ z, fun z => by rw [z]⟩])))) (fun e2 => ?_) fun e2 => ?_
        · intro Hd r4
          have hne : ¬ (Tm.val c = u) := by simpa using e2
          refine q1 (fitL_none _ _ (i + 1) _ ?_) Hd ((exn.trans r3).trans r4)
          rw [step]
          show (if Tm.val c = u then some m' else none) = none
          rw [if_neg hne]
        · intro Hd r4
          have heq : Tm.val c = u := by simpa using e2
          refine ⟨_, _, m', rfl, (exn.trans r3).trans r4, (txn.trans (Tx.ex r3)).trans (Tx.ex r4), dk.mono ((Tx.ex r3).trans (Tx.ex r4)) (fun o z => r4 _ _ (r3 _ _ z)), hdm', by omega, ?_⟩
          rw [step]
          show (if Tm.val c = u then some m' else none) = some m'
          rw [if_pos heq]
      · intro Hc r3
        cases t with
        | val c => cases e
        | var y =>
        have h4 : ED (gx K) (tVar 4) [some tv, some rv, some (.ref a), some (.ref d), some x1, some y1] Hc (Tm.var y).enc := h4.mono r3
        have dk := dk.mono (Tx.ex r3) (r3 d)
        have ny := ny.ex r3
        obtain ⟨kvs, hk, hrel⟩ := dk
        refine ⟨.ref d, rfl, d, rfl, .inl ⟨kvs, .inl hk⟩, ?_⟩
        refine ed_cont h4 Hc (Ex.refl _) _ fun z Hd r4 hz => ⟨y1, rfl, ?_⟩
        have hlk : kvs.length = m'.length := by rw [hrel.len]; exact List.length_map _
        refine ⟨kvs, .inr y, r4 _ _ hk, NV.kV (k := .inr y) hz, by rw [sizeLine_eq]; omega, fun v hv => ?_, fun hv => ?_⟩
        · cases hg : aGet m' y with
          | none =>
            have := hrel.none (k := .inr y) (by rw [encM_get, hg]; rfl)
            rw [this] at hv
            cases hv
          | some w0 =>
            obtain ⟨v', hv', nv⟩ := hrel.some (k := .inr y) (d := Tm.enc w0) (by rw [encM_get, hg]; rfl)
            rw [hv'] at hv
            cases hv
            refine ⟨y1, rfl, Tm.enc w0, Tm.enc u, nv.ex r4, ny.ex r4, (Nat.le_trans (hdm' _ (aGet_mem hg)) (by decide)), _, rfl, ?_⟩
            have fin : Ex Ha Hd := (r2.trans r3).trans r4
            by_cases hw : w0 = u
            · rw [decide_eq_true (show Tm.enc w0 = Tm.enc u by rw [hw])]
              refine ⟨_, _, m', rfl, ex.trans fin, tx.trans (Tx.ex fin), ⟨kvs, r4 _ _ hk, hrel.imp fun _ _ z => z.ex r4⟩, hdm', by omega, ?_⟩
              rw [step]
              exact (fit1_old hg).trans (if_pos hw)
            · rw [decide_eq_false (fun z => hw (Tm.enc_inj _ _ z))]
              refine q1 (fitL_none _ _ (i + 1) _ ?_) Hd (ex.trans fin)
              rw [step]
              exact (fit1_old hg).trans (if_neg hw)
        · have hg : aGet m' y = none := by
            cases hg : aGet m' y with
            | none => rfl
            | some w0 =>
              obtain ⟨v', hv', _⟩ := hrel.some (k := .inr y) (d := Tm.enc w0) (by rw [encM_get, hg]; rfl)
              rw [hv'] at hv
              cases hv
          have hkd := r4 _ _ hk
          have tu : Tx K Hd (upd Hd d (.dK (putK kvs (.inr y) y1))) := Tx.upd (.inr (by rw [hkd]; trivial))
          have ny2 := (ny.ex r4).t tu
          have fin : Ex H Hd := ((ex.trans r2).trans r3).trans r4
          refine ⟨y1, rfl, Tm.enc u, Tm.enc u, ny2, ny2, hud', _, rfl, ?_⟩
          rw [decide_eq_true rfl]
          refine ⟨_, _, aPut m' y u, rfl, fin.mut hd, ((txn.trans (Tx.ex r3)).trans (Tx.ex r4)).trans tu, ⟨_, upd_same, ?_⟩, ?_, by have := aPut_len m' y u; omega, ?_⟩
          · rw [← encM_put]
            exact (hrel.imp fun _ _ z => (z.ex r4).t tu).put (.inr y) ny2
          · intro p hp
            rw [aPut_new hg] at hp
            rcases List.mem_append.mp hp with hp | hp
            · exact hdm' p hp
            · rw [List.mem_singleton.mp hp]
              exact hud
          · rw [step]
            exact fit1_new hg
    · obtain ⟨s4, s5, m', rfl, ex, _, hd', _, _, hf⟩ := hp
      rw [← hlz, List.take_length] at hf
      exact ⟨.ref d, rfl, q2 m' hf H' d ex hd hd'⟩
end
end Ew
set_option Elab.async false
set_option linter.all false
set_option maxRecDepth 100000
set_option maxHeartbeats 4000000
namespace Ew
open PySem PySem.Spec PyProof.Rows L2
open Evl (Ex)
/-! ### monomials, polynomials -/
theorem putK_eq {κ : Type} [DecidableEq κ] (kvs : List (κ × V)) (k : κ) (v : V) : putK kvs k v = aPut kvs k v := rfl
theorem valV_eq {κ : Type} [DecidableEq κ] (kvs : List (κ × V)) (k : κ) : valV kvs k = aGet kvs k := rfl
theorem aGet_none {κ β : Type} [DecidableEq κ] : ∀ {m : List (κ × β)} {k : κ}, k ∉ m.map (·.1) → aGet m k = none
  | [], _, _ => rfl
  | p :: m, k, h => by
    rw [List.map_cons, List.mem_cons, not_or] at h
    rw [aGet_neg (fun e => h.1 e.symm)]
    exact aGet_none h.2
theorem fold_put {κ β : Type} [DecidableEq κ] : ∀ (kvs acc : List (κ × β)), ((acc ++ kvs).map (·.1)).Nodup → kvs.foldl (fun acc p => aPut acc p.1 p.2) acc = acc ++ kvs
  | [], acc, _ => by rw [List.append_nil]; rfl
  | p :: kvs, acc, h => by
    rw [List.foldl_cons]
    have hn : aGet acc p.1 = none := aGet_none fun hm => by
      rw [List.map_append, List.map_cons, List.nodup_append] at h
      exact h.2.2 _ hm _ List.mem_cons_self rfl
    rw [aPut_new hn, fold_put kvs (acc ++ [p]) (by simpa using h)]
    simp
theorem mergeK_nodup (kvs : List (Key × V)) (h : (kvs.map (·.1)).Nodup) : mergeK [] kvs = kvs := by
  have := fold_put kvs [] (by simpa using h)
  rw [List.nil_append] at this
  exact this
theorem mergeN_nodup (kvs : List (Nk × V)) (h : (kvs.map (·.1)).Nodup) : mergeN kvs = kvs := by
  have := fold_put kvs [] (by simpa using h)
  rw [List.nil_append] at this
  exact this
theorem aPut_nodup {κ β : Type} [DecidableEq κ] {m : List (κ × β)} {k : κ} {v : β} (h : (m.map (·.1)).Nodup) : ((aPut m k v).map (·.1)).Nodup := by
  cases hg : aGet m k with
  | none =>
    rw [aPut_new hg, List.map_append, List.nodup_append]
    refine ⟨h, by simp, fun a ha b hb e => ?_⟩
    simp only [List.map_cons, List.map_nil, List.mem_singleton] at hb
    rw [hb] at e
    subst e
    obtain ⟨p, hp, e⟩ := List.mem_map.mp ha
    have : (aGet m a).isSome = true := by
      rw [← any_aGet]
      exact List.any_eq_true.mpr ⟨p, hp, decide_eq_true e⟩
    rw [hg] at this
    cases this
  | some w =>
    rw [aPut_old hg, List.map_map]
    have e : ((fun p : κ × β => p.1) ∘ fun p => if p.1 = k then (p.1, v) else p) = fun p => p.1 := by
      funext p
      show (if p.1 = k then (p.1, v) else p).1 = p.1
      split <;> rfl
    rw [e]
    exact h
abbrev Mo := List (Int × Int)
def encII (p : Int × Int) : Nk := .tup [.num p.1, .num p.2]
def encMo (A : Mo) : Nk := .tup (A.map encII)
def bump (A : Mo) (f e : Int) : Mo := aPut A f ((aGet A f).getD 0 + e)
def sortMo (A : Mo) : Mo := A.mergeSort fun p q => PySem.W.dataLe false toPy (encII p) (encII q)
def mulMo (M : Mo) (f : Int) : Mo := sortMo (bump M f 1)
abbrev Po := List (Mo × Int)
def encMP (p : Mo × Int) : Nk := .tup [encMo p.1, .num p.2]
def encPo (p : Po) : Nk := .tup (p.map encMP)
def addPo (p : Po) (M : Mo) (c : Int) : Po := aPut p M ((aGet p M).getD 0 + c)
def sortPo (p : Po) : Po := p.mergeSort fun a b => PySem.W.dataLe false toPy (encMP a) (encMP b)
theorem encII_inj : ∀ a b : Int × Int, encII a = encII b → a = b
  | (a, b), (c, d), e => by
    injection e with e
    injection e with e1 e
    injection e1 with e1
    injection e with e2 _
    injection e2 with e2
    exact Prod.ext e1 e2
theorem encMo_inj : ∀ A B : Mo, encMo A = encMo B → A = B := fun A B e => by
  injection e with e
  exact (List.map_inj_right encII_inj).mp e
theorem encMP_inj : ∀ a b : Mo × Int, encMP a = encMP b → a = b
  | (a, b), (c, d), e => by
    injection e with e
    injection e with e1 e
    injection e with e2 _
    injection e2 with e2
    exact Prod.ext (encMo_inj _ _ e1) e2
theorem encPo_inj : ∀ a b : Po, encPo a = encPo b → a = b := fun a b e => by
  injection e with e
  exact (List.map_inj_right encMP_inj).mp e
theorem depth_II (p : Int × Int) : (encII p).depth ≤ 1 := by simp [encII, NestedKey.depth, NestedKey.depthAll]
theorem depthAll_le {α : Type} (enc : α → Nk) (n : Nat) : ∀ l : List α, (∀ a ∈ l, (enc a).depth ≤ n) → NestedKey.depthAll (l.map enc) ≤ n
  | [], _ => by simp [NestedKey.depthAll]
  | a :: l, h => by
    rw [List.map_cons, NestedKey.depthAll]
    have h1 := h a List.mem_cons_self
    have h2 := depthAll_le enc n l fun x hx => h x (List.mem_cons_of_mem _ hx)
    omega
theorem depth_tupL {α : Type} (enc : α → Nk) (n : Nat) (l : List α) (h : ∀ a ∈ l, (enc a).depth ≤ n) : (NestedKey.tup (l.map enc)).depth ≤ n + 1 := by
  have := depthAll_le enc n l h
  rw [NestedKey.depth]
  omega
theorem depth_Mo (A : Mo) : (encMo A).depth ≤ 2 := depth_tupL encII 1 A fun p _ => depth_II p
mutual
theorem toPy_depth : ∀ d : Nk, (toPy d).depth ≤ d.depth
  | .none => by simp [toPy, PyData.depth]
  | .num _ => by simp [toPy, PyData.depth]
  | .text _ => by simp [toPy, PyData.depth]
  | .tup ks => by
    have := toPys_depth ks
    simp only [toPy, PyData.depth, NestedKey.depth]
    omega
theorem toPys_depth : ∀ ds : List Nk, PyData.depthAll (toPys ds) ≤ NestedKey.depthAll ds
  | [] => by simp [toPys, PyData.depthAll]
  | d :: ds => by
    have h1 := toPy_depth d
    have h2 := toPys_depth ds
    simp only [toPys, PyData.depthAll, NestedKey.depthAll]
    omega
end
/-- a sort of told things -/
theorem srt_map {P : Program} {w : World} {α : Type} (enc : α → Nk) (bs : List α) (hal : ∀ a ∈ bs, ∀ b ∈ bs, PySem.W.alike (toPy (enc a)) (toPy (enc b)) = true) (hk : PySem.W.Sortable ((bs.map enc).map toPy)) (hd : ∀ a ∈ bs, (enc a).depth ≤ 50) :
    SrtTo P w (bs.map enc) ((bs.mergeSort fun a b => PySem.W.dataLe false toPy (enc a) (enc b)).map enc) := by
  rw [List.map_mergeSort (s := PySem.W.dataLe false toPy) (fun a _ b _ => rfl)]
  refine srt_data (fun d hd d' hd' => ?_) hk fun d hd' => ?_
  · obtain ⟨x, hx, rfl⟩ := List.mem_map.mp hd
    obtain ⟨a, ha, rfl⟩ := List.mem_map.mp hx
    obtain ⟨y, hy, rfl⟩ := List.mem_map.mp hd'
    obtain ⟨b, hb, rfl⟩ := List.mem_map.mp hy
    exact hal a ha b hb
  · obtain ⟨a, ha, rfl⟩ := List.mem_map.mp hd'
    have := toPy_depth (enc a)
    have := hd a ha
    omega
theorem sortable_tup {α : Type} (enc : α → Nk) (bs : List α) (h : ∀ a ∈ bs, ∃ d ds, enc a = .tup (d :: ds)) : PySem.W.Sortable ((bs.map enc).map toPy) := .inl fun d hd => by
  obtain ⟨x, hx, rfl⟩ := List.mem_map.mp hd
  obtain ⟨a, ha, rfl⟩ := List.mem_map.mp hx
  obtain ⟨e, es, q⟩ := h a ha
  exact ⟨toPy e, toPys es, by rw [q, toPy, toPys]⟩
theorem alike_II (p q : Int × Int) : PySem.W.alike (toPy (encII p)) (toPy (encII q)) = true := by simp [encII, toPy, toPys, PySem.W.alike, PySem.W.alikeAll]
theorem alike_all {α : Type} (enc : α → Nk) (h : ∀ a b, PySem.W.alike (toPy (enc a)) (toPy (enc b)) = true) : ∀ l m : List α, PySem.W.alikeAll (toPys (l.map enc)) (toPys (m.map enc)) = true
  | [], m => by
    rw [List.map_nil, toPys]
    cases m <;> simp [PySem.W.alikeAll]
  | a :: l, [] => by simp [toPys, PySem.W.alikeAll]
  | a :: l, b :: m => by
    rw [List.map_cons, List.map_cons, toPys, toPys, PySem.W.alikeAll, h a b, alike_all enc h l m]
    rfl
theorem alike_Mo (A B : Mo) : PySem.W.alike (toPy (encMo A)) (toPy (encMo B)) = true := by
  rw [encMo, encMo, toPy, toPy, PySem.W.alike]
  exact alike_all encII alike_II A B
theorem alike_MP (p q : Mo × Int) : PySem.W.alike (toPy (encMP p)) (toPy (encMP q)) = true := by
  have h := alike_Mo p.1 q.1
  simp only [encMP, toPy, toPys, PySem.W.alike, PySem.W.alikeAll, h, Bool.and_self]
theorem srt_Mo {P : Program} {w : World} (A : Mo) : SrtTo P w (A.map encII) ((sortMo A).map encII) := srt_map encII A (fun p _ q _ => alike_II p q) (sortable_tup encII A fun p _ => ⟨_, _, rfl⟩) fun p _ => Nat.le_trans (depth_II p) (by decide)
theorem depth_MP (p : Mo × Int) : (encMP p).depth ≤ 3 := by
  have := depth_Mo p.1
  simp only [encMP, NestedKey.depth, NestedKey.depthAll]
  omega
theorem depth_Po (p : Po) : (encPo p).depth ≤ 4 := depth_tupL encMP 3 p fun q _ => depth_MP q
theorem srt_Po {P : Program} {w : World} (p : Po) : SrtTo P w (p.map encMP) ((sortPo p).map encMP) := srt_map encMP p (fun p _ q _ => alike_MP p q) (sortable_tup encMP p fun p _ => ⟨_, _, rfl⟩) fun p _ => Nat.le_trans (depth_MP p) (by decide)
theorem length_sortMo (A : Mo) : (sortMo A).length = A.length := (List.mergeSort_perm _ _).length_eq
theorem length_sortPo (p : Po) : (sortPo p).length = p.length := (List.mergeSort_perm _ _).length_eq
/-! ### walked -/
abbrev N_variable : List Str := ["fact"]
theorem sc_variable : FnScope N_variable ["fact"] (defScope s_variable) := ⟨rfl, rfl, rfl, by decide +kernel, rfl, by decide +kernel, by decide +kernel⟩
def sp_variable (K : PySem.W.Frag) : Sp := fun vs H Q _ => ∃ f : Int, vs = [.int f] ∧ ∀ v H', Ex H H' → NV K H' v (encPo [([(f, 1)], 1)]) → Q v H'
abbrev N_united : List Str := ["one", "other", "table", "fact", "exponent"]
theorem sc_united : FnScope N_united ["one", "other"] (defScope s_united) := ⟨rfl, rfl, rfl, by decide +kernel, rfl, by decide +kernel, by decide +kernel⟩
def sp_united (K : PySem.W.Frag) : Sp := fun vs H Q _ => ∃ v1 v2 A f, vs = [v1, v2] ∧ NV K H v1 (encMo A) ∧ NV K H v2 (encMo [(f, 1)]) ∧ (A.map (·.1)).Nodup ∧ A.length ≤ 1000 ∧ ∀ v H', Ex H H' → NV K H' v (encMo (mulMo A f)) → Q v H'
abbrev N_packed : List Str := ["table"]
theorem sc_packed : FnScope N_packed ["table"] (defScope s_packed) := ⟨rfl, rfl, rfl, by decide +kernel, rfl, by decide +kernel, by decide +kernel⟩
/-- a dict of coefficients by monomials -/
def PoAt (P : Program) (w : World) (K : PySem.W.Frag) (H : Hp) (d : Addr) (p : Po) : Prop := DN P w K H d (p.map fun q => (encMo q.1, V.int q.2))
def sp_packed (P : Program) (w : World) (K : PySem.W.Frag) : Sp := fun vs H Q _ => ∃ d p, vs = [.ref d] ∧ PoAt P w K H d p ∧ p.length ≤ 400 ∧ ∀ v H', Ex H H' → NV K H' v (encPo (sortPo p)) → Q v H'
section
variable {P : Program} {w : World} {K : PySem.W.Frag} {mg : Str → Option Value} {base : Heap}
theorem ok_variable {k : Nat} {f : Addr} {fd : FuncData} (F : FnP K "variable" "variable" s_variable f fd) (T : Txt mg) : FnOk P w K mg base CX0 (k + 1) f fd ["fact"] (sp_variable K) := by
  refine mk_ok F sc_variable (fun vs H Q E h => ?_) (fun cdv A outer s H vs Q E hr h => ?_)
  · obtain ⟨i, rfl, _⟩ := h
    rfl
  · obtain ⟨i, rfl, q⟩ := h
    have nd := sc_variable.nd
    refine ⟨_, (pss_one (ps_ret (pe_tupF (pa_cons (pe_tupF (pa_cons (pe_tupF (pa_cons (pe_tupF (pa_cons (pv 0) (pa_cons pe_int pa_nil))) pa_nil)) (pa_cons pe_int pa_nil))) pa_nil)))), ?_⟩
    exact s_ret (G := gx K) trivial (ed_tup (eds_cons (ed_tup (eds_cons (ed_tup (eds_cons (ed_tup (eds_cons (ed_var rfl (.int i)) (eds_cons ed_int eds_nil))) eds_nil)) (eds_cons ed_int eds_nil))) eds_nil)) fun v H1 r p => q v H1 r p
theorem ei_items {K : PySem.W.Frag} {H : Hp} {ps : List Addr} : True := trivial
/-- the items of a tuple of pairs -/
theorem mo_items {H : Hp} : ∀ {A : Mo} {xs : List V}, NVs K H xs (A.map encII) → ∃ ps : List Addr, xs = ps.map V.ref ∧ Paired (fun p (kv : Key × V) => SqT K H p [kV kv.1, kv.2]) ps (A.map fun p => (Sum.inl p.1, V.int p.2))
  | [], _, h => by cases h; exact ⟨[], rfl, .nil⟩
  | p :: A, _, h => by
    cases h with
    | cons h1 h2 =>
      obtain ⟨ps, e, r⟩ := mo_items h2
      subst e
      cases h1 with
      | tup a1 a2 =>
        cases a2 with
        | cons b1 b2 =>
          cases b2 with
          | cons b3 b4 =>
            cases b4
            cases b1
            cases b3
            exact ⟨_ :: ps, rfl, .cons a1.sq r⟩
theorem ok_united {k : Nat} {f : Addr} {fd : FuncData} (F : FnP K "united" "united" s_united f fd) (T : Txt mg) : FnOk P w K mg base CX0 (k + 1) f fd ["one", "other"] (sp_united K) := by
  refine mk_ok F sc_united (fun vs H Q E h => ?_) (fun cdv A outer s H vs Q E hr h => ?_)
  · obtain ⟨v1, v2, A, i, rfl, _⟩ := h
    rfl
  · obtain ⟨v1, v2, A, i, rfl, h1, h2, hn, hz, q⟩ := h
    have nd := sc_united.nd
    refine ⟨_, (pss_cons (ps_set (i := 2) nd rfl (by first | exact Or.inl rfl | exact Or.inr rfl) (k_cty T.f_dict (k_dictK (K := K) rfl) (pa_cons (pv 0) pa_nil))) (pss_cons (ps_for PassesOwn.never rfl (k_itup (K := K) (pv 1)) (k_pgt (K := K) (n := 2) (pgs_cons (pg_name (i := 3) nd rfl (by first | exact Or.inl rfl | exact Or.inr rfl)) (pgs_cons (pg_name (i := 4) nd rfl (by first | exact Or.inl rfl | exact Or.inr rfl)) pgs_nil))) (pss_one (ps_dput (hu_of hr) (pv 2) (pv 3) (pe_op op_add (pe_dget2 (hu_of hr) (pv 2) (pv 3) pe_int ⟨rfl, rfl, rfl, rfl⟩) (pv 4)) rfl))) (pss_one (ps_ret (k_tuple (K := K) T (k_cb T.f_sorted (k_srtIt (P := P) (w := w) (K := K) rfl (hu80 hr)) (pa_cons (k_items (P := P) (w := w) (K := K) (pv 2)) pa_nil))))))), ?_⟩
    cases h1 with
    | @tup a xs _ a1 a2 =>
    obtain ⟨ps, rfl, hp⟩ := mo_items a2
    refine ⟨.ref a, rfl, a, ps, _, rfl, .inl a1, hp, fun d hd => ?_⟩
    rw [mergeK_nodup _ (by rw [List.map_map]; exact (List.Pairwise.map _ (fun a b h => fun e => h (Sum.inl.inj e)) (List.pairwise_map.mp hn)))]
    have e0 : Ex H (upd H d (.dK (A.map fun p => (Sum.inl p.1, V.int p.2)))) := Ex.new hd
    refine q_for (G := gx K) trivial (ei_tup (ed_var rfl (h2.ex e0))) fun J H1 r1 hs => ?_
    obtain ⟨ta, ys, rfl, t1, t2⟩ := hs
    have hl : ys.length = 1 := by rw [t2.len]; rfl
    refine ⟨ys.length, _, _, fun j σ' H' => ∃ s3 s4, σ' = [some (.ref a), some v2, some (.ref d), s3, s4] ∧ Ex H H' ∧ Tx K H1 H' ∧ H' d = some (.dK ((if j = 0 then A else bump A i 1).map fun p => (Sum.inl p.1, V.int p.2))), walk_tup,
      ⟨none, none, rfl, e0.trans r1, Tx.refl K H1, r1 _ _ upd_same⟩, fun j σ' H' _ hp => ?_, fun j x σ' Ha Hb hj hp y => ?_, fun σ' H' hp => ?_⟩
    · obtain ⟨_, _, _, _, tx, _⟩ := hp
      exact tx.1 _ _ t1
    · obtain ⟨s3, s4, rfl, ex, tx, hdk⟩ := hp
      obtain ⟨rfl, hx⟩ := y
      have j0 : j = 0 := by omega
      subst j0
      obtain ⟨dd, hdd, nx⟩ := t2.getV hx
      have hdd : some (encII (i, 1)) = some dd := hdd
      cases hdd
      have nx := nx.t tx
      cases nx with
      | @tup T ws _ b1 b2 =>
      cases b2 with
      | cons c1 c2 =>
      cases c2 with
      | cons c3 c4 =>
      cases c4
      cases c1
      cases c3
      refine st_pair (G := gx K) b1.sq _ (Ex.refl _) _ ?_
      have hdk : Hb d = some (.dK (A.map fun p => (Sum.inl p.1, V.int p.2))) := hdk
      have hgv : valV (A.map fun p => ((Sum.inl p.1 : Key), V.int p.2)) (Sum.inl i) = (aGet A i).map V.int := by
        rw [valV_eq]
        exact aGet_map (f := (Sum.inl : Int → Key)) (fun _ _ e => Sum.inl.inj e) V.int i A
      refine ⟨.ref d, rfl, d, rfl, .inl ⟨_, .inl hdk⟩, .int i, rfl, _, DGet.k (k := .inl i) hdk, .int 1, rfl, (aGet A i).getD 0, 1, ?_, rfl, ?_⟩
      · rw [hgv]
        cases aGet A i <;> rfl
      · refine ⟨.ref d, rfl, .int i, rfl, d, _, rfl, DPut.k (k := .inl i) hdk (by rw [List.length_map, sizeLine_eq]; omega), ?_⟩
        have e1 : putK (A.map fun p => ((Sum.inl p.1 : Key), V.int p.2)) (Sum.inl i) (.int ((aGet A i).getD 0 + 1)) = (bump A i 1).map fun p => ((Sum.inl p.1 : Key), V.int p.2) := by
          rw [putK_eq]
          exact aPut_map (f := (Sum.inl : Int → Key)) (fun _ _ e => Sum.inl.inj e) V.int i _ A
        rw [e1]
        exact ⟨_, _, rfl, ex.mut hd, tx.trans (Tx.upd (.inr (by rw [hdk]; trivial))), upd_same⟩
    · obtain ⟨s3, s4, rfl, ex, _, hdk⟩ := hp
      rw [hl] at hdk
      have hdk : H' d = some (.dK ((bump A i 1).map fun p => (Sum.inl p.1, V.int p.2))) := hdk
      have hmd : ∀ H2 : Hp, MRel (NV K H2) (((bump A i 1).map fun p => ((Sum.inl p.1 : Key), V.int p.2)).map fun p => (kN p.1, p.2)) ((bump A i 1).map fun p => (NestedKey.num p.1, NestedKey.num p.2)) := by
        intro H2
        generalize bump A i 1 = B
        induction B with
        | nil => exact .nil
        | cons p B ih => exact .cons ⟨rfl, .int p.2⟩ ih
      refine s_ret (G := gx K) trivial (ed_tupleL (el_srtIt (a := d) (out := (sortMo (bump A i 1)).map encII) (ea_var rfl) (fun H2 r => ⟨.inl ⟨_, r _ _ hdk, rfl⟩, hmd H2⟩) ?_ ?_ fun H2 p r hp => DEnt.new (.inl ⟨_, r _ _ hdk, rfl⟩) hp)) fun v H2 r p => q v H2 (ex.trans r) p
      · rw [List.map_map]
        exact srt_Mo _
      · rw [List.length_map, List.length_map, length_sortMo]
theorem ok_packed {k : Nat} {f : Addr} {fd : FuncData} (F : FnP K "packed" "packed" s_packed f fd) (T : Txt mg) {t : Tok} (hMM : mg "MOST_MONOMIALS" = some (.int 400 t)) : FnOk P w K mg base CX0 (k + 1) f fd ["table"] (sp_packed P w K) := by
  refine mk_ok F sc_packed (fun vs H Q E h => ?_) (fun cdv A outer s H vs Q E hr h => ?_)
  · obtain ⟨d, p, rfl, _⟩ := h
    rfl
  · obtain ⟨d, p, rfl, hd, hz, q⟩ := h
    have nd := sc_packed.nd
    refine ⟨_, (pss_cons (ps_if (pt_cmpR (op_gt) (k_cb T.f_len (k_nlen (P := P) (w := w) (K := K)) (pa_cons (pv 0) pa_nil)) (pe_glob (v := .int 400) (by rfl) hMM ⟨_, rfl⟩) (nomark _)) (pss_one ps_never) pss_nil) (pss_one (ps_ret (k_tuple (K := K) T (k_cb T.f_sorted (k_srtIt (P := P) (w := w) (K := K) rfl (hu80 hr)) (pa_cons (k_items (P := P) (w := w) (K := K) (pv 0)) pa_nil)))))), ?_⟩
    refine ⟨.ref d, rfl, d, _, rfl, hd, (p.length : Int), 400, by rw [List.length_map], rfl, decide ((400 : Int) < p.length), rfl, ?_⟩
    rw [decide_eq_false (by omega)]
    have hmd : ∀ H2 : Hp, MRel (NV K H2) (p.map fun q => (encMo q.1, V.int q.2)) (p.map fun q => (encMo q.1, NestedKey.num q.2)) := by
      intro H2
      clear hd hz q
      induction p with
      | nil => exact .nil
      | cons p B ih => exact .cons ⟨rfl, .int p.2⟩ ih
    refine s_ret (G := gx K) trivial (ed_tupleL (el_srtIt (a := d) (out := (sortPo p).map encMP) (ea_var rfl) (fun H2 r => ⟨.inr (hd.ex' r), hmd H2⟩) ?_ ?_ fun H2 p r hp => DEnt.new (.inr (hd.ex' r)) hp)) fun v H2 r p => q v H2 r p
    · rw [List.map_map]
      exact srt_Po _
    · rw [List.length_map, List.length_map, length_sortPo]
end
end Ew
set_option Elab.async false
set_option linter.all false
set_option maxRecDepth 100000
set_option maxHeartbeats 4000000
namespace Ew
open PySem PySem.Spec PyProof.Rows L2
open Evl (Ex)
theorem DN.mut {P : Program} {w : World} {K : PySem.W.Frag} {H : Hp} {d : Addr} {kvs : List (Nk × V)} (h : DN P w K H d kvs) : Mut (H d) := by
  obtain ⟨_, _, _, e⟩ := h.ex
  rw [e]
  trivial
abbrev N_Polynomials_one : List Str := ["self"]
theorem sc_Polynomials_one : FnScope N_Polynomials_one ["self"] (defScope s_Polynomials_one) := ⟨rfl, rfl, rfl, by decide +kernel, rfl, by decide +kernel, by decide +kernel⟩
def sp_one (K : PySem.W.Frag) : Sp := fun vs H Q _ => ∃ x : V, vs = [x] ∧ ∀ v H', Ex H H' → NV K H' v (encPo [([], 1)]) → Q v H'
abbrev N_Polynomials_plus : List Str := ["self", "a", "b", "table", "monomial", "coefficient"]
theorem sc_Polynomials_plus : FnScope N_Polynomials_plus ["self", "a", "b"] (defScope s_Polynomials_plus) := ⟨rfl, rfl, rfl, by decide +kernel, rfl, by decide +kernel, by decide +kernel⟩
def sp_plus (K : PySem.W.Frag) : Sp := fun vs H Q _ => ∃ (x v1 v2 : V) (p : Po) (M : Mo), vs = [x, v1, v2] ∧ NV K H v1 (encPo p) ∧ NV K H v2 (encPo [(M, 1)]) ∧ (p.map (·.1)).Nodup ∧ (addPo p M 1).length ≤ 400 ∧ p.length ≤ 1000 ∧ ∀ v H', Ex H H' → NV K H' v (encPo (sortPo (addPo p M 1))) → Q v H'
abbrev N_Polynomials_times : List Str := ["self", "a", "b", "table", "one", "first", "other", "second", "monomial"]
theorem sc_Polynomials_times : FnScope N_Polynomials_times ["self", "a", "b"] (defScope s_Polynomials_times) := ⟨rfl, rfl, rfl, by decide +kernel, rfl, by decide +kernel, by decide +kernel⟩
def sp_times (K : PySem.W.Frag) : Sp := fun vs H Q _ => ∃ (x v1 v2 : V) (M : Mo) (f : Int), vs = [x, v1, v2] ∧ NV K H v1 (encPo [(M, 1)]) ∧ NV K H v2 (encPo [([(f, 1)], 1)]) ∧ (M.map (·.1)).Nodup ∧ M.length ≤ 1000 ∧ ∀ v H', Ex H H' → NV K H' v (encPo [(mulMo M f, 1)]) → Q v H'
def sumPo : List Mo → Po
  | [] => []
  | M :: Ms => Ms.foldl (fun p M => sortPo (addPo p M 1)) [(M, 1)]
theorem sumPo_snoc (Ms : List Mo) (M : Mo) (h : Ms ≠ []) : sumPo (Ms ++ [M]) = sortPo (addPo (sumPo Ms) M 1) := by
  cases Ms with
  | nil => exact absurd rfl h
  | cons A Ms => rw [List.cons_append, sumPo, List.foldl_append, sumPo]; rfl
theorem sortPo_keys (p : Po) (h : (p.map (·.1)).Nodup) : ((sortPo p).map (·.1)).Nodup := ((List.mergeSort_perm p _).map (·.1)).nodup_iff.mpr h
theorem sumPo_nodup : ∀ Ms : List Mo, ((sumPo Ms).map (·.1)).Nodup := by
  intro Ms
  cases Ms with
  | nil => exact List.nodup_nil
  | cons M Ms =>
    rw [sumPo]
    have : ∀ (l : List Mo) (p : Po), (p.map (·.1)).Nodup → ((l.foldl (fun p M => sortPo (addPo p M 1)) p).map (·.1)).Nodup := by
      intro l
      induction l with
      | nil => exact fun p h => h
      | cons A l ih => exact fun p h => ih _ (sortPo_keys _ (aPut_nodup h))
    exact this Ms _ (by simp)
abbrev N_InSemiring___init__ : List Str := ["self", "semiring"]
theorem sc_InSemiring___init__ : FnScope N_InSemiring___init__ ["self", "semiring"] (defScope s_InSemiring___init__) := ⟨rfl, rfl, rfl, by decide +kernel, rfl, by decide +kernel, by decide +kernel⟩
abbrev N_InSemiring_sum_of : List Str := ["self", "worths", "total", "worth"]
theorem sc_InSemiring_sum_of : FnScope N_InSemiring_sum_of ["self", "worths"] (defScope s_InSemiring_sum_of) := ⟨rfl, rfl, rfl, by decide +kernel, rfl, by decide +kernel, by decide +kernel⟩
/-- at S stands an instance of Polynomials -/
def PolS (CP : Addr) (H : Hp) (S : Addr) : Prop := ∃ dx, H S = some (.ins CP dx [])
/-- at o stands an algebra over S -/
def AlgS (CI : Addr) (H : Hp) (o S : Addr) : Prop := ∃ dx, H o = some (.ins CI dx [("semiring", .ref S)])
def sp_init (CI : Addr) : Sp := fun vs H Q _ => ∃ (o S dx : Addr), vs = [.ref o, .ref S] ∧ H o = some (.ins CI dx []) ∧ Q .non (upd H o (.ins CI dx [("semiring", .ref S)]))
def sp_sum_of (K : PySem.W.Frag) (CI CP : Addr) : Sp := fun vs H Q _ => ∃ (o S l : Addr) (xs : List V) (Ms : List Mo), vs = [.ref o, .ref l] ∧ AlgS CI H o S ∧ PolS CP H S ∧ SqL K H l xs ∧ NVs K H xs (Ms.map fun M => encPo [(M, 1)]) ∧ Ms ≠ [] ∧ (∀ j, (sumPo (Ms.take j)).length ≤ 400) ∧
  ∀ v H', Ex H H' → NV K H' v (encPo (sumPo Ms)) → Q v H'
section
variable {P : Program} {w : World} {K : PySem.W.Frag} {mg : Str → Option Value} {base : Heap}
theorem ok_one {k : Nat} {f : Addr} {fd : FuncData} (F : FnP K "one" "Polynomials.one" s_Polynomials_one f fd) (T : Txt mg) : FnOk P w K mg base CX0 (k + 1) f fd ["self"] (sp_one K) := by
  refine mk_ok F sc_Polynomials_one (fun vs H Q E h => ?_) (fun cdv A outer s H vs Q E hr h => ?_)
  · obtain ⟨x, rfl, _⟩ := h
    rfl
  · obtain ⟨x, rfl, q⟩ := h
    have nd := sc_Polynomials_one.nd
    refine ⟨_, (pss_one (ps_ret (pe_tupF (pa_cons (pe_tupF (pa_cons (pe_tupF pa_nil) (pa_cons pe_int pa_nil))) pa_nil)))), ?_⟩
    exact s_ret (G := gx K) trivial (ed_tup (eds_cons (ed_tup (eds_cons (ed_tup eds_nil) (eds_cons ed_int eds_nil))) eds_nil)) fun v H1 r p => q v H1 r p
/-- the items of a polynomial -/
theorem po_items {H : Hp} : ∀ {p : Po} {xs : List V}, NVs K H xs (p.map encMP) → ∃ ps : List Addr, xs = ps.map V.ref ∧ Paired (PairN K H) ps (p.map fun q => (encMo q.1, V.int q.2))
  | [], _, h => by cases h; exact ⟨[], rfl, .nil⟩
  | q :: p, _, h => by
    cases h with
    | cons h1 h2 =>
      obtain ⟨ps, e, r⟩ := po_items h2
      subst e
      cases h1 with
      | tup a1 a2 =>
        cases a2 with
        | cons b1 b2 =>
          cases b2 with
          | cons b3 b4 =>
            cases b4
            cases b3
            cases b1 with
            | tup c1 c2 => exact ⟨_ :: ps, rfl, .cons ⟨_, a1.sq, .tup c1 c2, Nat.le_trans (depth_Mo _) (by decide)⟩ r⟩
theorem poAt_get (p : Po) (M : Mo) : valV (p.map fun q => (encMo q.1, V.int q.2)) (encMo M) = (aGet p M).map V.int := by
  rw [valV_eq]
  exact aGet_map (f := encMo) encMo_inj V.int M p
theorem poAt_put (p : Po) (M : Mo) (c : Int) : putK (p.map fun q => (encMo q.1, V.int q.2)) (encMo M) (.int c) = (aPut p M c).map fun q => (encMo q.1, V.int q.2) := by
  rw [putK_eq]
  exact aPut_map (f := encMo) encMo_inj V.int M c p
theorem poAt_nodup (p : Po) (h : (p.map (·.1)).Nodup) : ((p.map fun q => (encMo q.1, V.int q.2)).map (·.1)).Nodup := by
  rw [List.map_map]
  exact (List.Pairwise.map _ (fun a b h => fun e => h (encMo_inj _ _ e)) (List.pairwise_map.mp h))
theorem ok_plus {k : Nat} {f : Addr} {fd : FuncData} (F : FnP K "plus" "Polynomials.plus" s_Polynomials_plus f fd) (T : Txt mg) (c_packed : Callee P w K mg base "packed" k ["table"] (sp_packed P w K)) : FnOk P w K mg base CX0 (k + 1) f fd ["self", "a", "b"] (sp_plus K) := by
  refine mk_ok F sc_Polynomials_plus (fun vs H Q E h => ?_) (fun cdv A outer s H vs Q E hr h => ?_)
  · obtain ⟨x, v1, v2, p, M, rfl, _⟩ := h
    rfl
  · obtain ⟨x0, v1, v2, p, M, rfl, h1, h2, hn, hz, hz2, q⟩ := h
    have nd := sc_Polynomials_plus.nd
    refine ⟨_, (pss_cons (ps_set (i := 3) nd rfl (by first | exact Or.inl rfl | exact Or.inr rfl) (k_cty T.f_dict (k_dictN (P := P) (w := w) (K := K) rfl (hu80 hr)) (pa_cons (pv 1) pa_nil))) (pss_cons (ps_for PassesOwn.never rfl (k_itup (K := K) (pv 2)) (k_pgt (K := K) (pgs_cons (pg_name (i := 4) nd rfl (by first | exact Or.inl rfl | exact Or.inr rfl)) (pgs_cons (pg_name (i := 5) nd rfl (by first | exact Or.inl rfl | exact Or.inr rfl)) pgs_nil))) (pss_one (k_nput (P := P) (w := w) (K := K) hr.units (pv 3) (pv 4) (pe_op op_add (pe_nm PySem.F.slot_dict_get PySem.F.type_dict_get (mt_nget hr.units) (pv 3) (pa_cons (pv 4) (pa_cons pe_int pa_nil))) (pv 5))))) (pss_one (ps_ret (pe_cal c_packed hr (pa_cons (pv 3) pa_nil)))))), ?_⟩
    cases h1 with
    | @tup a xs _ a1 a2 =>
    obtain ⟨ps, rfl, hp⟩ := po_items a2
    refine ⟨.ref a, rfl, a, ps, _, rfl, .inl a1, hp, fun d ob hd hD => ?_⟩
    rw [mergeN_nodup _ (poAt_nodup p hn)] at hD
    have e0 : Ex H (upd H d ob) := Ex.new hd
    refine q_for (G := gx K) trivial (ei_tup (ed_var rfl (h2.ex e0))) fun J H1 r1 hs => ?_
    obtain ⟨tb, ys, rfl, t1, t2⟩ := hs
    have hl : ys.length = 1 := by rw [t2.len]; rfl
    refine ⟨ys.length, _, _, fun j σ' H' => ∃ s3 s4, σ' = [some x0, some (.ref a), some v2, some (.ref d), s3, s4] ∧ Ex H H' ∧ Tx K H1 H' ∧ PoAt P w K H' d (if j = 0 then p else addPo p M 1), walk_tup,
      ⟨none, none, rfl, e0.trans r1, Tx.refl K H1, hD.ex' r1⟩, fun j σ' H' _ hp => ?_, fun j x σ' Ha Hb hj hp y => ?_, fun σ' H' hp => ?_⟩
    · obtain ⟨_, _, _, _, tx, _⟩ := hp
      exact tx.1 _ _ t1
    · obtain ⟨s3, s4, rfl, ex, tx, hdk⟩ := hp
      obtain ⟨rfl, hx⟩ := y
      have j0 : j = 0 := by omega
      subst j0
      obtain ⟨dd, hdd, nx⟩ := t2.getV hx
      have hdd : some (encMP (M, 1)) = some dd := hdd
      cases hdd
      have nx := nx.t tx
      cases nx with
      | @tup Tt ws _ b1 b2 =>
      cases b2 with
      | @cons v vs' _ _ c1 c2 =>
      cases c2 with
      | cons c3 c4 =>
      cases c4
      cases c3
      have c0 := c1
      cases c1 with
      | @tup mb ms _ m1 m2 =>
      refine st_pair (G := gx K) b1.sq _ (Ex.refl _) _ ?_
      have hdk : DN P w K Hb d (p.map fun q => (encMo q.1, V.int q.2)) := hdk
      refine ⟨.ref d, rfl, ⟨d, _, rfl, hdk⟩, .ref mb, rfl, d, .ref mb, (aGet p M).map V.int, rfl, ⟨_, encMo M, mb, hdk, rfl, c0, Nat.le_trans (depth_Mo M) (by decide), (poAt_get p M).symm⟩, .inr ⟨.int 0, rfl, .int 1, rfl, (aGet p M).getD 0, 1, ?_, rfl, ?_⟩⟩
      · cases aGet p M <;> rfl
      · refine ⟨.ref d, rfl, .ref mb, rfl, d, _, encMo M, mb, rfl, rfl, hdk, c0, Nat.le_trans (depth_Mo M) (by decide), by rw [List.length_map, sizeLine_eq]; omega, fun ob2 hD2 => ?_⟩
        rw [poAt_put] at hD2
        have mu : Mut (Hb d) := hdk.mut
        exact ⟨_, _, rfl, ex.mut hd, tx.trans (Tx.upd (.inr mu)), hD2⟩
    · obtain ⟨s3, s4, rfl, ex, _, hdk⟩ := hp
      rw [hl] at hdk
      exact ⟨.ref d, rfl, d, addPo p M 1, rfl, hdk, hz, fun v H2 r nv => q v H2 (ex.trans r) nv⟩
theorem ok_times {k : Nat} {f : Addr} {fd : FuncData} (F : FnP K "times" "Polynomials.times" s_Polynomials_times f fd) (T : Txt mg) (c_packed : Callee P w K mg base "packed" k ["table"] (sp_packed P w K)) (c_united : Callee P w K mg base "united" k ["one", "other"] (sp_united K)) :
    FnOk P w K mg base CX0 (k + 1) f fd ["self", "a", "b"] (sp_times K) := by
  refine mk_ok F sc_Polynomials_times (fun vs H Q E h => ?_) (fun cdv A outer s H vs Q E hr h => ?_)
  · obtain ⟨x, v1, v2, M, i, rfl, _⟩ := h
    rfl
  · obtain ⟨x0, v1, v2, M, i, rfl, h1, h2, hn, hz, q⟩ := h
    have nd := sc_Polynomials_times.nd
    refine ⟨_, (pss_cons (ps_set (i := 3) nd rfl (by first | exact Or.inl rfl | exact Or.inr rfl) (k_dnewN (P := P) (w := w) (K := K))) (pss_cons (ps_for PassesOwn.never rfl (k_itup (K := K) (pv 1)) (k_pgt (K := K) (pgs_cons (pg_name (i := 4) nd rfl (by first | exact Or.inl rfl | exact Or.inr rfl)) (pgs_cons (pg_name (i := 5) nd rfl (by first | exact Or.inl rfl | exact Or.inr rfl)) pgs_nil))) (pss_one (ps_for PassesOwn.never rfl (k_itup (K := K) (pv 2)) (k_pgt (K := K) (pgs_cons (pg_name (i := 6) nd rfl (by first | exact Or.inl rfl | exact Or.inr rfl)) (pgs_cons (pg_name (i := 7) nd rfl (by first | exact Or.inl rfl | exact Or.inr rfl)) pgs_nil))) (pss_cons (ps_set (i := 8) nd rfl (by first | exact Or.inl rfl | exact Or.inr rfl) (pe_cal c_united hr (pa_cons (pv 4) (pa_cons (pv 6) pa_nil)))) (pss_one (k_nput (P := P) (w := w) (K := K) hr.units (pv 3) (pv 8) (pe_op op_add (pe_nm PySem.F.slot_dict_get PySem.F.type_dict_get (mt_nget hr.units) (pv 3) (pa_cons (pv 8) (pa_cons pe_int pa_nil))) (pe_op op_mul (pv 5) (pv 7))))))))) (pss_one (ps_ret (pe_cal c_packed hr (pa_cons (pv 3) pa_nil)))))), ?_⟩
    refine fun d ob hd hD => ?_
    have e0 : Ex H (upd H d ob) := Ex.new hd
    refine q_for (G := gx K) trivial (ei_tup (ed_var rfl (h1.ex e0))) fun J H1 r1 hs => ?_
    obtain ⟨ta, xs, rfl, t1, t2⟩ := hs
    have hl : xs.length = 1 := by rw [t2.len]; rfl
    refine ⟨xs.length, _, _, fun j σ' H' => ∃ s4 s5 s6 s7 s8, σ' = [some x0, some v1, some v2, some (.ref d), s4, s5, s6, s7, s8] ∧ Ex H H' ∧ Tx K H1 H' ∧ PoAt P w K H' d (if j = 0 then [] else [(mulMo M i, 1)]), walk_tup,
      ⟨none, none, none, none, none, rfl, e0.trans r1, Tx.refl K H1, hD.ex' r1⟩, fun j σ' H' _ hp => ?_, fun j x σ' Ha Hb hj hp y => ?_, fun σ' H' hp => ?_⟩
    · obtain ⟨_, _, _, _, _, _, _, tx, _⟩ := hp
      exact tx.1 _ _ t1
    · obtain ⟨s4, s5, s6, s7, s8, rfl, ex, tx, hdk⟩ := hp
      obtain ⟨rfl, hx⟩ := y
      have j0 : j = 0 := by omega
      subst j0
      obtain ⟨dd, hdd, nx⟩ := t2.getV hx
      have hdd : some (encMP (M, 1)) = some dd := hdd
      cases hdd
      have nx := nx.t tx
      cases nx with
      | @tup Tt ws _ b1 b2 =>
      cases b2 with
      | @cons m vs' _ _ c1 c2 =>
      cases c2 with
      | cons c3 c4 =>
      cases c4
      cases c3
      refine st_pair (G := gx K) b1.sq _ (Ex.refl _) _ ?_
      refine s_for (G := gx K) trivial (ei_tup (ed_var rfl (h2.ex ex))) fun J H2 r2 hs => ?_
      obtain ⟨tb, ys, rfl, u1, u2⟩ := hs
      have hl2 : ys.length = 1 := by rw [u2.len]; rfl
      refine ⟨ys.length, _, _, fun j σ' H' => ∃ s6 s7 s8, σ' = [some x0, some v1, some v2, some (.ref d), some m, some (.int 1), s6, s7, s8] ∧ Ex H H' ∧ Tx K H2 H' ∧ PoAt P w K H' d (if j = 0 then [] else [(mulMo M i, 1)]), walk_tup,
        ⟨s6, s7, s8, rfl, ex.trans r2, Tx.refl K H2, hdk.ex' r2⟩, fun j σ' H' _ hp => ?_, fun j x σ' Hc Hd hj hp y => ?_, fun σ' H' hp => ?_⟩
      · obtain ⟨_, _, _, _, _, tx, _⟩ := hp
        exact tx.1 _ _ u1
      · obtain ⟨s6, s7, s8, rfl, ex2, tx2, hdk⟩ := hp
        obtain ⟨rfl, hx⟩ := y
        have j0 : j = 0 := by omega
        subst j0
        obtain ⟨dd, hdd, ny⟩ := u2.getV hx
        have hdd : some (encMP ([(i, 1)], 1)) = some dd := hdd
        cases hdd
        have ny := ny.t tx2
        cases ny with
        | @tup Tu ws2 _ d1 d2 =>
        cases d2 with
        | @cons mo vs2 _ _ e1 e2 =>
        cases e2 with
        | cons e3 e4 =>
        cases e4
        cases e3
        refine st_pair (G := gx K) d1.sq _ (Ex.refl _) _ ?_
        refine ⟨m, rfl, mo, rfl, m, mo, M, i, rfl, (c1.t (Tx.ex r2)).t tx2, e1, hn, hz, fun v He r3 nv => ?_⟩
        have hdk : DN P w K He d [] := (show DN P w K Hd d [] from hdk).ex' r3
        have nv0 := nv
        cases nv with
        | @tup mb ms _ m1 m2 =>
        refine ⟨.ref d, rfl, ⟨d, _, rfl, hdk⟩, .ref mb, rfl, d, .ref mb, none, rfl, ⟨_, encMo (mulMo M i), mb, hdk, rfl, nv0, Nat.le_trans (depth_Mo _) (by decide), rfl⟩, .inr ⟨.int 0, rfl, .int 1, rfl, .int 1, rfl, 1, 1, rfl, rfl, ?_, 0, 1, rfl, rfl, ?_⟩⟩
        · exact .inl ⟨by decide, by decide⟩
        · refine ⟨.ref d, rfl, .ref mb, rfl, d, _, encMo (mulMo M i), mb, rfl, rfl, hdk, nv0, Nat.le_trans (depth_Mo _) (by decide), by decide, fun ob2 hD2 => ?_⟩
          have mu : Mut (He d) := hdk.mut
          exact ⟨_, _, _, rfl, (ex2.trans r3).mut hd, (tx2.trans (Tx.ex r3)).trans (Tx.upd (.inr mu)), hD2⟩
      · obtain ⟨s6, s7, s8, rfl, ex2, tx2, hdk⟩ := hp
        rw [hl2] at hdk
        exact ⟨_, _, _, _, _, rfl, ex2, (tx.trans (Tx.ex r2)).trans tx2, hdk⟩
    · obtain ⟨s4, s5, s6, s7, s8, rfl, ex, _, hdk⟩ := hp
      rw [hl] at hdk
      exact ⟨.ref d, rfl, d, [(mulMo M i, 1)], rfl, hdk, by simp, fun v H2 r nv => q v H2 (ex.trans r) (by rw [sortPo, List.mergeSort_singleton] at nv; exact nv)⟩
theorem ok_init {CI : Addr} (cls : Cls K CI) (na : NoAttr K CI "semiring") {k : Nat} {f : Addr} {fd : FuncData} (F : FnP K "__init__" "InSemiring.__init__" s_InSemiring___init__ f fd) (T : Txt mg) : FnOk P w K mg base CX0 (k + 1) f fd ["self", "semiring"] (sp_init CI) := by
  refine mk_ok F sc_InSemiring___init__ (fun vs H Q E h => ?_) (fun cdv A outer s H vs Q E hr h => ?_)
  · obtain ⟨o, S, dx, rfl, _⟩ := h
    rfl
  · obtain ⟨o, S, dx, rfl, ho, q⟩ := h
    have nd := sc_InSemiring___init__.nd
    refine ⟨_, (pss_one (ps_fld (pv 0) (pv 1) rfl)), ?_⟩
    exact ⟨.ref S, rfl, .ref o, rfl, o, CI, dx, [], rfl, ho, cls, na, by simp, q⟩
theorem ok_sum_of {CI CP : Addr} (cls : Cls K CI) (na : NoAttr K CI "semiring") {k : Nat} {f : Addr} {fd : FuncData} (F : FnP K "sum_of" "InSemiring.sum_of" s_InSemiring_sum_of f fd) (T : Txt mg) (c_plus : MCallee P w K mg base CP "plus" k ["self", "a", "b"] (sp_plus K)) :
    FnOk P w K mg base CX0 (k + 1) f fd ["self", "worths"] (sp_sum_of K CI CP) := by
  refine mk_ok F sc_InSemiring_sum_of (fun vs H Q E h => ?_) (fun cdv A outer s H vs Q E hr h => ?_)
  · obtain ⟨o, S, l, xs, Ms, rfl, _⟩ := h
    rfl
  · obtain ⟨o, S, l, xs, Ms, rfl, ⟨dxo, ho⟩, ⟨dxS, hS⟩, hl, hv, hne, hb, q⟩ := h
    have nd := sc_InSemiring_sum_of.nd
    refine ⟨_, (pss_cons (ps_set (i := 2) nd rfl (by first | exact Or.inl rfl | exact Or.inr rfl) (k_ixL (K := K) (pv 1) pe_int)) (pss_cons (ps_for PassesOwn.never rfl (k_ilist (K := K) (k_slL (K := K) (pv 1) (po_some pe_int) po_none)) (pg_name (i := 3) nd rfl (by first | exact Or.inl rfl | exact Or.inr rfl)) (pss_one (ps_set (i := 2) nd rfl (by first | exact Or.inl rfl | exact Or.inr rfl) (pe_mcal (k_fld (K := K) (pv 0)) c_plus hr (pa_cons (pv 2) (pa_cons (pv 3) pa_nil)))))) (pss_one (ps_ret (pv 2))))), ?_⟩
    cases Ms with
    | nil => exact absurd rfl hne
    | cons M Ms =>
    have hlen := hv.len
    rw [List.length_map, List.length_cons] at hlen
    obtain ⟨v0, hv0, nv0⟩ := hv.get (i := 0) (d := encPo [(M, 1)]) rfl
    refine ⟨.ref l, rfl, l, xs, 0, v0, rfl, rfl, hl, atI_nat (j := 0) hv0, ?_⟩
    refine ⟨.ref l, rfl, 1, rfl, l, xs, rfl, hl, fun l2 hl2 => ?_⟩
    have e0 : Ex H (upd H l2 (.lst (cutV xs (some 1) none))) := Ex.new hl2
    have hcut : cutV xs (some 1) none = xs.drop 1 := by
      have h1 : HT.sIx xs.length 0 (some 1) = 1 := by
        have h := HT.sIx_nat xs.length 0 1
        rw [show ((1 : Nat) : Int) = 1 from rfl] at h
        rw [h]
        omega
      unfold cutV
      rw [h1, HT.sIx_none]
      exact List.take_of_length_le (by rw [List.length_drop]; omega)
    rw [hcut] at e0 ⊢
    refine ⟨l2, rfl, ⟨_, SqL.of upd_same⟩, ?_⟩
    refine for_it (walk_list (K := K) (a := l2) (xs := xs.drop 1)) (fun j σ' H' => ∃ s3 v, σ' = [some (.ref o), some (.ref l), some v, s3] ∧ Ex (upd H l2 (.lst (xs.drop 1))) H' ∧ NV K H' v (encPo (sumPo ((M :: Ms).take (j + 1)))))
      ⟨none, v0, rfl, Ex.refl _, nv0.ex e0⟩ (fun j σ' H' _ hp => ?_) (fun j x σ' Ha Hb hj hp y => ?_) (fun σ' H' hp => ?_)
    · obtain ⟨_, _, _, ex, _⟩ := hp
      exact SqL.of (ex _ _ upd_same)
    · obtain ⟨s3, v, rfl, ex, nv⟩ := hp
      obtain ⟨rfl, hx⟩ := y
      rw [List.getElem?_drop] at hx
      obtain ⟨dd, hdd, nx⟩ := hv.getV hx
      rw [List.getElem?_map] at hdd
      have ei : 1 + j = j + 1 := by omega
      rw [ei] at hdd
      cases hM : (M :: Ms)[j + 1]? with
      | none => rw [hM] at hdd; cases hdd
      | some M1 =>
      rw [hM] at hdd
      cases hdd
      have exx := e0.trans ex
      refine ⟨.ref o, rfl, o, CI, dxo, _, .ref S, rfl, exx _ _ ho, cls, na, rfl, S, dxS, [], rfl, exx _ _ hS, rfl, v, rfl, x, rfl, .ref S, v, x, sumPo ((M :: Ms).take (j + 1)), M1, rfl, nv, nx.ex exx, sumPo_nodup _, ?_, ?_, fun v' H2 r nv' => ?_⟩
      · have h := hb (j + 1 + 1)
        rw [List.take_add_one, hM] at h
        have h2 : sumPo ((M :: Ms).take (j + 1) ++ [M1]) = _ := sumPo_snoc _ _ (by simp)
        have h : (sumPo ((M :: Ms).take (j + 1) ++ [M1])).length ≤ 400 := h
        rw [h2, length_sortPo] at h
        exact h
      · have := hb (j + 1)
        omega
      · refine ⟨_, v', rfl, ex.trans r, ?_⟩
        rw [List.take_add_one, hM]
        have h2 : sumPo ((M :: Ms).take (j + 1) ++ [M1]) = _ := sumPo_snoc _ _ (by simp)
        show NV K H2 v' (encPo (sumPo ((M :: Ms).take (j + 1) ++ [M1])))
        rw [h2]
        exact nv'
    · obtain ⟨s3, v, rfl, ex, nv⟩ := hp
      have e1 : (M :: Ms).take ((xs.drop 1).length + 1) = M :: Ms := List.take_of_length_le (by rw [List.length_drop, List.length_cons]; omega)
      rw [e1] at nv
      exact ⟨v, rfl, q v H' (e0.trans ex) nv⟩
end
end Ew
set_option Elab.async false
set_option linter.all false
set_option maxRecDepth 100000
set_option maxHeartbeats 4000000
namespace Ew
open PySem PySem.Spec PyProof.Rows L2
open Evl (Ex)
abbrev N_is_name : List Str := ["thing", "sign"]
theorem sc_is_name : FnScope N_is_name ["thing"] (defScope s_is_name) := ⟨rfl, rfl, rfl, by decide +kernel, rfl, by decide +kernel, by decide +kernel⟩
def sp_is_name : Sp := fun vs H Q _ => ∃ x : Str, vs = [.str x] ∧ (x = "e" ∨ x = "p") ∧ ∀ H', Ex H H' → Q (.bl true) H'
abbrev N_is_number : List Str := ["thing"]
theorem sc_is_number : FnScope N_is_number ["thing"] (defScope s_is_number) := ⟨rfl, rfl, rfl, by decide +kernel, rfl, by decide +kernel, by decide +kernel⟩
def isNum : Nk → Bool
  | .num _ => true
  | _ => false
def isLeaf : Nk → Bool
  | .num _ => true
  | .text _ => true
  | _ => false
def sp_is_number (K : PySem.W.Frag) : Sp := fun vs H Q _ => ∃ v d, vs = [v] ∧ NV K H v d ∧ isLeaf d = true ∧ Q (.bl (isNum d)) H
section
variable {P : Program} {w : World} {K : PySem.W.Frag} {mg : Str → Option Value} {base : Heap}
theorem ok_is_number {k : Nat} {f : Addr} {fd : FuncData} (F : FnP K "is_number" "is_number" s_is_number f fd) (T : Txt mg) : FnOk P w K mg base CX0 (k + 1) f fd ["thing"] (sp_is_number K) := by
  refine mk_ok F sc_is_number (fun vs H Q E h => ?_) (fun cdv A outer s H vs Q E hr h => ?_)
  · obtain ⟨v, d, rfl, _⟩ := h
    rfl
  · obtain ⟨v, d, rfl, hv, hl, q⟩ := h
    have nd := sc_is_number.nd
    refine ⟨_, (pss_one (ps_ret (pe_and (k_cb T.f_isinstance (k_isi (K := K)) (pa_cons (pv 0) (pa_cons (pe_bltn (v := .ty "int") (by rfl) T.f_int (by decide +kernel) rfl) pa_nil))) (pe_one (pe_not (k_cb T.f_isinstance (k_isi (K := K)) (pa_cons (pv 0) (pa_cons (pe_bltn (v := .ty "bool") (by rfl) T.f_bool (by decide +kernel) rfl) pa_nil)))))))), ?_⟩
    cases hv with
    | int i => exact ⟨.int i, rfl, .int i, .ty "int", _, _, true, rfl, .ty _, .base (.int i), by rfl, true, rfl, .int i, rfl, .int i, .ty "bool", _, _, false, rfl, .ty _, .base (.int i), by rfl, false, rfl, q⟩
    | str x => exact ⟨.str x, rfl, .str x, .ty "int", _, _, false, rfl, .ty _, .base (.str x), by rfl, false, rfl, q⟩
    | tup _ _ => cases hl
theorem ok_is_name {k : Nat} {f : Addr} {fd : FuncData} (F : FnP K "is_name" "is_name" s_is_name f fd) (T : Txt mg) {t1 t2 : Tok} (hMN : mg "MOST_NAME_SIGNS" = some (.int 12 t1)) (hSL : mg "SMALL_LETTERS" = some (.str "abcdefghijklmnopqrstuvwxyz" t2)) :
    FnOk P w K mg base CX0 (k + 1) f fd ["thing"] sp_is_name := by
  refine mk_ok F sc_is_name (fun vs H Q E h => ?_) (fun cdv A outer s H vs Q E hr h => ?_)
  · obtain ⟨x, rfl, _⟩ := h
    rfl
  · obtain ⟨x, rfl, hx, q⟩ := h
    have nd := sc_is_name.nd
    refine ⟨_, (pss_cons (ps_if (PW.pt (pw_or (pt_not (pt_val (k_cb T.f_isinstance (k_isi (K := K)) (pa_cons (pv 0) (pa_cons (pe_bltn (v := .ty "str") (by rfl) T.f_str (by decide +kernel) rfl) pa_nil))))) (pw_or1 (pt_not (pt_chain op_le op_le pe_int (k_cb T.f_len (call_len_str) (pa_cons (pv 0) pa_nil)) (pe_glob (v := .int 12) (by rfl) hMN ⟨_, rfl⟩)))))) (pss_one (ps_ret pe_bl)) pss_nil) (pss_one (ps_ret (k_cb T.f_all (k_all (K := K)) (pa_cons (pe_lc (own := [("sign", 1)]) rfl nd (pi_str (pv 0)) (blkOk_by (N := N_is_name) (sc := defScope s_is_name) (by decide +kernel)) (fun _ _ _ _ _ => (pg_name (i := 1) nd rfl (by first | exact Or.inl rfl | exact Or.inr rfl))) (fun _ _ _ _ _ => pts_nil) (fun _ _ _ _ _ => (pe_cmpR op_in_sign (pv 1) (pe_glob (v := .str "abcdefghijklmnopqrstuvwxyz") (by rfl) hSL ⟨_, rfl⟩) rfl))) pa_nil))))), ?_⟩
    have hl : x.length = 1 := by rcases hx with rfl | rfl <;> rfl
    refine ⟨.str x, rfl, .str x, .ty "str", _, _, true, rfl, .ty _, .base (.str x), by rfl, true, rfl, ?_⟩
    refine ⟨.str x, rfl, x, rfl, by rw [hl]; decide, 1, (x.length : Int), rfl, rfl, decide ((1 : Int) ≤ x.length), rfl, ?_⟩
    rw [hl]
    refine ⟨1, 12, rfl, rfl, true, rfl, ?_⟩
    -- the signs
    refine ⟨.str x, rfl, x, rfl, fun D hD => ?_⟩
    have hs : x.cps.size = 1 := hl
    refine lc_it (walk_str (z := x)) (fun i H' => Ex H H' ∧ H' D = some (.lst ((List.replicate i true).map V.bl))) ⟨Ex.new hD, upd_same⟩ (fun _ _ _ _ => trivial) (fun i v Ha Hb hi hp y => ?_) (fun H' hp => ?_)
    · obtain ⟨rfl, c, hc, rfl⟩ := y
      obtain ⟨ex, hd⟩ := hp
      refine ⟨rfl, ⟨.str ⟨#[c]⟩, rfl, c, "abcdefghijklmnopqrstuvwxyz", rfl, rfl, (List.replicate i true).map V.bl, hd, by rw [List.length_map, List.length_replicate, sizeLine_eq]; omega, ex.mut hD, ?_⟩⟩
      have hmem : decide (c ∈ (Str.ofString "abcdefghijklmnopqrstuvwxyz").cps.toList) = true := by
        have i0 : i = 0 := by omega
        subst i0
        rcases hx with rfl | rfl
        · have : c = 101 := by
            have h : (some 101 : Option Nat) = some c := hc
            exact (Option.some.inj h).symm
          subst this
          decide +kernel
        · have : c = 112 := by
            have h : (some 112 : Option Nat) = some c := hc
            exact (Option.some.inj h).symm
          subst this
          decide +kernel
      rw [upd_same]
      rw [hmem, List.replicate_succ', List.map_append]
      rfl
    · obtain ⟨ex, hd⟩ := hp
      refine ⟨D, List.replicate x.cps.size true, rfl, SqL.of hd, ?_⟩
      have e : (List.replicate x.cps.size true).all id = true := by simp
      rw [e]
      exact q H' ex
end
end Ew
set_option Elab.async false
set_option linter.all false
set_option maxRecDepth 100000
set_option maxHeartbeats 4000000
namespace Ew
open PySem PySem.Spec PyProof.Rows L2
open Evl (Ex)
/-! ### facts -/
abbrev Fact := Str × List Nk
def encF (f : Fact) : Nk := .tup [.text f.1, .tup f.2]
theorem encF_inj : ∀ a b : Fact, encF a = encF b → a = b
  | (a, b), (c, d), e => by
    injection e with e
    injection e with e1 e
    injection e1 with e1
    injection e with e2 _
    injection e2 with e2
    exact Prod.ext e1 e2
def arOf (x : Str) : Int := if x = "e" then 2 else 1
def Tab (x : Str) : Prop := x = "e" ∨ x = "p"
/-- the facts' places -/
def plIx (n : Nat) : List Fact → List (Fact × Nat)
  | [] => []
  | f :: fs => (f, n) :: plIx (n + 1) fs
def plN (fs : List Fact) : List (Nk × V) := (plIx 0 fs).map fun p => (encF p.1, V.int (p.2 : Nat))
theorem plIx_snoc : ∀ (fs : List Fact) (f : Fact) (n : Nat), plIx n (fs ++ [f]) = plIx n fs ++ [(f, n + fs.length)]
  | [], f, n => rfl
  | g :: fs, f, n => by
    rw [List.cons_append, plIx, plIx, plIx_snoc fs f (n + 1), List.cons_append, List.length_cons]
    congr 4
    omega
theorem plIx_get : ∀ (fs : List Fact) (n i : Nat), (plIx n fs)[i]? = (fs[i]?).map fun f => (f, n + i)
  | [], n, i => by simp [plIx]
  | g :: fs, n, 0 => rfl
  | g :: fs, n, i + 1 => by
    rw [plIx, List.getElem?_cons_succ, List.getElem?_cons_succ, plIx_get fs (n + 1) i]
    congr 1
    funext f
    congr 1
    omega
theorem plIx_len : ∀ (fs : List Fact) (n : Nat), (plIx n fs).length = fs.length
  | [], _ => rfl
  | g :: fs, n => by rw [plIx, List.length_cons, List.length_cons, plIx_len fs]
theorem plIx_fst : ∀ (fs : List Fact) (n : Nat), (plIx n fs).map (·.1) = fs
  | [], _ => rfl
  | g :: fs, n => by rw [plIx, List.map_cons, plIx_fst fs]
theorem plN_get (fs : List Fact) (f : Fact) : valV (plN fs) (encF f) = (aGet (plIx 0 fs) f).map fun n => V.int (n : Nat) := by
  rw [valV_eq]
  exact aGet_map (f := encF) encF_inj (fun n : Nat => V.int n) f (plIx 0 fs)
theorem plN_none {fs : List Fact} {f : Fact} (h : f ∉ fs) : valV (plN fs) (encF f) = none := by
  rw [plN_get, aGet_none (by rw [plIx_fst]; exact h)]
  rfl
theorem plN_some {fs : List Fact} {f : Fact} (h : f ∈ fs) : ∃ n : Nat, valV (plN fs) (encF f) = some (V.int n) := by
  rw [plN_get]
  cases hg : aGet (plIx 0 fs) f with
  | some n => exact ⟨n, rfl⟩
  | none =>
    rw [← plIx_fst fs 0] at h
    obtain ⟨p, hp, e⟩ := List.mem_map.mp h
    have : (aGet (plIx 0 fs) f).isSome = true := by
      rw [← any_aGet]
      exact List.any_eq_true.mpr ⟨p, hp, decide_eq_true e⟩
    rw [hg] at this
    cases this
theorem plN_put {fs : List Fact} {f : Fact} (h : f ∉ fs) : putK (plN fs) (encF f) (.int (fs.length : Nat)) = plN (fs ++ [f]) := by
  rw [putK_eq, aPut_new (by rw [← valV_eq]; exact plN_none h), plN, plN, plIx_snoc, List.map_append, Nat.zero_add]
  rfl
theorem depth_F {f : Fact} (h : ∀ d ∈ f.2, d.depth ≤ 4) : (encF f).depth ≤ 8 := by
  have h1 := depth_tupL (fun d : Nk => d) 4 f.2 h
  rw [List.map_id'] at h1
  simp only [encF, NestedKey.depth, NestedKey.depthAll] at h1 ⊢
  omega
abbrev fFlds (a l t d : Addr) : List (Str × V) := [("arities", .ref a), ("known", .ref l), ("there", .ref t), ("places", .ref d)]
structure FactsAt (P : Program) (w : World) (K : PySem.W.Frag) (CF : Addr) (H : Hp) (o a l t d : Addr) (fs : List Fact) : Prop where
  lt : l ≠ t
  ins : ∃ dx, H o = some (.ins CF dx (fFlds a l t d))
  ar : H a = some (.dK [(Sum.inr "e", .int 2), (Sum.inr "p", .int 1)])
  kn : ∃ xs, H l = some (.lst xs) ∧ NVs K H xs (fs.map encF)
  th : H t = some (.lst (List.replicate fs.length (V.bl true)))
  pl : DN P w K H d (plN fs)
theorem FactsAt.ex {P : Program} {w : World} {K : PySem.W.Frag} {CF : Addr} {H H' : Hp} {o a l t d : Addr} {fs : List Fact} (h : FactsAt P w K CF H o a l t d fs) (e : Ex H H') : FactsAt P w K CF H' o a l t d fs := by
  obtain ⟨h0, ⟨dx, h1⟩, h2, ⟨xs, h3, h4⟩, h5, h6⟩ := h
  exact ⟨h0, ⟨dx, e _ _ h1⟩, e _ _ h2, ⟨xs, e _ _ h3, h4.ex e⟩, e _ _ h5, h6.ex' e⟩
def sp_arity (P : Program) (w : World) (K : PySem.W.Frag) (CF : Addr) : Sp := fun vs H Q _ => ∃ o a l t d fs x, vs = [.ref o, .str x] ∧ FactsAt P w K CF H o a l t d fs ∧ Tab x ∧ Q (.int (arOf x)) H
def sp_find (P : Program) (w : World) (K : PySem.W.Frag) (CF : Addr) : Sp := fun vs H Q _ => ∃ o a l t d fs x rv r, vs = [.ref o, .str x, rv] ∧ FactsAt P w K CF H o a l t d fs ∧ Tab x ∧ NV K H rv (.tup r) ∧ (∀ d ∈ r, d.depth ≤ 4) ∧ ∀ H', Ex H H' → Q ((valV (plN fs) (encF (x, r))).getD .non) H'
def sp_count (P : Program) (w : World) (K : PySem.W.Frag) (CF : Addr) : Sp := fun vs H Q _ => ∃ o a l t d fs, vs = [.ref o] ∧ FactsAt P w K CF H o a l t d fs ∧ Q (.int (fs.length : Nat)) H
def rowsOf (fs : List Fact) (x : Str) : List (Nat × List Nk) := (plIx 0 fs).filterMap fun p => if p.1.1 = x then some (p.2, p.1.2) else none
def encKR (p : Nat × List Nk) : Nk := .tup [.num (p.1 : Nat), .tup p.2]
def sp_rows (P : Program) (w : World) (K : PySem.W.Frag) (CF : Addr) : Sp := fun vs H Q _ => ∃ o a l t d fs x, vs = [.ref o, .str x] ∧ FactsAt P w K CF H o a l t d fs ∧ Tab x ∧ fs.length ≤ 1000 ∧ ∀ p H', Ex H H' → NL K H H' p ((rowsOf fs x).map encKR) → Q (.ref p) H'
def sp_add (P : Program) (w : World) (K : PySem.W.Frag) (CF : Addr) : Sp := fun vs H Q _ => ∃ (o a l t d : Addr) (fs : List Fact) (x : Str) (rv : V) (r : List Nk), vs = [.ref o, .str x, rv] ∧ FactsAt P w K CF H o a l t d fs ∧ Tab x ∧ NV K H rv (.tup r) ∧ (∀ d ∈ r, d.depth ≤ 4) ∧ (r.length : Int) = arOf x ∧ (x, r) ∉ fs ∧ fs.length ≤ 1000 ∧
  ∀ H', (∀ b z, b ≠ d → b ≠ l → b ≠ t → H b = some z → H' b = some z) → Tx K H H' → FactsAt P w K CF H' o a l t d (fs ++ [(x, r)]) → Q (.int (fs.length : Nat)) H'
abbrev N_Facts_arity : List Str := ["self", "table"]
theorem sc_Facts_arity : FnScope N_Facts_arity ["self", "table"] (defScope s_Facts_arity) := ⟨rfl, rfl, rfl, by decide +kernel, rfl, by decide +kernel, by decide +kernel⟩
abbrev N_Facts_find : List Str := ["self", "table", "row"]
theorem sc_Facts_find : FnScope N_Facts_find ["self", "table", "row"] (defScope s_Facts_find) := ⟨rfl, rfl, rfl, by decide +kernel, rfl, by decide +kernel, by decide +kernel⟩
abbrev N_Facts_count : List Str := ["self"]
theorem sc_Facts_count : FnScope N_Facts_count ["self"] (defScope s_Facts_count) := ⟨rfl, rfl, rfl, by decide +kernel, rfl, by decide +kernel, by decide +kernel⟩
section
variable {P : Program} {w : World} {K : PySem.W.Frag} {mg : Str → Option Value} {base : Heap} {CF : Addr}
structure FCls (K : PySem.W.Frag) (CF : Addr) : Prop where
  cls : Cls K CF
  ar : NoAttr K CF "arities"
  kn : NoAttr K CF "known"
  th : NoAttr K CF "there"
  pl : NoAttr K CF "places"
theorem ok_arity (C : FCls K CF) {k : Nat} {f : Addr} {fd : FuncData} (F : FnP K "arity" "Facts.arity" s_Facts_arity f fd) (T : Txt mg) : FnOk P w K mg base CX0 (k + 1) f fd ["self", "table"] (sp_arity P w K CF) := by
  refine mk_ok F sc_Facts_arity (fun vs H Q E h => ?_) (fun cdv A outer s H vs Q E hr h => ?_)
  · obtain ⟨o, a, l, t, d, fs, x, rfl, _⟩ := h
    rfl
  · obtain ⟨o, a, l, t, d, fs, x, rfl, ⟨_, ⟨dx, ho⟩, ha, _⟩, hx, q⟩ := h
    have nd := sc_Facts_arity.nd
    refine ⟨_, (pss_cons (ps_if (pt_cmp (pc_dnotin (hu_of hr) (pv 1) (k_fld (K := K) (pv 0))) rfl) (pss_one ps_never) pss_nil) (pss_one (ps_ret (pe_dget (hu_of hr) (k_fld (K := K) (pv 0)) (pv 1) (fun _ _ => rfl))))), ?_⟩
    have hv : valV [((Sum.inr "e" : Key), V.int 2), (Sum.inr "p", .int 1)] (Sum.inr x) = some (V.int (arOf x)) := by
      rcases hx with rfl | rfl
      · rfl
      · rfl
    have g : DGet H a (.str x) (some (V.int (arOf x))) := by
      have g := DGet.k (k := .inr x) ha
      rw [hv] at g
      exact g
    exact ⟨.str x, rfl, .ref o, rfl, o, CF, dx, _, .ref a, rfl, ho, C.cls, C.ar, rfl, a, _, rfl, g, false, rfl, .ref o, rfl, o, CF, dx, _, .ref a, rfl, ho, C.cls, C.ar, rfl, .str x, rfl, a, _, rfl, g, q⟩
theorem ok_count (C : FCls K CF) {k : Nat} {f : Addr} {fd : FuncData} (F : FnP K "count" "Facts.count" s_Facts_count f fd) (T : Txt mg) : FnOk P w K mg base CX0 (k + 1) f fd ["self"] (sp_count P w K CF) := by
  refine mk_ok F sc_Facts_count (fun vs H Q E h => ?_) (fun cdv A outer s H vs Q E hr h => ?_)
  · obtain ⟨o, a, l, t, d, fs, rfl, _⟩ := h
    rfl
  · obtain ⟨o, a, l, t, d, fs, rfl, ⟨_, ⟨dx, ho⟩, ha, ⟨xs, hl, hv⟩, _⟩, q⟩ := h
    have nd := sc_Facts_count.nd
    refine ⟨_, (pss_one (ps_ret (k_cb T.f_len (k_len (K := K)) (pa_cons (k_fld (K := K) (pv 0)) pa_nil)))), ?_⟩
    refine ⟨.ref o, rfl, o, CF, dx, _, .ref l, rfl, ho, C.cls, C.kn, rfl, l, xs, rfl, .inl (SqL.of hl), ?_⟩
    have e : xs.length = fs.length := by rw [hv.len, List.length_map]
    rw [e]
    exact q
theorem ok_find (C : FCls K CF) {k : Nat} {f : Addr} {fd : FuncData} (F : FnP K "find" "Facts.find" s_Facts_find f fd) (T : Txt mg) (c_arity : MCallee P w K mg base CF "arity" k ["self", "table"] (sp_arity P w K CF)) :
    FnOk P w K mg base CX0 (k + 1) f fd ["self", "table", "row"] (sp_find P w K CF) := by
  refine mk_ok F sc_Facts_find (fun vs H Q E h => ?_) (fun cdv A outer s H vs Q E hr h => ?_)
  · obtain ⟨o, a, l, t, d, fs, x, rv, r, rfl, _⟩ := h
    rfl
  · obtain ⟨o, a, l, t, d, fs, x, rv, r, rfl, hF, hx, hv, hd, q⟩ := h
    have nd := sc_Facts_find.nd
    refine ⟨_, (pss_cons (ps_expr (pe_mcal (pv 0) c_arity hr (pa_cons (pv 1) pa_nil))) (pss_one (ps_ret (pe_nm PySem.F.slot_dict_get PySem.F.type_dict_get (mt_nget hr.units) (k_fld (K := K) (pv 0)) (pa_cons (pe_tupF (pa_cons (pv 1) (pa_cons (pv 2) pa_nil))) pa_nil))))), ?_⟩
    obtain ⟨dx, ho⟩ := hF.ins
    refine ⟨.ref o, rfl, o, dx, _, rfl, ho, rfl, .str x, rfl, o, a, l, t, d, fs, x, rfl, hF, hx, ?_⟩
    refine ⟨.ref o, rfl, o, CF, dx, _, .ref d, rfl, ho, C.cls, C.pl, rfl, ⟨d, _, rfl, hF.pl⟩, ?_⟩
    refine (ed_tup (G := gx K) (eds_cons (ed_var rfl (.str x)) (eds_cons (ed_var rfl hv) eds_nil))) H (Ex.refl _) _ fun v H2 r2 nv => ?_
    have nv0 := nv
    cases nv with
    | @tup b _ _ _ _ =>
    exact ⟨d, .ref b, _, rfl, ⟨_, encF (x, r), b, hF.pl.ex' r2, rfl, nv0, depth_F hd, rfl⟩, .inl ⟨rfl, q H2 r2⟩⟩
end
end Ew
set_option Elab.async false
set_option linter.all false
set_option maxRecDepth 100000
set_option maxHeartbeats 4000000
namespace Ew
open PySem PySem.Spec PyProof.Rows L2
open Evl (Ex)
abbrev N_Facts___init__ : List Str := ["self", "tables", "name", "arity"]
theorem sc_Facts___init__ : FnScope N_Facts___init__ ["self", "tables"] (defScope s_Facts___init__) := ⟨rfl, rfl, rfl, by decide +kernel, rfl, by decide +kernel, by decide +kernel⟩
abbrev N_Facts_add : List Str := ["self", "table", "row"]
theorem sc_Facts_add : FnScope N_Facts_add ["self", "table", "row"] (defScope s_Facts_add) := ⟨rfl, rfl, rfl, by decide +kernel, rfl, by decide +kernel, by decide +kernel⟩
abbrev N_Facts_rows : List Str := ["self", "table", "k", "name", "row"]
theorem sc_Facts_rows : FnScope N_Facts_rows ["self", "table"] (defScope s_Facts_rows) := ⟨rfl, rfl, rfl, by decide +kernel, rfl, by decide +kernel, by decide +kernel⟩
def tabsD : List Nk := [.tup [.text "e", .num 2], .tup [.text "p", .num 1]]
def sp_Finit (P : Program) (w : World) (K : PySem.W.Frag) (CF : Addr) : Sp := fun vs H Q _ => ∃ (o tl dx : Addr) (xs : List V), vs = [.ref o, .ref tl] ∧ H o = some (.ins CF dx []) ∧ SqL K H tl xs ∧ NVs K H xs tabsD ∧
  ∀ H' a l t d, (∀ b z, b ≠ o → H b = some z → H' b = some z) → H a = none → H l = none → H t = none → H d = none → FactsAt P w K CF H' o a l t d [] → Q .non H'
section
variable {P : Program} {w : World} {K : PySem.W.Frag} {mg : Str → Option Value} {base : Heap} {CF : Addr}
theorem ok_add (C : FCls K CF) {k : Nat} {f : Addr} {fd : FuncData} (F : FnP K "add" "Facts.add" s_Facts_add f fd) (T : Txt mg) (c_arity : MCallee P w K mg base CF "arity" k ["self", "table"] (sp_arity P w K CF)) :
    FnOk P w K mg base CX0 (k + 1) f fd ["self", "table", "row"] (sp_add P w K CF) := by
  refine mk_ok F sc_Facts_add (fun vs H Q E h => ?_) (fun cdv A outer s H vs Q E hr h => ?_)
  · obtain ⟨o, a, l, t, d, fs, x, rv, r, rfl, _⟩ := h
    rfl
  · obtain ⟨o, a, l, t, d, fs, x, rv, r, rfl, hF, hx, hv, hd, hlen, hnew, hz, q⟩ := h
    have nd := sc_Facts_add.nd
    refine ⟨_, (pss_cons (ps_if (pt_cmpR (k_ne (K := K) hr.units) (k_cb T.f_len (k_len (K := K)) (pa_cons (pv 2) pa_nil)) (pe_mcal (pv 0) c_arity hr (pa_cons (pv 1) pa_nil)) (nomark _)) (pss_one ps_never) pss_nil) (pss_cons (ps_if (pt_cmp (k_pnin (P := P) (w := w) (K := K) hr.units (pe_tupF (pa_cons (pv 1) (pa_cons (pv 2) pa_nil))) (k_fld (K := K) (pv 0))) rfl) (pss_one ps_never) pss_nil) (pss_cons (k_nput (P := P) (w := w) (K := K) hr.units (k_fld (K := K) (pv 0)) (pe_tupF (pa_cons (pv 1) (pa_cons (pv 2) pa_nil))) (k_cb T.f_len (k_len (K := K)) (pa_cons (k_fld (K := K) (pv 0)) pa_nil))) (pss_cons (ps_expr (k_append (K := K) (k_fld (K := K) (pv 0)) (pa_cons (pe_tupF (pa_cons (pv 1) (pa_cons (pv 2) pa_nil))) pa_nil))) (pss_cons (ps_expr (k_append (K := K) (k_fld (K := K) (pv 0)) (pa_cons pe_bl pa_nil))) (pss_one (ps_ret (pe_op op_sub (k_cb T.f_len (k_len (K := K)) (pa_cons (k_fld (K := K) (pv 0)) pa_nil)) pe_int)))))))), ?_⟩
    obtain ⟨dx, ho⟩ := hF.ins
    -- the row's length
    have hv0 := hv
    cases hv with
    | @tup rb rs _ r1 r2 =>
    have hrl : rs.length = r.length := r2.len
    refine ⟨.ref rb, rfl, rb, rs, rfl, .inr r1.sq, ?_⟩
    refine ⟨.ref o, rfl, o, dx, _, rfl, ho, rfl, .str x, rfl, o, a, l, t, d, fs, x, rfl, hF, hx, ?_⟩
    refine ⟨.num (rs.length : Int), .num (arOf x), .int _, .int _, by simp [NestedKey.depth], false, ?_, ?_⟩
    · rw [hrl, hlen, decide_eq_true rfl]
      rfl
    refine ifF ?_
    dsimp only [tNext]
    refine seqI (ifI ?_)
    show tNIn _ _ _ _ _ _ _ _
    show tTupF _ _ _ _
    -- the places
    have tupE : ∀ H1, Ex H H1 → ED (gx K) (tTupF (tCons (tVar 1) (tCons (tVar 2) tNil))) [some (.ref o), some (.str x), some (.ref rb)] H1 (encF (x, r)) := fun H1 e =>
      ed_tup (eds_cons (ed_var rfl (.str x)) (eds_cons (ed_var rfl (hv0.ex e)) eds_nil))
    refine tupE H (Ex.refl _) H (Ex.refl _) _ fun v1 H1 e1 nv1 => ?_
    have nv1' := nv1
    cases nv1 with
    | @tup b1 _ _ _ _ =>
    refine ⟨.ref o, rfl, o, CF, dx, _, .ref d, rfl, e1 _ _ ho, C.cls, C.pl, rfl, d, none, rfl, ⟨_, encF (x, r), b1, hF.pl.ex' e1, rfl, nv1', depth_F hd, (plN_none hnew).symm⟩, false, rfl, ?_⟩
    refine ifF ?_
    dsimp only [tNext]
    refine seqI ?_
    -- self.places[table, row] = len(self.known)
    obtain ⟨ks, hl, hkv⟩ := hF.kn
    have hkl : ks.length = fs.length := by rw [hkv.len, List.length_map]
    refine ⟨.ref o, rfl, o, CF, dx, _, .ref l, rfl, e1 _ _ ho, C.cls, C.kn, rfl, l, ks, rfl, .inl (SqL.of (e1 _ _ hl)), ?_⟩
    refine ⟨.ref o, rfl, o, CF, dx, _, .ref d, rfl, e1 _ _ ho, C.cls, C.pl, rfl, ?_⟩
    refine tupE H1 e1 H1 (Ex.refl _) _ fun v2 H2 e2 nv2 => ?_
    have nv2' := nv2
    cases nv2 with
    | @tup b2 _ _ _ _ =>
    have e12 := e1.trans e2
    refine ⟨d, _, encF (x, r), b2, rfl, rfl, hF.pl.ex' e12, nv2', depth_F hd, by rw [plN, List.length_map, plIx_len, sizeLine_eq]; omega, fun ob hD => ?_⟩
    rw [hkl, plN_put hnew] at hD
    have mud : Mut (H2 d) := (hF.pl.ex' e12).mut
    have ht2 := e12 _ _ hF.th
    have hl2 := e12 _ _ hl
    have nld : l ≠ d := fun e => by
      obtain ⟨_, _, _, q⟩ := hF.pl.ex
      rw [← e, hl] at q
      cases q
    have ntd : t ≠ d := fun e => by
      obtain ⟨_, _, _, q⟩ := hF.pl.ex
      rw [← e, hF.th] at q
      cases q
    have nod : o ≠ d := fun e => by
      obtain ⟨_, _, _, q⟩ := hF.pl.ex
      rw [← e, ho] at q
      cases q
    have t3 : Tx K H2 (upd H2 d ob) := Tx.upd (.inr mud)
    have ho3 : upd H2 d ob o = some (.ins CF dx (fFlds a l t d)) := by rw [upd_ne nod]; exact e12 _ _ ho
    have hl3 : upd H2 d ob l = some (.lst ks) := by rw [upd_ne nld]; exact hl2
    have ht3 : upd H2 d ob t = some (.lst (List.replicate fs.length (V.bl true))) := by rw [upd_ne ntd]; exact ht2
    -- self.known.append((table, row))
    refine ⟨.ref o, rfl, o, CF, dx, _, .ref l, rfl, ho3, C.cls, C.kn, rfl, .inl ⟨rfl, _, SqL.of hl3⟩, ?_⟩
    have hv3 : NV K (upd H2 d ob) (.ref rb) (.tup r) := (hv0.ex e12).t t3
    refine (ed_tup (G := gx K) (eds_cons (ed_var rfl (.str x)) (eds_cons (ed_var rfl hv3) eds_nil))) (upd H2 d ob) (Ex.refl _) _ fun v4 H4 e4 nv4 => ?_
    have hl4 := e4 _ _ hl3
    refine ⟨l, ks, v4, rfl, rfl, hl4, by rw [sizeLine_eq]; omega, ?_⟩
    have nlo : o ≠ l := fun e => by rw [e, hl] at ho; cases ho
    have ho5 : upd H4 l (.lst (ks ++ [v4])) o = some (.ins CF dx (fFlds a l t d)) := by rw [upd_ne nlo]; exact e4 _ _ ho3
    have ht5 : upd H4 l (.lst (ks ++ [v4])) t = some (.lst (List.replicate fs.length (V.bl true))) := by rw [upd_ne hF.lt.symm]; exact e4 _ _ ht3
    have t5 : Tx K H4 (upd H4 l (.lst (ks ++ [v4]))) := Tx.upd (.inr (by rw [hl4]; trivial))
    -- self.there.append(True)
    refine ⟨.ref o, rfl, o, CF, dx, _, .ref t, rfl, ho5, C.cls, C.th, rfl, .inl ⟨rfl, _, SqL.of ht5⟩, ?_⟩
    refine ⟨t, _, .bl true, rfl, rfl, ht5, by rw [List.length_replicate, sizeLine_eq]; omega, ?_⟩
    have nto : o ≠ t := fun e => by rw [e, hF.th] at ho; cases ho
    have t6 : Tx K (upd H4 l (.lst (ks ++ [v4]))) (upd (upd H4 l (.lst (ks ++ [v4]))) t (.lst (List.replicate fs.length (V.bl true) ++ [.bl true]))) := Tx.upd (.inr (by rw [ht5]; trivial))
    have ho6 : upd (upd H4 l (.lst (ks ++ [v4]))) t (.lst (List.replicate fs.length (V.bl true) ++ [.bl true])) o = some (.ins CF dx (fFlds a l t d)) := by rw [upd_ne nto]; exact ho5
    have hl6 : upd (upd H4 l (.lst (ks ++ [v4]))) t (.lst (List.replicate fs.length (V.bl true) ++ [.bl true])) l = some (.lst (ks ++ [v4])) := by rw [upd_ne hF.lt]; exact upd_same
    have tall := ((((Tx.ex e12).trans t3).trans (Tx.ex e4)).trans t5).trans t6
    refine ⟨.ref o, rfl, o, CF, dx, _, .ref l, rfl, ho6, C.cls, C.kn, rfl, l, ks ++ [v4], rfl, .inl (SqL.of hl6), ((ks ++ [v4]).length : Int), 1, rfl, rfl, ?_⟩
    dsimp only
    have eq : ((ks ++ [v4]).length : Int) - 1 = (fs.length : Nat) := by rw [List.length_append, hkl]; simp
    rw [eq]
    refine q _ (fun b z n1 n2 n3 e => ?_) tall ⟨hF.lt, ⟨dx, ho6⟩, ?_, ⟨_, hl6, ?_⟩, ?_, ?_⟩
    · rw [upd_ne n3, upd_ne n2]
      exact e4 _ _ (by rw [upd_ne n1]; exact e12 _ _ e)
    · have nad : a ≠ d := fun e => by
        obtain ⟨_, _, _, q⟩ := hF.pl.ex
        rw [← e, hF.ar] at q
        cases q
      have nal : a ≠ l := fun e => by have h := hF.ar; rw [e, hl] at h; cases h
      have nat : a ≠ t := fun e => by have h := hF.ar; rw [e, hF.th] at h; cases h
      rw [upd_ne nat, upd_ne nal]
      exact e4 _ _ (by rw [upd_ne nad]; exact e12 _ _ hF.ar)
    · rw [List.map_append]
      exact (hkv.t tall).snoc (nv4.t (t5.trans t6))
    · rw [upd_same, List.length_append, List.length_singleton, List.replicate_succ']
    · refine hD.mono (((Tx.ex e4).trans t5).trans t6) fun z e => ?_
      rw [upd_ne ntd.symm, upd_ne nld.symm]
      exact e4 _ _ e
theorem fm_ix {α β : Type} (f : α → Option β) : ∀ l : List α, (List.range l.length).filterMap (fun i => (l[i]?).bind f) = l.filterMap f := range_fm f
theorem ok_rows (C : FCls K CF) {k : Nat} {f : Addr} {fd : FuncData} (F : FnP K "rows" "Facts.rows" s_Facts_rows f fd) (T : Txt mg) (c_arity : MCallee P w K mg base CF "arity" k ["self", "table"] (sp_arity P w K CF)) :
    FnOk P w K mg base CX0 (k + 1) f fd ["self", "table"] (sp_rows P w K CF) := by
  refine mk_ok F sc_Facts_rows (fun vs H Q E h => ?_) (fun cdv A outer s H vs Q E hr h => ?_)
  · obtain ⟨o, a, l, t, d, fs, x, rfl, _⟩ := h
    rfl
  · obtain ⟨o, a, l, t, d, fs, x, rfl, hF, hx, hz, q⟩ := h
    have nd := sc_Facts_rows.nd
    refine ⟨_, (pss_cons (ps_expr (pe_mcal (pv 0) c_arity hr (pa_cons (pv 1) pa_nil))) (pss_one (ps_ret (pe_lc (own := [("k", 2), ("name", 3), ("row", 4)]) rfl nd (k_enum (K := K) T (pa_cons (k_fld (K := K) (pv 0)) pa_nil)) (blkOk_by (N := N_Facts_rows) (sc := defScope s_Facts_rows) (by decide +kernel)) (fun _ _ _ _ _ => (k_pgt (K := K) (n := 2) (pgs_cons (pg_name (i := 2) nd rfl (by first | exact Or.inl rfl | exact Or.inr rfl)) (pgs_cons (k_pgt (K := K) (n := 2) (pgs_cons (pg_name (i := 3) nd rfl (by first | exact Or.inl rfl | exact Or.inr rfl)) (pgs_cons (pg_name (i := 4) nd rfl (by first | exact Or.inl rfl | exact Or.inr rfl)) pgs_nil))) pgs_nil)))) (fun _ _ _ _ _ => (pts_one (PW.pt (pw_and (pt_cmpR (k_eq (K := K) hr.units) (pv 3) (pv 1) (nomark _)) (pw_and1 (pt_val (k_ixL (K := K) (k_fld (K := K) (pv 0)) (pv 2)))))))) (fun _ _ _ _ _ => (pe_tupF (pa_cons (pv 2) (pa_cons (pv 4) pa_nil)))))))), ?_⟩
    obtain ⟨dx, ho⟩ := hF.ins
    obtain ⟨ks, hl, hkv⟩ := hF.kn
    have hkl : ks.length = fs.length := by rw [hkv.len, List.length_map]
    refine ⟨.ref o, rfl, o, dx, _, rfl, ho, rfl, .str x, rfl, o, a, l, t, d, fs, x, rfl, hF, hx, ?_⟩
    dsimp only
    refine s_ret (G := gx K) (P := fun v H2 => ∃ p, v = .ref p ∧ NL K H H2 p ((rowsOf fs x).map encKR)) trivial ?_ ?_
    rotate_left
    · rintro v H1 r ⟨p, e, nl⟩
      rw [e]
      exact q p H1 r nl
    have er : (rowsOf fs x).map encKR = (List.range ks.length).filterMap fun i => ((plIx 0 fs)[i]?).bind fun p => if p.1.1 = x then some (encKR (p.2, p.1.2)) else none := by
      have h := range_fm (fun p : Fact × Nat => if p.1.1 = x then some (encKR (p.2, p.1.2)) else none) (plIx 0 fs)
      rw [plIx_len] at h
      rw [hkl, h, rowsOf, List.map_filterMap]
      congr 1
      funext p
      split <;> rfl
    rw [er]
    refine el_lc (src := fun J H2 => J = Ite K l) _ (fun H1 r1 Q q => ?_) (by omega) fun J H1 r1 hs => ?_
    · exact ⟨.ref o, rfl, o, CF, dx, _, .ref l, rfl, r1 _ _ ho, C.cls, C.kn, rfl, l, ks, rfl, SqL.of (r1 _ _ hl), q _ H1 (Ex.refl _) rfl⟩
    · subst hs
      refine ⟨_, (walk_enum (K := K) (a := l) (xs := ks)).mono (fun H2 r2 => SqL.of (r2 _ _ (r1 _ _ hl))) fun i H2 x H3 _ _ y => y, fun i H2 y H3 hin r2 yy => ?_⟩
      obtain ⟨Tt, x1, y1, rfl, hT, rfl, e1, e2⟩ := yy
      have e1 := Option.some.inj e1
      subst e1
      obtain ⟨dd, hdd, nx⟩ := hkv.getV e2
      rw [List.getElem?_map] at hdd
      cases hf : fs[i]? with
      | none => rw [hf] at hdd; cases hdd
      | some fc =>
      rw [hf] at hdd
      cases hdd
      have r3 : Ex H2 (upd H2 Tt (.tup [.int (i : Nat), y1])) := Ex.new hT
      have nx := ((nx.ex r1).ex r2).ex r3
      have e3 := (r1.trans r2).trans r3
      have hpl : (plIx 0 fs)[i]? = some (fc, i) := by rw [plIx_get, hf, Nat.zero_add]; rfl
      rw [hpl]
      cases nx with
      | @tup tb ws _ b1 b2 =>
      cases b2 with
      | @cons v1 vs1 _ _ c1 c2 =>
      cases c2 with
      | @cons v2 vs2 _ _ c3 c4 =>
      cases c4
      cases c1
      refine ⟨r3, [some (.ref o), some (.str x), some (.int (i : Nat)), some (.str fc.1), some v2], ?_, rfl, ?_, ?_⟩
      · intro H4 r4 Q q
        refine ⟨Tt, _, rfl, SqT.of (r4 _ _ upd_same), rfl, .int (i : Nat), _, rfl, _, _, rfl, ?_⟩
        exact ⟨tb, _, rfl, (b1.ex r4).sq, rfl, .str fc.1, _, rfl, v2, _, rfl, rfl, rfl, q⟩
      · have ev : ((some (fc, i)).bind fun p : Fact × Nat => if p.1.1 = x then some (encKR (p.2, p.1.2)) else none).isSome = (decide (NestedKey.text fc.1 = NestedKey.text x) && true) := by
          show (if fc.1 = x then some (encKR (i, fc.2)) else none).isSome = _
          by_cases hfx : fc.1 = x
          · rw [if_pos hfx, hfx, decide_eq_true rfl]; rfl
          · rw [if_neg hfx, decide_eq_false (fun z => hfx (by injection z))]; rfl
        rw [ev]
        refine et_and (et_test (eb_eqN (ed_var rfl (.str _)) (ed_var rfl (.str _)))) fun _ => et_B fun H4 r4 Q q => ?_
        have hth := r4 _ _ (e3 _ _ hF.th)
        refine ⟨.ref o, rfl, o, CF, dx, _, .ref t, rfl, r4 _ _ (e3 _ _ ho), C.cls, C.th, rfl, .int (i : Nat), rfl, t, _, _, .bl true, rfl, rfl, SqL.of hth, atI_nat (j := i) ?_, q _ H4 (Ex.refl _) rfl⟩
        rw [List.getElem?_replicate, if_pos (by omega)]
      · intro dd hdd
        have hdd : (if fc.1 = x then some (encKR (i, fc.2)) else none) = some dd := hdd
        by_cases hfx : fc.1 = x
        · rw [if_pos hfx] at hdd
          cases hdd
          exact ed_tup (eds_cons (ed_var rfl (.int _)) (eds_cons (ed_var rfl c3) eds_nil))
        · rw [if_neg hfx] at hdd
          cases hdd
end
end Ew
set_option Elab.async false
set_option linter.all false
set_option maxRecDepth 100000
set_option maxHeartbeats 4000000
namespace Ew
open PySem PySem.Spec PyProof.Rows L2
open Evl (Ex)
section
variable {P : Program} {w : World} {K : PySem.W.Frag} {mg : Str → Option Value} {base : Heap} {CF : Addr}
def tabK : List (Key × V) := [(Sum.inr "e", .int 2), (Sum.inr "p", .int 1)]
/-- one table is put in -/
theorem fin_turn (C : FCls K CF) {k : Nat} {X : Nat} {D : Ends} {H : Hp} {o a dx tl : Addr} {s2 s3 : Option V} {Tt : Addr} {nm : Str} {ar : Int} {j : Nat} (hx : Tab nm) (ha4 : (1 ≤ ar ∧ ar ≤ 4)) (hpre : valV (tabK.take j) (Sum.inr nm : Key) = none) (hput : putK (tabK.take j) (Sum.inr nm : Key) (.int ar) = tabK.take (j + 1))
    (ho : H o = some (.ins CF dx [("arities", .ref a)])) (ha : H a = some (.dK (tabK.take j))) (ht : SqT K H Tt [.str nm, .int ar])
    (nx : ∀ H', Ex H H' → D.nx [some (.ref o), some (.ref tl), some (.str nm), some (.int ar)] (upd H' a (.dK (tabK.take (j + 1))))) :
    gTup K 2 (gCons (gName 2) (gCons (gName 3) gNil)) (.ref Tt) [some (.ref o), some (.ref tl), s2, s3] H fun σ2 H2 =>
      tSeq (tIfS (tOr (tNot (tB (tCall sp_is_name [] E0 (tCons (tVar 2) tNil)))) (tOr (tB (tDIn (tVar 2) (tFld K (tVar 0) "arities"))) (tNot (tTest (tChain (rI0 fun i j => .bl (decide (i ≤ j))) (rI0 fun i j => .bl (decide (i ≤ j))) (tC (.int 1)) (tVar 3) (tC (.int 4))))))) tNever tNext)
        (sDPut (tFld K (tVar 0) "arities") (tVar 2) (tVar 3)) D σ2 H2 := by
  refine st_pair (G := gx K) ht _ (Ex.refl _) _ ?_
  refine q_when (G := gx K) (b := false) trivial (et_eq (et_or (a := false) (et_eq (et_not (a := true) (et_B (ev_call (ea_one (ev_var (P := fun v _ => v = .str nm) rfl fun _ _ => rfl)) fun vs H2 r p Q q => ?_))) rfl) fun _ => et_or (a := false) (b := false) (et_B fun H1 r Q q => ?_) fun _ => et_eq (et_not (a := true) fun H1 r Q q => ?_) rfl) rfl) (fun e => by cases e) fun _ H1 r1 => ?_
  · obtain ⟨v, rfl, rfl⟩ := p
    exact ⟨nm, rfl, hx, fun H' e => q _ H' e rfl⟩
  · have g := DGet.k (k := .inr nm) (r _ _ ha)
    rw [hpre] at g
    exact ⟨.str nm, rfl, .ref o, rfl, o, CF, dx, _, .ref a, rfl, r _ _ ho, C.cls, C.ar, rfl, a, none, rfl, g, q _ H1 (Ex.refl _) rfl⟩
  · refine ⟨.int ar, rfl, 1, ar, rfl, rfl, true, (by show V.bl (decide (1 ≤ ar)) = _; rw [decide_eq_true ha4.1]), ar, 4, rfl, rfl, true, (by show V.bl (decide (ar ≤ 4)) = _; rw [decide_eq_true ha4.2]), q H1 (Ex.refl _)⟩
  · refine ⟨.int ar, rfl, .ref o, rfl, o, CF, dx, _, .ref a, rfl, r1 _ _ ho, C.cls, C.ar, rfl, .str nm, rfl, a, _, rfl, DPut.k (k := .inr nm) (r1 _ _ ha) ?_, ?_⟩
    · rw [List.length_take, sizeLine_eq]
      show min j 2 < 16777216
      omega
    · rw [hput]
      exact nx H1 r1
theorem ok_Finit (C : FCls K CF) {k : Nat} {f : Addr} {fd : FuncData} (F : FnP K "__init__" "Facts.__init__" s_Facts___init__ f fd) (T : Txt mg) {t1 : Tok} (hWT : mg "WIDEST_TABLE" = some (.int 4 t1)) (c_is_name : Callee P w K mg base "is_name" k ["thing"] sp_is_name) :
    FnOk P w K mg base CX0 (k + 1) f fd ["self", "tables"] (sp_Finit P w K CF) := by
  refine mk_ok F sc_Facts___init__ (fun vs H Q E h => ?_) (fun cdv A outer s H vs Q E hr h => ?_)
  · obtain ⟨o, tl, dx, xs, rfl, _⟩ := h
    rfl
  · obtain ⟨o, tl, dx, xs, rfl, ho, hl, hv, q⟩ := h
    have nd := sc_Facts___init__.nd
    refine ⟨_, (pss_cons (ps_fld (pv 0) pe_dnewK rfl) (pss_cons (ps_for PassesOwn.never rfl (k_ilist (K := K) (pv 1)) (k_pgt (K := K) (n := 2) (pgs_cons (pg_name (i := 2) nd rfl (by first | exact Or.inl rfl | exact Or.inr rfl)) (pgs_cons (pg_name (i := 3) nd rfl (by first | exact Or.inl rfl | exact Or.inr rfl)) pgs_nil))) (pss_cons (ps_if (PW.pt (pw_or (pt_not (pt_val (pe_cal c_is_name hr (pa_cons (pv 2) pa_nil)))) (pw_or (pt_cmp (pc_din (hu_of hr) (pv 2) (k_fld (K := K) (pv 0))) rfl) (pw_or1 (pt_not (pt_chain op_le op_le pe_int (pv 3) (pe_glob (v := .int 4) (by rfl) hWT ⟨_, rfl⟩))))))) (pss_one ps_never) pss_nil) (pss_one (ps_dput (hu_of hr) (k_fld (K := K) (pv 0)) (pv 2) (pv 3) rfl)))) (pss_cons (ps_fld (pv 0) (pe_lst pa_nil) rfl) (pss_cons (ps_fld (pv 0) (pe_lst pa_nil) rfl) (pss_one (ps_fld (pv 0) (k_dnewN (P := P) (w := w) (K := K)) rfl)))))), ?_⟩
    intro a ha
    have noa : o ≠ a := ne_of_none ho ha
    refine ⟨.ref o, rfl, o, CF, dx, [], rfl, by rw [upd_ne noa]; exact ho, C.cls, C.ar, by simp, ?_⟩
    -- the heap behind self.arities = {}
    have hl1 : ∀ H', (∀ b z, b ≠ o → H b = some z → H' b = some z) → SqL K H' tl xs := fun H' e => by
      rcases hl with (hl | ⟨ob, hl⟩) | hl
      · exact .inl (.inl (e _ _ (fun z => by rw [z, ho] at hl; cases hl) hl))
      · exact .inl (.inr ⟨ob, e _ _ (fun z => by rw [z, ho] at hl; cases hl) hl⟩)
      · exact .inr hl
    have tx1 : ∀ H', (∀ b z, b ≠ o → H b = some z → H' b = some z) → Tx K H H' := fun H' e => by
      refine ⟨fun p us h => ?_, fun p us ⟨ob, h, r⟩ => ⟨ob, e _ _ (fun z => by rw [z, ho] at h; cases h) h, r⟩⟩
      rcases h with (h | ⟨ob, h⟩) | h
      · exact .inl (.inl (e _ _ (fun z => by rw [z, ho] at h; cases h) h))
      · exact .inl (.inr ⟨ob, e _ _ (fun z => by rw [z, ho] at h; cases h) h⟩)
      · exact .inr h
    generalize hH1 : upd (upd H a (.dK [])) o (.ins CF dx (putF "arities" (.ref a) [])) = H1
    have k1 : ∀ b z, b ≠ o → H b = some z → H1 b = some z := fun b z n e => by
      rw [← hH1, upd_ne n, upd_ne (ne_of_none e ha)]
      exact e
    have ho1 : H1 o = some (.ins CF dx [("arities", .ref a)]) := by rw [← hH1]; exact upd_same
    have ha1 : H1 a = some (.dK []) := by rw [← hH1, upd_ne noa.symm]; exact upd_same
    have lenx : xs.length = 2 := hv.len
    show tSeq _ _ _ _ _
    refine ⟨.ref tl, rfl, tl, rfl, ⟨xs, hl1 _ k1⟩, ?_⟩
    refine for_it (walk_list (K := K) (a := tl) (xs := xs)) (fun j σ' H' => ∃ s2 s3, σ' = [some (.ref o), some (.ref tl), s2, s3] ∧ (∀ b z, b ≠ o → H b = some z → H' b = some z) ∧ H' o = some (.ins CF dx [("arities", .ref a)]) ∧ H' a = some (.dK (tabK.take j)))
      ⟨none, none, rfl, k1, ho1, ha1⟩ (fun j σ' H' _ hp => ?_) (fun j x σ' Ha Hb hj hp y => ?_) (fun σ' H' hp => ?_)
    · obtain ⟨_, _, _, e, _⟩ := hp
      exact hl1 _ e
    · obtain ⟨s2, s3, rfl, e, hoa, haa⟩ := hp
      obtain ⟨rfl, hx⟩ := y
      obtain ⟨dd, hdd, nx⟩ := hv.getV hx
      have nx := nx.t (tx1 _ e)
      have nxt : ∀ H', Ex Hb H' → (∀ b z, b ≠ o → H b = some z → (upd H' a (.dK (tabK.take (j + 1)))) b = some z) ∧ (upd H' a (.dK (tabK.take (j + 1)))) o = some (.ins CF dx [("arities", .ref a)]) ∧ (upd H' a (.dK (tabK.take (j + 1)))) a = some (.dK (tabK.take (j + 1))) := fun H' r =>
        ⟨fun b z n q => by rw [upd_ne (ne_of_none q ha)]; exact r _ _ (e _ _ n q), by rw [upd_ne noa]; exact r _ _ hoa, upd_same⟩
      have hj2 : j = 0 ∨ j = 1 := by omega
      rcases hj2 with rfl | rfl
      · have hdd : some (NestedKey.tup [.text "e", .num 2]) = some dd := hdd
        cases hdd
        cases nx with
        | tup b1 b2 =>
        cases b2 with
        | cons c1 c2 =>
        cases c2 with
        | cons c3 c4 =>
        cases c4; cases c1; cases c3
        refine fin_turn (k := k) (X := 0) C (j := 0) (.inl rfl) ⟨by decide, by decide⟩ rfl rfl hoa haa b1.sq fun H' r => ⟨_, _, rfl, nxt H' r⟩
      · have hdd : some (NestedKey.tup [.text "p", .num 1]) = some dd := hdd
        cases hdd
        cases nx with
        | tup b1 b2 =>
        cases b2 with
        | cons c1 c2 =>
        cases c2 with
        | cons c3 c4 =>
        cases c4; cases c1; cases c3
        refine fin_turn (k := k) (X := 0) C (j := 1) (.inr rfl) ⟨by decide, by decide⟩ rfl rfl hoa haa b1.sq fun H' r => ⟨_, _, rfl, nxt H' r⟩
    · obtain ⟨s2, s3, rfl, e, hoa, haa⟩ := hp
      rw [lenx] at haa
      -- self.known = []
      refine ⟨by decide, fun l hl2 => ?_⟩
      have nol : o ≠ l := ne_of_none hoa hl2
      have nal : a ≠ l := ne_of_none haa hl2
      refine ⟨.ref o, rfl, o, CF, dx, _, rfl, by rw [upd_ne nol]; exact hoa, C.cls, C.kn, by simp, ?_⟩
      refine ⟨by decide, fun t ht2 => ?_⟩
      have hto : o ≠ t := fun z => by rw [z] at ht2; rw [upd_same] at ht2; cases ht2
      rw [upd_ne hto.symm] at ht2
      have hlt : l ≠ t := fun z => by rw [← z, upd_same] at ht2; cases ht2
      rw [upd_ne hlt.symm] at ht2
      refine ⟨.ref o, rfl, o, CF, dx, _, rfl, by rw [upd_ne hto]; exact upd_same, C.cls, C.th, (by show (2 : Nat) < 1000; decide), ?_⟩
      intro d ob hd hD
      have hdo : o ≠ d := fun z => by rw [z] at hd; rw [upd_same] at hd; cases hd
      rw [upd_ne hdo.symm] at hd
      have hdt : t ≠ d := fun z => by rw [← z, upd_same] at hd; cases hd
      rw [upd_ne hdt.symm, upd_ne hdo.symm] at hd
      have hdl : l ≠ d := fun z => by rw [← z, upd_same] at hd; cases hd
      rw [upd_ne hdl.symm] at hd
      have nat : a ≠ t := ne_of_none haa ht2
      have nad : a ≠ d := ne_of_none haa hd
      refine ⟨.ref o, rfl, o, CF, dx, _, rfl, by rw [upd_ne hdo]; exact upd_same, C.cls, C.pl, (by show (3 : Nat) < 1000; decide), ?_⟩
      have fresh : ∀ b, H' b = none → b ≠ o → H b = none := fun b hb n => by
        cases hq : H b with
        | none => rfl
        | some z => rw [e _ _ n hq] at hb; cases hb
      refine q _ a l t d (fun b z n hz => ?_) ha (fresh l hl2 nol.symm) (fresh t ht2 hto.symm) (fresh d hd hdo.symm) ⟨hlt, ⟨dx, upd_same⟩, ?_, ⟨[], ?_, .nil⟩, ?_, ?_⟩
      · have hz' := e _ _ n hz
        rw [upd_ne n, upd_ne (ne_of_none hz' hd), upd_ne n, upd_ne (ne_of_none hz' ht2), upd_ne n, upd_ne (ne_of_none hz' hl2)]
        exact hz'
      · rw [upd_ne noa.symm, upd_ne nad, upd_ne noa.symm, upd_ne nat, upd_ne noa.symm, upd_ne nal]
        exact haa
      · rw [upd_ne nol.symm, upd_ne hdl, upd_ne nol.symm, upd_ne hlt, upd_ne nol.symm]
        exact upd_same
      · rw [upd_ne hto.symm, upd_ne hdt, upd_ne hto.symm]
        exact upd_same
      · refine hD.mono (Tx.upd (.inr ?_)) fun z hz => by rw [upd_ne hdo.symm]; exact hz
        rw [upd_ne hdo, upd_same]
        trivial
end
end Ew
set_option Elab.async false
set_option linter.all false
set_option maxRecDepth 100000
set_option maxHeartbeats 4000000
namespace Ew
open PySem PySem.Spec PyProof.Rows L2
open Evl (Ex)
theorem yesI {σ : L2.St} {H : Hp} {Q : Bool → Hp → Prop} (h : Q true H) : tYes σ H Q := h
/-! ### rules as the law draws them -/
def varsT (ts : List Tm) : List Str := ts.filterMap fun t => match t with
  | .var x => some x
  | .val _ => none
def names4 : List Str := ["x", "y", "z", "u"]
def vals3 : List Nk := [.num 0, .num 1, .text "a"]
def WfT (t : Tm) : Prop := match t with
  | .var x => x ∈ names4
  | .val c => c ∈ vals3
def arN (x : Str) : Nat := if x = "e" then 2 else 1
structure WfA (a : Atom) : Prop where
  tab : Tab a.1
  len : a.2.length = arN a.1
  tms : ∀ t ∈ a.2, WfT t
def tmsOf (as : List Atom) : List Tm := as.flatMap (·.2)
structure WfR (r : Rule) : Prop where
  head : r.1.length ≤ 2
  one : 1 ≤ r.2.length
  most : r.2.length ≤ 5
  atoms : ∀ a ∈ r.2, WfA a
  safe : ∀ x ∈ r.1, Tm.var x ∈ tmsOf r.2
theorem val_depth {c : Nk} (h : c ∈ vals3) : c.depth = 0 := by
  simp only [vals3, List.mem_cons, List.mem_nil_iff, or_false] at h
  rcases h with rfl | rfl | rfl <;> rfl
theorem tm_depth {t : Tm} (h : WfT t) : t.enc.depth ≤ 1 := by
  cases t with
  | var x => simp [Tm.enc, NestedKey.depth, NestedKey.depthAll]
  | val c =>
    have := val_depth h
    simp only [Tm.enc, NestedKey.depth, NestedKey.depthAll]
    omega
theorem atom_depth {a : Atom} (h : WfA a) : (encA a).depth ≤ 3 := by
  have := depth_tupL Tm.enc 1 a.2 fun t ht => tm_depth (h.tms t ht)
  simp only [encA, NestedKey.depth, NestedKey.depthAll] at this ⊢
  omega
theorem arN_eq {x : Str} : (arN x : Int) = arOf x := by
  unfold arN arOf
  split <;> rfl
theorem arN_le (x : Str) : arN x ≤ 2 := by
  unfold arN
  split <;> omega
/-! ### [.. for _, terms in atoms for term in terms if ..] -/
section
variable {K : PySem.W.Frag} {G : Gw K} {σ : L2.St} {H : Hp} {te tl : TE} {tt : TT} {vs vs1 : List Nat} {i j m : Nat}
theorem el_atoms {as : List Atom} (f : Tm → Option Nk) (h : ED G tl σ H (.tup (as.map encA))) (hn : as.length ≤ 1000) (ha : ∀ a ∈ as, a.2.length ≤ 10)
    (hw : ∀ x y : V, wipe (((wipe σ vs).set i (some x)).set j (some y)) vs = wipe σ vs) (hj : ∀ x y : V, (((wipe σ vs).set i (some x)).set j (some y))[j]? = some (some y))
    (hw1 : ∀ x y z : V, wipe ((wipe (((wipe σ vs).set i (some x)).set j (some y)) vs1).set m (some z)) vs1 = wipe (((wipe σ vs).set i (some x)).set j (some y)) vs1)
    (ht : ∀ (x y z : V) (t : Tm) H1, G.R H H1 → t ∈ tmsOf as → NV K H1 z t.enc → EvT G tt ((wipe (((wipe σ vs).set i (some x)).set j (some y)) vs1).set m (some z)) H1 (f t).isSome ∧ ∀ r, f t = some r → ED G te ((wipe (((wipe σ vs).set i (some x)).set j (some y)) vs1).set m (some z)) H1 r) :
    EL G (tLc2 (iTup K tl) (gTup K 2 (gCons (gName i) (gCons (gName j) gNil))) tYes (iTup K (tVar j)) (gName m) tt te vs vs1) σ H ((tmsOf as).filterMap f) := by
  intro H1 a Q q
  refine (ei_tup h) H1 a _ fun J H2 b hs => ?_
  obtain ⟨p, us, rfl, h1, h2⟩ := hs
  intro D hD
  have hl : us.length = as.length := by rw [h2.len, List.length_map]
  have r0 : G.R H2 (upd H2 D (.lst [])) := G.new (G.ok2 b) hD
  -- what is there behind n atoms
  have P0 : ∀ (n : Nat) (H' : Hp), (G.R H2 H' ∧ ∃ acc, H' D = some (.lst acc) ∧ NVs K H' acc ((tmsOf (as.take n)).filterMap f)) → True := fun _ _ _ => trivial
  let Pv : Nat → Hp → Prop := fun n H' => G.R H2 H' ∧ ∃ acc, H' D = some (.lst acc) ∧ NVs K H' acc ((tmsOf (as.take n)).filterMap f)
  refine ⟨fun n k H' => k = as.length - n ∧ n ≤ as.length ∧ Pv n H', ⟨as.length, by simp, Nat.zero_le _, r0, [], upd_same, .nil⟩, ?_⟩
  rintro n k H3 ⟨rfl, hnl, rp, acc, hacc, hva⟩
  have hq : SqT K H3 p us := (G.tx rp).1 _ _ h1
  by_cases hlt : n < as.length
  case neg =>
    have e : n = as.length := by omega
    subst e
    rw [List.take_length] at hva
    exact .inl ⟨⟨us, hq, by omega⟩, q (.ref D) H3 (G.tr b rp) ⟨D, rfl, G.back (G.tr a b) hD, acc, hacc, hva⟩⟩
  case pos =>
    refine .inr ⟨⟨us, us[n], hq, by simp [hlt, hl]⟩, Pv (n + 1), fun H' p' => ⟨as.length - (n + 1), by omega, rfl, by omega, p'⟩, fun x H4 y => ?_⟩
    obtain ⟨rfl, hx⟩ := y
    have hx := hx us hq
    obtain ⟨dd, hdd, nx⟩ := h2.getV hx
    rw [List.getElem?_map] at hdd
    cases hat : as[n]? with
    | none => rw [hat] at hdd; cases hdd
    | some at_ =>
    rw [hat] at hdd
    cases hdd
    have hmem := List.mem_of_getElem? hat
    have nx := nx.t (G.tx rp)
    cases nx with
    | @tup Tt ws _ b1 b2 =>
    cases b2 with
    | @cons v1 vs1' _ _ c1 c2 =>
    cases c2 with
    | @cons v2 vs2' _ _ c3 c4 =>
    cases c4
    refine st_pair (G := G) b1.sq _ (G.rf (G.ok2 rp)) _ ⟨hw v1 v2, ?_⟩
    refine yesI ?_
    rw [if_pos rfl]
    refine ⟨v2, hj v1 v2, ?_⟩
    have c3' := c3
    cases c3 with
    | @tup ip is _ d1 d2 =>
    have hil : is.length = at_.2.length := by rw [d2.len, List.length_map]
    refine ⟨ip, rfl, ⟨_, d1.sq⟩, ?_⟩
    let Pw : Nat → Hp → Prop := fun n2 H' => G.R H2 H' ∧ Tx K H4 H' ∧ ∃ acc, H' D = some (.lst acc) ∧ NVs K H' acc ((tmsOf (as.take n)).filterMap f ++ (at_.2.take n2).filterMap f)
    refine ⟨fun n2 k2 H' => k2 = at_.2.length - n2 ∧ n2 ≤ at_.2.length ∧ Pw n2 H', ⟨at_.2.length, by simp, Nat.zero_le _, rp, Tx.refl K H4, acc, hacc, by simpa using hva⟩, ?_⟩
    rintro n2 k2 H5 ⟨rfl, hn2, rp2, tx2, acc2, hacc2, hva2⟩
    have hq2 : SqT K H5 ip is := tx2.1 _ _ d1.sq
    by_cases hlt2 : n2 < at_.2.length
    case neg =>
      have e : n2 = at_.2.length := by omega
      subst e
      rw [List.take_length] at hva2
      refine .inl ⟨⟨is, hq2, by omega⟩, rp2, acc2, hacc2, ?_⟩
      have e : tmsOf (as.take (n + 1)) = tmsOf (as.take n) ++ at_.2 := by
        rw [tmsOf, List.take_add_one, hat, List.flatMap_append]
        simp [tmsOf]
      rw [e, List.filterMap_append]
      exact hva2
    case pos =>
      refine .inr ⟨⟨is, is[n2], hq2, by simp [hlt2, hil]⟩, Pw (n2 + 1), fun H' p' => ⟨at_.2.length - (n2 + 1), by omega, rfl, by omega, p'⟩, fun z H6 yy => ?_⟩
      obtain ⟨rfl, hz⟩ := yy
      have hz := hz is hq2
      obtain ⟨ee, hee, nz⟩ := d2.getV hz
      rw [List.getElem?_map] at hee
      cases htm : at_.2[n2]? with
      | none => rw [htm] at hee; cases hee
      | some t =>
      rw [htm] at hee
      cases hee
      have nz := nz.t tx2
      have htmem : t ∈ tmsOf as := List.mem_flatMap.mpr ⟨at_, hmem, List.mem_of_getElem? htm⟩
      have e3 : at_.2.take (n2 + 1) = at_.2.take n2 ++ [t] := by rw [List.take_add_one, htm]; rfl
      have hsz : acc2.length < sizeLine := by
        have h1 := hva2.len
        rw [List.length_append] at h1
        have h2 : ((tmsOf (as.take n)).filterMap f).length ≤ (tmsOf (as.take n)).length := List.length_filterMap_le _ _
        have h3 : ((at_.2.take n2).filterMap f).length ≤ (at_.2.take n2).length := List.length_filterMap_le _ _
        have h4 : (at_.2.take n2).length ≤ 10 := by rw [List.length_take]; have := ha at_ hmem; omega
        have h5 : ∀ l : List Atom, (∀ a ∈ l, a.2.length ≤ 10) → (tmsOf l).length ≤ 10 * l.length := by
          intro l
          induction l with
          | nil => exact fun _ => Nat.le_refl _
          | cons a l ih =>
            intro hh
            have h6 := ih fun x hx => hh x (List.mem_cons_of_mem _ hx)
            have h7 := hh a List.mem_cons_self
            simp only [tmsOf, List.flatMap_cons, List.length_append, List.length_cons] at h6 ⊢
            omega
        have h6 := h5 (as.take n) fun a ha' => ha a (List.mem_of_mem_take ha')
        rw [List.length_take] at h6
        rw [sizeLine_eq]
        omega
      refine ⟨hw1 v1 (.ref ip) z, ?_⟩
      obtain ⟨q1, q2⟩ := ht v1 (.ref ip) z t H6 (G.tr (G.tr a b) rp2) htmem nz
      refine q1 H6 (G.rf (G.ok2 rp2)) _ fun H7 r7 => ?_
      have hacc7 : H7 D = some (.lst acc2) := G.loc rp2 hD r7 hacc2
      cases hf : f t with
      | none =>
        rw [if_neg (by simp)]
        refine ⟨G.tr rp2 r7, tx2.trans (G.tx r7), acc2, hacc7, ?_⟩
        rw [e3, List.filterMap_append]
        simp only [List.filterMap_cons, hf, List.filterMap_nil, List.append_nil]
        exact hva2.t (G.tx r7)
      | some d =>
        rw [if_pos (by simp)]
        refine q2 d hf H7 r7 _ fun v H8 r8 nv => ?_
        have hacc8 : H8 D = some (.lst acc2) := G.loc (G.tr rp2 r7) hD r8 hacc7
        have tu : Tx K H8 (upd H8 D (.lst (acc2 ++ [v]))) := Tx.upd (.inr (by rw [hacc8]; trivial))
        refine ⟨acc2, hacc8, hsz, G.chg (G.tr (G.tr rp2 r7) r8) hD, ((tx2.trans (G.tx r7)).trans (G.tx r8)).trans tu, _, upd_same, ?_⟩
        rw [e3, List.filterMap_append, ← List.append_assoc]
        simp only [List.filterMap_cons, hf, List.filterMap_nil]
        exact ((hva2.t ((G.tx r7).trans (G.tx r8))).t tu).snoc (nv.t tu)
end
end Ew
set_option Elab.async false
set_option linter.all false
set_option maxRecDepth 100000
set_option maxHeartbeats 4000000
namespace Ew
open PySem PySem.Spec PyProof.Rows L2
open Evl (Ex)
section
variable {J : It} {n : Nat} {GG : Hp → Prop} {Y : Nat → Hp → V → Hp → Prop}
/-- a dict comprehension over a walk -/
theorem dc_it (w : Walk J n GG Y) {g : TG} {tt : TT} {tk tv : TE} {vs : List Nat} {σ : L2.St} {H0 : Hp} {D : Addr} {Qd : Hp → Prop} (Pv : Nat → Hp → Prop) (h0 : Pv 0 H0) (hG : ∀ i H, i ≤ n → Pv i H → GG H)
    (hs : ∀ i x H H', i < n → Pv i H → Y i H x H' → g x (wipe σ vs) H' fun σ2 H2 => wipe σ2 vs = wipe σ vs ∧ tt σ2 H2 fun b H3 =>
      if b = true then tk σ2 H3 fun y H4 => tv σ2 H4 fun z H5 => ∃ kvs k, y = kV k ∧ H5 D = some (.dK kvs) ∧ kvs.length < sizeLine ∧ Pv (i + 1) (upd H5 D (.dK (putK kvs k z))) else Pv (i + 1) H3) (hd : ∀ H, Pv n H → Qd H) :
    ∃ W : Nat → Nat → Hp → Prop, (∃ m, W 0 m H0) ∧ ∀ i m H, W i m H →
      (J.stop i H ∧ Qd H) ∨ (J.go i H ∧ ∃ Nx : Hp → Prop, (∀ H', Nx H' → ∃ m', m' < m ∧ W (i + 1) m' H') ∧ ∀ x H', J.yld i H x H' → g x (wipe σ vs) H' fun σ2 H2 => wipe σ2 vs = wipe σ vs ∧ tt σ2 H2 fun b H3 =>
        if b = true then tk σ2 H3 fun y H4 => tv σ2 H4 fun z H5 => ∃ kvs k, y = kV k ∧ H5 D = some (.dK kvs) ∧ kvs.length < sizeLine ∧ Nx (upd H5 D (.dK (putK kvs k z))) else Nx H3) := by
  refine ⟨fun i m H => m = n - i ∧ i ≤ n ∧ Pv i H, ⟨n, by simp, Nat.zero_le _, h0⟩, ?_⟩
  rintro i m H ⟨rfl, hi, p⟩
  have q := hG i H hi p
  by_cases hlt : i < n
  · exact .inr ⟨w.goes i H hlt q, Pv (i + 1), fun H' p' => ⟨n - (i + 1), by omega, rfl, hlt, p'⟩, fun x H' y => hs i x H H' hlt p (w.yields i H x H' hlt q y)⟩
  · have e : i = n := by omega
    subst e
    exact .inl ⟨w.stops H q, hd H p⟩
theorem dcN_it {P : Program} {ww : World} {K : PySem.W.Frag} (w : Walk J n GG Y) {g : TG} {tt : TT} {tk tv : TE} {vs : List Nat} {σ : L2.St} {H0 : Hp} {D : Addr} {Qd : Hp → Prop} (Pv : Nat → Hp → Prop) (h0 : Pv 0 H0) (hG : ∀ i H, i ≤ n → Pv i H → GG H)
    (hs : ∀ i x H H', i < n → Pv i H → Y i H x H' → g x (wipe σ vs) H' fun σ2 H2 => wipe σ2 vs = wipe σ vs ∧ tt σ2 H2 fun b H3 =>
      if b = true then tk σ2 H3 fun y H4 => tv σ2 H4 fun z H5 => ∃ kvs k b, y = .ref b ∧ DN P ww K H5 D kvs ∧ NV K H5 (.ref b) k ∧ k.depth ≤ 8 ∧ kvs.length < sizeLine ∧ ∀ ob, DN P ww K (upd H5 D ob) D (putK kvs k z) → Pv (i + 1) (upd H5 D ob) else Pv (i + 1) H3) (hd : ∀ H, Pv n H → Qd H) :
    ∃ W : Nat → Nat → Hp → Prop, (∃ m, W 0 m H0) ∧ ∀ i m H, W i m H →
      (J.stop i H ∧ Qd H) ∨ (J.go i H ∧ ∃ Nx : Hp → Prop, (∀ H', Nx H' → ∃ m', m' < m ∧ W (i + 1) m' H') ∧ ∀ x H', J.yld i H x H' → g x (wipe σ vs) H' fun σ2 H2 => wipe σ2 vs = wipe σ vs ∧ tt σ2 H2 fun b H3 =>
        if b = true then tk σ2 H3 fun y H4 => tv σ2 H4 fun z H5 => ∃ kvs k b, y = .ref b ∧ DN P ww K H5 D kvs ∧ NV K H5 (.ref b) k ∧ k.depth ≤ 8 ∧ kvs.length < sizeLine ∧ ∀ ob, DN P ww K (upd H5 D ob) D (putK kvs k z) → Nx (upd H5 D ob) else Nx H3) := by
  refine ⟨fun i m H => m = n - i ∧ i ≤ n ∧ Pv i H, ⟨n, by simp, Nat.zero_le _, h0⟩, ?_⟩
  rintro i m H ⟨rfl, hi, p⟩
  have q := hG i H hi p
  by_cases hlt : i < n
  · exact .inr ⟨w.goes i H hlt q, Pv (i + 1), fun H' p' => ⟨n - (i + 1), by omega, rfl, hlt, p'⟩, fun x H' y => hs i x H H' hlt p (w.yields i H x H' hlt q y)⟩
  · have e : i = n := by omega
    subst e
    exact .inl ⟨w.stops H q, hd H p⟩
end
/-! ### names, each once -/
def addS (acc : List Str) (x : Str) : List Str := if x ∈ acc then acc else acc ++ [x]
def dedupS (l : List Str) : List Str := l.foldl addS []
theorem mem_addS {acc : List Str} {x y : Str} : y ∈ addS acc x ↔ y ∈ acc ∨ y = x := by
  unfold addS
  split
  · exact ⟨.inl, fun h => h.elim id (fun e => by rw [e]; assumption)⟩
  · simp
theorem mem_dedupS {l : List Str} {y : Str} : y ∈ dedupS l ↔ y ∈ l := by
  have : ∀ (l acc : List Str), y ∈ l.foldl addS acc ↔ y ∈ acc ∨ y ∈ l := by
    intro l
    induction l with
    | nil => intro acc; simp
    | cons x l ih =>
      intro acc
      rw [List.foldl_cons, ih, mem_addS, List.mem_cons]
      exact or_assoc
  rw [dedupS, this]
  simp
theorem nodup_addS {acc : List Str} {x : Str} (h : acc.Nodup) : (addS acc x).Nodup := by
  unfold addS
  split
  · exact h
  · rename_i hx
    exact List.nodup_append.mpr ⟨h, by simp, fun a ha b hb e => hx (by simp at hb; rw [← hb, ← e]; exact ha)⟩
theorem nodup_dedupS (l : List Str) : (dedupS l).Nodup := by
  have : ∀ (l acc : List Str), acc.Nodup → (l.foldl addS acc).Nodup := by
    intro l
    induction l with
    | nil => exact fun acc h => h
    | cons x l ih => exact fun acc h => ih _ (nodup_addS h)
  exact this l [] List.nodup_nil
def keysB (xs : List Str) : List (Key × V) := xs.map fun x => (Sum.inr x, V.bl true)
theorem keysB_put (xs : List Str) (x : Str) : putK (keysB xs) (Sum.inr x) (.bl true) = keysB (addS xs x) := by
  have hg : valV (keysB xs) (Sum.inr x) = if x ∈ xs then some (V.bl true) else none := by
    rw [valV_eq]
    induction xs with
    | nil => rfl
    | cons y xs ih =>
      by_cases h : y = x
      · subst h
        rw [keysB, List.map_cons, aGet_pos rfl, if_pos List.mem_cons_self]
      · rw [keysB, List.map_cons, aGet_neg (fun e => h (Sum.inr.inj e))]
        rw [keysB] at ih
        rw [ih]
        by_cases hm : x ∈ xs
        · rw [if_pos hm, if_pos (List.mem_cons_of_mem _ hm)]
        · rw [if_neg hm, if_neg (by rw [List.mem_cons, not_or]; exact ⟨fun e => h e.symm, hm⟩)]
  rw [valV_eq] at hg
  rw [putK_eq]
  unfold addS
  by_cases hm : x ∈ xs
  · rw [if_pos hm] at hg ⊢
    rw [aPut_old hg, keysB, List.map_map]
    refine List.map_congr_left fun y _ => ?_
    show (if (Sum.inr y : Key) = Sum.inr x then ((Sum.inr y : Key), V.bl true) else (Sum.inr y, V.bl true)) = _
    split <;> rfl
  · rw [if_neg hm] at hg ⊢
    rw [aPut_new hg, keysB, keysB, List.map_append]
    rfl
abbrev N_variables_of : List Str := ["rule", "names", "_", "terms", "term", "name"]
theorem sc_variables_of : FnScope N_variables_of ["rule"] (defScope s_variables_of) := ⟨rfl, rfl, rfl, by decide +kernel, rfl, by decide +kernel, by decide +kernel⟩
def varsOf (as : List Atom) : List Str := dedupS (varsT (tmsOf as))
def sp_variables_of (K : PySem.W.Frag) : Sp := fun vs H Q _ => ∃ rv r, vs = [rv] ∧ NV K H rv (encR r) ∧ WfR r ∧ ∀ p H', Ex H H' → H p = none → H' p = some (.lst ((varsOf r.2).map V.str)) → Q (.ref p) H'
def varN : Tm → Option Nk
  | .var x => some (.text x)
  | .val _ => none
theorem varN_map (ts : List Tm) : ts.filterMap varN = (varsT ts).map .text := by
  rw [varsT, List.map_filterMap]
  congr 1
  funext t
  cases t <;> rfl
theorem tmsOf_len : ∀ {l : List Atom}, (∀ a ∈ l, WfA a) → (tmsOf l).length ≤ 2 * l.length
  | [], _ => Nat.le_refl _
  | a :: l, h => by
    have h6 := tmsOf_len fun x hx => h x (List.mem_cons_of_mem _ hx)
    have h7 := (h a List.mem_cons_self).len
    have h8 := arN_le a.1
    simp only [tmsOf, List.flatMap_cons, List.length_append, List.length_cons] at h6 ⊢
    omega
theorem tms_wf {l : List Atom} (h : ∀ a ∈ l, WfA a) {t : Tm} (ht : t ∈ tmsOf l) : WfT t := by
  obtain ⟨a, ha, hta⟩ := List.mem_flatMap.mp ht
  exact (h a ha).tms t hta
section
variable {P : Program} {w : World} {K : PySem.W.Frag} {mg : Str → Option Value} {base : Heap}
theorem ok_variables_of {k : Nat} {f : Addr} {fd : FuncData} (F : FnP K "variables_of" "variables_of" s_variables_of f fd) (T : Txt mg) : FnOk P w K mg base CX0 (k + 1) f fd ["rule"] (sp_variables_of K) := by
  refine mk_ok F sc_variables_of (fun vs H Q E h => ?_) (fun cdv A outer s H vs Q E hr h => ?_)
  · obtain ⟨rv, r, rfl, _⟩ := h
    rfl
  · obtain ⟨rv, r, rfl, hv, hw, q⟩ := h
    have nd := sc_variables_of.nd
    refine ⟨_, (pss_cons (ps_setLc2 (i := 1) (own := [("_", 2), ("terms", 3), ("term", 4)]) (vs1 := [4]) rfl nd rfl rfl (sw_true rfl rfl rfl (by decide +kernel)) (k_itup (K := K) (k_ixT (K := K) (pv 0) pe_int)) (blkOk_by (N := N_variables_of) (sc := defScope s_variables_of) (by decide +kernel)) (by decide) (fun _ _ _ _ _ => (k_pgt (K := K) (n := 2) (pgs_cons (pg_name (i := 2) nd rfl (by first | exact Or.inl rfl | exact Or.inr rfl)) (pgs_cons (pg_name (i := 3) nd rfl (by first | exact Or.inl rfl | exact Or.inr rfl)) pgs_nil)))) (fun _ _ _ _ _ => pts_nil) (fun _ _ _ _ _ => (k_itup (K := K) (pv 3))) (fun _ _ _ _ _ => (pg_name (i := 4) nd rfl (by first | exact Or.inl rfl | exact Or.inr rfl))) (fun _ _ _ _ _ => (pts_one (pt_cmpR (k_eq (K := K) hr.units) (k_ixT (K := K) (pv 4) pe_int) pe_str (nomark _)))) (fun _ _ _ _ _ => (k_ixT (K := K) (pv 4) pe_int))) (pss_one (ps_ret (k_cty T.f_list (call_listD rfl) (pa_cons (pe_dc (own := [("name", 5)]) rfl nd (k_ilist (K := K) (pv 1)) (blkOk_by (N := N_variables_of) (sc := defScope s_variables_of) (by decide +kernel)) (fun _ _ _ _ _ => (pg_name (i := 5) nd rfl (by first | exact Or.inl rfl | exact Or.inr rfl))) (fun _ _ _ _ _ => pts_nil) (fun _ _ _ _ _ => (pv 5)) (fun _ _ _ _ _ => pe_bl)) pa_nil))))), ?_⟩
    have hlen : (tmsOf r.2).length ≤ 10 := by
      have := tmsOf_len hw.atoms
      have := hw.most
      omega
    refine q_asg (G := gx K) trivial (el_atoms (as := r.2) varN (ed_ix (i := 1) (ed_var (d := encR r) rfl hv) ed_int rfl) (by have := hw.most; omega) (fun a ha => by have := (hw.atoms a ha).len; have := arN_le a.1; omega) (fun _ _ => rfl) (fun _ _ => rfl) (fun _ _ _ => rfl)
      fun x y z t H1 r1 htm nz => ?_) fun v H1 r1 hp => ?_
    · have h4 : ED (gx K) (tVar 4) [some rv, none, some x, some y, some z, none] H1 t.enc := ed_var rfl nz
      refine ⟨et_eq (et_isVar h4) (by cases t <;> rfl), fun rr hrr => ?_⟩
      cases t with
      | val c => cases hrr
      | var x => cases hrr; exact ed_cont h4
    · obtain ⟨l, rfl, hl0, xs, hl, hxs⟩ := hp
      rw [varN_map] at hxs
      have exs : xs = (varsT (tmsOf r.2)).map V.str := by
        generalize varsT (tmsOf r.2) = ns at hxs
        clear hl
        induction ns generalizing xs with
        | nil => cases hxs; rfl
        | cons x ns ih =>
          cases hxs with
          | cons h1 h2 =>
            cases h1
            rw [ih _ h2]
            rfl
      have hlv : (varsT (tmsOf r.2)).length ≤ 10 := Nat.le_trans (List.length_filterMap_le _ _) hlen
      rw [exs] at hl
      have hlist : ∀ H', Ex H1 H' → SqL K H' l ((varsT (tmsOf r.2)).map V.str) := fun H' e => SqL.of (e _ _ hl)
      refine ⟨.ref l, rfl, l, rfl, ⟨_, SqL.of hl⟩, fun D hD => ?_⟩
      refine dc_it (walk_list (K := K) (a := l) (xs := (varsT (tmsOf r.2)).map V.str)) (fun i H' => Ex H1 H' ∧ H' D = some (.dK (keysB (dedupS ((varsT (tmsOf r.2)).take i))))) ⟨Ex.new hD, upd_same⟩ (fun i H' _ hp => hlist H' hp.1) (fun i x Ha Hb hi hp y => ?_) (fun H' hp => ?_)
      · obtain ⟨rfl, hx⟩ := y
        rw [List.getElem?_map] at hx
        cases hn : (varsT (tmsOf r.2))[i]? with
        | none => rw [hn] at hx; cases hx
        | some nm =>
        rw [hn] at hx
        cases hx
        refine ⟨rfl, ?_⟩
        refine ⟨.str nm, rfl, keysB (dedupS ((varsT (tmsOf r.2)).take i)), .inr nm, rfl, hp.2, ?_, hp.1.mut hD, ?_⟩
        · have : (dedupS ((varsT (tmsOf r.2)).take i)).length ≤ 10 := by
            have h1 : (dedupS ((varsT (tmsOf r.2)).take i)).length ≤ ((varsT (tmsOf r.2)).take i).length := by
              have : ∀ (l acc : List Str), (l.foldl addS acc).length ≤ acc.length + l.length := by
                intro l
                induction l with
                | nil => exact fun acc => Nat.le_refl _
                | cons x l ih =>
                  intro acc
                  have h2 := ih (addS acc x)
                  have h3 : (addS acc x).length ≤ acc.length + 1 := by unfold addS; split <;> simp
                  rw [List.foldl_cons, List.length_cons]
                  omega
              have h4 := this ((varsT (tmsOf r.2)).take i) []
              rw [List.length_nil, Nat.zero_add] at h4
              exact h4
            rw [List.length_take] at h1
            omega
          rw [keysB, List.length_map, sizeLine_eq]
          omega
        · rw [upd_same, keysB_put, List.take_add_one, hn, dedupS, dedupS, List.foldl_append]
          rfl
      · obtain ⟨ex, hdk⟩ := hp
        rw [List.length_map, List.take_length] at hdk
        refine ⟨D, _, rfl, Rd.of hdk, fun p hp => ?_⟩
        have e : (keysB (dedupS (varsT (tmsOf r.2)))).map (fun kv => kV kv.1) = (varsOf r.2).map V.str := by rw [keysB, List.map_map]; rfl
        rw [e]
        refine q p _ ((r1.trans ex).trans (Ex.new hp)) ?_ upd_same
        exact Evl.fresh_back (r1.trans ex) hp
end
end Ew
set_option Elab.async false
set_option linter.all false
set_option maxRecDepth 100000
set_option maxHeartbeats 4000000
namespace Ew
open PySem PySem.Spec PyProof.Rows L2
open Evl (Ex)
theorem nvs_text {K : PySem.W.Frag} {H : Hp} : ∀ {ns : List Str} {xs : List V}, NVs K H xs (ns.map .text) → xs = ns.map V.str
  | [], _, h => by cases h; rfl
  | x :: ns, _, h => by
    cases h with
    | cons h1 h2 =>
      cases h1
      rw [nvs_text h2]
      rfl
theorem nvs_num {K : PySem.W.Frag} {H : Hp} : ∀ {ns : List Int} {xs : List V}, NVs K H xs (ns.map .num) → xs = ns.map V.int
  | [], _, h => by cases h; rfl
  | x :: ns, _, h => by
    cases h with
    | cons h1 h2 =>
      cases h1
      rw [nvs_num h2]
      rfl
def numT : Tm → Option Int
  | .val (.num i) => some i
  | _ => none
def numN (t : Tm) : Option Nk := (numT t).map .num
theorem numN_map (ts : List Tm) : ts.filterMap numN = (ts.filterMap numT).map .num := by
  rw [List.map_filterMap]
  rfl
abbrev N_numbers_in : List Str := ["rule", "_", "terms", "term"]
theorem sc_numbers_in : FnScope N_numbers_in ["rule"] (defScope s_numbers_in) := ⟨rfl, rfl, rfl, by decide +kernel, rfl, by decide +kernel, by decide +kernel⟩
def sp_numbers_in (K : PySem.W.Frag) : Sp := fun vs H Q _ => ∃ rv r, vs = [rv] ∧ NV K H rv (encR r) ∧ WfR r ∧ ∀ p H', Ex H H' → H p = none → H' p = some (.lst (((tmsOf r.2).filterMap numT).map V.int)) → Q (.ref p) H'
abbrev N_check_heads : List Str := ["first", "second"]
theorem sc_check_heads : FnScope N_check_heads ["first", "second"] (defScope s_check_heads) := ⟨rfl, rfl, rfl, by decide +kernel, rfl, by decide +kernel, by decide +kernel⟩
def sp_check_heads (K : PySem.W.Frag) : Sp := fun vs H Q _ => ∃ v1 v2 r1 r2, vs = [v1, v2] ∧ NV K H v1 (encR r1) ∧ NV K H v2 (encR r2) ∧ r1.1.length = r2.1.length ∧ ∀ H', Ex H H' → Q .non H'
abbrev N_head_map : List Str := ["first", "second", "terms", "name"]
theorem sc_head_map : FnScope N_head_map ["first", "second"] (defScope s_head_map) := ⟨rfl, rfl, rfl, by decide +kernel, rfl, by decide +kernel, by decide +kernel⟩
def headT (h : List Str) : List Tm := h.map Tm.var
def sp_head_map (K : PySem.W.Frag) : Sp := fun vs H Q _ => ∃ v1 v2 r1 r2, vs = [v1, v2] ∧ NV K H v1 (encR r1) ∧ NV K H v2 (encR r2) ∧ WfR r1 ∧ WfR r2 ∧ r1.1.length = r2.1.length ∧
  (fitL Tm.val ((headT r1.1).zip (headT r2.1)) [] = none → ∀ H', Ex H H' → Q .non H') ∧ ∀ m', fitL Tm.val ((headT r1.1).zip (headT r2.1)) [] = some m' → ∀ H' d, Ex H H' → H d = none → DKA K H' d (encM m') → Q (.ref d) H'
section
variable {P : Program} {w : World} {K : PySem.W.Frag} {mg : Str → Option Value} {base : Heap}
theorem ok_numbers_in {k : Nat} {f : Addr} {fd : FuncData} (F : FnP K "numbers_in" "numbers_in" s_numbers_in f fd) (T : Txt mg) (c_is_number : Callee P w K mg base "is_number" k ["thing"] (sp_is_number K)) : FnOk P w K mg base CX0 (k + 1) f fd ["rule"] (sp_numbers_in K) := by
  refine mk_ok F sc_numbers_in (fun vs H Q E h => ?_) (fun cdv A outer s H vs Q E hr h => ?_)
  · obtain ⟨rv, r, rfl, _⟩ := h
    rfl
  · obtain ⟨rv, r, rfl, hv, hw, q⟩ := h
    have nd := sc_numbers_in.nd
    refine ⟨_, (pss_one (ps_ret (pe_lc2 (own := [("_", 1), ("terms", 2), ("term", 3)]) (vs1 := [3]) rfl nd (k_itup (K := K) (k_ixT (K := K) (pv 0) pe_int)) (blkOk_by (N := N_numbers_in) (sc := defScope s_numbers_in) (by decide +kernel)) (by decide) (fun _ _ _ _ _ => (k_pgt (K := K) (n := 2) (pgs_cons (pg_name (i := 1) nd rfl (by first | exact Or.inl rfl | exact Or.inr rfl)) (pgs_cons (pg_name (i := 2) nd rfl (by first | exact Or.inl rfl | exact Or.inr rfl)) pgs_nil)))) (fun _ _ _ _ _ => pts_nil) (fun _ _ _ _ _ => (k_itup (K := K) (pv 2))) (fun _ _ _ _ _ => (pg_name (i := 3) nd rfl (by first | exact Or.inl rfl | exact Or.inr rfl))) (fun _ _ _ _ _ => (pts_one (PW.pt (pw_and (pt_cmpR (k_eq (K := K) hr.units) (k_ixT (K := K) (pv 3) pe_int) pe_str (nomark _)) (pw_and1 (pt_val (pe_cal c_is_number hr (pa_cons (k_ixT (K := K) (pv 3) pe_int) pa_nil)))))))) (fun _ _ _ _ _ => (k_ixT (K := K) (pv 3) pe_int))))), ?_⟩
    refine s_ret (G := gx K) trivial (el_atoms (as := r.2) numN (ed_ix (i := 1) (ed_var (d := encR r) rfl hv) ed_int rfl) (by have := hw.most; omega) (fun a ha => by have := (hw.atoms a ha).len; have := arN_le a.1; omega) (fun _ _ => rfl) (fun _ _ => rfl) (fun _ _ _ => rfl)
      fun x y z t H1 r1 htm nz => ?_) fun v H1 r1 hp => ?_
    · have h4 : ED (gx K) (tVar 3) [some rv, some x, some y, some z] H1 t.enc := ed_var rfl nz
      have hwt := tms_wf hw.atoms htm
      have et : (numN t).isSome = (!t.isVar && isNum t.cont) := by
        cases t with
        | var x => rfl
        | val c =>
          simp only [WfT, vals3, List.mem_cons, List.mem_nil_iff, or_false] at hwt
          rcases hwt with rfl | rfl | rfl <;> rfl
      have lf : t.isVar = false → isLeaf t.cont = true := fun e => by
        cases t with
        | var x => cases e
        | val c =>
          simp only [WfT, vals3, List.mem_cons, List.mem_nil_iff, or_false] at hwt
          rcases hwt with rfl | rfl | rfl <;> rfl
      refine ⟨et_eq (et_and (et_isVal h4) fun e => et_B (ev_call (ea_one (ed_cont h4)) fun vs H2 r2 p Q q => ?_)) et.symm, fun rr hrr => ?_⟩
      · obtain ⟨v, rfl, nv⟩ := p
        exact ⟨v, t.cont, rfl, nv, lf (by simpa using e), q _ H2 (Ex.refl _) rfl⟩
      · have e : rr = t.cont := by
          cases t with
          | var x => cases hrr
          | val c =>
            cases c with
            | num i => cases hrr; rfl
            | none => cases hrr
            | text x => cases hrr
            | tup ks => cases hrr
        rw [e]
        exact ed_cont h4
    · obtain ⟨l, rfl, hl0, xs, hl, hxs⟩ := hp
      rw [numN_map] at hxs
      rw [nvs_num hxs] at hl
      exact q l H1 r1 hl0 hl
/-- a list or tuple's length -/
theorem ed_len {G : Gw K} {σ : L2.St} {H : Hp} {te : TE} {ds : List Nk} (h : EvP G te σ H (fun v H2 => ∃ p ys, v = .ref p ∧ (SqL K H2 p ys ∨ SqT K H2 p ys) ∧ NVs K H2 ys ds)) : ED G (tCB (rLenS K) (tCons te tNil)) σ H (.num (ds.length : Nat)) := fun H1 a Q q =>
  h H1 a _ fun v H2 b ⟨p, ys, e, hs, hv⟩ => ⟨p, ys, by rw [e], hs, q _ H2 b (by rw [hv.len]; exact .int _)⟩
theorem ok_check_heads {k : Nat} {f : Addr} {fd : FuncData} (F : FnP K "check_heads" "check_heads" s_check_heads f fd) (T : Txt mg) : FnOk P w K mg base CX0 (k + 1) f fd ["first", "second"] (sp_check_heads K) := by
  refine mk_ok F sc_check_heads (fun vs H Q E h => ?_) (fun cdv A outer s H vs Q E hr h => ?_)
  · obtain ⟨v1, v2, r1, r2, rfl, _⟩ := h
    rfl
  · obtain ⟨v1, v2, r1, r2, rfl, h1, h2, hl, q⟩ := h
    have nd := sc_check_heads.nd
    refine ⟨_, (pss_one (ps_if (pt_cmpR (k_ne (K := K) hr.units) (k_cb T.f_len (k_len (K := K)) (pa_cons (k_ixT (K := K) (pv 0) pe_int) pa_nil)) (k_cb T.f_len (k_len (K := K)) (pa_cons (k_ixT (K := K) (pv 1) pe_int) pa_nil)) (nomark _)) (pss_one ps_never) pss_nil)), ?_⟩
    refine s_when (G := gx K) (b := false) trivial (et_test (eb_eq (eb_neN (ed_len (ED.seq (ed_ix (i := 0) (ed_var (d := encR r1) rfl h1) ed_int rfl))) (ed_len (ED.seq (ed_ix (i := 0) (ed_var (d := encR r2) rfl h2) ed_int rfl))) (by simp [NestedKey.depth])) ?_)) (fun e => by cases e) fun _ H1 e1 => q H1 e1
    rw [List.length_map, List.length_map, hl, decide_eq_true rfl]
    rfl
theorem ok_head_map {k : Nat} {f : Addr} {fd : FuncData} (F : FnP K "head_map" "head_map" s_head_map f fd) (T : Txt mg) (c_matched : Callee P w K mg base "matched" k ["terms", "other", "known"] (sp_matched K)) : FnOk P w K mg base CX0 (k + 1) f fd ["first", "second"] (sp_head_map K) := by
  refine mk_ok F sc_head_map (fun vs H Q E h => ?_) (fun cdv A outer s H vs Q E hr h => ?_)
  · obtain ⟨v1, v2, r1, r2, rfl, _⟩ := h
    rfl
  · obtain ⟨v1, v2, r1, r2, rfl, h1, h2, hw1, hw2, hl, q1, q2⟩ := h
    have nd := sc_head_map.nd
    refine ⟨_, (pss_cons (ps_set (i := 2) nd rfl (by first | exact Or.inl rfl | exact Or.inr rfl) (k_tuple (K := K) T (pe_lc (own := [("name", 3)]) rfl nd (k_itup (K := K) (k_ixT (K := K) (pv 0) pe_int)) (blkOk_by (N := N_head_map) (sc := defScope s_head_map) (by decide +kernel)) (fun _ _ _ _ _ => (pg_name (i := 3) nd rfl (by first | exact Or.inl rfl | exact Or.inr rfl))) (fun _ _ _ _ _ => pts_nil) (fun _ _ _ _ _ => (pe_tupF (pa_cons pe_str (pa_cons (pv 3) pa_nil))))))) (pss_one (ps_ret (pe_cal c_matched hr (pa_cons (pv 2) (pa_cons (k_tuple (K := K) T (pe_lc (own := [("name", 3)]) rfl nd (k_itup (K := K) (k_ixT (K := K) (pv 1) pe_int)) (blkOk_by (N := N_head_map) (sc := defScope s_head_map) (by decide +kernel)) (fun _ _ _ _ _ => (pg_name (i := 3) nd rfl (by first | exact Or.inl rfl | exact Or.inr rfl))) (fun _ _ _ _ _ => pts_nil) (fun _ _ _ _ _ => (pe_tupF (pa_cons pe_str (pa_cons (pv 3) pa_nil)))))) (pa_cons pe_dnewK pa_nil))))))), ?_⟩
    have el : ∀ (r : Rule) (te : TE) (σ : L2.St) (H1 : Hp) (hw : WfR r) (he : ED (gx K) te σ H1 (encR r)) (hσ : ∀ x : V, wipe ((wipe σ [3]).set 3 (some x)) [3] = wipe σ [3]) (h3 : ∀ x : V, ((wipe σ [3]).set 3 (some x))[3]? = some (some x)),
        ED (gx K) (tThen (tLc (iTup K (tOp (rIxT K) te (tC (.int 0)))) (gName 3) tYes (tTupF (tCons (tC (.str "var")) (tCons (tVar 3) tNil))) [3]) (kTupF K)) σ H1 (.tup ((headT r.1).map Tm.enc)) := fun r te σ H1 hw he hσ h3 => by
      have h := ed_tupleL (el_lcB (vs := [3]) (g := gName 3) (te := tTupF (tCons (tC (.str "var")) (tCons (tVar 3) tNil))) NestedKey.text (fun x => (Tm.var x).enc) (ed_ix (i := 0) he ed_int rfl) (by have := hw.head; omega) fun i x v H2 r2 hx nv => ⟨_, st_name, hσ v, ed_tup (eds_cons ed_str (eds_cons (ed_var (h3 v) nv) eds_nil))⟩)
      rw [headT, List.map_map]
      exact h
    refine q_asg (G := gx K) trivial (el r1 _ _ H hw1 (ed_var rfl h1) (fun _ => rfl) (fun _ => rfl)) fun v H1 e1 n1 => ?_
    refine ⟨v, rfl, ?_⟩
    refine el r2 _ _ H1 hw2 (ed_var rfl (h2.ex e1)) (fun _ => rfl) (fun _ => rfl) H1 (Ex.refl _) _ fun v' H2 e2 n2 => ?_
    refine fun d hd => ?_
    have e3 : Ex H2 (upd H2 d (.dK [])) := Ex.new hd
    have e02 := (e1.trans e2).trans e3
    have hh1 := hw1.head
    refine ⟨v, v', d, headT r1.1, headT r2.1, [], rfl, (n1.ex e2).ex e3, n2.ex e3, by simp [headT, hl], by simp [headT]; omega, fun t ht => ?_, fun t ht => ?_, fun p hp => (nomatch hp), ⟨[], upd_same, .nil⟩, by simp, fun hno H' e => q1 hno H' (e02.trans e), fun m' hm H' d' e hd' hD => q2 m' hm H' d' (e02.trans e) (Evl.fresh_back e02 hd') hD⟩
    · obtain ⟨x, _, rfl⟩ := List.mem_map.mp ht
      simp [Tm.enc, NestedKey.depth, NestedKey.depthAll]
    · obtain ⟨x, _, rfl⟩ := List.mem_map.mp ht
      simp [Tm.enc, NestedKey.depth, NestedKey.depthAll]
end
end Ew
set_option Elab.async false
set_option linter.all false
set_option maxRecDepth 100000
set_option maxHeartbeats 4000000
namespace Ew
open PySem PySem.Spec PyProof.Rows L2
open Evl (Ex)
/-! ### a class made with arguments -/
structure Maker (P : Program) (w : World) (K : PySem.W.Frag) (mg : Str → Option Value) (base : Heap) (x : Str) (C : Addr) (k : Nat) (ps : List Str) (sp : Sp) : Prop where
  ex : ∃ f fd, FnOk P w K mg base CX0 k f fd ps sp ∧ Mk K C f ∧ Binds K fd ps []
  gl : mg x = some (.ref C)
theorem Maker.mono {P : Program} {w : World} {K : PySem.W.Frag} {mg : Str → Option Value} {base : Heap} {x : Str} {C : Addr} {j k : Nat} {ps : List Str} {sp : Sp} (c : Maker P w K mg base x C j ps sp) (h : j ≤ k) : Maker P w K mg base x C k ps sp := by
  obtain ⟨⟨f, fd, F, g, b⟩, cl⟩ := c
  exact ⟨⟨f, fd, F.mono h, g, b⟩, cl⟩
section
variable {X : Cx} {x : Str} {k : Nat} {ps : List Str} {sp : Sp} {p pos : Pos} {e : Expr} {es : List Expr} {t : TA} {C : Addr}
theorem pe_mkC (c : Maker X.prog X.w X.K X.mg X.base x C k ps sp) (hr : Room (k + 1) X.A) (ha : PA X (e :: es) t) (hg : Gl X x := by rfl)
    (hdb : (x == ("__debug__" : Str)) = false := by decide) (he : starEach (e :: es) X.env = (false, eval e X.env) :: starEach es X.env := by rfl) (hpl : (backTo pos (starEach es X.env)).any (·.1) = false := by rfl) :
    PE X (.Call (.Name x p) (e :: es) [] pos) (tMake C sp [] E0 t) := by
  obtain ⟨f, fd, F, g, b⟩ := c.ex
  exact pe_make g F hr hg c.gl b .nil pass0 ha hdb he hpl
end
theorem mk_facts {P : Program} {w : World} {K : PySem.W.Frag} {CF : Addr} {σ : L2.St} {H : Hp} {i : Nat} {tl : Addr} {xs : List V} {Q : VK} (hi : σ[i]? = some (some (.ref tl))) (hl : SqL K H tl xs) (hv : NVs K H xs tabsD)
    (q : ∀ H' o a l t d, Ex H H' → H o = none → H a = none → H l = none → H t = none → H d = none → FactsAt P w K CF H' o a l t d [] → Q (.ref o) H') : tMake CF (sp_Finit P w K CF) [] E0 (tCons (tVar i) tNil) σ H Q := by
  refine ⟨.ref tl, hi, ?_⟩
  intro o dx ho hdx hne
  have e1 : Ex H (upd (upd H dx (.own o)) o (.ins CF dx [])) := (Ex.new hdx).trans (Ex.new (by rw [upd_ne hne.symm]; exact ho))
  have fr : ∀ b, upd (upd H dx (.own o)) o (.ins CF dx []) b = none → H b = none := fun b hb => Evl.fresh_back e1 hb
  refine ⟨o, tl, dx, xs, rfl, upd_same, Evl.ex_l e1 hl, hv.ex e1, fun H' a l t d hk ha hl' ht hd hF => ⟨rfl, q H' o a l t d (fun b z hb => ?_) ho (fr a ha) (fr l hl') (fr t ht) (fr d hd) hF⟩⟩
  have hbo : b ≠ o := ne_of_none hb ho
  exact hk b z hbo (e1 _ _ hb)
theorem nmI {i : Nat} {v : V} {σ : L2.St} {H : Hp} {Q : L2.St → Hp → Prop} (h : Q (σ.set i (some v)) H) : gName i v σ H Q := h
theorem q_mkFacts {P : Program} {w : World} {K : PySem.W.Frag} {CF : Addr} {σ : L2.St} {H : Hp} {i j : Nat} {tl : Addr} {xs : List V} {tz : TS} {D : Ends} (hi : σ[i]? = some (some (.ref tl))) (hl : SqL K H tl xs) (hv : NVs K H xs tabsD)
    (q : ∀ H' o a l t d, Ex H H' → H o = none → H a = none → H l = none → H t = none → H d = none → FactsAt P w K CF H' o a l t d [] → tz D (σ.set j (some (.ref o))) H') : tSeq (tAsg (tMake CF (sp_Finit P w K CF) [] E0 (tCons (tVar i) tNil)) (gName j)) tz D σ H :=
  mk_facts (Q := fun v H' => tz D (σ.set j (some v)) H') hi hl hv q
/-! ### a rule's frozen facts -/
def ixS : List Str → Str → Nat
  | [], _ => 0
  | y :: ys, x => if y = x then 0 else ixS ys x + 1
def instT (n : Int) (vs : List Str) : Tm → Nk
  | .var x => .num (n + (ixS vs x : Nat))
  | .val c => c
def instA (n : Int) (vs : List Str) (a : Atom) : Fact := (a.1, a.2.map (instT n vs))
def addF (fs : List Fact) (f : Fact) : List Fact := if f ∈ fs then fs else fs ++ [f]
def factsOf (n : Int) (vs : List Str) (as : List Atom) : List Fact := (as.map (instA n vs)).foldl addF []
theorem mem_addF {fs : List Fact} {f g : Fact} : g ∈ addF fs f ↔ g ∈ fs ∨ g = f := by
  unfold addF
  split
  · exact ⟨.inl, fun h => h.elim id (fun e => by rw [e]; assumption)⟩
  · simp
theorem len_addF {fs : List Fact} {f : Fact} : (addF fs f).length ≤ fs.length + 1 := by
  unfold addF
  split <;> simp
theorem nodup_addF {fs : List Fact} {f : Fact} (h : fs.Nodup) : (addF fs f).Nodup := by
  unfold addF
  split
  · exact h
  · rename_i hx
    exact List.nodup_append.mpr ⟨h, by simp, fun a ha b hb e => hx (by simp at hb; rw [← hb, ← e]; exact ha)⟩
def valK : Int → List Str → List (Key × V)
  | _, [] => []
  | n, x :: xs => (Sum.inr x, V.int n) :: valK (n + 1) xs
theorem valK_snoc : ∀ (xs : List Str) (n : Int) (x : Str), valK n (xs ++ [x]) = valK n xs ++ [(Sum.inr x, V.int (n + (xs.length : Nat)))]
  | [], n, x => by simp [valK]
  | y :: ys, n, x => by
    rw [List.cons_append, valK, valK, valK_snoc ys, List.cons_append, List.length_cons]
    have : n + 1 + (ys.length : Nat) = n + ((ys.length + 1 : Nat) : Int) := by omega
    rw [this]
theorem valK_len : ∀ (xs : List Str) (n : Int), (valK n xs).length = xs.length
  | [], _ => rfl
  | y :: ys, n => by rw [valK, List.length_cons, List.length_cons, valK_len ys]
theorem valK_get : ∀ (xs : List Str) (n : Int) (x : Str), valV (valK n xs) (Sum.inr x) = if x ∈ xs then some (V.int (n + (ixS xs x : Nat))) else none
  | [], _, _ => rfl
  | y :: ys, n, x => by
    by_cases h : y = x
    · rw [valK, valV_pos (by rw [h]), ixS, if_pos h, if_pos (by rw [h]; exact List.mem_cons_self)]
      simp
    · rw [valK, valV_neg (fun e => h (Sum.inr.inj e)), valK_get ys, ixS, if_neg h]
      by_cases hm : x ∈ ys
      · rw [if_pos hm, if_pos (List.mem_cons_of_mem _ hm)]
        have : n + 1 + (ixS ys x : Nat) = n + ((ixS ys x + 1 : Nat) : Int) := by omega
        rw [this]
      · rw [if_neg hm, if_neg (by rw [List.mem_cons, not_or]; exact ⟨fun e => h e.symm, hm⟩)]
theorem valK_put {xs : List Str} {n : Int} {x : Str} (h : x ∉ xs) : putK (valK n xs) (Sum.inr x) (.int (n + (xs.length : Nat))) = valK n (xs ++ [x]) := by
  have hg := valK_get xs n x
  rw [if_neg h, valV_eq] at hg
  rw [putK_eq, aPut_new hg, valK_snoc]
theorem mem_varsT {ts : List Tm} {x : Str} : x ∈ varsT ts ↔ Tm.var x ∈ ts := by
  unfold varsT
  rw [List.mem_filterMap]
  constructor
  · rintro ⟨t, ht, e⟩
    cases t with
    | var y => cases e; exact ht
    | val c => cases e
  · exact fun h => ⟨_, h, rfl⟩
theorem mem_varsOf {as : List Atom} {x : Str} : x ∈ varsOf as ↔ Tm.var x ∈ tmsOf as := by
  rw [varsOf, mem_dedupS, mem_varsT]
theorem nodup_len {α : Type} [DecidableEq α] : ∀ {l m : List α}, l.Nodup → (∀ x ∈ l, x ∈ m) → l.length ≤ m.length
  | [], _, _, _ => Nat.zero_le _
  | x :: l, m, hn, hs => by
    have hx := hs x List.mem_cons_self
    have h1 := nodup_len (l := l) (m := m.erase x) (List.nodup_cons.mp hn).2 fun y hy => by
      refine (List.mem_erase_of_ne fun e => ?_).mpr (hs y (List.mem_cons_of_mem _ hy))
      rw [e] at hy
      exact (List.nodup_cons.mp hn).1 hy
    rw [List.length_erase_of_mem hx] at h1
    have := List.length_pos_of_mem hx
    rw [List.length_cons]
    omega
theorem varsOf_len {as : List Atom} (h : ∀ a ∈ as, WfA a) : (varsOf as).length ≤ 4 := by
  have hn := nodup_dedupS (varsT (tmsOf as))
  have hs : ∀ x ∈ varsOf as, x ∈ names4 := fun x hx => by
    have := tms_wf h (mem_varsOf.mp hx)
    exact this
  exact nodup_len hn hs
theorem inst_depth {n : Int} {vs : List Str} {t : Tm} (h : WfT t) : (instT n vs t).depth = 0 := by
  cases t with
  | var x => rfl
  | val c => exact val_depth h
theorem nvs_ints {K : PySem.W.Frag} {H : Hp} : ∀ (ns : List Int), NVs K H (ns.map V.int) (ns.map .num)
  | [] => .nil
  | n :: ns => .cons (.int n) (nvs_ints ns)
theorem num_wf {as : List Atom} (h : ∀ a ∈ as, WfA a) {m : Int} (hm : m ∈ (tmsOf as).filterMap numT) : m = 0 ∨ m = 1 := by
  obtain ⟨t, ht, e⟩ := List.mem_filterMap.mp hm
  have hw := tms_wf h ht
  cases t with
  | var x => cases e
  | val c =>
    simp only [WfT, vals3, List.mem_cons, List.mem_nil_iff, or_false] at hw
    rcases hw with rfl | rfl | rfl
    · cases e; exact .inl rfl
    · cases e; exact .inr rfl
    · cases e
abbrev N_frozen : List Str := ["rule", "other", "tables", "least", "values", "at", "name", "facts", "table", "terms", "row", "term"]
theorem sc_frozen : FnScope N_frozen ["rule", "other", "tables"] (defScope s_frozen) := ⟨rfl, rfl, rfl, by decide +kernel, rfl, by decide +kernel, by decide +kernel⟩
def sp_frozen (P : Program) (w : World) (K : PySem.W.Frag) (CF : Addr) : Sp := fun vs H Q _ => ∃ v1 v2 tl xs r1 r2, vs = [v1, v2, .ref tl] ∧ NV K H v1 (encR r1) ∧ NV K H v2 (encR r2) ∧ SqL K H tl xs ∧ NVs K H xs tabsD ∧ WfR r1 ∧ WfR r2 ∧
  ∀ H' n tp o a l t d rv, Ex H H' → H o = none → H a = none → H l = none → H t = none → H d = none → (n = 1 ∨ n = 2) → (∀ c, Tm.val (.num c) ∈ tmsOf r1.2 ∨ Tm.val (.num c) ∈ tmsOf r2.2 → c < n) →
    FactsAt P w K CF H' o a l t d (factsOf n (varsOf r1.2) r1.2) → NV K H' rv (.tup (r1.1.map fun x => instT n (varsOf r1.2) (.var x))) → PT H' tp [.ref o, rv] → Q (.ref tp) H'
section
variable {P : Program} {w : World} {K : PySem.W.Frag} {mg : Str → Option Value} {base : Heap} {CF : Addr}
theorem ok_frozen (C : FCls K CF) {k : Nat} {f : Addr} {fd : FuncData} (F : FnP K "frozen" "frozen" s_frozen f fd) (T : Txt mg) (c_numbers_in : Callee P w K mg base "numbers_in" (k + 1) ["rule"] (sp_numbers_in K))
    (c_variables_of : Callee P w K mg base "variables_of" (k + 1) ["rule"] (sp_variables_of K)) (m_Facts : Maker P w K mg base "Facts" CF k ["self", "tables"] (sp_Finit P w K CF))
    (c_find : MCallee P w K mg base CF "find" (k + 1) ["self", "table", "row"] (sp_find P w K CF)) (c_add : MCallee P w K mg base CF "add" (k + 1) ["self", "table", "row"] (sp_add P w K CF)) :
    FnOk P w K mg base CX0 (k + 2) f fd ["rule", "other", "tables"] (sp_frozen P w K CF) := by
  refine mk_ok F sc_frozen (fun vs H Q E h => ?_) (fun cdv A outer s H vs Q E hr h => ?_)
  · obtain ⟨v1, v2, tl, xs, r1, r2, rfl, _⟩ := h
    rfl
  · obtain ⟨v1, v2, tl, xs, r1, r2, rfl, h1, h2, hl, hv, hw1, hw2, q⟩ := h
    have nd := sc_frozen.nd
    refine ⟨_, (pss_cons (ps_set (i := 3) nd rfl (by first | exact Or.inl rfl | exact Or.inr rfl) (pe_op op_add (k_cb T.f_max (k_max (K := K)) (pa_cons (pe_op op_cat (pe_op op_cat (pe_cal c_numbers_in hr (pa_cons (pv 0) pa_nil)) (pe_cal c_numbers_in hr (pa_cons (pv 1) pa_nil))) (pe_lst (pa_cons pe_int pa_nil))) pa_nil)) pe_int)) (pss_cons (ps_set (i := 4) nd rfl (by first | exact Or.inl rfl | exact Or.inr rfl) (pe_dc (own := [("at", 5), ("name", 6)]) rfl nd (k_enum (K := K) T (pa_cons (pe_cal c_variables_of hr (pa_cons (pv 0) pa_nil)) pa_nil)) (blkOk_by (N := N_frozen) (sc := defScope s_frozen) (by decide +kernel)) (fun _ _ _ _ _ => (k_pgt (K := K) (n := 2) (pgs_cons (pg_name (i := 5) nd rfl (by first | exact Or.inl rfl | exact Or.inr rfl)) (pgs_cons (pg_name (i := 6) nd rfl (by first | exact Or.inl rfl | exact Or.inr rfl)) pgs_nil)))) (fun _ _ _ _ _ => pts_nil) (fun _ _ _ _ _ => (pv 6)) (fun _ _ _ _ _ => (pe_op op_add (pv 3) (pv 5))))) (pss_cons (ps_set (i := 7) nd rfl (by first | exact Or.inl rfl | exact Or.inr rfl) (pe_mkC m_Facts hr (pa_cons (pv 2) pa_nil))) (pss_cons (ps_for PassesOwn.never rfl (k_itup (K := K) (k_ixT (K := K) (pv 0) pe_int)) (k_pgt (K := K) (n := 2) (pgs_cons (pg_name (i := 8) nd rfl (by first | exact Or.inl rfl | exact Or.inr rfl)) (pgs_cons (pg_name (i := 9) nd rfl (by first | exact Or.inl rfl | exact Or.inr rfl)) pgs_nil))) (pss_cons (ps_set (i := 10) nd rfl (by first | exact Or.inl rfl | exact Or.inr rfl) (k_tuple (K := K) T (pe_lc (own := [("term", 11)]) rfl nd (k_itup (K := K) (pv 9)) (blkOk_by (N := N_frozen) (sc := defScope s_frozen) (by decide +kernel)) (fun _ _ _ _ _ => (pg_name (i := 11) nd rfl (by first | exact Or.inl rfl | exact Or.inr rfl))) (fun _ _ _ _ _ => pts_nil) (fun _ _ _ _ _ => (pe_ifExp (pt_cmpR (k_eq (K := K) hr.units) (k_ixT (K := K) (pv 11) pe_int) pe_str (nomark _)) (pe_dget (hu_of hr) (pv 4) (k_ixT (K := K) (pv 11) pe_int) (fun _ _ => rfl)) (k_ixT (K := K) (pv 11) pe_int)))))) (pss_one (ps_if (pt_cmp (pc_isN (pe_mcal (pv 7) c_find hr (pa_cons (pv 8) (pa_cons (pv 10) pa_nil))))) (pss_one (ps_expr (pe_mcal (pv 7) c_add hr (pa_cons (pv 8) (pa_cons (pv 10) pa_nil))))) pss_nil)))) (pss_one (ps_ret (pe_tupF (pa_cons (pv 7) (pa_cons (k_tuple (K := K) T (pe_lc (own := [("name", 6)]) rfl nd (k_itup (K := K) (k_ixT (K := K) (pv 0) pe_int)) (blkOk_by (N := N_frozen) (sc := defScope s_frozen) (by decide +kernel)) (fun _ _ _ _ _ => (pg_name (i := 6) nd rfl (by first | exact Or.inl rfl | exact Or.inr rfl))) (fun _ _ _ _ _ => pts_nil) (fun _ _ _ _ _ => (pe_dget (hu_of hr) (pv 4) (pv 6) (fun _ _ => rfl))))) pa_nil))))))))), ?_⟩
    -- least
    have nin : ∀ (i : Nat) (v : V) (r : Rule) (σ : L2.St) (H1 : Hp), σ[i]? = some (some v) → NV K H1 v (encR r) → WfR r → EL (gx K) (tCall (sp_numbers_in K) [] E0 (tCons (tVar i) tNil)) σ H1 (((tmsOf r.2).filterMap numT).map .num) := fun i v r σ H1 hi hn hw =>
      ev_call (ea_one (ev_var (P := fun v H2 => NV K H2 v (encR r)) hi fun _ e => hn.ex e)) fun vs H2 r p Q q => by
        obtain ⟨v, rfl, nv⟩ := p
        exact ⟨v, _, rfl, nv, hw, fun p H' e h0 hp => q _ H' e ⟨p, rfl, Evl.fresh_back r h0, _, hp, nvs_ints _⟩⟩
    refine (el_cat (G := gx K) (el_cat (nin 0 v1 r1 _ H rfl h1 hw1) (nin 1 v2 r2 _ H rfl h2 hw2) ?_) (el_lst (eds_cons ed_int eds_nil)) ?_) H (Ex.refl _) _ fun v H1 e1 p => ?_
    · have a1 := tmsOf_len hw1.atoms
      have a2 := tmsOf_len hw2.atoms
      have b1 := List.length_filterMap_le numT (tmsOf r1.2)
      have b2 := List.length_filterMap_le numT (tmsOf r2.2)
      have c1 := hw1.most
      have c2 := hw2.most
      rw [List.length_map, List.length_map]
      omega
    · have a1 := tmsOf_len hw1.atoms
      have a2 := tmsOf_len hw2.atoms
      have b1 := List.length_filterMap_le numT (tmsOf r1.2)
      have b2 := List.length_filterMap_le numT (tmsOf r2.2)
      have c1 := hw1.most
      have c2 := hw2.most
      rw [List.length_append, List.length_map, List.length_map, List.length_singleton]
      omega
    obtain ⟨lp, rfl, _, ys, hlp, hys⟩ := p
    have ein : ((tmsOf r1.2).filterMap numT).map NestedKey.num ++ ((tmsOf r2.2).filterMap numT).map NestedKey.num ++ [NestedKey.num 0] = ((tmsOf r1.2).filterMap numT ++ (tmsOf r2.2).filterMap numT ++ [0]).map NestedKey.num := by simp
    rw [ein] at hys
    rw [nvs_num hys] at hlp
    refine ⟨lp, _, rfl, SqL.of hlp, by simp; omega, fun m hm hmax => ?_⟩
    refine ⟨m, 1, rfl, rfl, ?_⟩
    change tSeq _ _ _ [some v1, some v2, some (.ref tl), some (.int (m + 1)), none, none, none, none, none, none, none, none] _
    have hm01 : m = 0 ∨ m = 1 := by
      rcases List.mem_append.mp hm with hm | hm
      · rcases List.mem_append.mp hm with hm | hm
        · exact num_wf hw1.atoms hm
        · exact num_wf hw2.atoms hm
      · exact .inl (List.mem_singleton.mp hm)
    have hbig : ∀ c, Tm.val (.num c) ∈ tmsOf r1.2 ∨ Tm.val (.num c) ∈ tmsOf r2.2 → c < m + 1 := fun c hc => by
      have : c ≤ m := hmax c (by
        rcases hc with hc | hc
        · exact List.mem_append_left _ (List.mem_append_left _ (List.mem_filterMap.mpr ⟨_, hc, rfl⟩))
        · exact List.mem_append_left _ (List.mem_append_right _ (List.mem_filterMap.mpr ⟨_, hc, rfl⟩)))
      omega
    generalize hn : m + 1 = n at hbig
    have hn12 : n = 1 ∨ n = 2 := by omega
    clear hm01 hm hmax
    -- values
    show tSeq _ _ _ _ _
    have hvl : (varsOf r1.2).length ≤ 4 := varsOf_len hw1.atoms
    refine ⟨v1, rfl, v1, r1, rfl, h1.ex e1, hw1, fun vp H2 e2 _ hvp => ?_⟩
    have hvp' : ∀ H', Ex H2 H' → SqL K H' vp ((varsOf r1.2).map V.str) := fun H' e => SqL.of (e _ _ hvp)
    refine ⟨vp, _, rfl, hvp' H2 (Ex.refl _), fun D hD => ?_⟩
    have e12 := e1.trans e2
    have hD0 : H D = none := Evl.fresh_back e12 hD
    refine dc_it (walk_enum (K := K) (a := vp) (xs := (varsOf r1.2).map V.str)) (fun i H' => Ex H2 H' ∧ H' D = some (.dK (valK n ((varsOf r1.2).take i)))) ⟨Ex.new hD, upd_same⟩ (fun i H' _ hp => hvp' H' hp.1) (fun i x Ha Hb hi hp y => ?_) (fun H3 hp => ?_)
    · obtain ⟨Tt, x1, y1, rfl, hT, rfl, g1, g2⟩ := y
      have g1 := Option.some.inj g1
      subst g1
      have g2 : ((varsOf r1.2).map V.str)[i]? = some y1 := g2
      rw [List.getElem?_map] at g2
      cases hnm : (varsOf r1.2)[i]? with
      | none => rw [hnm] at g2; cases g2
      | some nm =>
      rw [hnm] at g2
      cases g2
      have e3 : Ex Ha (upd Ha Tt (.tup [.int (i : Nat), .str nm])) := Ex.new hT
      refine st_pair (G := gx K) (SqT.of upd_same) _ (Ex.refl _) _ ?_
      refine ⟨rfl, ?_⟩
      have hDa : upd Ha Tt (.tup [.int (i : Nat), .str nm]) D = some (.dK (valK n ((varsOf r1.2).take i))) := e3 _ _ hp.2
      have hil : ((varsOf r1.2).take i).length = i := by
        rw [List.length_map] at hi
        rw [List.length_take]
        omega
      refine ⟨.str nm, rfl, .int n, rfl, .int (i : Nat), rfl, n, (i : Nat), rfl, rfl, valK n ((varsOf r1.2).take i), .inr nm, rfl, hDa, ?_, (hp.1.trans e3).mut hD, ?_⟩
      · rw [valK_len, hil, sizeLine_eq]
        rw [List.length_map] at hi
        omega
      · rw [upd_same]
        have hnew : nm ∉ (varsOf r1.2).take i := fun hmem => by
          have hnd : (varsOf r1.2).Nodup := nodup_dedupS _
          have := List.take_append_drop i (varsOf r1.2)
          rw [← this] at hnd
          have hin : nm ∈ (varsOf r1.2).drop i := by
            have : ((varsOf r1.2).drop i)[0]? = some nm := by rw [List.getElem?_drop, Nat.add_zero, hnm]
            exact List.mem_of_getElem? this
          exact (List.nodup_append.mp hnd).2.2 _ hmem _ hin rfl
        have hput := valK_put (n := n) hnew
        rw [hil] at hput
        show some (HO.dK (putK (valK n ((varsOf r1.2).take i)) (.inr nm) (.int (n + (i : Nat))))) = _
        rw [hput, List.take_add_one, hnm]
        rfl
    obtain ⟨e23, hDv⟩ := hp
    rw [List.length_map, List.take_length] at hDv
    have e03 := e12.trans e23
    -- facts
    refine nmI ?_
    dsimp only
    refine q_mkFacts (i := 2) (tl := tl) (xs := xs) rfl (Evl.ex_l e03 hl) (hv.ex e03) fun H4 o a l t d e34 ho ha hlf ht hd hF => ?_
    have e04 := e03.trans e34
    have fb : ∀ b, H3 b = none → H b = none := fun b hb => Evl.fresh_back e03 hb
    have hDA : ∀ H', Ex H3 H' → H' D = some (.dK (valK n (varsOf r1.2))) := fun H' e => e _ _ hDv
    -- an instance of a term
    have edT : ∀ (te : TE) (σ : L2.St) (H' : Hp) (x : Str), Ex H3 H' → ED (gx K) te σ H' (.text x) → x ∈ varsOf r1.2 → σ[4]? = some (some (.ref D)) → ED (gx K) (tDGet (tVar 4) te) σ H' (instT n (varsOf r1.2) (.var x)) := fun te σ H' x e he hx h4 => fun Ha ra Q q => by
      refine ⟨.ref D, h4, ?_⟩
      refine he Ha ra _ fun v Hb rb nv => ?_
      cases nv
      have g := DGet.k (k := .inr x) (hDA Hb ((e.trans ra).trans rb))
      rw [valK_get, if_pos hx] at g
      exact ⟨D, _, rfl, g, q _ Hb rb (.int _)⟩
    show tSeq _ _ _ _ _
    have h14 := h1.ex e04
    refine q_for (G := gx K) trivial (ei_tup (ed_ix (i := 1) (ed_var (d := encR r1) rfl h14) ed_int rfl)) fun J H5 r5 hs => ?_
    obtain ⟨at_, us, rfl, t1, t2⟩ := hs
    have hul : us.length = r1.2.length := by rw [t2.len, List.length_map]
    have hkeep : ∀ (H' : Hp), Ex H5 H' → Ex H3 H' := fun H' e => (e34.trans r5).trans e
    refine ⟨us.length, _, _, fun j σ' H' => ∃ s5 s6 s8 s9 s10 s11, σ' = [some v1, some v2, some (.ref tl), some (.int n), some (.ref D), s5, s6, some (.ref o), s8, s9, s10, s11] ∧ Ex H3 H' ∧ Tx K H5 H' ∧ FactsAt P w K CF H' o a l t d (((r1.2.take j).map (instA n (varsOf r1.2))).foldl addF []) , walk_tup,
      ⟨none, none, none, none, none, none, rfl, e34.trans r5, Tx.refl K H5, hF.ex r5⟩, fun j σ' H' _ hp => ?_, fun j x σ' Ha Hb hj hp y => ?_, fun σ' H' hp => ?_⟩
    · obtain ⟨_, _, _, _, _, _, _, _, tx, _⟩ := hp
      exact tx.1 _ _ t1
    · obtain ⟨s5, s6, s8, s9, s10, s11, rfl, ex, tx, hFa⟩ := hp
      obtain ⟨rfl, hx⟩ := y
      obtain ⟨dd, hdd, nx⟩ := t2.getV hx
      rw [List.getElem?_map] at hdd
      cases hat : r1.2[j]? with
      | none => rw [hat] at hdd; cases hdd
      | some atm =>
      rw [hat] at hdd
      cases hdd
      have hmem := List.mem_of_getElem? hat
      have hwa := hw1.atoms _ hmem
      have nx := nx.t tx
      cases nx with
      | @tup T0 ws _ b1 b2 =>
      cases b2 with
      | @cons u1 vs1 _ _ c1 c2 =>
      cases c2 with
      | @cons u2 vs2 _ _ c3 c4 =>
      cases c4
      cases c1
      refine st_pair (G := gx K) b1.sq _ (Ex.refl _) _ ?_
      generalize hfs : ((r1.2.take j).map (instA n (varsOf r1.2))).foldl addF [] = fs at hFa
      have hfl : fs.length ≤ 5 := by
        have : ∀ (L acc : List Fact), (L.foldl addF acc).length ≤ acc.length + L.length := by
          intro L
          induction L with
          | nil => exact fun acc => Nat.le_refl _
          | cons x L ih =>
            intro acc
            have h2 := ih (addF acc x)
            have h3 := len_addF (fs := acc) (f := x)
            rw [List.foldl_cons, List.length_cons]
            omega
        have h4 := this ((r1.2.take j).map (instA n (varsOf r1.2))) []
        rw [hfs, List.length_nil, List.length_map, List.length_take] at h4
        have := hw1.most
        omega
      -- row
      have edR : ED (gx K) _ [some v1, some v2, some (.ref tl), some (.int n), some (.ref D), s5, s6, some (.ref o), some (.str atm.1), some u2, s10, s11] Hb (.tup (atm.2.map (instT n (varsOf r1.2)))) :=
        ed_tupleL (el_lcB (vs := [11]) (g := gName 11) (te := tIf (tTest (tOp (rEqN K) (tOp (rIxT K) (tVar 11) (tC (.int 0))) (tC (.str "var")))) (tDGet (tVar 4) (tOp (rIxT K) (tVar 11) (tC (.int 1)))) (tOp (rIxT K) (tVar 11) (tC (.int 1)))) Tm.enc (instT n (varsOf r1.2)) (tl := tVar 9) (xs := atm.2)
          (ed_var rfl c3) (by have := hwa.len; have := arN_le atm.1; omega) fun i tm x H6 r6 htm nz => ⟨_, st_name, rfl, by
            have h6 : ED (gx K) (tVar 11) [some v1, some v2, some (.ref tl), some (.int n), some (.ref D), s5, s6, some (.ref o), some (.str atm.1), some u2, s10, some x] H6 tm.enc := ed_var rfl nz
            have htmm : tm ∈ tmsOf r1.2 := List.mem_flatMap.mpr ⟨atm, hmem, List.mem_of_getElem? htm⟩
            refine ev_if (b := tm.isVar) (et_isVar h6) (fun hb => ?_) fun hb => ?_
            · cases tm with
              | val c => cases hb
              | var y => exact edT _ _ _ y (ex.trans r6) (ed_cont h6) (mem_varsOf.mpr htmm) rfl
            · cases tm with
              | var y => cases hb
              | val c => exact ed_cont h6⟩)
      refine q_asg (G := gx K) trivial edR fun rv H6 r6 nrow => ?_
      have hdr : ∀ d ∈ atm.2.map (instT n (varsOf r1.2)), d.depth ≤ 4 := fun d hd => by
        obtain ⟨tm, htm, rfl⟩ := List.mem_map.mp hd
        rw [inst_depth (hwa.tms tm htm)]
        omega
      have hF6 := hFa.ex r6
      obtain ⟨dx6, ho6⟩ := hF6.ins
      -- facts.find
      refine ifI ?_
      refine ⟨.ref o, rfl, o, dx6, _, rfl, ho6, rfl, .str atm.1, rfl, rv, rfl, ?_⟩
      refine ⟨o, a, l, t, d, fs, atm.1, rv, atm.2.map (instT n (varsOf r1.2)), rfl, hF6, hwa.tab, nrow, hdr, fun H7 r7 => ?_⟩
      have hF7 := hF6.ex r7
      obtain ⟨dx7, ho7⟩ := hF7.ins
      have tnext : (((r1.2.take (j + 1)).map (instA n (varsOf r1.2))).foldl addF []) = addF fs (instA n (varsOf r1.2) atm) := by
        rw [List.take_add_one, hat, List.map_append, List.foldl_append, hfs]
        rfl
      by_cases hin : instA n (varsOf r1.2) atm ∈ fs
      · obtain ⟨pn, hpn⟩ := plN_some hin
        have hpn' : valV (plN fs) (encF (atm.1, atm.2.map (instT n (varsOf r1.2)))) = some (V.int (pn : Nat)) := hpn
        rw [hpn']
        refine ⟨false, rfl, ?_⟩
        refine ifF ?_
        refine nextI ?_
        refine ⟨s5, s6, some (.str atm.1), some u2, some rv, s11, rfl, (ex.trans r6).trans r7, tx.trans ((Tx.ex r6).trans (Tx.ex r7)), ?_⟩
        rw [tnext, addF, if_pos hin]
        exact hF7
      · have hpn' : valV (plN fs) (encF (atm.1, atm.2.map (instT n (varsOf r1.2)))) = none := plN_none hin
        rw [hpn']
        refine ⟨true, rfl, ?_⟩
        refine ifT ?_
        refine ⟨.ref o, rfl, o, dx7, _, rfl, ho7, rfl, .str atm.1, rfl, rv, rfl, ?_⟩
        refine ⟨o, a, l, t, d, fs, atm.1, rv, atm.2.map (instT n (varsOf r1.2)), rfl, hF7, hwa.tab, nrow.ex r7, hdr, ?_, hin, by omega, fun H8 hk8 tx8 hF8 => ?_⟩
        · rw [List.length_map, hwa.len, arN_eq]
        · refine ⟨s5, s6, some (.str atm.1), some u2, some rv, s11, rfl, fun b z hb => ?_, ((tx.trans (Tx.ex r6)).trans (Tx.ex r7)).trans tx8, ?_⟩
          · exact hk8 b z (ne_of_none hb hd) (ne_of_none hb hlf) (ne_of_none hb ht) (((ex.trans r6).trans r7) b z hb)
          · rw [tnext, addF, if_neg hin]
            exact hF8
    · obtain ⟨s5, s6, s8, s9, s10, s11, rfl, ex, tx, hFa⟩ := hp
      rw [hul, List.take_length] at hFa
      have e0 := e03.trans ex
      obtain ⟨dxf, hof⟩ := hFa.ins
      refine ⟨.ref o, rfl, ?_⟩
      have edH : ED (gx K) _ [some v1, some v2, some (.ref tl), some (.int n), some (.ref D), s5, s6, some (.ref o), s8, s9, s10, s11] H' (.tup (r1.1.map fun x => instT n (varsOf r1.2) (.var x))) :=
        ed_tupleL (el_lcB (vs := [6]) (g := gName 6) (te := tDGet (tVar 4) (tVar 6)) (tl := tOp (rIxT K) (tVar 0) (tC (.int 0))) NestedKey.text (fun x => instT n (varsOf r1.2) (.var x)) (xs := r1.1) (ed_ix (i := 0) (ed_var (d := encR r1) rfl (h1.ex e0)) ed_int rfl)
          (by have := hw1.head; omega) fun i x v H6 r6 hx nz => ⟨_, st_name, rfl, edT _ _ _ x (ex.trans r6) (ed_var rfl nz) (mem_varsOf.mpr (hw1.safe x (List.mem_of_getElem? hx))) rfl⟩)
      refine edH H' (Ex.refl _) _ fun rv H6 r6 nrv => ?_
      refine ⟨(by rw [sizeLine_eq]; exact Nat.le_of_ble_eq_true rfl), fun tp ob htp hob => ?_⟩
      have r7 : Ex H6 (upd H6 tp (.frz ob (.tup [.ref o, rv]))) := Ex.new htp
      exact q _ n tp o a l t d rv ((e0.trans r6).trans r7) (fb o ho) (fb a ha) (fb l hlf) (fb t ht) (fb d hd) hn12 hbig ((hFa.ex r6).ex r7) (nrv.ex r7) ⟨ob, upd_same, hob⟩
end
end Ew
set_option Elab.async false
set_option linter.all false
set_option maxRecDepth 100000
set_option maxHeartbeats 4000000
namespace Ew
open PySem PySem.Spec PyProof.Rows L2
open Evl (Ex)
/-! ### puts -/
section
variable {κ β : Type} [DecidableEq κ]
theorem aGet_app (m : List (κ × β)) (k k' : κ) (v : β) (h : aGet m k = none) : aGet (m ++ [(k, v)]) k' = if k' = k then some v else aGet m k' := by
  induction m with
  | nil =>
    by_cases e : k' = k
    · subst e; rw [List.nil_append, aGet_pos rfl, if_pos rfl]
    · rw [List.nil_append, aGet_neg (fun z => e z.symm), if_neg e]
  | cons p m ih =>
    have hp : ¬ p.1 = k := fun e => by rw [aGet_pos e] at h; cases h
    rw [aGet_neg hp] at h
    rw [List.cons_append]
    by_cases e : p.1 = k'
    · rw [aGet_pos e, aGet_pos e, if_neg (fun z => hp (e.trans z))]
    · rw [aGet_neg e, aGet_neg e, ih h]
theorem aGet_rep (k k' : κ) (v : β) : ∀ m : List (κ × β), aGet (m.map fun p => if p.1 = k then (p.1, v) else p) k' = if k' = k then (aGet m k).map (fun _ => v) else aGet m k'
  | [] => by
    show none = _
    split <;> rfl
  | p :: m => by
    rw [List.map_cons]
    by_cases hp : p.1 = k
    · rw [if_pos hp]
      by_cases e : k' = k
      · subst e
        rw [aGet_pos (p := (p.1, v)) hp, aGet_pos hp, if_pos rfl]
        rfl
      · have hp' : ¬ p.1 = k' := fun z => e (z.symm.trans hp)
        rw [aGet_neg (p := (p.1, v)) hp', aGet_neg hp', aGet_rep k k' v m]
        simp only [if_neg e]
    · rw [if_neg hp]
      by_cases e : p.1 = k'
      · rw [aGet_pos e, aGet_pos e, if_neg (fun z => hp (e.trans z))]
      · rw [aGet_neg e, aGet_neg e, aGet_rep k k' v m, aGet_neg hp]
theorem aGet_put (m : List (κ × β)) (k k' : κ) (v : β) : aGet (aPut m k v) k' = if k' = k then some v else aGet m k' := by
  cases h : aGet m k with
  | none => rw [aPut_new h, aGet_app m k k' v h]
  | some w =>
    rw [aPut_old h, aGet_rep, h]
    rfl
theorem aPut_fst (m : List (κ × β)) (k : κ) (v : β) : (aPut m k v).map (·.1) = if (aGet m k).isSome then m.map (·.1) else m.map (·.1) ++ [k] := by
  cases h : aGet m k with
  | none => rw [aPut_new h]; simp
  | some w =>
    rw [aPut_old h, List.map_map]
    have e : ((fun p : κ × β => p.1) ∘ fun p => if p.1 = k then (p.1, v) else p) = fun p => p.1 := by
      funext p
      show (if p.1 = k then (p.1, v) else p).1 = p.1
      split <;> rfl
    rw [e]
    rfl
theorem aGet_isSome {m : List (κ × β)} {k : κ} : (aGet m k).isSome = true ↔ k ∈ m.map (·.1) := by
  constructor
  · intro h
    obtain ⟨v, hv⟩ := Option.isSome_iff_exists.mp h
    exact List.mem_map.mpr ⟨_, aGet_mem hv, rfl⟩
  · intro h
    cases e : aGet m k with
    | some v => rfl
    | none =>
      obtain ⟨p, hp, e2⟩ := List.mem_map.mp h
      have : (m.any fun p => decide (p.1 = k)) = true := List.any_eq_true.mpr ⟨p, hp, decide_eq_true e2⟩
      rw [any_aGet, e] at this
      cases this
end
/-! ### fits -/
section
variable {β : Type} [DecidableEq β]
def tval (emb : Nk → β) (m : List (Str × β)) : Tm → Option β
  | .val c => some (emb c)
  | .var x => aGet m x
theorem fit1_spec {emb : Nk → β} {m m' : List (Str × β)} {t : Tm} {u : β} (h : fit1 emb m t u = some m') :
    (∀ x v, aGet m x = some v → aGet m' x = some v) ∧ tval emb m' t = some u ∧ (∀ x, (aGet m' x).isSome → (aGet m x).isSome ∨ t = .var x) ∧ (∀ p ∈ m', p ∈ m ∨ p.2 = u) ∧ m'.length ≤ m.length + 1 := by
  cases t with
  | val c =>
    simp only [fit1] at h
    split at h
    · cases h
      rename_i e
      exact ⟨fun _ _ h => h, by rw [tval, e], fun x h => .inl h, fun p h => .inl h, by omega⟩
    · cases h
  | var y =>
    cases g : aGet m y with
    | some w =>
      rw [fit1_old g] at h
      split at h
      · cases h
        rename_i e
        subst e
        exact ⟨fun _ _ h => h, g, fun x h => .inl h, fun p h => .inl h, by omega⟩
      · cases h
    | none =>
      rw [fit1_new g] at h
      cases h
      refine ⟨fun x v hx => ?_, ?_, fun x hx => ?_, fun p hp => ?_, aPut_len _ _ _⟩
      · rw [aGet_put, if_neg (fun e => by rw [e, g] at hx; cases hx)]
        exact hx
      · rw [tval, aGet_put, if_pos rfl]
      · rw [aGet_put] at hx
        split at hx
        · rename_i e
          exact .inr (by rw [e])
        · exact .inl hx
      · rw [aPut_new g] at hp
        rcases List.mem_append.mp hp with hp | hp
        · exact .inl hp
        · exact .inr (by rw [List.mem_singleton.mp hp])
theorem fitL_spec {emb : Nk → β} : ∀ {zs : List (Tm × β)} {m m' : List (Str × β)}, fitL emb zs m = some m' →
    (∀ x v, aGet m x = some v → aGet m' x = some v) ∧ (∀ z ∈ zs, tval emb m' z.1 = some z.2) ∧ (∀ x, (aGet m' x).isSome → (aGet m x).isSome ∨ Tm.var x ∈ zs.map (·.1)) ∧ (∀ p ∈ m', p ∈ m ∨ ∃ z ∈ zs, p.2 = z.2) ∧ m'.length ≤ m.length + zs.length
  | [], m, m', h => by
    cases h
    exact ⟨fun _ _ h => h, fun z hz => (nomatch hz), fun x h => .inl h, fun p h => .inl h, by omega⟩
  | z :: zs, m, m', h => by
    have h : (fit1 emb m z.1 z.2).bind (fitL emb zs) = some m' := h
    cases g : fit1 emb m z.1 z.2 with
    | none => rw [g] at h; cases h
    | some m1 =>
      rw [g] at h
      have h : fitL emb zs m1 = some m' := h
      obtain ⟨a1, a2, a3, a4, a5⟩ := fit1_spec g
      obtain ⟨b1, b2, b3, b4, b5⟩ := fitL_spec h
      refine ⟨fun x v hx => b1 x v (a1 x v hx), fun y hy => ?_, fun x hx => ?_, fun p hp => ?_, by rw [List.length_cons]; omega⟩
      · rcases List.mem_cons.mp hy with rfl | hy
        · cases ht : y.1 with
          | val c => rw [ht] at a2; exact a2
          | var x => rw [ht] at a2; exact b1 x _ a2
        · exact b2 y hy
      · rw [List.map_cons]
        rcases b3 x hx with h | h
        · rcases a3 x h with h | h
          · exact .inl h
          · exact .inr (by rw [h]; exact List.mem_cons_self)
        · exact .inr (List.mem_cons_of_mem _ h)
      · rcases b4 p hp with h | ⟨y, hy, h⟩
        · rcases a4 p h with h | h
          · exact .inl h
          · exact .inr ⟨z, List.mem_cons_self, h⟩
        · exact .inr ⟨y, List.mem_cons_of_mem _ hy, h⟩
end
/-! ### the ways of a rule, with their monomials -/
abbrev Way := List (Str × Nk) × Mo
def stepR (fs : List Fact) (a : Atom) (e : Way) : List Way := (rowsOf fs a.1).filterMap fun r => (fitL nkId (a.2.zip r.2) e.1).map fun m => (m, mulMo e.2 (r.1 : Nat))
def stepW (fs : List Fact) (W : List Way) (a : Atom) : List Way := W.flatMap (stepR fs a)
def waysP (fs : List Fact) (as : List Atom) : List Way := as.foldl (stepW fs) [([], [])]
def headRow (h : List Str) (m : List (Str × Nk)) : Nk := .tup (h.map fun x => (aGet m x).getD .none)
def grp1 (h : List Str) (g : List (Nk × List Mo)) (e : Way) : List (Nk × List Mo) := aPut g (headRow h e.1) (((aGet g (headRow h e.1)).getD []) ++ [e.2])
def grpP (h : List Str) (W : List Way) : List (Nk × List Mo) := W.foldl (grp1 h) []
def WfFs (fs : List Fact) : Prop := ∀ f ∈ fs, Tab f.1 ∧ f.2.length = arN f.1 ∧ ∀ d ∈ f.2, d.depth ≤ 4
theorem rowsOf_mem {fs : List Fact} {x : Str} {r : Nat × List Nk} (h : r ∈ rowsOf fs x) : fs[r.1]? = some (x, r.2) := by
  obtain ⟨p, hp, e⟩ := List.mem_filterMap.mp h
  by_cases hx : p.1.1 = x
  · rw [if_pos hx] at e
    cases e
    obtain ⟨i, hi⟩ := List.getElem?_of_mem hp
    rw [plIx_get] at hi
    cases hf : fs[i]? with
    | none => rw [hf] at hi; cases hi
    | some f =>
      rw [hf] at hi
      cases hi
      show fs[0 + i]? = _
      rw [Nat.zero_add, hf, ← hx]
  · rw [if_neg hx] at e
    cases e
theorem rowsOf_len (fs : List Fact) (x : Str) : (rowsOf fs x).length ≤ fs.length := by
  have := List.length_filterMap_le (fun p : Fact × Nat => if p.1.1 = x then some (p.2, p.1.2) else none) (plIx 0 fs)
  rw [plIx_len] at this
  exact this
/-- what holds of every way: keys bound, depths, lengths -/
structure WayOk (as : List Atom) (e : Way) : Prop where
  bound : ∀ x, Tm.var x ∈ tmsOf as → (aGet e.1 x).isSome
  only : ∀ x, (aGet e.1 x).isSome → Tm.var x ∈ tmsOf as
  deep : ∀ p ∈ e.1, (nkId p.2).depth ≤ 4
  len : e.1.length ≤ (tmsOf as).length
  mo : (e.2.map (·.1)).Nodup
  mlen : e.2.length ≤ as.length
theorem mulMo_nodup {M : Mo} {f : Int} (h : (M.map (·.1)).Nodup) : ((mulMo M f).map (·.1)).Nodup := by
  have h1 : ((bump M f 1).map (·.1)).Nodup := aPut_nodup h
  exact ((List.mergeSort_perm _ _).map _).nodup_iff.mpr h1
theorem mulMo_len {M : Mo} {f : Int} : (mulMo M f).length ≤ M.length + 1 := by
  rw [mulMo, length_sortMo]
  exact aPut_len _ _ _
theorem WayOk.step {fs : List Fact} (hfs : WfFs fs) {as : List Atom} {a : Atom} {e e' : Way} (h : WayOk as e) (ha : a.2.length = arN a.1) (hm : e' ∈ stepR fs a e) : WayOk (as ++ [a]) e' := by
  obtain ⟨r, hr, e1⟩ := List.mem_filterMap.mp hm
  cases hf : fitL nkId (a.2.zip r.2) e.1 with
  | none => rw [hf] at e1; cases e1
  | some m =>
  rw [hf] at e1
  cases e1
  obtain ⟨b1, b2, b3, b4, b5⟩ := fitL_spec hf
  have hfr := rowsOf_mem hr
  obtain ⟨w1, w2, w3⟩ := hfs _ (List.mem_of_getElem? hfr)
  have hlen : a.2.length = r.2.length := by rw [ha, w2]
  have hz : (a.2.zip r.2).map (·.1) = a.2 := List.map_fst_zip (by omega)
  have et : tmsOf (as ++ [a]) = tmsOf as ++ a.2 := by simp [tmsOf]
  refine ⟨fun x hx => ?_, fun x hx => ?_, fun p hp => ?_, ?_, mulMo_nodup h.mo, ?_⟩
  · rw [et] at hx
    rcases List.mem_append.mp hx with hx | hx
    · obtain ⟨v, hv⟩ := Option.isSome_iff_exists.mp (h.bound x hx)
      rw [b1 x v hv]
      rfl
    · rw [← hz] at hx
      obtain ⟨z, hz1, hz2⟩ := List.mem_map.mp hx
      have := b2 z hz1
      rw [hz2] at this
      have this : aGet m x = some z.2 := this
      rw [this]
      rfl
  · rw [et]
    rcases b3 x hx with h1 | h1
    · exact List.mem_append_left _ (h.only x h1)
    · rw [hz] at h1
      exact List.mem_append_right _ h1
  · rcases b4 p hp with h1 | ⟨z, hz1, h1⟩
    · exact h.deep p h1
    · rw [h1]
      exact w3 _ (List.of_mem_zip hz1).2
  · rw [et, List.length_append]
    rw [List.length_zip] at b5
    have := h.len
    show m.length ≤ _
    omega
  · rw [List.length_append, List.length_singleton]
    have := h.mlen
    have := mulMo_len (M := e.2) (f := (r.1 : Nat))
    show (mulMo e.2 (r.1 : Nat)).length ≤ _
    omega
theorem WayOk.nil : WayOk [] (([], []) : Way) := ⟨fun x h => (nomatch h), fun x h => (by cases h), fun p h => (nomatch h), Nat.le_refl _, List.nodup_nil, Nat.le_refl _⟩
theorem waysP_snoc (fs : List Fact) (as : List Atom) (a : Atom) : waysP fs (as ++ [a]) = stepW fs (waysP fs as) a := by rw [waysP, List.foldl_append]; rfl
theorem waysP_ok {fs : List Fact} (hfs : WfFs fs) {as : List Atom} (ha : ∀ a ∈ as, a.2.length = arN a.1) : ∀ e ∈ waysP fs as, WayOk as e := by
  have : ∀ (bs as : List Atom), (∀ a ∈ as ++ bs, a.2.length = arN a.1) → (∀ e ∈ waysP fs as, WayOk as e) → ∀ e ∈ waysP fs (as ++ bs), WayOk (as ++ bs) e := by
    intro bs
    induction bs with
    | nil => intro as _ h; rw [List.append_nil]; exact h
    | cons b bs ih =>
      intro as hl h
      have e : as ++ b :: bs = (as ++ [b]) ++ bs := by simp
      rw [e] at hl ⊢
      refine ih (as ++ [b]) hl fun e he => ?_
      rw [waysP_snoc] at he
      obtain ⟨e0, h0, h1⟩ := List.mem_flatMap.mp he
      exact (h e0 h0).step hfs (hl b (by simp)) h1
  have h := this as [] (by simpa using ha) (fun e he => by
    have : e = (([], []) : Way) := List.mem_singleton.mp he
    rw [this]
    exact WayOk.nil)
  simpa using h
theorem stepW_len (fs : List Fact) (W : List Way) (a : Atom) : (stepW fs W a).length ≤ W.length * fs.length := by
  rw [stepW, List.length_flatMap]
  have : ∀ W : List Way, (W.map fun e => (stepR fs a e).length).sum ≤ W.length * fs.length := by
    intro W
    induction W with
    | nil => simp
    | cons e W ih =>
      have h1 : (stepR fs a e).length ≤ fs.length := Nat.le_trans (List.length_filterMap_le _ _) (rowsOf_len fs a.1)
      rw [List.map_cons, List.sum_cons, List.length_cons, Nat.succ_mul]
      omega
  exact this W
theorem waysP_len {fs : List Fact} (h5 : fs.length ≤ 5) (as : List Atom) : (waysP fs as).length ≤ 5 ^ as.length := by
  have : ∀ (bs as : List Atom), (waysP fs as).length ≤ 5 ^ as.length → (waysP fs (as ++ bs)).length ≤ 5 ^ (as ++ bs).length := by
    intro bs
    induction bs with
    | nil => intro as h; rw [List.append_nil]; exact h
    | cons b bs ih =>
      intro as h
      have e : as ++ b :: bs = (as ++ [b]) ++ bs := by simp
      rw [e]
      refine ih (as ++ [b]) ?_
      rw [waysP_snoc, List.length_append, List.length_singleton, Nat.pow_succ]
      have h1 := stepW_len fs (waysP fs as) b
      exact Nat.le_trans h1 (Nat.mul_le_mul h h5)
  have h := this as [] (Nat.le_refl 1)
  simpa using h
end Ew
set_option Elab.async false
set_option linter.all false
set_option maxRecDepth 100000
set_option maxHeartbeats 4000000
namespace Ew
open PySem PySem.Spec PyProof.Rows L2
open Evl (Ex)
theorem prd_get {α β : Type} {F : α → β → Prop} : ∀ {xs : List α} {ys : List β} {i : Nat} {x : α}, Paired F xs ys → xs[i]? = some x → ∃ y, ys[i]? = some y ∧ F x y
  | _, _, i, x, .nil, h => by simp at h
  | _, _, 0, x, .cons h t, e => by
    simp only [List.getElem?_cons_zero, Option.some.injEq] at e
    subst e
    exact ⟨_, rfl, h⟩
  | _, _, i + 1, x, .cons h t, e => by
    rw [List.getElem?_cons_succ] at e ⊢
    exact prd_get t e
/-! ### ways on the heap -/
def WayAt (K : PySem.W.Frag) (H : Hp) (v : V) (e : Way) : Prop := ∃ tp d u, v = .ref tp ∧ SqT K H tp [.ref d, u] ∧ DKA K H d (encE e.1) ∧ NV K H u (encPo [(e.2, 1)])
theorem WayAt.ex {K : PySem.W.Frag} {H H' : Hp} {v : V} {e : Way} (h : WayAt K H v e) (r : Ex H H') : WayAt K H' v e := by
  obtain ⟨tp, d, u, h0, h1, h2, h3⟩ := h
  exact ⟨tp, d, u, h0, Evl.ex_t r h1, h2.mono (Tx.ex r) (r d), h3.ex r⟩
theorem WayAt.up {K : PySem.W.Frag} {H : Hp} {v : V} {e : Way} {D : Addr} {acc acc' : List V} (h : WayAt K H v e) (hD : H D = some (.lst acc)) : WayAt K (upd H D (.lst acc')) v e := by
  obtain ⟨tp, d, u, h0, h1, h2, h3⟩ := h
  have t : Tx K H (upd H D (.lst acc')) := Tx.upd (.inr (by rw [hD]; trivial))
  refine ⟨tp, d, u, h0, t.1 _ _ h1, ?_, h3.t t⟩
  obtain ⟨kvs, k1, k2⟩ := h2
  have ne : d ≠ D := fun z => by rw [z, hD] at k1; cases k1
  exact ⟨kvs, by rw [upd_ne ne]; exact k1, k2.imp fun _ _ z => z.t t⟩
/-- a list of worths, made behind H0 -/
def LAt (K : PySem.W.Frag) (H0 H : Hp) (v : V) (Ms : List Mo) : Prop := ∃ l xs, v = .ref l ∧ H0 l = none ∧ H l = some (.lst xs) ∧ NVs K H xs (Ms.map fun M => encPo [(M, 1)])
theorem LAt.ex {K : PySem.W.Frag} {H0 H H' : Hp} {v : V} {Ms : List Mo} (h : LAt K H0 H v Ms) (r : Ex H H') : LAt K H0 H' v Ms := by
  obtain ⟨l, xs, h0, h1, h2, h3⟩ := h
  exact ⟨l, xs, h0, h1, r _ _ h2, h3.ex r⟩
theorem LAt.up {K : PySem.W.Frag} {H0 H : Hp} {v : V} {Ms : List Mo} {D : Addr} {o : HO} (h : LAt K H0 H v Ms) (hne : v ≠ .ref D) (hm : Mut (H D)) : LAt K H0 (upd H D o) v Ms := by
  obtain ⟨l, xs, h0, h1, h2, h3⟩ := h
  have ne : l ≠ D := fun z => hne (by rw [h0, z])
  exact ⟨l, xs, h0, h1, by rw [upd_ne ne]; exact h2, h3.t (Tx.upd (.inr hm))⟩
theorem grp_upd {K : PySem.W.Frag} {H0 H : Hp} {l : Addr} {k : Nk} {u : V} {M : Mo} {ys : List V} (hl : H l = some (.lst ys)) (nu : NV K H u (encPo [(M, 1)])) : ∀ {kvs : List (Nk × V)} {g : List (Nk × List Mo)}, MRel (LAt K H0 H) kvs g → (kvs.map (·.2)).Nodup → (g.map (·.1)).Nodup → valV kvs k = some (.ref l) →
    ∃ Ms, aGet g k = some Ms ∧ MRel (LAt K H0 (upd H l (.lst (ys ++ [u])))) kvs (aPut g k (Ms ++ [M]))
  | _, _, .nil, _, _, e => by cases e
  | p :: kvs, q :: g, .cons h t, n1, n2, e => by
    have hm : Mut (H l) := by rw [hl]; trivial
    rw [List.map_cons, List.nodup_cons] at n1 n2
    by_cases c : p.1 = k
    · rw [valV_pos c] at e
      have e : p.2 = .ref l := Option.some.inj e
      obtain ⟨l', xs, h0, h1, h2, h3⟩ := h.2
      rw [e] at h0
      have el : l = l' := V.ref.inj h0
      subst el
      rw [hl] at h2
      cases h2
      have cq : q.1 = k := h.1.symm.trans c
      have tx : Tx K H (upd H l (.lst (ys ++ [u]))) := Tx.upd (.inr hm)
      refine ⟨q.2, aGet_pos cq, ?_⟩
      rw [aPut_old (aGet_pos cq), List.map_cons, if_pos cq]
      refine .cons ⟨h.1, l, ys ++ [u], e, h1, upd_same, ?_⟩ ?_
      · rw [List.map_append]
        exact (h3.t tx).snoc (nu.t tx)
      · have hr : g.map (fun p => if p.1 = k then (p.1, q.2 ++ [M]) else p) = g := by
          rw [List.map_congr_left (g := id), List.map_id]
          intro y hy
          exact if_neg fun z => n2.1 (List.mem_map.mpr ⟨y, hy, z.trans cq.symm⟩)
        rw [hr]
        have n1' : ∀ y ∈ kvs, y.2 ≠ .ref l := fun y hy z => n1.1 (List.mem_map.mpr ⟨y, hy, z.trans e.symm⟩)
        clear e n1 n2 hr
        induction t with
        | nil => exact .nil
        | cons h t ih => exact .cons ⟨h.1, h.2.up (n1' _ List.mem_cons_self) hm⟩ (ih fun y hy => n1' y (List.mem_cons_of_mem _ hy))
    · rw [valV_neg c] at e
      obtain ⟨Ms, g1, g2⟩ := grp_upd hl nu t n1.2 n2.2 e
      have cq : ¬ q.1 = k := fun z => c (h.1.trans z)
      refine ⟨Ms, by rw [aGet_neg cq]; exact g1, ?_⟩
      rw [aPut_old (by rw [aGet_neg cq]; exact g1), List.map_cons, if_neg cq]
      rw [aPut_old g1] at g2
      refine .cons ⟨h.1, h.2.up (fun z => n1.1 ?_) hm⟩ g2
      rw [z]
      exact List.mem_map.mpr ⟨_, aGet_mem e, rfl⟩
theorem grpP_nodup (h : List Str) (W : List Way) : ((grpP h W).map (·.1)).Nodup := by
  have : ∀ (W : List Way) (g : List (Nk × List Mo)), (g.map (·.1)).Nodup → ((W.foldl (grp1 h) g).map (·.1)).Nodup := by
    intro W
    induction W with
    | nil => exact fun g hg => hg
    | cons e W ih => exact fun g hg => ih _ (aPut_nodup hg)
  exact this W [] List.nodup_nil
theorem grpP_len (h : List Str) (W : List Way) : (grpP h W).length ≤ W.length := by
  have : ∀ (W : List Way) (g : List (Nk × List Mo)), (W.foldl (grp1 h) g).length ≤ g.length + W.length := by
    intro W
    induction W with
    | nil => exact fun g => Nat.le_refl _
    | cons e W ih =>
      intro g
      have h1 := ih (grp1 h g e)
      have h2 := aPut_len g (headRow h e.1) (((aGet g (headRow h e.1)).getD []) ++ [e.2])
      rw [List.foldl_cons, List.length_cons]
      have h3 : (grp1 h g e).length ≤ g.length + 1 := h2
      omega
  have h1 := this W []
  rw [List.length_nil, Nat.zero_add] at h1
  exact h1
theorem grpP_ne (h : List Str) (W : List Way) : ∀ p ∈ grpP h W, p.2 ≠ [] := by
  have : ∀ (W : List Way) (g : List (Nk × List Mo)), (∀ p ∈ g, p.2 ≠ []) → ∀ p ∈ W.foldl (grp1 h) g, p.2 ≠ [] := by
    intro W
    induction W with
    | nil => exact fun g hg => hg
    | cons e W ih =>
      intro g hg
      refine ih _ fun p hp => ?_
      have hp : p ∈ aPut g (headRow h e.1) (((aGet g (headRow h e.1)).getD []) ++ [e.2]) := hp
      cases hx : aGet g (headRow h e.1) with
      | none =>
        rw [hx, aPut_new hx] at hp
        rcases List.mem_append.mp hp with hp | hp
        · exact hg p hp
        · rw [List.mem_singleton.mp hp]
          simp
      | some w =>
        rw [hx, aPut_old hx] at hp
        obtain ⟨q, hq, e⟩ := List.mem_map.mp hp
        split at e
        · rw [← e]
          simp
        · rw [← e]
          exact hg q hq
  exact this W [] fun p hp => (nomatch hp)
theorem grpP_lens (h : List Str) (W : List Way) : ∀ p ∈ grpP h W, p.2.length ≤ W.length := by
  have : ∀ (W : List Way) (g : List (Nk × List Mo)) (n : Nat), (∀ p ∈ g, p.2.length ≤ n) → ∀ p ∈ W.foldl (grp1 h) g, p.2.length ≤ n + W.length := by
    intro W
    induction W with
    | nil => exact fun g n hg => hg
    | cons e W ih =>
      intro g n hg p hp
      have := ih (grp1 h g e) (n + 1) (fun p hp => ?_) p hp
      · rw [List.length_cons]; omega
      have hp : p ∈ aPut g (headRow h e.1) (((aGet g (headRow h e.1)).getD []) ++ [e.2]) := hp
      cases hx : aGet g (headRow h e.1) with
      | none =>
        rw [hx, aPut_new hx] at hp
        rcases List.mem_append.mp hp with hp | hp
        · have := hg p hp; omega
        · rw [List.mem_singleton.mp hp]
          simp
      | some w =>
        rw [hx, aPut_old hx] at hp
        have := hg _ (aGet_mem hx)
        obtain ⟨q, hq, e⟩ := List.mem_map.mp hp
        split at e
        · rw [← e]
          simp at this ⊢
          exact this
        · rw [← e]
          have := hg q hq
          omega
  have h1 := this W [] 0 fun p hp => (nomatch hp)
  intro p hp
  have := h1 p hp
  omega
theorem mrel_val {κ β : Type} [DecidableEq κ] {R : V → β → Prop} {kvs : List (κ × V)} {m : List (κ × β)} (h : MRel R kvs m) {k : κ} {v : V} (e : valV kvs k = some v) : ∃ d, aGet m k = some d ∧ R v d := by
  cases hg : aGet m k with
  | none => rw [h.none hg] at e; cases e
  | some d =>
    obtain ⟨v', h1, h2⟩ := h.some hg
    rw [e] at h1
    cases h1
    exact ⟨d, rfl, h2⟩
theorem mrel_none {κ β : Type} [DecidableEq κ] {R : V → β → Prop} {kvs : List (κ × V)} {m : List (κ × β)} (h : MRel R kvs m) {k : κ} (e : valV kvs k = none) : aGet m k = none := by
  cases hg : aGet m k with
  | none => rfl
  | some d =>
    obtain ⟨v', h1, h2⟩ := h.some hg
    rw [e] at h1
    cases h1
theorem grpP_snoc (h : List Str) (W : List Way) (e : Way) : grpP h (W ++ [e]) = grp1 h (grpP h W) e := by rw [grpP, List.foldl_append]; rfl
theorem headRow_depth {h : List Str} {m : List (Str × Nk)} (hd : ∀ p ∈ m, (nkId p.2).depth ≤ 4) : (headRow h m).depth ≤ 5 := by
  refine depth_tupL (fun x : Str => (aGet m x).getD .none) 4 h fun x _ => ?_
  cases e : aGet m x with
  | none => exact Nat.zero_le _
  | some v => exact hd _ (aGet_mem e)
abbrev N_rule_meaning : List Str := ["rule", "facts", "semiring", "worths", "algebra", "ways", "table", "terms", "following", "known", "worth", "number", "row", "found", "rows", "name"]
theorem sc_rule_meaning : FnScope N_rule_meaning ["rule", "facts", "semiring", "worths"] (defScope s_rule_meaning) := ⟨rfl, rfl, rfl, by decide +kernel, rfl, by decide +kernel, by decide +kernel⟩
def polyOf (r : Rule) (fs : List Fact) : List (Nk × Nk) := (grpP r.1 (waysP fs r.2)).map fun p => (p.1, encPo (sumPo p.2))
def sp_rule_meaning (P : Program) (w : World) (K : PySem.W.Frag) (CF CP : Addr) : Sp := fun vs H Q _ => ∃ v1 o S wa a l t d r fs wm, vs = [v1, .ref o, .ref S, .ref wa] ∧ NV K H v1 (encR r) ∧ WfR r ∧ FactsAt P w K CF H o a l t d fs ∧ WfFs fs ∧ fs.length ≤ 5 ∧ PolS CP H S ∧ DKA K H wa wm ∧
  (∀ i : Nat, i < fs.length → aGet wm (Sum.inl (i : Int)) = some (encPo [([((i : Int), 1)], 1)])) ∧ (∀ p ∈ grpP r.1 (waysP fs r.2), ∀ j, (sumPo (p.2.take j)).length ≤ 400) ∧
  ∀ H' D, Ex H H' → H D = none → DNA P w K H' D (polyOf r fs) → Q (.ref D) H'
section
variable {P : Program} {w : World} {K : PySem.W.Frag} {mg : Str → Option Value} {base : Heap} {CF CI CP : Addr}
theorem ok_rule_meaning (C : FCls K CF) {k : Nat} {f : Addr} {fd : FuncData} (F : FnP K "rule_meaning" "rule_meaning" s_rule_meaning f fd) (T : Txt mg) (c_fitted : Callee P w K mg base "fitted" (k + 1) ["terms", "row", "known"] (sp_fitted K))
    (m_InSemiring : Maker P w K mg base "InSemiring" CI k ["self", "semiring"] (sp_init CI)) (c_one : MCallee P w K mg base CP "one" (k + 1) ["self"] (sp_one K)) (c_times : MCallee P w K mg base CP "times" (k + 1) ["self", "a", "b"] (sp_times K))
    (c_rows : MCallee P w K mg base CF "rows" (k + 1) ["self", "table"] (sp_rows P w K CF)) (c_sum_of : MCallee P w K mg base CI "sum_of" (k + 1) ["self", "worths"] (sp_sum_of K CI CP)) :
    FnOk P w K mg base CX0 (k + 2) f fd ["rule", "facts", "semiring", "worths"] (sp_rule_meaning P w K CF CP) := by
  refine mk_ok F sc_rule_meaning (fun vs H Q E h => ?_) (fun cdv A outer s H vs Q E hr h => ?_)
  · obtain ⟨v1, o, S, wa, a, l, t, d, r, fs, wm, rfl, _⟩ := h
    rfl
  · obtain ⟨v1, o, S, wa, a, l, t, d, r, fs, wm, rfl, h1, hw, hF, hfs, h5, ⟨dxS, hS⟩, hwm, hwg, hcap, q⟩ := h
    have nd := sc_rule_meaning.nd
    refine ⟨_, (pss_cons (ps_set (i := 4) nd rfl (by first | exact Or.inl rfl | exact Or.inr rfl) (pe_mkC m_InSemiring hr (pa_cons (pv 2) pa_nil))) (pss_cons (ps_set (i := 5) nd rfl (by first | exact Or.inl rfl | exact Or.inr rfl) (pe_lst (pa_cons (pe_tupF (pa_cons pe_dnewK (pa_cons (k_mcal0 (mg := mg) (base := base) (pv 2) c_one hr) pa_nil))) pa_nil))) (pss_cons (ps_for PassesOwn.never rfl (k_itup (K := K) (k_ixT (K := K) (pv 0) pe_int)) (k_pgt (K := K) (n := 2) (pgs_cons (pg_name (i := 6) nd rfl (by first | exact Or.inl rfl | exact Or.inr rfl)) (pgs_cons (pg_name (i := 7) nd rfl (by first | exact Or.inl rfl | exact Or.inr rfl)) pgs_nil))) (pss_cons (ps_set (i := 8) nd rfl (by first | exact Or.inl rfl | exact Or.inr rfl) (pe_lst pa_nil)) (pss_cons (ps_for PassesOwn.never rfl (k_ilist (K := K) (pv 5)) (k_pgt (K := K) (n := 2) (pgs_cons (pg_name (i := 9) nd rfl (by first | exact Or.inl rfl | exact Or.inr rfl)) (pgs_cons (pg_name (i := 10) nd rfl (by first | exact Or.inl rfl | exact Or.inr rfl)) pgs_nil))) (pss_one (ps_for PassesOwn.never rfl (k_ilist (K := K) (pe_mcal (pv 1) c_rows hr (pa_cons (pv 6) pa_nil))) (k_pgt (K := K) (n := 2) (pgs_cons (pg_name (i := 11) nd rfl (by first | exact Or.inl rfl | exact Or.inr rfl)) (pgs_cons (pg_name (i := 12) nd rfl (by first | exact Or.inl rfl | exact Or.inr rfl)) pgs_nil))) (pss_cons (ps_set (i := 13) nd rfl (by first | exact Or.inl rfl | exact Or.inr rfl) (pe_cal c_fitted hr (pa_cons (pv 7) (pa_cons (pv 12) (pa_cons (pv 9) pa_nil))))) (pss_one (ps_if (pt_cmp (pc_notN (pv 13))) (pss_one (ps_expr (k_append (K := K) (pv 8) (pa_cons (pe_tupF (pa_cons (pv 13) (pa_cons (pe_mcal (pv 2) c_times hr (pa_cons (pv 10) (pa_cons (pe_dget (hu_of hr) (pv 3) (pv 11) (fun _ _ => rfl)) pa_nil))) pa_nil))) pa_nil)))) pss_nil)))))) (pss_one (ps_set (i := 5) nd rfl (by first | exact Or.inl rfl | exact Or.inr rfl) (pv 8)))))) (pss_cons (ps_set (i := 14) nd rfl (by first | exact Or.inl rfl | exact Or.inr rfl) (k_dnewN (P := P) (w := w) (K := K))) (pss_cons (ps_for PassesOwn.never rfl (k_ilist (K := K) (pv 5)) (k_pgt (K := K) (n := 2) (pgs_cons (pg_name (i := 9) nd rfl (by first | exact Or.inl rfl | exact Or.inr rfl)) (pgs_cons (pg_name (i := 10) nd rfl (by first | exact Or.inl rfl | exact Or.inr rfl)) pgs_nil))) (pss_one (ps_expr (k_append (K := K) (pe_nm PySem.F.slot_dict_setdefault PySem.F.type_dict_setdefault (mt_nsetd hr.units) (pv 14) (pa_cons (k_tuple (K := K) T (pe_lc (own := [("name", 15)]) rfl nd (k_itup (K := K) (k_ixT (K := K) (pv 0) pe_int)) (blkOk_by (N := N_rule_meaning) (sc := defScope s_rule_meaning) (by decide +kernel)) (fun _ _ _ _ _ => (pg_name (i := 15) nd rfl (by first | exact Or.inl rfl | exact Or.inr rfl))) (fun _ _ _ _ _ => pts_nil) (fun _ _ _ _ _ => (pe_dget (hu_of hr) (pv 9) (pv 15) (fun _ _ => rfl))))) (pa_cons (pe_lst pa_nil) pa_nil))) (pa_cons (pv 10) pa_nil))))) (pss_one (ps_ret (pe_dcN (P := P) (w := w) (K := K) (own := [("row", 12), ("found", 13)]) rfl hr.units nd (pi_ni (P := P) (w := w) (K := K) (pv 14)) (blkOk_by (N := N_rule_meaning) (sc := defScope s_rule_meaning) (by decide +kernel)) (fun _ _ _ _ _ => (k_pgt (K := K) (n := 2) (pgs_cons (pg_name (i := 12) nd rfl (by first | exact Or.inl rfl | exact Or.inr rfl)) (pgs_cons (pg_name (i := 13) nd rfl (by first | exact Or.inl rfl | exact Or.inr rfl)) pgs_nil)))) (fun _ _ _ _ _ => pts_nil) (fun _ _ _ _ _ => (pv 12)) (fun _ _ _ _ _ => (pe_mcal (pv 4) c_sum_of hr (pa_cons (pv 13) pa_nil))))))))))), ?_⟩
    have hat : ∀ b ∈ r.2, b.2.length = arN b.1 := fun b hb => (hw.atoms b hb).len
    -- algebra
    refine ⟨.ref S, rfl, ?_⟩
    intro al dxa hal hdxa hne
    refine ⟨al, S, dxa, rfl, upd_same, rfl, ?_⟩
    generalize hH1 : upd (upd (upd H dxa (.own al)) al (.ins CI dxa [])) al (.ins CI dxa [("semiring", .ref S)]) = H1
    have e1 : Ex H H1 := by
      rw [← hH1]
      intro b z hb
      rw [upd_ne (ne_of_none hb hal), upd_ne (ne_of_none hb hal), upd_ne (ne_of_none hb hdxa)]
      exact hb
    have hAlg : AlgS CI H1 al S := ⟨dxa, by rw [← hH1]; exact upd_same⟩
    refine nmI ?_
    dsimp only
    -- ways = [({}, one)]
    refine seqI ?_
    intro d0 hd0
    have e2 : Ex H1 (upd H1 d0 (.dK [])) := Ex.new hd0
    refine ⟨.ref S, rfl, S, dxS, [], rfl, (e1.trans e2) _ _ hS, rfl, .ref S, rfl, fun u0 H3 e3 nu0 => ?_⟩
    refine ⟨(by rw [sizeLine_eq]; exact Nat.le_of_ble_eq_true rfl), fun tp ob htp hob => ?_⟩
    have e4 : Ex H3 (upd H3 tp (.frz ob (.tup [.ref d0, u0]))) := Ex.new htp
    refine ⟨(by rw [sizeLine_eq]; exact Nat.le_of_ble_eq_true rfl), fun wp hwp => ?_⟩
    have e5 : Ex _ (upd (upd H3 tp (.frz ob (.tup [.ref d0, u0]))) wp (.lst [.ref tp])) := Ex.new hwp
    have hW0 : WayAt K (upd (upd H3 tp (.frz ob (.tup [.ref d0, u0]))) wp (.lst [.ref tp])) (.ref tp) ([], []) := by
      refine WayAt.ex ⟨tp, d0, u0, rfl, .inl (.inr ⟨ob, upd_same⟩), ⟨[], e4 _ _ (e3 _ _ upd_same), .nil⟩, nu0.ex e4⟩ e5
    have hwp0 : upd (upd H3 tp (.frz ob (.tup [.ref d0, u0]))) wp (.lst [.ref tp]) wp = some (.lst [.ref tp]) := upd_same
    have e05 : Ex H (upd (upd H3 tp (.frz ob (.tup [.ref d0, u0]))) wp (.lst [.ref tp])) := (((e1.trans e2).trans e3).trans e4).trans e5
    have e15 : Ex H1 (upd (upd H3 tp (.frz ob (.tup [.ref d0, u0]))) wp (.lst [.ref tp])) := ((e2.trans e3).trans e4).trans e5
    generalize upd (upd H3 tp (.frz ob (.tup [.ref d0, u0]))) wp (.lst [.ref tp]) = H5 at hW0 hwp0 e05 e15 ⊢
    clear e2 e3 e4 e5 htp hwp nu0
    refine nmI ?_
    dsimp only
    -- for table, terms in rule[1]
    refine q_for (G := gx K) trivial (ei_tup (ed_ix (i := 1) (ed_var (d := encR r) rfl (h1.ex e05)) ed_int rfl)) fun J H6 r6 hs => ?_
    obtain ⟨at_, us, rfl, t1, t2⟩ := hs
    have hul : us.length = r.2.length := by rw [t2.len, List.length_map]
    have e06 := e05.trans r6
    have e16 := e15.trans r6
    refine ⟨us.length, _, _, fun j σ' H' => ∃ wp xs s6 s7 s8 s9 s10 s11 s12 s13 s14 s15, σ' = [some v1, some (.ref o), some (.ref S), some (.ref wa), some (.ref al), some (.ref wp), s6, s7, s8, s9, s10, s11, s12, s13, s14, s15] ∧ Ex H6 H' ∧ H' wp = some (.lst xs) ∧ Paired (WayAt K H') xs (waysP fs (r.2.take j)), walk_tup,
      ⟨wp, [.ref tp], none, none, none, none, none, none, none, none, none, none, rfl, Ex.refl _, r6 _ _ hwp0, .cons (hW0.ex r6) .nil⟩, fun j σ' H' _ hp => ?_, fun j x σ' Ha Hb hj hp y => ?_, fun σ' H' hp => ?_⟩
    · obtain ⟨_, _, _, _, _, _, _, _, _, _, _, _, _, ex, _⟩ := hp
      exact Evl.ex_t ex t1
    · obtain ⟨wp, xs, s6, s7, s8, s9, s10, s11, s12, s13, s14, s15, rfl, ex, hxs, hW⟩ := hp
      obtain ⟨rfl, hx⟩ := y
      obtain ⟨dd, hdd, nx⟩ := t2.getV hx
      rw [List.getElem?_map] at hdd
      cases hata : r.2[j]? with
      | none => rw [hata] at hdd; cases hdd
      | some atm =>
      rw [hata] at hdd
      cases hdd
      have hmem := List.mem_of_getElem? hata
      have hwa := hw.atoms _ hmem
      have nx := nx.ex ex
      cases nx with
      | @tup T0 ws _ b1 b2 =>
      cases b2 with
      | @cons w1 vs1 _ _ c1 c2 =>
      cases c2 with
      | @cons w2 vs2 _ _ c3 c4 =>
      cases c4
      cases c1
      refine st_pair (G := gx K) b1.sq _ (Ex.refl _) _ ?_
      have hWok : ∀ e ∈ waysP fs (r.2.take j), WayOk (r.2.take j) e := waysP_ok hfs fun b hb => hat b (List.mem_of_mem_take hb)
      have hWlen : (waysP fs (r.2.take j)).length ≤ 3125 := by
        refine Nat.le_trans (waysP_len h5 _) ?_
        have hl : (r.2.take j).length ≤ 5 := by have := hw.most; rw [List.length_take]; omega
        exact Nat.le_trans (Nat.pow_le_pow_right (by decide) hl) (by decide)
      have enext : waysP fs (r.2.take (j + 1)) = stepW fs (waysP fs (r.2.take j)) atm := by rw [List.take_add_one, hata]; exact waysP_snoc _ _ _
      have hWn : ∀ i, (stepW fs ((waysP fs (r.2.take j)).take i) atm).length ≤ 20000 := fun i => by
        have h := stepW_len fs ((waysP fs (r.2.take j)).take i) atm
        have h2 : ((waysP fs (r.2.take j)).take i).length ≤ 3125 := by rw [List.length_take]; omega
        have h3 := Nat.mul_le_mul h2 h5
        omega
      generalize waysP fs (r.2.take j) = W at hW hWok hWlen hWn enext
      -- following = []
      refine seqI ?_
      refine ⟨(by rw [sizeLine_eq]; exact Nat.zero_le _), fun D hD => ?_⟩
      refine nmI ?_
      dsimp only
      have e7 : Ex Hb (upd Hb D (.lst [])) := Ex.new hD
      have hlx : xs.length = W.length := Paired.length hW
      -- for known, worth in ways
      have srcW : EvI (gx K) (iList K (tVar 5)) [some v1, some (.ref o), some (.ref S), some (.ref wa), some (.ref al), some (.ref wp), some (.str atm.1), some w2, some (.ref D), s9, s10, s11, s12, s13, s14, s15] (upd Hb D (.lst [])) (fun J H2 => J = Itl K wp ∧ Ex (upd Hb D (.lst [])) H2) := fun H2 r2 Q q =>
        ⟨.ref wp, rfl, wp, rfl, ⟨xs, SqL.of (r2 _ _ (e7 _ _ hxs))⟩, q _ H2 (Ex.refl _) ⟨rfl, r2⟩⟩
      refine q_for (G := gx K) trivial srcW fun J H7 r7 hs => ?_
      obtain ⟨rfl, _⟩ := hs
      refine ⟨xs.length, _, _, fun i σ' H' => ∃ s9 s10 s11 s12 s13 s14 s15 acc, σ' = [some v1, some (.ref o), some (.ref S), some (.ref wa), some (.ref al), some (.ref wp), some (.str atm.1), some w2, some (.ref D), s9, s10, s11, s12, s13, s14, s15] ∧ Ex Hb H' ∧ H' D = some (.lst acc) ∧ Paired (WayAt K H') acc (stepW fs (W.take i) atm), walk_list (K := K) (a := wp) (xs := xs),
        ⟨s9, s10, s11, s12, s13, s14, s15, [], rfl, e7.trans r7, r7 _ _ upd_same, .nil⟩, fun i σ' H' _ hp => ?_, fun i x σ' Hc Hd hi hp y => ?_, fun σ' H' hp => ?_⟩
      · obtain ⟨_, _, _, _, _, _, _, _, _, ex2, _⟩ := hp
        exact SqL.of (ex2 _ _ hxs)
      · obtain ⟨s9, s10, s11, s12, s13, s14, s15, acc, rfl, ex2, hacc, hAcc⟩ := hp
        obtain ⟨rfl, hx2⟩ := y
        obtain ⟨e, hei, hWe⟩ := prd_get hW hx2
        have hWe := hWe.ex ex2
        obtain ⟨tp2, dk, u, rfl, hT2, hdk, hu⟩ := hWe
        have heok := hWok e (List.mem_of_getElem? hei)
        have nDd : dk ≠ D := fun z => by
          obtain ⟨_, k1, _⟩ := hdk
          rw [z, hacc] at k1
          cases k1
        refine st_pair (G := gx K) hT2 _ (Ex.refl _) _ ?_
        -- for number, row in facts.rows(table)
        have hFd := (hF.ex (e06.trans ex)).ex ex2
        obtain ⟨dxf, hof⟩ := hFd.ins
        have srcR : EvI (gx K) (iList K (tMeth CF "rows" (sp_rows P w K CF) [] E0 (tVar 1) (tCons (tVar 6) tNil))) [some v1, some (.ref o), some (.ref S), some (.ref wa), some (.ref al), some (.ref wp), some (.str atm.1), some w2, some (.ref D), some (.ref dk), some u, s11, s12, s13, s14, s15] Hd (fun J H2 => ∃ p ys, J = Itl K p ∧ H2 p = some (.lst ys) ∧ Hd p = none ∧ NVs K H2 ys ((rowsOf fs atm.1).map encKR)) := fun H2 r2 Q q =>
          ⟨.ref o, rfl, o, dxf, _, rfl, r2 _ _ hof, rfl, .str atm.1, rfl, o, a, l, t, d, fs, atm.1, rfl, hFd.ex r2, hwa.tab, by omega, fun p H' e nl => by
            obtain ⟨n1, ys, n2, n3⟩ := nl
            exact ⟨p, rfl, ⟨ys, SqL.of n2⟩, q _ H' e ⟨p, ys, rfl, n2, Evl.fresh_back r2 n1, n3⟩⟩⟩
        refine s_for (G := gx K) trivial srcR fun J H8 r8 hs => ?_
        obtain ⟨rp, ys, rfl, hrp, hrp0, hys⟩ := hs
        have hrD : rp ≠ D := fun z => by rw [z, hacc] at hrp0; cases hrp0
        have hyl : ys.length = (rowsOf fs atm.1).length := by rw [hys.len, List.length_map]
        refine ⟨ys.length, _, _, fun m σ' H' => ∃ s11 s12 s13 acc, σ' = [some v1, some (.ref o), some (.ref S), some (.ref wa), some (.ref al), some (.ref wp), some (.str atm.1), some w2, some (.ref D), some (.ref dk), some u, s11, s12, s13, s14, s15] ∧ Ex Hb H' ∧ (∀ b z, b ≠ D → H8 b = some z → H' b = some z) ∧ Tx K H8 H' ∧ H' D = some (.lst acc) ∧
            Paired (WayAt K H') acc (stepW fs (W.take i) atm ++ ((rowsOf fs atm.1).take m).filterMap fun r => (fitL nkId (atm.2.zip r.2) e.1).map fun m => (m, mulMo e.2 (r.1 : Nat))), walk_list (K := K) (a := rp) (xs := ys),
          ⟨s11, s12, s13, acc, rfl, ex2.trans r8, fun _ _ _ z => z, Tx.refl K H8, r8 _ _ hacc, by rw [List.take_zero, List.filterMap_nil, List.append_nil]; exact L2.Paired.mapP hAcc fun _ _ z => z.ex r8⟩, fun m σ' H' _ hp => ?_, fun m x σ' He Hf hm hp y => ?_, fun σ' H' hp => ?_⟩
        · obtain ⟨_, _, _, _, _, _, kp, _⟩ := hp
          exact SqL.of (kp _ _ hrD hrp)
        · obtain ⟨s11, s12, s13, acc, rfl, ex3, kp, tx3, hacc, hAcc⟩ := hp
          obtain ⟨rfl, hx3⟩ := y
          obtain ⟨dd, hdd, nr⟩ := hys.getV hx3
          rw [List.getElem?_map] at hdd
          cases hrm : (rowsOf fs atm.1)[m]? with
          | none => rw [hrm] at hdd; cases hdd
          | some rw_ =>
          rw [hrm] at hdd
          cases hdd
          have hrf := rowsOf_mem (List.mem_of_getElem? hrm)
          obtain ⟨g1, g2, g3⟩ := hfs _ (List.mem_of_getElem? hrf)
          have nr := nr.t tx3
          cases nr with
          | @tup T3 ws3 _ b3 b4 =>
          cases b4 with
          | @cons x1 vs3 _ _ c5 c6 =>
          cases c6 with
          | @cons x2 vs4 _ _ c7 c8 =>
          cases c8
          cases c5
          refine st_pair (G := gx K) b3.sq _ (Ex.refl _) _ ?_
          have c3f : NV K Hf w2 (.tup (atm.2.map Tm.enc)) := c3.ex ex3
          have hdkf : DKA K Hf dk (encE e.1) := (hdk.mono (Tx.ex r8) (r8 dk)).mono tx3 fun ob hob => kp _ _ nDd hob
          have huf : NV K Hf u (encPo [(e.2, 1)]) := (hu.ex r8).t tx3
          refine seqI ?_
          refine ⟨w2, rfl, x2, rfl, .ref dk, rfl, ?_⟩
          have hatl : atm.2.length = rw_.2.length := by rw [hwa.len, g2]
          have stepE : ∀ X, (fitL nkId (atm.2.zip rw_.2) e.1).map (fun m => ((m, mulMo e.2 (rw_.1 : Nat)) : Way)) = X → ((rowsOf fs atm.1).take (m + 1)).filterMap (fun r => (fitL nkId (atm.2.zip r.2) e.1).map fun m => ((m, mulMo e.2 (r.1 : Nat)) : Way)) = ((rowsOf fs atm.1).take m).filterMap (fun r => (fitL nkId (atm.2.zip r.2) e.1).map fun m => ((m, mulMo e.2 (r.1 : Nat)) : Way)) ++ X.toList := fun X hX => by
            rw [List.take_add_one, hrm, List.filterMap_append]
            congr 1
            show List.filterMap _ [rw_] = _
            rw [List.filterMap_cons, hX]
            cases X <;> rfl
          refine ⟨w2, x2, dk, atm.2, rw_.2, e.1, rfl, c3f, by rw [show rw_.2.map nkId = rw_.2 from List.map_id _]; exact c7, hatl, by have := arN_le atm.1; rw [hwa.len]; omega, fun tm htm => Nat.le_trans (tm_depth (hwa.tms tm htm)) (by decide), fun z hz => Nat.le_trans (g3 z hz) (by decide),
            fun p hp => Nat.le_trans (heok.deep p hp) (by decide), hdkf, ?_, fun hno H' r9 => ?_, fun m' hm' H' d9 r9 hd9 hD9 => ?_⟩
          · have hq1 := heok.len
            have hq2 := tmsOf_len (l := r.2.take j) fun b hb => hw.atoms b (List.mem_of_mem_take hb)
            have hq3 : (r.2.take j).length ≤ 5 := by have := hw.most; rw [List.length_take]; omega
            omega
          · refine nmI ?_
            dsimp only
            refine ifI ?_
            refine ⟨.non, rfl, false, rfl, ?_⟩
            refine ifF ?_
            refine nextI ?_
            refine ⟨_, _, _, acc, rfl, ex3.trans r9, fun b z n hb => r9 _ _ (kp b z n hb), tx3.trans (Tx.ex r9), r9 _ _ hacc, ?_⟩
            rw [stepE none (by rw [hno]; rfl)]
            rw [Option.toList_none, List.append_nil]
            exact L2.Paired.mapP hAcc fun _ _ z => z.ex r9
          · refine nmI ?_
            dsimp only
            refine ifI ?_
            refine ⟨.ref d9, rfl, true, rfl, ?_⟩
            refine ifT ?_
            have hSg : H' S = some (.ins CP dxS []) := r9 _ _ (ex3 _ _ (ex _ _ (e06 _ _ hS)))
            have hwg' : rw_.1 < fs.length := (List.getElem?_eq_some_iff.mp hrf).1
            have hwmH : DKA K H' wa wm := hwm.mono (Tx.ex (((e06.trans ex).trans ex3).trans r9)) ((((e06.trans ex).trans ex3).trans r9) wa)
            refine s_app (G := gx K) (l := D) (xs := acc) (P := fun v H2 => WayAt K H2 v (m', mulMo e.2 (rw_.1 : Nat))) trivial (ea_var rfl) (fun Hg rg Q q => ?_) (fun H2 r2 => r2 _ _ (r9 _ _ hacc)) ?_ fun v Hg rg hv => ?_
            · refine ⟨.ref d9, rfl, .ref S, rfl, S, dxS, [], rfl, rg _ _ hSg, rfl, u, rfl, ?_⟩
              refine ed_dget (G := gx K) (m := wm) (k := .inl (rw_.1 : Nat)) (ea_var rfl) (fun H2 r2 => hwmH.mono (Tx.ex r2) (r2 wa)) (ed_var rfl (.int _)) (hwg _ hwg') Hg rg _ fun vv Hh rh nvv => ?_
              refine ⟨.ref S, u, vv, e.2, (rw_.1 : Nat), rfl, ((huf.ex r9).ex rg).ex rh, nvv, heok.mo, ?_, fun u' Hi ri nu' => ?_⟩
              · have := heok.mlen
                rw [List.length_take] at this
                have := hw.most
                omega
              · refine ⟨(by rw [sizeLine_eq]; exact Nat.le_of_ble_eq_true rfl), fun tp9 ob9 htp9 hob9 => ?_⟩
                have r10 : Ex Hi (upd Hi tp9 (.frz ob9 (.tup [.ref d9, u']))) := Ex.new htp9
                refine q _ _ ((rh.trans ri).trans r10) ⟨tp9, d9, u', rfl, .inl (.inr ⟨ob9, upd_same⟩), hD9.mono (Tx.ex (((rg.trans rh).trans ri).trans r10)) ((((rg.trans rh).trans ri).trans r10) d9), nu'.ex r10⟩
            · have hq := Paired.length hAcc
              have hq2 := hWn i
              have hq3 := List.length_filterMap_le (fun r : Nat × List Nk => (fitL nkId (atm.2.zip r.2) e.1).map fun m => ((m, mulMo e.2 (r.1 : Nat)) : Way)) ((rowsOf fs atm.1).take m)
              have hq4 := rowsOf_len fs atm.1
              rw [List.length_take] at hq3
              rw [List.length_append] at hq
              omega
            · have hgD : Hg D = some (.lst acc) := rg _ _ (r9 _ _ hacc)
              have r99 := r9.trans rg
              refine ⟨_, _, _, acc ++ [v], rfl, (ex3.trans r99).mut hD, fun b z n hb => by rw [upd_ne n]; exact r99 _ _ (kp b z n hb), (tx3.trans (Tx.ex r99)).trans (Tx.upd (.inr (by rw [hgD]; trivial))), upd_same, ?_⟩
              rw [stepE (some (m', mulMo e.2 (rw_.1 : Nat))) (by rw [hm']; rfl), ← List.append_assoc]
              exact Paired.snoc (L2.Paired.mapP hAcc fun _ _ z => (z.ex r99).up hgD) (hv.up hgD)
        · obtain ⟨s11, s12, s13, acc, rfl, ex3, kp, tx3, hacc, hAcc⟩ := hp
          rw [hyl, List.take_length] at hAcc
          refine ⟨_, _, _, _, _, _, _, acc, rfl, ex3, hacc, ?_⟩
          rw [List.take_add_one, hei, stepW, List.flatMap_append]
          show Paired _ _ (_ ++ List.flatMap (stepR fs atm) [e])
          rw [List.flatMap_cons, List.flatMap_nil, List.append_nil]
          exact hAcc
      · obtain ⟨s9, s10, s11, s12, s13, s14, s15, acc, rfl, ex2, hacc, hAcc⟩ := hp
        rw [hlx, List.take_length] at hAcc
        refine ⟨.ref D, rfl, ?_⟩
        refine nmI ?_
        exact ⟨D, acc, _, _, _, _, _, _, _, _, _, _, rfl, ex.trans ex2, hacc, by rw [enext]; exact hAcc⟩
    · obtain ⟨wp, xs, s6, s7, s8, s9, s10, s11, s12, s13, s14, s15, rfl, ex, hxs, hW⟩ := hp
      rw [hul, List.take_length] at hW
      have hWok : ∀ e ∈ waysP fs r.2, WayOk r.2 e := waysP_ok hfs hat
      have hWlen : (waysP fs r.2).length ≤ 3125 := by
        refine Nat.le_trans (waysP_len h5 _) ?_
        exact Nat.le_trans (Nat.pow_le_pow_right (by decide) hw.most) (by decide)
      have hlx : xs.length = (waysP fs r.2).length := Paired.length hW
      have e0 := e06.trans ex
      rw [polyOf] at q
      generalize waysP fs r.2 = W at hW hWok hWlen hlx hcap q
      -- rows = {}
      refine seqI ?_
      refine fun D ob hD hDN => ?_
      have e7 : Ex H' (upd H' D ob) := Ex.new hD
      refine nmI ?_
      dsimp only
      have srcW : EvI (gx K) (iList K (tVar 5)) [some v1, some (.ref o), some (.ref S), some (.ref wa), some (.ref al), some (.ref wp), s6, s7, s8, s9, s10, s11, s12, s13, some (.ref D), s15] (upd H' D ob) (fun J H2 => J = Itl K wp ∧ Ex (upd H' D ob) H2) := fun H2 r2 Q q =>
        ⟨.ref wp, rfl, wp, rfl, ⟨xs, SqL.of (r2 _ _ (e7 _ _ hxs))⟩, q _ H2 (Ex.refl _) ⟨rfl, r2⟩⟩
      refine q_for (G := gx K) trivial srcW fun J H7 r7 hs => ?_
      obtain ⟨rfl, _⟩ := hs
      refine ⟨xs.length, _, _, fun i σ' H'' => ∃ s9 s10 s15, σ' = [some v1, some (.ref o), some (.ref S), some (.ref wa), some (.ref al), some (.ref wp), s6, s7, s8, s9, s10, s11, s12, s13, some (.ref D), s15] ∧ Ex H' H'' ∧ ∃ kvs, DN P w K H'' D kvs ∧ MRel (LAt K H' H'') kvs (grpP r.1 (W.take i)) ∧ (kvs.map (·.2)).Nodup, walk_list (K := K) (a := wp) (xs := xs),
        ⟨s9, s10, s15, rfl, e7.trans r7, [], hDN.ex' r7, .nil, List.nodup_nil⟩, fun i σ' H' _ hp => ?_, fun i x σ' Hc Hd hi hp y => ?_, fun σ' H'' hp => ?_⟩
      · obtain ⟨_, _, _, _, ex2, _⟩ := hp
        exact SqL.of (ex2 _ _ hxs)
      · obtain ⟨s9, s10, s15, rfl, ex2, kvs, hDN, hM, hnd⟩ := hp
        obtain ⟨rfl, hx2⟩ := y
        obtain ⟨e, hei, hWe⟩ := prd_get hW hx2
        obtain ⟨tp2, dk, u, rfl, hT2, hdk, hu⟩ := hWe.ex ex2
        have heok := hWok e (List.mem_of_getElem? hei)
        have enext : grpP r.1 (W.take (i + 1)) = grp1 r.1 (grpP r.1 (W.take i)) e := by rw [List.take_add_one, hei]; exact grpP_snoc _ _ _
        have hgl := grpP_len r.1 (W.take i)
        have hgls := grpP_lens r.1 (W.take i)
        have hgn := grpP_nodup r.1 (W.take i)
        have hil : (W.take i).length ≤ 3125 := by rw [List.length_take]; omega
        rw [grp1] at enext
        generalize grpP r.1 (W.take i) = g at hM enext hgl hgls hgn
        refine st_pair (G := gx K) hT2 _ (Ex.refl _) _ ?_
        refine ⟨.ref D, rfl, ⟨D, kvs, rfl, hDN⟩, ?_⟩
        have edK : ED (gx K) (tThen (tLc (iTup K (tOp (rIxT K) (tVar 0) (tC (.int 0)))) (gName 15) tYes (tDGet (tVar 9) (tVar 15)) [15]) (kTupF K)) [some v1, some (.ref o), some (.ref S), some (.ref wa), some (.ref al), some (.ref wp), s6, s7, s8, some (.ref dk), some u, s11, s12, s13, some (.ref D), s15] Hd (headRow r.1 e.1) :=
          ed_tupleL (el_lcB (vs := [15]) (g := gName 15) (te := tDGet (tVar 9) (tVar 15)) NestedKey.text (fun x => (aGet e.1 x).getD .none) (xs := r.1) (ed_ix (i := 0) (ed_var (d := encR r) rfl (h1.ex (e0.trans ex2))) ed_int rfl)
            (by have := hw.head; omega) fun i x v H6 r6 hx nz => ⟨_, st_name, rfl, by
              obtain ⟨z, hz⟩ := Option.isSome_iff_exists.mp (heok.bound x (hw.safe x (List.mem_of_getElem? hx)))
              refine ed_eq (d := z) ?_ (by rw [hz]; rfl)
              exact ed_dget (m := encE e.1) (k := .inr x) (ea_var rfl) (fun H2 r2 => (hdk.mono (Tx.ex r6) (r6 dk)).mono (Tx.ex r2) (r2 dk)) (ed_var rfl nz) (by rw [encE_get]; exact hz)⟩)
        refine edK Hd (Ex.refl _) _ fun kv Hk rk nk => ?_
        have nk0 := nk
        cases nk with
        | @tup kb ks _ k1 k2 =>
        refine ⟨(by rw [sizeLine_eq]; exact Nat.zero_le _), fun l0 hl0 => ?_⟩
        have r2 : Ex Hk (upd Hk l0 (.lst [])) := Ex.new hl0
        have rr := rk.trans r2
        have hD2 : DN P w K (upd Hk l0 (.lst [])) D kvs := hDN.ex' rr
        have hHd0 : Hd l0 = none := Evl.fresh_back rk hl0
        have hH'0 : H' l0 = none := Evl.fresh_back ex2 hHd0
        have hMl := hM.len
        refine ⟨D, kvs, headRow r.1 e.1, kb, .ref l0, rfl, rfl, hD2, nk0.ex r2, Nat.le_trans (headRow_depth heok.deep) (by decide), by rw [sizeLine_eq]; omega, fun v hv => ?_, fun hv ob2 hD3 => ?_⟩
        · obtain ⟨Ms, hg, hL⟩ := mrel_val hM hv
          obtain ⟨l, ys, rfl, q1, q2, q3⟩ := hL
          have q4 := rr _ _ q2
          refine ⟨Or.inl ⟨rfl, ys, SqL.of q4⟩, u, rfl, l, ys, u, rfl, rfl, q4, ?_, ?_⟩
          · have h6 := hgls _ (aGet_mem hg)
            have h7 := q3.len
            rw [List.length_map] at h7
            have h6 : Ms.length ≤ (W.take i).length := h6
            rw [sizeLine_eq]
            omega
          · have hMr : MRel (LAt K H' (upd Hk l0 (.lst []))) kvs g := hM.imp fun _ _ z => z.ex rr
            obtain ⟨Ms', g1, g2⟩ := grp_upd q4 (hu.ex rr) hMr hnd hgn hv
            refine ⟨_, _, _, rfl, (ex2.trans rr).mut q1, kvs, ?_, ?_, hnd⟩
            · refine hD2.mono (Tx.upd (.inr (by rw [q4]; trivial))) fun z hz => ?_
              have ne : D ≠ l := fun e => by
                obtain ⟨_, _, _, q⟩ := hD2.ex
                rw [e, q4] at q
                cases q
              rw [upd_ne ne]
              exact hz
            · rw [enext, g1]
              exact g2
        · have hg := mrel_none hM hv
          have hnl : l0 ≠ D := fun z => by
            obtain ⟨_, _, _, q⟩ := hDN.ex
            rw [← z, hHd0] at q
            cases q
          have q4 : upd (upd Hk l0 (.lst [])) D ob2 l0 = some (.lst []) := by rw [upd_ne hnl]; exact upd_same
          have t3 : Tx K (upd Hk l0 (.lst [])) (upd (upd Hk l0 (.lst [])) D ob2) := Tx.upd (.inr hD2.mut)
          have t4 : Tx K (upd (upd Hk l0 (.lst [])) D ob2) (upd (upd (upd Hk l0 (.lst [])) D ob2) l0 (.lst ([] ++ [u]))) := Tx.upd (.inr (by rw [q4]; trivial))
          have tall := ((Tx.ex rr).trans t3).trans t4
          refine ⟨Or.inl ⟨rfl, [], SqL.of q4⟩, u, rfl, l0, [], u, rfl, rfl, q4, by rw [sizeLine_eq]; decide, ?_⟩
          have hnv : valV kvs (headRow r.1 e.1) = none := hv
          have hput : putK kvs (headRow r.1 e.1) (.ref l0) = kvs ++ [(headRow r.1 e.1, .ref l0)] := by rw [putK_eq]; exact aPut_new hnv
          rw [hput] at hD3
          have old : ∀ v Ms, LAt K H' Hd v Ms → v ≠ .ref l0 ∧ LAt K H' (upd (upd (upd Hk l0 (.lst [])) D ob2) l0 (.lst ([] ++ [u]))) v Ms := fun v Ms ⟨l, ys, p0, p1, p2, p3⟩ => by
            have n1 : l ≠ l0 := fun z => by rw [z, hHd0] at p2; cases p2
            have n2 : l ≠ D := fun z => by
              obtain ⟨_, _, _, q⟩ := hDN.ex
              rw [← z, p2] at q
              cases q
            exact ⟨fun z => n1 (by rw [p0] at z; exact V.ref.inj z), l, ys, p0, p1, by rw [upd_ne n1, upd_ne n2]; exact rr _ _ p2, p3.t tall⟩
          refine ⟨_, _, _, rfl, (((ex2.trans rr).mut hD).mut hH'0), kvs ++ [(headRow r.1 e.1, .ref l0)], ?_, ?_, ?_⟩
          · exact hD3.mono t4 fun z hz => by rw [upd_ne (fun z => hnl z.symm)]; exact hz
          · rw [enext, hg, aPut_new hg]
            exact Paired.snoc (hM.imp fun v Ms z => (old v Ms z).2) ⟨rfl, l0, [u], rfl, hH'0, upd_same, .cons (hu.t tall) .nil⟩
          · rw [List.map_append, List.nodup_append]
            refine ⟨hnd, by simp, fun a ha b hb e => ?_⟩
            simp only [List.map_cons, List.map_nil, List.mem_singleton] at hb
            rw [hb] at e
            obtain ⟨p, hp, e2⟩ := List.mem_map.mp ha
            obtain ⟨ip, hip⟩ := List.getElem?_of_mem hp
            obtain ⟨q', _, hq⟩ := prd_get hM hip
            exact (old _ _ hq.2).1 (e2.trans e)
      · obtain ⟨s9, s10, s15, rfl, ex2, kvs, hDN, hM, hnd⟩ := hp
        rw [hlx, List.take_length] at hM
        have hgne := grpP_ne r.1 W
        have hgn := grpP_nodup r.1 W
        have hgl := grpP_len r.1 W
        generalize grpP r.1 W = g at hM hgne hgn hgl hcap q
        have e9 := e0.trans ex2
        refine ⟨.ref D, rfl, D, kvs, rfl, hDN, fun xs2 ep hrel hxd => ?_⟩
        intro D2 ob2 hD2 hDN2
        have hkl : xs2.length = kvs.length := (Paired.length hrel).symm
        have hkg : kvs.length = g.length := hM.len
        have eD2 : Ex H'' (upd H'' D2 ob2) := Ex.new hD2
        refine dcN_it (walk_ni (P := P) (w := w) (d := D) (ep := ep) (xs := xs2) (kvs := kvs)) (fun i H3 => Ex H'' H3 ∧ ∃ kvs2, DN P w K H3 D2 kvs2 ∧ MRel (NV K H3) kvs2 ((g.take i).map fun p => (p.1, encPo (sumPo p.2)))) ⟨eD2, [], hDN2, .nil⟩ (fun i H3 _ hp => hp.1 _ _ hxd) (fun i x Hc Hd hi hp y => ?_) (fun H3 hp => ?_)
        · obtain ⟨exc, kvs2, hDc, hMc⟩ := hp
          obtain ⟨Tt, yy, kv, g1, g2, rfl, hTt, rfl⟩ := y
          have eT : Ex Hc (upd Hc Tt (.tup [.ref yy.2.1, kv.2])) := Ex.new hTt
          obtain ⟨gq, hgq, hgk, l, ls, hl0, _, hl1, hl2⟩ := prd_get hM g2
          obtain ⟨yy', hy', hr1, hr2, hr3, _⟩ := prd_get hrel g2
          rw [g1] at hy'
          cases hy'
          refine st_pair (G := gx K) (SqT.of upd_same) _ (Ex.refl _) _ ?_
          have exT := exc.trans eT
          refine ⟨rfl, ?_⟩
          refine ⟨.ref yy.2.1, rfl, ?_⟩
          obtain ⟨dxg, hAlg'⟩ := hAlg
          have halT : upd Hc Tt (.tup [.ref yy.2.1, kv.2]) al = some (.ins CI dxg [("semiring", .ref S)]) := exT _ _ (ex2 _ _ (ex _ _ (e16 _ _ hAlg')))
          refine ⟨.ref al, rfl, al, dxg, _, rfl, halT, rfl, kv.2, rfl, ?_⟩
          refine ⟨al, S, l, ls, gq.2, by rw [hl0]; rfl, ⟨dxg, halT⟩, ⟨dxS, exT _ _ (e9 _ _ hS)⟩, SqL.of (exT _ _ hl1), hl2.ex exT, hgne _ (List.mem_of_getElem? hgq), hcap _ (List.mem_of_getElem? hgq), fun v H4 r4 nv => ?_⟩
          have hDc4 := (hDc.ex' eT).ex' r4
          have hm2 := hMc.len
          refine ⟨kvs2, kv.1, yy.2.1, rfl, hDc4, (hr2.ex exT).ex r4, hr3, ?_, fun ob4 hD4 => ?_⟩
          · rw [hm2, List.length_map, List.length_take, sizeLine_eq]
            omega
          · have t4 : Tx K H4 (upd H4 D2 ob4) := Tx.upd (.inr hDc4.mut)
            refine ⟨(exT.trans r4).mut hD2, _, hD4, ?_⟩
            rw [List.take_add_one, hgq, List.map_append]
            have hnew : aGet ((g.take i).map fun p => (p.1, encPo (sumPo p.2))) kv.1 = none := aGet_none fun hmem => by
              rw [List.map_map] at hmem
              obtain ⟨z, hz, e⟩ := List.mem_map.mp hmem
              have e : z.1 = kv.1 := e
              rw [hgk] at e
              have hsp := List.take_append_drop i g
              rw [← hsp, List.map_append, List.nodup_append] at hgn
              have hin : gq ∈ g.drop i := by
                have : (g.drop i)[0]? = some gq := by rw [List.getElem?_drop, Nat.add_zero, hgq]
                exact List.mem_of_getElem? this
              exact hgn.2.2 _ (List.mem_map.mpr ⟨z, hz, rfl⟩) _ (List.mem_map.mpr ⟨gq, hin, rfl⟩) e
            have hp := MRel.put (hMc.imp fun _ _ z => ((z.ex eT).ex r4).t t4) kv.1 (nv.t t4)
            rw [aPut_new hnew] at hp
            have ek : [(gq.1, encPo (sumPo gq.2))] = [(kv.1, encPo (sumPo gq.2))] := by rw [hgk]
            show MRel _ _ (_ ++ [(gq.1, encPo (sumPo gq.2))])
            rw [ek]
            exact hp
        · obtain ⟨exc, kvs2, hDc, hMc⟩ := hp
          rw [hkl, hkg, List.take_length] at hMc
          exact q H3 D2 (e9.trans exc) (Evl.fresh_back e9 hD2) ⟨kvs2, hDc, hMc⟩
end
end Ew
set_option Elab.async false
set_option linter.all false
set_option maxRecDepth 100000
set_option maxHeartbeats 4000000
namespace Ew
open PySem PySem.Spec PyProof.Rows L2
open Evl (Ex)
/-! ### the maps of a rule's atoms into another's -/
theorem fit1_nodup {β : Type} [DecidableEq β] {emb : Nk → β} {m m' : List (Str × β)} {t : Tm} {u : β} (h : fit1 emb m t u = some m') (hn : (m.map (·.1)).Nodup) : (m'.map (·.1)).Nodup := by
  cases t with
  | val c =>
    simp only [fit1] at h
    split at h
    · cases h; exact hn
    · cases h
  | var y =>
    cases g : aGet m y with
    | some w =>
      rw [fit1_old g] at h
      split at h
      · cases h; exact hn
      · cases h
    | none =>
      rw [fit1_new g] at h
      cases h
      exact aPut_nodup hn
theorem fitL_nodup {β : Type} [DecidableEq β] {emb : Nk → β} : ∀ {zs : List (Tm × β)} {m m' : List (Str × β)}, fitL emb zs m = some m' → (m.map (·.1)).Nodup → (m'.map (·.1)).Nodup
  | [], m, m', h, hn => by cases h; exact hn
  | z :: zs, m, m', h, hn => by
    have h : (fit1 emb m z.1 z.2).bind (fitL emb zs) = some m' := h
    cases g : fit1 emb m z.1 z.2 with
    | none => rw [g] at h; cases h
    | some m1 =>
      rw [g] at h
      exact fitL_nodup (zs := zs) h (fit1_nodup g hn)
def itemsT (m : EnvT) : List (Str × Nk) := m.map fun p => (p.1, p.2.enc)
def keyM (m : EnvT) : Nk := .tup ((sortT (itemsT m)).map encT)
def candM (a : Atom) (m : EnvT) (b : Atom) : Option EnvT := if b.1 = a.1 then fitL Tm.val (a.2.zip b.2) m else none
def candsM (bs : List Atom) (a : Atom) (ms : List EnvT) : List EnvT := ms.flatMap fun m => bs.filterMap (candM a m)
def put1 (fo : List (Nk × EnvT)) (m : EnvT) : List (Nk × EnvT) := aPut fo (keyM m) m
def putAll (l : List EnvT) : List (Nk × EnvT) := l.foldl put1 []
def stepM (bs : List Atom) (ms : List EnvT) (a : Atom) : List EnvT := (putAll (candsM bs a ms)).map (·.2)
def startM (r1 r2 : Rule) : List EnvT := (fitL Tm.val ((headT r1.1).zip (headT r2.1)) []).toList
def mapsFrom (r1 r2 : Rule) (as : List Atom) : List EnvT := as.foldl (stepM r2.2) (startM r1 r2)
def allMaps (r1 r2 : Rule) : List EnvT := mapsFrom r1 r2 r1.2
theorem mapsFrom_snoc (r1 r2 : Rule) (as : List Atom) (a : Atom) : mapsFrom r1 r2 (as ++ [a]) = stepM r2.2 (mapsFrom r1 r2 as) a := by rw [mapsFrom, List.foldl_append]; rfl
theorem putAll_snoc (l : List EnvT) (m : EnvT) : putAll (l ++ [m]) = put1 (putAll l) m := by rw [putAll, List.foldl_append]; rfl
theorem putAll_sub (l : List EnvT) : ∀ p ∈ putAll l, p.2 ∈ l ∧ p.1 = keyM p.2 := by
  have : ∀ (l : List EnvT) (g : List (Nk × EnvT)) (s : List EnvT), (∀ p ∈ g, p.2 ∈ s ∧ p.1 = keyM p.2) → ∀ p ∈ l.foldl put1 g, p.2 ∈ s ++ l ∧ p.1 = keyM p.2 := by
    intro l
    induction l with
    | nil => intro g s h p hp; rw [List.append_nil]; exact h p hp
    | cons e l ih =>
      intro g s h p hp
      have := ih (put1 g e) (s ++ [e]) (fun q hq => ?_) p hp
      · simpa using this
      have hq : q ∈ aPut g (keyM e) e := hq
      cases hx : aGet g (keyM e) with
      | none =>
        rw [aPut_new hx] at hq
        rcases List.mem_append.mp hq with hq | hq
        · exact ⟨List.mem_append_left _ (h q hq).1, (h q hq).2⟩
        · rw [List.mem_singleton.mp hq]
          exact ⟨by simp, rfl⟩
      | some w =>
        rw [aPut_old hx] at hq
        obtain ⟨z, hz, e2⟩ := List.mem_map.mp hq
        split at e2
        · rename_i hk
          rw [← e2]
          exact ⟨by simp, hk⟩
        · rw [← e2]
          exact ⟨List.mem_append_left _ (h z hz).1, (h z hz).2⟩
  intro p hp
  have h := this l [] [] (fun p hp => (nomatch hp)) p hp
  rw [List.nil_append] at h
  exact h
/-- every map put in is found again under its key -/
theorem putAll_has (l : List EnvT) : ∀ m ∈ l, ∃ p ∈ putAll l, p.1 = keyM m := by
  have : ∀ (l : List EnvT) (g : List (Nk × EnvT)) (k : Nk), ((∃ p ∈ g, p.1 = k) ∨ ∃ m ∈ l, keyM m = k) → ∃ p ∈ l.foldl put1 g, p.1 = k := by
    intro l
    induction l with
    | nil =>
      intro g k h
      rcases h with h | ⟨m, hm, _⟩
      · exact h
      · exact (nomatch hm)
    | cons e l ih =>
      intro g k h
      refine ih (put1 g e) k ?_
      have hkeys : ∀ k', k' ∈ g.map (·.1) ∨ k' = keyM e → ∃ p ∈ put1 g e, p.1 = k' := fun k' hk => by
        have h1 : k' ∈ (aPut g (keyM e) e).map (·.1) := by
          rw [← aGet_isSome, aGet_put]
          rcases hk with hk | hk
          · split
            · rfl
            · exact aGet_isSome.mpr hk
          · rw [if_pos hk]; rfl
        obtain ⟨p, hp, e2⟩ := List.mem_map.mp h1
        exact ⟨p, hp, e2⟩
      rcases h with ⟨p, hp, e2⟩ | ⟨m, hm, e2⟩
      · exact .inl (hkeys k (.inl (List.mem_map.mpr ⟨p, hp, e2⟩)))
      · rcases List.mem_cons.mp hm with rfl | hm
        · exact .inl (hkeys k (.inr e2.symm))
        · exact .inr ⟨m, hm, e2⟩
  exact fun m hm => this l [] (keyM m) (.inr ⟨m, hm, rfl⟩)
theorem putAll_len (l : List EnvT) : (putAll l).length ≤ l.length := by
  have : ∀ (l : List EnvT) (g : List (Nk × EnvT)), (l.foldl put1 g).length ≤ g.length + l.length := by
    intro l
    induction l with
    | nil => exact fun g => Nat.le_refl _
    | cons e l ih =>
      intro g
      have h1 := ih (put1 g e)
      have h2 : (put1 g e).length ≤ g.length + 1 := aPut_len g (keyM e) e
      rw [List.foldl_cons, List.length_cons]
      omega
  have h := this l []
  rw [List.length_nil, Nat.zero_add] at h
  exact h
/-- what holds of every map -/
structure MapOk (h1 h2 : List Str) (as : List Atom) (m : EnvT) : Prop where
  nodup : (m.map (·.1)).Nodup
  wf : ∀ p ∈ m, WfT p.2
  len : m.length ≤ h1.length + (tmsOf as).length
  bound : ∀ x, x ∈ h1 ∨ Tm.var x ∈ tmsOf as → (aGet m x).isSome
  only : ∀ x, (aGet m x).isSome → x ∈ h1 ∨ Tm.var x ∈ tmsOf as
  head : ∀ z ∈ (headT h1).zip (headT h2), tval Tm.val m z.1 = some z.2
theorem MapOk.deep {h1 h2 : List Str} {as : List Atom} {m : EnvT} (h : MapOk h1 h2 as m) : ∀ p ∈ m, p.2.enc.depth ≤ 1 := fun p hp => tm_depth (h.wf p hp)
theorem candM_ok {h1 h2 : List Str} {as : List Atom} {a b : Atom} {m m' : EnvT} (hm : MapOk h1 h2 as m) (ha : WfA a) (hb : WfA b) (h : candM a m b = some m') : MapOk h1 h2 (as ++ [a]) m' := by
  unfold candM at h
  split at h
  case isFalse => cases h
  rename_i ht
  obtain ⟨b1, b2, b3, b4, b5⟩ := fitL_spec h
  have hz : (a.2.zip b.2).map (·.1) = a.2 := List.map_fst_zip (by rw [ha.len, hb.len, ht]; exact Nat.le_refl _)
  have et : tmsOf (as ++ [a]) = tmsOf as ++ a.2 := by simp [tmsOf]
  refine ⟨fitL_nodup h hm.nodup, fun p hp => ?_, ?_, fun x hx => ?_, fun x hx => ?_, fun z hz => ?_⟩
  · rcases b4 p hp with h | ⟨z, hz, h⟩
    · exact hm.wf p h
    · rw [h]
      exact hb.tms _ (List.of_mem_zip hz).2
  · rw [et, List.length_append]
    have := hm.len
    rw [List.length_zip] at b5
    omega
  · have old : ∀ x, (aGet m x).isSome → (aGet m' x).isSome := fun x hx => by
      obtain ⟨v, hv⟩ := Option.isSome_iff_exists.mp hx
      rw [b1 x v hv]
      rfl
    rcases hx with hx | hx
    · exact old x (hm.bound x (.inl hx))
    · rw [et] at hx
      rcases List.mem_append.mp hx with hx | hx
      · exact old x (hm.bound x (.inr hx))
      · rw [← hz] at hx
        obtain ⟨z, hz1, hz2⟩ := List.mem_map.mp hx
        have := b2 z hz1
        rw [hz2] at this
        have this : aGet m' x = some z.2 := this
        rw [this]
        rfl
  · rw [et]
    rcases b3 x hx with h | h
    · rcases hm.only x h with h | h
      · exact .inl h
      · exact .inr (List.mem_append_left _ h)
    · rw [hz] at h
      exact .inr (List.mem_append_right _ h)
  · have := hm.head z hz
    cases hzt : z.1 with
    | val c => rw [hzt] at this; exact this
    | var x => rw [hzt] at this; exact b1 x _ this
theorem startM_ok (r1 r2 : Rule) (hl : r1.1.length = r2.1.length) (w2 : WfR r2) : ∀ m ∈ startM r1 r2, MapOk r1.1 r2.1 [] m := by
  intro m hm
  have h : fitL Tm.val ((headT r1.1).zip (headT r2.1)) [] = some m := Option.mem_toList.mp hm
  obtain ⟨b1, b2, b3, b4, b5⟩ := fitL_spec h
  have hz : ((headT r1.1).zip (headT r2.1)).map (·.1) = headT r1.1 := List.map_fst_zip (by simp [headT, hl])
  refine ⟨fitL_nodup h List.nodup_nil, fun p hp => ?_, ?_, fun x hx => ?_, fun x hx => ?_, b2⟩
  · rcases b4 p hp with h | ⟨z, hz, h⟩
    · exact (nomatch h)
    · obtain ⟨y, hy, e⟩ := List.mem_map.mp (List.of_mem_zip hz).2
      rw [h, ← e]
      exact tms_wf w2.atoms (w2.safe y hy)
  · rw [List.length_zip, headT, headT, List.length_map, List.length_map] at b5
    rw [List.length_nil] at b5
    omega
  · rcases hx with hx | hx
    · have hx : Tm.var x ∈ ((headT r1.1).zip (headT r2.1)).map (·.1) := by rw [hz]; exact List.mem_map.mpr ⟨x, hx, rfl⟩
      obtain ⟨z, hz1, hz2⟩ := List.mem_map.mp hx
      have := b2 z hz1
      rw [hz2] at this
      have this : aGet m x = some z.2 := this
      rw [this]
      rfl
    · exact (nomatch hx)
  · rcases b3 x hx with h | h
    · cases h
    · rw [hz] at h
      obtain ⟨y, hy, e⟩ := List.mem_map.mp h
      cases e
      exact .inl hy
theorem mapsFrom_ok {r1 r2 : Rule} (hl : r1.1.length = r2.1.length) (w2 : ∀ b ∈ r2.2, WfA b) : ∀ (bs as : List Atom), (∀ a ∈ as ++ bs, WfA a) → (∀ m ∈ mapsFrom r1 r2 as, MapOk r1.1 r2.1 as m) → ∀ m ∈ mapsFrom r1 r2 (as ++ bs), MapOk r1.1 r2.1 (as ++ bs) m
  | [], as, _, h => by rw [List.append_nil]; exact h
  | b :: bs, as, hw, h => by
    have e : as ++ b :: bs = (as ++ [b]) ++ bs := by simp
    rw [e] at hw ⊢
    refine mapsFrom_ok hl w2 bs (as ++ [b]) hw fun m hm => ?_
    rw [mapsFrom_snoc] at hm
    obtain ⟨p, hp, rfl⟩ := List.mem_map.mp hm
    have h1 := (putAll_sub _ p hp).1
    obtain ⟨m0, hm0, h2⟩ := List.mem_flatMap.mp h1
    obtain ⟨c, hc, h3⟩ := List.mem_filterMap.mp h2
    exact candM_ok (h m0 hm0) (hw b (by simp)) (w2 c hc) h3
theorem maps_ok {r1 r2 : Rule} (hl : r1.1.length = r2.1.length) (w1 : ∀ b ∈ r1.2, WfA b) (w2 : WfR r2) (j : Nat) : ∀ m ∈ mapsFrom r1 r2 (r1.2.take j), MapOk r1.1 r2.1 (r1.2.take j) m := by
  have h := mapsFrom_ok hl w2.atoms (r1.2.take j) [] (fun a ha => w1 a (List.mem_of_mem_take (by simpa using ha))) (startM_ok r1 r2 hl w2)
  simpa using h
theorem candsM_len (bs : List Atom) (a : Atom) (ms : List EnvT) : (candsM bs a ms).length ≤ ms.length * bs.length := by
  rw [candsM, List.length_flatMap]
  induction ms with
  | nil => simp
  | cons e W ih =>
    have h1 : (bs.filterMap (candM a e)).length ≤ bs.length := List.length_filterMap_le _ _
    rw [List.map_cons, List.sum_cons, List.length_cons, Nat.succ_mul]
    omega
theorem mapsFrom_len {r1 r2 : Rule} (h5 : r2.2.length ≤ 5) : ∀ (bs as : List Atom), (mapsFrom r1 r2 as).length ≤ 5 ^ as.length → (mapsFrom r1 r2 (as ++ bs)).length ≤ 5 ^ (as ++ bs).length
  | [], as, h => by rw [List.append_nil]; exact h
  | b :: bs, as, h => by
    have e : as ++ b :: bs = (as ++ [b]) ++ bs := by simp
    rw [e]
    refine mapsFrom_len h5 bs (as ++ [b]) ?_
    rw [mapsFrom_snoc, List.length_append, List.length_singleton, Nat.pow_succ, stepM, List.length_map]
    exact Nat.le_trans (putAll_len _) (Nat.le_trans (candsM_len r2.2 b _) (Nat.mul_le_mul h h5))
theorem maps_len {r1 r2 : Rule} (h5 : r2.2.length ≤ 5) (as : List Atom) : (mapsFrom r1 r2 as).length ≤ 5 ^ as.length := by
  have h := mapsFrom_len h5 (r1 := r1) (r2 := r2) as [] (by
    show (startM r1 r2).length ≤ 1
    rw [startM]
    cases fitL Tm.val ((headT r1.1).zip (headT r2.1)) [] <;> simp)
  simpa using h
theorem keyM_depth {m : EnvT} (h : ∀ p ∈ m, p.2.enc.depth ≤ 1) : (keyM m).depth ≤ 3 := by
  refine depth_tupL encT 2 (sortT (itemsT m)) fun p hp => ?_
  have hp : p ∈ itemsT m := (List.mergeSort_perm _ _).mem_iff.mp hp
  obtain ⟨q, hq, rfl⟩ := List.mem_map.mp hp
  have := h q hq
  simp only [encT, NestedKey.depth, NestedKey.depthAll]
  omega
end Ew
set_option Elab.async false
set_option linter.all false
set_option maxRecDepth 100000
set_option maxHeartbeats 4000000
namespace Ew
open PySem PySem.Spec PyProof.Rows L2
open Evl (Ex)
theorem asgI {te : TE} {i : Nat} {D : Ends} {σ : L2.St} {H : Hp} (h : te σ H fun v H1 => D.nx (σ.set i (some v)) H1) : tAsg te (gName i) D σ H := h
theorem call1 {sp : Sp} {E : XK} {σ : L2.St} {H : Hp} {Q : VK} {i : Nat} {v : V} (h1 : σ[i]? = some (some v)) (h : sp [v] H Q E) : tCall sp [] E (tCons (tVar i) tNil) σ H Q := ⟨v, h1, h⟩
theorem call2 {sp : Sp} {E : XK} {σ : L2.St} {H : Hp} {Q : VK} {i j : Nat} {v u : V} (h1 : σ[i]? = some (some v)) (h2 : σ[j]? = some (some u)) (h : sp [v, u] H Q E) : tCall sp [] E (tCons (tVar i) (tCons (tVar j) tNil)) σ H Q := ⟨v, h1, u, h2, h⟩
theorem call3 {sp : Sp} {E : XK} {σ : L2.St} {H : Hp} {Q : VK} {i j k : Nat} {v u z : V} (h1 : σ[i]? = some (some v)) (h2 : σ[j]? = some (some u)) (h3 : σ[k]? = some (some z)) (h : sp [v, u, z] H Q E) : tCall sp [] E (tCons (tVar i) (tCons (tVar j) (tCons (tVar k) tNil))) σ H Q := ⟨v, h1, u, h2, z, h3, h⟩
abbrev N_all_maps : List Str := ["first", "second", "start", "maps", "table", "terms", "following", "known", "other", "targets", "found"]
theorem sc_all_maps : FnScope N_all_maps ["first", "second"] (defScope s_all_maps) := ⟨rfl, rfl, rfl, by decide +kernel, rfl, by decide +kernel, by decide +kernel⟩
def EnvAt (K : PySem.W.Frag) (H : Hp) (v : V) (m : EnvT) : Prop := ∃ d, v = .ref d ∧ DKA K H d (encM m)
theorem EnvAt.ex {K : PySem.W.Frag} {H H' : Hp} {v : V} {m : EnvT} (h : EnvAt K H v m) (r : Ex H H') : EnvAt K H' v m := by
  obtain ⟨d, h0, h1⟩ := h
  exact ⟨d, h0, h1.mono (Tx.ex r) (r d)⟩
theorem EnvAt.up {P : Program} {w : World} {K : PySem.W.Frag} {H : Hp} {v : V} {m : EnvT} {D : Addr} {kvs : List (Nk × V)} {o : HO} (h : EnvAt K H v m) (hD : DN P w K H D kvs) : EnvAt K (upd H D o) v m := by
  obtain ⟨d, h0, kvs', h1, h2⟩ := h
  have ne : d ≠ D := fun z => by
    obtain ⟨_, _, _, q⟩ := hD.ex
    rw [← z, h1] at q
    cases q
  exact ⟨d, h0, kvs', by rw [upd_ne ne]; exact h1, h2.imp fun _ _ z => z.t (Tx.upd (.inr hD.mut))⟩
def sp_all_maps (K : PySem.W.Frag) : Sp := fun vs H Q _ => ∃ v1 v2 r1 r2, vs = [v1, v2] ∧ NV K H v1 (encR r1) ∧ NV K H v2 (encR r2) ∧ WfR r1 ∧ WfR r2 ∧ r1.1.length = r2.1.length ∧
  ∀ H' p xs, Ex H H' → H p = none → H' p = some (.lst xs) → Paired (EnvAt K H') xs (allMaps r1 r2) → Q (.ref p) H'
def StartAt (K : PySem.W.Frag) (H : Hp) (v : V) (ms : List EnvT) : Prop := (v = .non ∧ ms = []) ∨ ∃ m, ms = [m] ∧ v ≠ .non ∧ EnvAt K H v m
theorem head_map_uni {K : PySem.W.Frag} {H : Hp} {v1 v2 : V} {r1 r2 : Rule} {Q : VK} {E : XK} (h1 : NV K H v1 (encR r1)) (h2 : NV K H v2 (encR r2)) (w1 : WfR r1) (w2 : WfR r2) (hl : r1.1.length = r2.1.length)
    (q : ∀ v H', Ex H H' → StartAt K H' v (startM r1 r2) → Q v H') : sp_head_map K [v1, v2] H Q E := by
  refine ⟨v1, v2, r1, r2, rfl, h1, h2, w1, w2, hl, fun hno H' e => q _ H' e (.inl ⟨rfl, ?_⟩), fun m' hm H' d e _ hD => q _ H' e (.inr ⟨m', ?_, by simp, d, rfl, hD⟩)⟩
  · rw [startM, hno]; rfl
  · rw [startM, hm]; rfl
theorem start_list {K : PySem.W.Frag} {σ : L2.St} {H : Hp} {v : V} {ms : List EnvT} {Q : VK} {i : Nat} (hv : σ[i]? = some (some v)) (hs : StartAt K H v ms)
    (q : ∀ p xs, H p = none → Paired (EnvAt K (upd H p (.lst xs))) xs ms → Q (.ref p) (upd H p (.lst xs))) : tIf (tB (tIsN (tVar i))) (tLst tNil) (tLst (tCons (tVar i) tNil)) σ H Q := by
  refine ⟨v, hv, decide (v = .non), rfl, ?_⟩
  rcases hs with ⟨rfl, rfl⟩ | ⟨m, rfl, hne, hE⟩
  · rw [decide_eq_true rfl]
    refine ifT (p := fun H => (tLst tNil) σ H Q) (q := fun H => (tLst (tCons (tVar i) tNil)) σ H Q) ?_
    exact ⟨(by rw [sizeLine_eq]; exact Nat.zero_le _), fun p hp => q p [] hp .nil⟩
  · rw [decide_eq_false hne]
    refine ifF (p := fun H => (tLst tNil) σ H Q) (q := fun H => (tLst (tCons (tVar i) tNil)) σ H Q) ?_
    exact ⟨v, hv, (by rw [sizeLine_eq]; exact Nat.le_of_ble_eq_true rfl), fun p hp => q p [v] hp (.cons (hE.ex (Ex.new hp)) .nil)⟩
def FitAt (K : PySem.W.Frag) (H0 H : Hp) (v : V) (o : Option EnvT) : Prop := (v = .non ∧ o = none) ∨ ∃ d m, o = some m ∧ v = .ref d ∧ DKA K H d (encM m)
theorem kvs_text {m : EnvT} : (encM m).map (fun p => (kN p.1, p.2)) = m.map fun p => (NestedKey.text p.1, p.2.enc) := by rw [encM, List.map_map]; rfl
theorem mrel_kN {K : PySem.W.Frag} {H : Hp} {kvs : List (Key × V)} {m : List (Key × Nk)} (h : MRel (NV K H) kvs m) : MRel (NV K H) (kvs.map fun p => (kN p.1, p.2)) (m.map fun p => (kN p.1, p.2)) := by
  induction h with
  | nil => exact .nil
  | cons h t ih => exact .cons ⟨congrArg kN h.1, h.2⟩ ih
theorem mrel_snd {κ β : Type} {R : V → β → Prop} {kvs : List (κ × V)} {m : List (κ × β)} (h : MRel R kvs m) : Paired R (kvs.map (·.2)) (m.map (·.2)) := by
  induction h with
  | nil => exact .nil
  | cons h t ih => exact .cons h.2 ih
/-- tuple(sorted(found.items())) -/
theorem ed_keyM {P : Program} {w : World} {K : PySem.W.Frag} {σ : L2.St} {H : Hp} {td : TE} {d : Addr} {m : EnvT} (ha : EA (gx K) td σ H d) (hd : DKA K H d (encM m)) (hn : (m.map (·.1)).Nodup) (hdp : ∀ p ∈ m, p.2.enc.depth ≤ 1) :
    ED (gx K) (tThen (tCB (rSrtIt P w K) (tCons (tEM0 P w K (rItems P w K) td) tNil)) (kTupF K)) σ H (keyM m) := by
  obtain ⟨kvs, h1, h2⟩ := hd
  refine ed_tupleL (el_srtIt (P := P) (w := w) (m := kvs.map fun p => (kN p.1, p.2)) (md := (encM m).map fun p => (kN p.1, p.2)) ha (fun H2 r => ⟨.inl ⟨kvs, r _ _ h1, rfl⟩, mrel_kN (h2.imp fun _ _ z => z.ex r)⟩) ?_ ?_ fun H2 p r hp => .inl ⟨kvs, (r.trans (Ex.new hp)) _ _ h1, rfl⟩)
  · have e : ((encM m).map fun p => (kN p.1, p.2)).map encP = (itemsT m).map encT := by
      rw [encM, List.map_map, List.map_map, itemsT, List.map_map]
      rfl
    rw [e]
    refine srt_names ?_ fun p hp => ?_
    · rw [itemsT, List.map_map]
      exact hn
    · obtain ⟨q, hq, rfl⟩ := List.mem_map.mp hp
      exact Nat.le_trans (hdp q hq) (by decide)
  · rw [List.length_map, List.length_map, (List.mergeSort_perm _ _).length_eq, itemsT, encM, List.length_map, List.length_map]
section
variable {P : Program} {w : World} {K : PySem.W.Frag} {mg : Str → Option Value} {base : Heap}
theorem ok_all_maps {k : Nat} {f : Addr} {fd : FuncData} (F : FnP K "all_maps" "all_maps" s_all_maps f fd) (T : Txt mg) (c_head_map : Callee P w K mg base "head_map" k ["first", "second"] (sp_head_map K)) (c_matched : Callee P w K mg base "matched" k ["terms", "other", "known"] (sp_matched K)) :
    FnOk P w K mg base CX0 (k + 1) f fd ["first", "second"] (sp_all_maps K) := by
  refine mk_ok F sc_all_maps (fun vs H Q E h => ?_) (fun cdv A outer s H vs Q E hr h => ?_)
  · obtain ⟨v1, v2, r1, r2, rfl, _⟩ := h
    rfl
  · obtain ⟨v1, v2, r1, r2, rfl, h1, h2, hw1, hw2, hl, q⟩ := h
    have nd := sc_all_maps.nd
    refine ⟨_, (pss_cons (ps_set (i := 2) nd rfl (by first | exact Or.inl rfl | exact Or.inr rfl) (pe_cal c_head_map hr (pa_cons (pv 0) (pa_cons (pv 1) pa_nil)))) (pss_cons (ps_set (i := 3) nd rfl (by first | exact Or.inl rfl | exact Or.inr rfl) (pe_ifExp (pt_cmp (pc_isN (pv 2))) (pe_lst pa_nil) (pe_lst (pa_cons (pv 2) pa_nil)))) (pss_cons (ps_for PassesOwn.never rfl (k_itup (K := K) (k_ixT (K := K) (pv 0) pe_int)) (k_pgt (K := K) (n := 2) (pgs_cons (pg_name (i := 4) nd rfl (by first | exact Or.inl rfl | exact Or.inr rfl)) (pgs_cons (pg_name (i := 5) nd rfl (by first | exact Or.inl rfl | exact Or.inr rfl)) pgs_nil))) (pss_cons (ps_set (i := 6) nd rfl (by first | exact Or.inl rfl | exact Or.inr rfl) (k_dnewN (P := P) (w := w) (K := K))) (pss_cons (ps_for PassesOwn.never rfl (k_ilist (K := K) (pv 3)) (pg_name (i := 7) nd rfl (by first | exact Or.inl rfl | exact Or.inr rfl)) (pss_one (ps_for PassesOwn.never rfl (k_itup (K := K) (k_ixT (K := K) (pv 1) pe_int)) (k_pgt (K := K) (n := 2) (pgs_cons (pg_name (i := 8) nd rfl (by first | exact Or.inl rfl | exact Or.inr rfl)) (pgs_cons (pg_name (i := 9) nd rfl (by first | exact Or.inl rfl | exact Or.inr rfl)) pgs_nil))) (pss_cons (ps_set (i := 10) nd rfl (by first | exact Or.inl rfl | exact Or.inr rfl) (pe_ifExp (pt_cmpR (k_eq (K := K) hr.units) (pv 8) (pv 4) (nomark _)) (pe_cal c_matched hr (pa_cons (pv 5) (pa_cons (pv 9) (pa_cons (pv 7) pa_nil)))) pe_non)) (pss_one (ps_if (pt_cmp (pc_notN (pv 10))) (pss_one (k_nput (P := P) (w := w) (K := K) hr.units (pv 6) (k_tuple (K := K) T (k_cb T.f_sorted (k_srtIt (P := P) (w := w) (K := K) rfl (hu80 hr)) (pa_cons (k_items (P := P) (w := w) (K := K) (pv 10)) pa_nil))) (pv 10))) pss_nil)))))) (pss_one (ps_set (i := 3) nd rfl (by first | exact Or.inl rfl | exact Or.inr rfl) (k_cty T.f_list (k_listVals (P := P) (w := w) (K := K) rfl) (pa_cons (k_vals (P := P) (w := w) (K := K) (pv 6)) pa_nil))))))) (pss_one (ps_ret (pv 3)))))), ?_⟩
    refine seqI (asgI (call2 rfl rfl ?_))
    refine head_map_uni h1 h2 hw1 hw2 hl fun s2 H1 e1 hst => ?_
    dsimp only
    refine seqI (asgI ?_)
    refine start_list (i := 2) rfl hst fun mp xs hmp hxs => ?_
    have e2 : Ex H1 (upd H1 mp (.lst xs)) := Ex.new hmp
    have e02 := e1.trans e2
    have hmp0 : H mp = none := Evl.fresh_back e1 hmp
    dsimp only
    -- for table, terms in first[1]
    refine q_for (G := gx K) trivial (ei_tup (ed_ix (i := 1) (ed_var (d := encR r1) rfl (h1.ex e02)) ed_int rfl)) fun J H6 r6 hs => ?_
    obtain ⟨at_, us, rfl, t1, t2⟩ := hs
    have hul : us.length = r1.2.length := by rw [t2.len, List.length_map]
    have e06 := e02.trans r6
    have mstart : mapsFrom r1 r2 (r1.2.take 0) = startM r1 r2 := rfl
    refine ⟨us.length, _, _, fun j σ' H' => ∃ mp xs s4 s5 s6 s7 s8 s9 s10, σ' = [some v1, some v2, some s2, some (.ref mp), s4, s5, s6, s7, s8, s9, s10] ∧ Ex H6 H' ∧ H mp = none ∧ H' mp = some (.lst xs) ∧ Paired (EnvAt K H') xs (mapsFrom r1 r2 (r1.2.take j)), walk_tup,
      ⟨mp, xs, none, none, none, none, none, none, none, rfl, Ex.refl _, hmp0, r6 _ _ upd_same, L2.Paired.mapP hxs fun _ _ z => z.ex r6⟩, fun j σ' H' _ hp => ?_, fun j x σ' Ha Hb hj hp y => ?_, fun σ' H' hp => ?_⟩
    · obtain ⟨_, _, _, _, _, _, _, _, _, _, ex, _⟩ := hp
      exact Evl.ex_t ex t1
    · obtain ⟨mp, xs, s4, s5, s6, s7, s8, s9, s10, rfl, ex, hmp0, hxs, hM⟩ := hp
      obtain ⟨rfl, hx⟩ := y
      obtain ⟨dd, hdd, nx⟩ := t2.getV hx
      rw [List.getElem?_map] at hdd
      cases hata : r1.2[j]? with
      | none => rw [hata] at hdd; cases hdd
      | some atm =>
      rw [hata] at hdd
      cases hdd
      have hmem := List.mem_of_getElem? hata
      have hwa := hw1.atoms _ hmem
      have nx := nx.ex ex
      cases nx with
      | @tup T0 ws _ b1 b2 =>
      cases b2 with
      | @cons w1 vs1 _ _ c1 c2 =>
      cases c2 with
      | @cons w2 vs2 _ _ c3 c4 =>
      cases c4
      cases c1
      refine st_pair (G := gx K) b1.sq _ (Ex.refl _) _ ?_
      have enext : mapsFrom r1 r2 (r1.2.take (j + 1)) = stepM r2.2 (mapsFrom r1 r2 (r1.2.take j)) atm := by rw [List.take_add_one, hata]; exact mapsFrom_snoc _ _ _ _
      have hMok := maps_ok hl hw1.atoms hw2 j
      have hMlen : (mapsFrom r1 r2 (r1.2.take j)).length ≤ 3125 := by
        refine Nat.le_trans (maps_len hw2.most _) ?_
        have hl : (r1.2.take j).length ≤ 5 := by have := hw1.most; rw [List.length_take]; omega
        exact Nat.le_trans (Nat.pow_le_pow_right (by decide) hl) (by decide)
      generalize mapsFrom r1 r2 (r1.2.take j) = ms at hM enext hMok hMlen
      have e0b := e06.trans ex
      -- following = {}
      refine seqI ?_
      refine fun D ob hD hDN => ?_
      have e7 : Ex Hb (upd Hb D ob) := Ex.new hD
      refine nmI ?_
      dsimp only
      have hlx : xs.length = ms.length := Paired.length hM
      have srcW : EvI (gx K) (iList K (tVar 3)) [some v1, some v2, some s2, some (.ref mp), some (.str atm.1), some w2, some (.ref D), s7, s8, s9, s10] (upd Hb D ob) (fun J H2 => J = Itl K mp ∧ Ex (upd Hb D ob) H2) := fun H2 r2 Q q =>
        ⟨.ref mp, rfl, mp, rfl, ⟨xs, SqL.of (r2 _ _ (e7 _ _ hxs))⟩, q _ H2 (Ex.refl _) ⟨rfl, r2⟩⟩
      refine q_for (G := gx K) trivial srcW fun J H7 r7 hs => ?_
      obtain ⟨rfl, _⟩ := hs
      refine ⟨xs.length, _, _, fun i σ' H' => ∃ s7 s8 s9 s10 kvs, σ' = [some v1, some v2, some s2, some (.ref mp), some (.str atm.1), some w2, some (.ref D), s7, s8, s9, s10] ∧ Ex Hb H' ∧ DN P w K H' D kvs ∧ MRel (EnvAt K H') kvs (putAll (candsM r2.2 atm (ms.take i))), walk_list (K := K) (a := mp) (xs := xs),
        ⟨s7, s8, s9, s10, [], rfl, e7.trans r7, hDN.ex' r7, .nil⟩, fun i σ' H' _ hp => ?_, fun i x σ' Hc Hd hi hp y => ?_, fun σ' H' hp => ?_⟩
      · obtain ⟨_, _, _, _, _, _, ex2, _⟩ := hp
        exact SqL.of (ex2 _ _ hxs)
      · obtain ⟨s7, s8, s9, s10, kvs, rfl, ex2, hDN2, hMR⟩ := hp
        obtain ⟨rfl, hx2⟩ := y
        obtain ⟨m, hmi, hEm⟩ := prd_get hM hx2
        obtain ⟨dm, rfl, hdm⟩ := hEm.ex ex2
        have hmok := hMok m (List.mem_of_getElem? hmi)
        refine nmI ?_
        -- for other, targets in second[1]
        refine s_for (G := gx K) trivial (ei_tup (ed_ix (i := 1) (ed_var (d := encR r2) rfl ((h2.ex e0b).ex ex2)) ed_int rfl)) fun J H8 r8 hs => ?_
        obtain ⟨bt_, ys, rfl, u1, u2⟩ := hs
        have hyl : ys.length = r2.2.length := by rw [u2.len, List.length_map]
        have hcl0 := candsM_len r2.2 atm (ms.take i)
        have hcl : (candsM r2.2 atm (ms.take i)).length ≤ 15625 := by
          have h1 : (ms.take i).length ≤ 3125 := by rw [List.length_take]; omega
          have h2 := Nat.mul_le_mul h1 hw2.most
          omega
        refine ⟨ys.length, _, _, fun n σ' H' => ∃ s8 s9 s10 kvs, σ' = [some v1, some v2, some s2, some (.ref mp), some (.str atm.1), some w2, some (.ref D), some (.ref dm), s8, s9, s10] ∧ Ex Hb H' ∧ DKA K H' dm (encM m) ∧ Tx K H8 H' ∧ DN P w K H' D kvs ∧ MRel (EnvAt K H') kvs (putAll (candsM r2.2 atm (ms.take i) ++ (r2.2.take n).filterMap (candM atm m))), walk_tup,
          ⟨s8, s9, s10, kvs, rfl, ex2.trans r8, hdm.mono (Tx.ex r8) (r8 dm), Tx.refl K H8, hDN2.ex' r8, by rw [List.take_zero, List.filterMap_nil, List.append_nil]; exact hMR.imp fun _ _ z => z.ex r8⟩, fun n σ' H' _ hp => ?_, fun n x σ' He Hf hn hp y => ?_, fun σ' H' hp => ?_⟩
        · obtain ⟨_, _, _, _, _, _, _, tx, _⟩ := hp
          exact tx.1 _ _ u1
        · obtain ⟨s8, s9, s10, kvs, rfl, ex3, hdm3, tx3, hDN3, hMR3⟩ := hp
          obtain ⟨rfl, hx3⟩ := y
          obtain ⟨dd, hdd, nb⟩ := u2.getV hx3
          rw [List.getElem?_map] at hdd
          cases hbn : r2.2[n]? with
          | none => rw [hbn] at hdd; cases hdd
          | some bat =>
          rw [hbn] at hdd
          cases hdd
          have hwb := hw2.atoms _ (List.mem_of_getElem? hbn)
          have nb := nb.t tx3
          cases nb with
          | @tup T3 ws3 _ b3 b4 =>
          cases b4 with
          | @cons x1 vs3 _ _ c5 c6 =>
          cases c6 with
          | @cons x2 vs4 _ _ c7 c8 =>
          cases c8
          cases c5
          refine st_pair (G := gx K) b3.sq _ (Ex.refl _) _ ?_
          have c3f : NV K Hf w2 (.tup (atm.2.map Tm.enc)) := c3.ex ex3
          have stepE : ((r2.2.take (n + 1)).filterMap (candM atm m)) = (r2.2.take n).filterMap (candM atm m) ++ (candM atm m bat).toList := by
            rw [List.take_add_one, hbn, List.filterMap_append]
            congr 1
          refine q_asg (G := gx K) (P := fun v H2 => FitAt K Hf H2 v (candM atm m bat)) trivial ?_ fun v Hg rg hv => ?_
          · refine ev_if (b := decide (NestedKey.text bat.1 = .text atm.1)) (et_test (eb_eqN (ed_var rfl (.str _)) (ed_var rfl (.str _)))) (fun hb => ?_) fun hb => ?_
            · have hb : bat.1 = atm.1 := by have := of_decide_eq_true hb; injection this
              refine fun H2 r2' Q q => ?_
              have hcd : candM atm m bat = fitL Tm.val (atm.2.zip bat.2) m := if_pos hb
              refine ⟨w2, rfl, x2, rfl, .ref dm, rfl, w2, x2, dm, atm.2, bat.2, m, rfl, c3f.ex r2', c7.ex r2', by rw [hwa.len, hwb.len, hb], by rw [hwa.len]; have := arN_le atm.1; omega, fun t ht => Nat.le_trans (tm_depth (hwa.tms t ht)) (by decide), fun t ht => Nat.le_trans (tm_depth (hwb.tms t ht)) (by decide), fun p hp => Nat.le_trans (hmok.deep p hp) (by decide),
                hdm3.mono (Tx.ex r2') (r2' dm), ?_, fun hno H3 e3 => q _ H3 e3 (.inl ⟨rfl, hcd.trans hno⟩), fun m' hm' H3 d3 e3 _ hd3 => q _ H3 e3 (.inr ⟨d3, m', hcd.trans hm', rfl, hd3⟩)⟩
              have hq1 := hmok.len
              have hq2 := tmsOf_len (l := r1.2.take j) fun b hb => hw1.atoms b (List.mem_of_mem_take hb)
              have hq3 : (r1.2.take j).length ≤ 5 := by have := hw1.most; rw [List.length_take]; omega
              have hq4 := hw1.head
              omega
            · have hb : ¬ bat.1 = atm.1 := fun e => by
                have := of_decide_eq_false hb
                exact this (by rw [e])
              exact ev_c fun H2 _ => .inl ⟨rfl, if_neg hb⟩
          · refine ifI ?_
            refine ⟨v, rfl, !decide (v = .non), rfl, ?_⟩
            rcases hv with ⟨rfl, hno⟩ | ⟨d9, m', hm', rfl, hd9⟩
            · rw [decide_eq_true rfl]
              refine ifF ?_
              refine nextI ?_
              refine ⟨_, _, _, kvs, rfl, ex3.trans rg, hdm3.mono (Tx.ex rg) (rg dm), tx3.trans (Tx.ex rg), hDN3.ex' rg, ?_⟩
              rw [stepE, hno, Option.toList_none, List.append_nil]
              exact hMR3.imp fun _ _ z => z.ex rg
            · rw [decide_eq_false (fun z => by cases z)]
              refine ifT ?_
              have hmok' := candM_ok hmok hwa hwb hm'
              refine ⟨.ref d9, rfl, .ref D, rfl, ?_⟩
              refine ed_keyM (P := P) (w := w) (ea_var rfl) hd9 hmok'.nodup hmok'.deep Hg (Ex.refl _) _ fun kv Hk rk nk => ?_
              have nk0 := nk
              cases nk with
              | @tup kb ks _ k1 k2 =>
              have hDNk := (hDN3.ex' rg).ex' rk
              have rgk := rg.trans rk
              have hkl := hMR3.len
              have hpl := putAll_len (candsM r2.2 atm (ms.take i) ++ (r2.2.take n).filterMap (candM atm m))
              refine ⟨D, kvs, keyM m', kb, rfl, rfl, hDNk, nk0, Nat.le_trans (keyM_depth hmok'.deep) (by decide), ?_, fun ob2 hD2 => ?_⟩
              · have h3 := List.length_filterMap_le (candM atm m) (r2.2.take n)
                have h4 := hw2.most
                rw [List.length_take] at h3
                rw [List.length_append] at hpl
                rw [sizeLine_eq]
                omega
              · have eD9 : EnvAt K Hk (.ref d9) m' := ⟨d9, rfl, hd9.mono (Tx.ex rk) (rk d9)⟩
                have txu : Tx K Hk (upd Hk D ob2) := Tx.upd (.inr hDNk.mut)
                have hdmk : EnvAt K Hk (.ref dm) m := ⟨dm, rfl, hdm3.mono (Tx.ex rgk) (rgk dm)⟩
                obtain ⟨dm', edm, hdmu⟩ := hdmk.up (o := ob2) hDNk
                cases edm
                refine ⟨_, _, _, _, rfl, (ex3.trans rgk).mut hD, hdmu, (tx3.trans (Tx.ex rgk)).trans txu, hD2, ?_⟩
                rw [stepE, hm', Option.toList_some, ← List.append_assoc, putAll_snoc]
                exact MRel.put (hMR3.imp fun _ _ z => (z.ex rgk).up hDNk) (keyM m') (eD9.up hDNk)
        · obtain ⟨s8, s9, s10, kvs, rfl, ex3, _, tx3, hDN3, hMR3⟩ := hp
          rw [hyl, List.take_length] at hMR3
          refine ⟨_, _, _, _, kvs, rfl, ex3, hDN3, ?_⟩
          rw [List.take_add_one, hmi, candsM, List.flatMap_append]
          show MRel _ _ (putAll (_ ++ List.flatMap (fun m => r2.2.filterMap (candM atm m)) [m]))
          rw [List.flatMap_cons, List.flatMap_nil, List.append_nil]
          exact hMR3
      · obtain ⟨s7, s8, s9, s10, kvs, rfl, ex2, hDN2, hMR⟩ := hp
        rw [hlx, List.take_length] at hMR
        refine ⟨.ref D, rfl, ⟨D, kvs, rfl, .inr hDN2⟩, D, kvs, rfl, rfl, .inr hDN2, fun vp hvp => ?_⟩
        have r8 : Ex H' (upd H' vp (valsO vp D)) := Ex.new hvp
        refine ⟨vp, D, kvs, rfl, upd_same, .inr (hDN2.ex' r8), fun lp hlp => ?_⟩
        have r9 : Ex (upd H' vp (valsO vp D)) (upd (upd H' vp (valsO vp D)) lp (.lst (kvs.map (·.2)))) := Ex.new hlp
        refine nmI ?_
        refine ⟨lp, kvs.map (·.2), _, _, _, _, _, _, _, rfl, ((ex.trans ex2).trans r8).trans r9, Evl.fresh_back (((e0b.trans ex2).trans r8)) hlp, upd_same, ?_⟩
        rw [enext, stepM]
        exact mrel_snd (hMR.imp fun _ _ z => (z.ex r8).ex r9)
    · obtain ⟨mp, xs, s4, s5, s6, s7, s8, s9, s10, rfl, ex, hmp0, hxs, hM⟩ := hp
      rw [hul, List.take_length] at hM
      exact ⟨.ref mp, rfl, q H' mp xs (e06.trans ex) hmp0 hxs hM⟩
end
end Ew
set_option Elab.async false
set_option linter.all false
set_option maxRecDepth 100000
set_option maxHeartbeats 4000000
namespace Ew
open PySem PySem.Spec PyProof.Rows L2
open Evl (Ex)
/-! ### the atoms that the law draws, told -/
def allT : List Tm := names4.map .var ++ vals3.map .val
def allA : List Atom := (allT.flatMap fun t => allT.map fun u => (("e" : Str), [t, u])) ++ allT.map fun t => (("p" : Str), [t])
theorem mem_allT {t : Tm} (h : WfT t) : t ∈ allT := by
  cases t with
  | var x => exact List.mem_append_left _ (List.mem_map.mpr ⟨x, h, rfl⟩)
  | val c => exact List.mem_append_right _ (List.mem_map.mpr ⟨c, h, rfl⟩)
theorem mem_allA {a : Atom} (h : WfA a) : a ∈ allA := by
  obtain ⟨x, ts⟩ := a
  obtain ⟨h1, h2, h3⟩ := h
  rcases h1 with h1 | h1
  · have h1 : x = "e" := h1
    subst h1
    have h2 : ts.length = 2 := h2
    match ts, h2, h3 with
    | [t, u], _, h3 => exact List.mem_append_left _ (List.mem_flatMap.mpr ⟨t, mem_allT (h3 t (by simp)), List.mem_map.mpr ⟨u, mem_allT (h3 u (by simp)), rfl⟩⟩)
  · have h1 : x = "p" := h1
    subst h1
    have h2 : ts.length = 1 := h2
    match ts, h2, h3 with
    | [t], _, h3 => exact List.mem_append_right _ (List.mem_map.mpr ⟨t, mem_allT (h3 t (by simp)), rfl⟩)
def rpA (a : Atom) : Str := reprN (encA a)
theorem reprs_ok : ∀ a ∈ allA, (toPy (encA a)).showable = true ∧ (rpA a).length ≤ 1000 := by decide +kernel
/-- a text as a number -/
def codeS (x : Str) : Nat := x.cps.toList.foldl (fun h c => h * 256 + c) 0
theorem reprs_codes : allA.map (fun a => codeS (rpA a)) = [304709795348392805269340243996368436988106931682757728227467600882920381844424304937, 304709795348392805269340243996368436988106931682757728227467600882920381848719272233, 304709795348392805269340243996368436988106931682757728227467600882920381853014239529, 304709795348392805269340243996368436988106931682757728227467600882920381831539403049, 304709795348392805269340243996368436988106931682757728227467573991676780680648927529, 304709795348392805269340243996368436988106931682757728227467573991676780680665704745, 19969461147952270886131482230546001886452575874761210477115314929118529498677352994515241, 304709795348392805269340243996368436988129232427956258850609136601193030205930285353, 304709795348392805269340243996368436988129232427956258850609136601193030210225252649, 304709795348392805269340243996368436988129232427956258850609136601193030214520219945, 304709795348392805269340243996368436988129232427956258850609136601193030193045383465, 304709795348392805269340243996368436988129232427956258850609109709949429042154907945, 304709795348392805269340243996368436988129232427956258850609109709949429042171685161, 19969461147952270886131482230546001886454037376398541380033518613951245781697008927058217, 304709795348392805269340243996368436988151533173154789473750672319465678567436265769, 304709795348392805269340243996368436988151533173154789473750672319465678571731233065, 304709795348392805269340243996368436988151533173154789473750672319465678576026200361, 304709795348392805269340243996368436988151533173154789473750672319465678554551363881, 304709795348392805269340243996368436988151533173154789473750645428222077403660888361, 304709795348392805269340243996368436988151533173154789473750645428222077403677665577, 19969461147952270886131482230546001886455498878035872282951722298783962064716664859601193, 304709795348392805269340243996368436988040029447162136358042993728102436759906363689, 304709795348392805269340243996368436988040029447162136358042993728102436764201330985, 304709795348392805269340243996368436988040029447162136358042993728102436768496298281, 304709795348392805269340243996368436988040029447162136358042993728102436747021461801, 304709795348392805269340243996368436988040029447162136358042966836858835596130986281, 304709795348392805269340243996368436988040029447162136358042966836858835596147763497, 19969461147952270886131482230546001886448191369849217768360703874620380649618385196886313, 304709795348392805269340243856741117315689475603778099600198897337559106003726313769, 304709795348392805269340243856741117315689475603778099600198897337559106008021281065, 304709795348392805269340243856741117315689475603778099600198897337559106012316248361, 304709795348392805269340243856741117315689475603778099600198897337559105990841411881, 304709795348392805269340243856741117315689475603778099600198870446315504839950936361, 304709795348392805269340243856741117315689475603778099600198870446315504839967713577, 19969461147952270886131482221395385864401025473169201535398633173569732925181369445329193, 304709795348392805269340243856741117315689562716064031360445543961458608536388446505, 304709795348392805269340243856741117315689562716064031360445543961458608540683413801, 304709795348392805269340243856741117315689562716064031360445543961458608544978381097, 304709795348392805269340243856741117315689562716064031360445543961458608523503544617, 304709795348392805269340243856741117315689562716064031360445517070215007372613069097, 304709795348392805269340243856741117315689562716064031360445517070215007372629846313, 19969461147952270886131482221395385864401031182159972359238157406713610723161914976315689, 19969461147952270886131482221395385864400975340661501629180583232355120061920890197715241, 19969461147952270886131482221395385864400975340661501629180583232355120061920894492682537, 19969461147952270886131482221395385864400975340661501629180583232355120061920898787649833, 19969461147952270886131482221395385864400975340661501629180583232355120061920877312813353, 19969461147952270886131482221395385864400975340661501629180583232328228818319726422337833, 19969461147952270886131482221395385864400975340661501629180583232328228818319726439115049, 1308718605792200024793512818861368008009382319925592170769978702713862803837401581159212198185, 15023415610663629103287712704575880736635222397561129, 15023415610663629103287712704575880736636321909188905, 15023415610663629103287712704575880736637421420816681, 15023415610663629103287712704575880736631923862677801, 15023415610663629103287712697691722374737295900944681, 15023415610663629103287712697691722374737300195911977, 984574565460451596913063539355924717550780952440696744233] := by decide +kernel
theorem reprs_nodup : (allA.map fun a => codeS (rpA a)).Nodup := by
  rw [reprs_codes]
  decide +kernel
theorem rpA_inj {a b : Atom} (ha : WfA a) (hb : WfA b) (e : rpA a = rpA b) : a = b := by
  have key : ∀ (l : List Atom), (l.map fun a => codeS (rpA a)).Nodup → ∀ a ∈ l, ∀ b ∈ l, codeS (rpA a) = codeS (rpA b) → a = b := by
    intro l
    induction l with
    | nil => intro _ a ha; exact (nomatch ha)
    | cons c l ih =>
      intro hn a ha b hb e
      rw [List.map_cons, List.nodup_cons] at hn
      rcases List.mem_cons.mp ha with ha | ha
      · rcases List.mem_cons.mp hb with hb | hb
        · rw [ha, hb]
        · exact absurd (List.mem_map.mpr ⟨b, hb, by rw [← e, ha]⟩) hn.1
      · rcases List.mem_cons.mp hb with hb | hb
        · exact absurd (List.mem_map.mpr ⟨a, ha, by rw [e, hb]⟩) hn.1
        · exact ih hn.2 a ha b hb e
  exact key allA reprs_nodup a (mem_allA ha) b (mem_allA hb) (by rw [e])
end Ew
set_option Elab.async false
set_option linter.all false
set_option maxRecDepth 100000
set_option maxHeartbeats 4000000
namespace Ew
open PySem PySem.Spec PyProof.Rows L2
open Evl (Ex)
/-! ### data, each once -/
def addG {α : Type} [DecidableEq α] (acc : List α) (x : α) : List α := if x ∈ acc then acc else acc ++ [x]
def dedG {α : Type} [DecidableEq α] (l : List α) : List α := l.foldl addG []
theorem len_addG {α : Type} [DecidableEq α] (acc : List α) (x : α) : (addG acc x).length ≤ acc.length + 1 := by unfold addG; split <;> simp
theorem dedG_len {α : Type} [DecidableEq α] (l : List α) : (dedG l).length ≤ l.length := by
  have : ∀ (l acc : List α), (l.foldl addG acc).length ≤ acc.length + l.length := by
    intro l
    induction l with
    | nil => exact fun acc => Nat.le_refl _
    | cons x l ih =>
      intro acc
      have h2 := ih (addG acc x)
      have h3 := len_addG acc x
      rw [List.foldl_cons, List.length_cons]
      omega
  have h := this l []
  rw [List.length_nil, Nat.zero_add] at h
  exact h
theorem dedG_nodup {α : Type} [DecidableEq α] {l : List α} : (dedG l).length = l.length ↔ l.Nodup := by
  have key : ∀ (l acc : List α), acc.Nodup → ((l.foldl addG acc).length = acc.length + l.length ↔ (acc ++ l).Nodup) := by
    intro l
    induction l with
    | nil => intro acc h; simpa using h
    | cons x l ih =>
      intro acc hacc
      rw [List.foldl_cons, List.length_cons]
      by_cases hx : x ∈ acc
      · have e : addG acc x = acc := if_pos hx
        rw [e]
        have h2 : (l.foldl addG acc).length ≤ acc.length + l.length := by
          have : ∀ (l acc : List α), (l.foldl addG acc).length ≤ acc.length + l.length := by
            intro l
            induction l with
            | nil => exact fun acc => Nat.le_refl _
            | cons x l ih =>
              intro acc
              have h2 := ih (addG acc x)
              have h3 := len_addG acc x
              rw [List.foldl_cons, List.length_cons]
              omega
          exact this l acc
        refine ⟨fun h => by omega, fun h => ?_⟩
        exact absurd rfl ((List.nodup_append.mp h).2.2 x hx x List.mem_cons_self)
      · have e : addG acc x = acc ++ [x] := if_neg hx
        rw [e]
        have hn : (acc ++ [x]).Nodup := List.nodup_append.mpr ⟨hacc, by simp, fun a ha b hb e => hx (by simp at hb; rw [← hb, ← e]; exact ha)⟩
        have h := ih (acc ++ [x]) hn
        rw [List.length_append, List.length_singleton, List.append_assoc] at h
        rw [← Nat.add_assoc, Nat.add_right_comm]
        exact h
  have h := key l [] List.nodup_nil
  rw [List.length_nil, Nat.zero_add, List.nil_append] at h
  exact h
def keysN (xs : List Nk) : List (Nk × V) := xs.map fun x => (x, V.bl true)
theorem keysN_put (xs : List Nk) (x : Nk) : putK (keysN xs) x (.bl true) = keysN (addG xs x) := by
  have hk : (keysN xs).map (·.1) = xs := by rw [keysN, List.map_map]; exact List.map_id _
  rw [putK_eq]
  unfold addG
  by_cases hm : x ∈ xs
  · rw [if_pos hm]
    have h1 : (aGet (keysN xs) x).isSome := aGet_isSome.mpr (by rw [hk]; exact hm)
    obtain ⟨v, hv⟩ := Option.isSome_iff_exists.mp h1
    rw [aPut_old hv, keysN, List.map_map]
    refine List.map_congr_left fun y _ => ?_
    show (if y = x then (y, V.bl true) else (y, V.bl true)) = (y, V.bl true)
    split <;> rfl
  · rw [if_neg hm, aPut_new (aGet_none (by rw [hk]; exact hm)), keysN, keysN, List.map_append]
    rfl
/-! ### lists of told values -/
section
variable {K : PySem.W.Frag} {G : Gw K} {σ : L2.St} {H : Hp} {wi : TI} {g : TG} {te : TE} {vs : List Nat}
theorem ev_lcV {n : Nat} {src : It → Hp → Prop} (r : Nat → V) (hi : EvI G wi σ H src) (hn : n ≤ 50000)
    (ht : ∀ J H1, G.R H H1 → src J H1 → ∃ Y, Walk J n (fun H2 => G.R H1 H2) Y ∧ ∀ i H2 x H3, i < n → G.R H1 H2 → Y i H2 x H3 → G.R H2 H3 ∧ ∃ σ2, StT G g x (wipe σ vs) H3 σ2 ∧ wipe σ2 vs = wipe σ vs ∧ EvP G te σ2 H3 (fun v _ => v = r i)) :
    EvP G (tLc wi g tYes te vs) σ H (fun v H2 => ∃ p, v = .ref p ∧ H p = none ∧ H2 p = some (.lst ((List.range n).map r))) := by
  refine (ev_lc (fun i acc _ => acc = (List.range i).map r) hi hn (fun _ => rfl) (fun _ _ _ _ _ h => h) (fun i acc Ha h => by rw [h]; simp) fun J H1 a hs => ?_).imp fun v H2 _ ⟨p, xs, e, h1, h2, h3⟩ => ⟨p, e, h1, by rw [h2, h3]⟩
  obtain ⟨Y, hw, turn⟩ := ht J H1 a hs
  refine ⟨Y, hw, fun i H2 x H3 hin r2 y => ?_⟩
  obtain ⟨rb, σ2, hst, hwp, hv⟩ := turn i H2 x H3 hin r2 y
  refine ⟨rb, σ2, true, hst, hwp, et_yes, fun _ => ⟨_, hv, fun v H4 acc _ pv h => ?_⟩, fun e => by cases e⟩
  rw [h, pv, List.range_succ, List.map_append]
  rfl
end
/-! ### a renaming -/
abbrev N_is_renaming : List Str := ["first", "second", "table", "terms", "term", "atoms", "name", "inner", "atom"]
theorem sc_is_renaming : FnScope N_is_renaming ["first", "second", "table"] (defScope s_is_renaming) := ⟨rfl, rfl, rfl, by decide +kernel, rfl, by decide +kernel, by decide +kernel⟩
def putA (m : EnvT) (a : Atom) : Atom := (a.1, putT m a.2)
def sortR (as : List Atom) : List Nk := sortN (as.map fun a => .text (rpA a))
def isRen (r1 r2 : Rule) (m : EnvT) : Bool := (m.all fun p => p.2.isVar) && (decide ((dedG (m.map fun p => p.2.enc)).length = m.length) && decide (sortR (r1.2.map (putA m)) = sortR r2.2))
theorem srt_texts {P : Program} {w : World} (xs : List Str) : SrtTo P w (xs.map .text) (sortN (xs.map .text)) := by
  refine srt_data (fun d hd d' hd' => ?_) (.inr fun d hd => ?_) fun d hd => ?_
  · obtain ⟨x, hx, rfl⟩ := List.mem_map.mp hd
    obtain ⟨y, hy, rfl⟩ := List.mem_map.mp hx
    obtain ⟨x', hx', rfl⟩ := List.mem_map.mp hd'
    obtain ⟨y', hy', rfl⟩ := List.mem_map.mp hx'
    simp [toPy, PySem.W.alike]
  · obtain ⟨x, hx, rfl⟩ := List.mem_map.mp hd
    obtain ⟨y, hy, rfl⟩ := List.mem_map.mp hx
    rw [toPy]
    exact ⟨by simp, by simp⟩
  · obtain ⟨y, hy, rfl⟩ := List.mem_map.mp hd
    rw [toPy]
    simp [PyData.depth]
theorem putA_wf {m : EnvT} {a : Atom} (ha : WfA a) (hm : ∀ p ∈ m, WfT p.2) : WfA (putA m a) := by
  refine ⟨ha.tab, by rw [putA, putT, List.length_map]; exact ha.len, fun t ht => ?_⟩
  obtain ⟨u, hu, rfl⟩ := List.mem_map.mp ht
  have hw := ha.tms u hu
  cases u with
  | val c => exact hw
  | var x =>
    show WfT ((aGet m x).getD (.var x))
    cases e : aGet m x with
    | none => exact hw
    | some t => exact hm _ (aGet_mem e)
def sp_is_renaming (K : PySem.W.Frag) : Sp := fun vs H Q _ => ∃ v1 v2 a r1 r2 m, vs = [v1, v2, .ref a] ∧ NV K H v1 (encR r1) ∧ NV K H v2 (encR r2) ∧ WfR r1 ∧ WfR r2 ∧ DKA K H a (encM m) ∧ MapOk r1.1 r2.1 r1.2 m ∧ ∀ H', Ex H H' → Q (.bl (isRen r1 r2 m)) H'
section
variable {P : Program} {w : World} {K : PySem.W.Frag} {mg : Str → Option Value} {base : Heap}
theorem ed_rp {σ : L2.St} {H : Hp} {te : TE} {a : Atom} (h : ED (gx K) te σ H (encA a)) (ha : WfA a) : ED (gx K) (tCB (rRepr K) (tCons te tNil)) σ H (.text (rpA a)) :=
  ev_cb (ea_one h) fun vs H2 r p Q q => by
    obtain ⟨v, rfl, nv⟩ := p
    obtain ⟨h1, h2⟩ := reprs_ok a (mem_allA ha)
    have hd : (toPy (encA a)).depth ≤ 60 := Nat.le_trans (toPy_depth _) (Nat.le_trans (atom_depth ha) (by decide))
    exact ⟨v, encA a, rfl, nv, h1, Nat.le_trans h2 (by rw [sizeLine_eq]; decide), hd, q _ H2 (Ex.refl _) (.str _)⟩
theorem ok_is_renaming {k : Nat} {f : Addr} {fd : FuncData} (F : FnP K "is_renaming" "is_renaming" s_is_renaming f fd) (T : Txt mg) (c_put_terms : Callee P w K mg base "put_terms" k ["terms", "table"] (spPutTerms K)) : FnG P w K mg base (k + 1) f fd ["first", "second", "table"] (sp_is_renaming K) := by
  refine mk_okG F sc_is_renaming (fun vs H Q E h => ?_) (fun cdv A outer s H vs Q E hgu hr h => ?_)
  · obtain ⟨v1, v2, a, r1, r2, m, rfl, _⟩ := h
    rfl
  · obtain ⟨v1, v2, a, r1, r2, m, rfl, h1, h2, hw1, hw2, hm, hok, q⟩ := h
    have nd := sc_is_renaming.nd
    refine ⟨_, (pss_cons (ps_set (i := 3) nd rfl (by first | exact Or.inl rfl | exact Or.inr rfl) (k_cty T.f_list (k_listVals (P := P) (w := w) (K := K) rfl) (pa_cons (k_vals (P := P) (w := w) (K := K) (pv 2)) pa_nil))) (pss_cons (ps_if (PW.pt (pw_or (pt_not (pt_val (k_cb T.f_all (k_all (K := K)) (pa_cons (pe_lc (own := [("term", 4)]) rfl nd (k_ilist (K := K) (pv 3)) (blkOk_by (N := N_is_renaming) (sc := defScope s_is_renaming) (by decide +kernel)) (fun _ _ _ _ _ => (pg_name (i := 4) nd rfl (by first | exact Or.inl rfl | exact Or.inr rfl))) (fun _ _ _ _ _ => pts_nil) (fun _ _ _ _ _ => (pe_cmpR (k_eq (K := K) hr.units) (k_ixT (K := K) (pv 4) pe_int) pe_str (nomark _)))) pa_nil)))) (pw_or1 (pt_cmpR (k_ne (K := K) hr.units) (k_cb T.f_len (k_nlen (P := P) (w := w) (K := K)) (pa_cons (pe_dcN (P := P) (w := w) (K := K) (own := [("term", 4)]) rfl hr.units nd (k_ilist (K := K) (pv 3)) (blkOk_by (N := N_is_renaming) (sc := defScope s_is_renaming) (by decide +kernel)) (fun _ _ _ _ _ => (pg_name (i := 4) nd rfl (by first | exact Or.inl rfl | exact Or.inr rfl))) (fun _ _ _ _ _ => pts_nil) (fun _ _ _ _ _ => (pv 4)) (fun _ _ _ _ _ => pe_bl)) pa_nil)) (k_cb T.f_len (k_len (K := K)) (pa_cons (pv 3) pa_nil)) (nomark _))))) (pss_one (ps_ret pe_bl)) pss_nil) (pss_cons (ps_setLc (i := 5) (own := [("name", 6), ("inner", 7)]) rfl nd rfl rfl (sw_true rfl rfl rfl (by decide +kernel)) (k_itup (K := K) (k_ixT (K := K) (pv 0) pe_int)) (blkOk_by (N := N_is_renaming) (sc := defScope s_is_renaming) (by decide +kernel)) (fun _ _ _ _ _ => (k_pgt (K := K) (n := 2) (pgs_cons (pg_name (i := 6) nd rfl (by first | exact Or.inl rfl | exact Or.inr rfl)) (pgs_cons (pg_name (i := 7) nd rfl (by first | exact Or.inl rfl | exact Or.inr rfl)) pgs_nil)))) (fun _ _ _ _ _ => pts_nil) (fun _ _ _ _ _ => (pe_tupF (pa_cons (pv 6) (pa_cons (pe_cal c_put_terms hr (pa_cons (pv 7) (pa_cons (pv 2) pa_nil))) pa_nil))))) (pss_one (ps_ret (pe_cmpR (k_eqL (K := K) hr.units) (k_cb T.f_sorted (k_srt (P := P) (w := w) (K := K) (hu80 hr)) (pa_cons (pe_lc (own := [("atom", 8)]) rfl nd (k_ilist (K := K) (pv 5)) (blkOk_by (N := N_is_renaming) (sc := defScope s_is_renaming) (by decide +kernel)) (fun _ _ _ _ _ => (pg_name (i := 8) nd rfl (by first | exact Or.inl rfl | exact Or.inr rfl))) (fun _ _ _ _ _ => pts_nil) (fun _ _ _ _ _ => (k_cb T.f_repr (k_repr (K := K) hgu (hu80 hr)) (pa_cons (pv 8) pa_nil)))) pa_nil)) (k_cb T.f_sorted (k_srt (P := P) (w := w) (K := K) (hu80 hr)) (pa_cons (pe_lc (own := [("atom", 8)]) rfl nd (k_itup (K := K) (k_ixT (K := K) (pv 1) pe_int)) (blkOk_by (N := N_is_renaming) (sc := defScope s_is_renaming) (by decide +kernel)) (fun _ _ _ _ _ => (pg_name (i := 8) nd rfl (by first | exact Or.inl rfl | exact Or.inr rfl))) (fun _ _ _ _ _ => pts_nil) (fun _ _ _ _ _ => (k_cb T.f_repr (k_repr (K := K) hgu (hu80 hr)) (pa_cons (pv 8) pa_nil)))) pa_nil)) (nomark _))))))), ?_⟩
    -- terms
    refine seqI (asgI ?_)
    obtain ⟨kvs, hk1, hk2⟩ := hm
    have dent : ∀ H', Ex H H' → DEnt P w K H' a (kvs.map fun p => (kN p.1, p.2)) := fun H' e => .inl ⟨kvs, e _ _ hk1, rfl⟩
    refine ⟨.ref a, rfl, ⟨a, _, rfl, dent H (Ex.refl _)⟩, a, _, rfl, rfl, dent H (Ex.refl _), fun vp hvp => ?_⟩
    have e1 : Ex H (upd H vp (valsO vp a)) := Ex.new hvp
    refine ⟨vp, a, _, rfl, upd_same, dent _ e1, fun lp hlp => ?_⟩
    have e2 : Ex (upd H vp (valsO vp a)) (upd (upd H vp (valsO vp a)) lp (.lst ((kvs.map fun p => (kN p.1, p.2)).map (·.2)))) := Ex.new hlp
    have e02 := e1.trans e2
    have hl0 : upd (upd H vp (valsO vp a)) lp (.lst ((kvs.map fun p => (kN p.1, p.2)).map (·.2))) lp = some (.lst ((kvs.map fun p => (kN p.1, p.2)).map (·.2))) := upd_same
    generalize upd (upd H vp (valsO vp a)) lp (.lst ((kvs.map fun p => (kN p.1, p.2)).map (·.2))) = H2 at e02 hl0 ⊢
    clear e1 e2
    have hex : (kvs.map fun p => (kN p.1, p.2)).map (·.2) = kvs.map (·.2) := by rw [List.map_map]; rfl
    rw [hex] at hl0
    have hnv : Paired (NV K H2) (kvs.map (·.2)) (m.map fun p => p.2.enc) := by
      have h := mrel_snd (hk2.imp fun _ _ z => z.ex e02)
      rw [encM, List.map_map] at h
      exact h
    have hml : m.length ≤ 12 := by
      have a1 := hok.len
      have a2 := tmsOf_len hw1.atoms
      have a3 := hw1.most
      have a4 := hw1.head
      omega
    generalize kvs.map (·.2) = ys at hl0 hnv
    have hyl : ys.length = m.length := by rw [Paired.length hnv, List.length_map]
    dsimp only
    have hm2 : DKA K H2 a (encM m) := ⟨kvs, e02 _ _ hk1, hk2.imp fun _ _ z => z.ex e02⟩
    have srcT : ∀ (σ : L2.St) (H3 : Hp), Ex H2 H3 → σ[3]? = some (some (.ref lp)) → EvI (gx K) (iList K (tVar 3)) σ H3 (fun J H4 => J = Itl K lp ∧ Ex H2 H4) := fun σ H3 e h3 H4 r Q q =>
      ⟨.ref lp, h3, lp, rfl, ⟨ys, SqL.of ((e.trans r) _ _ hl0)⟩, q _ H4 (Ex.refl _) ⟨rfl, e.trans r⟩⟩
    -- the test
    have tAllV : EvP (gx K) (tCB (rAll K) (tCons (tLc (iList K (tVar 3)) (gName 4) tYes (tOp (rEqN K) (tOp (rIxT K) (tVar 4) (tC (.int 0))) (tC (.str "var"))) [4]) tNil)) [some v1, some v2, some (.ref a), some (.ref lp), none, none, none, none, none] H2 (fun v _ => v = .bl (m.all fun p => p.2.isVar)) := by
      refine ev_cb (ea_one (ev_lcV (n := m.length) (fun i => .bl ((m[i]?.map fun p => p.2.isVar).getD false)) (srcT _ H2 (Ex.refl _) rfl) (by omega) fun J H4 r hs => ?_)) fun vs H4 r p Q q => ?_
      · obtain ⟨rfl, e4⟩ := hs
        have w0 := walk_list (K := K) (a := lp) (xs := ys)
        rw [hyl] at w0
        refine ⟨_, w0.mono (fun H5 r5 => SqL.of ((e4.trans r5) _ _ hl0)) (fun i H5 x H6 _ _ y => y), fun i H5 x H6 hi r5 y => ?_⟩
        obtain ⟨rfl, hx⟩ := y
        obtain ⟨d, hd, nx⟩ := prd_get hnv hx
        rw [List.getElem?_map] at hd
        cases hmi : m[i]? with
        | none => rw [hmi] at hd; cases hd
        | some p =>
        rw [hmi] at hd
        cases hd
        refine ⟨Ex.refl _, _, st_name, rfl, ?_⟩
        have h4 : ED (gx K) (tVar 4) [some v1, some v2, some (.ref a), some (.ref lp), some x, none, none, none, none] H6 p.2.enc := ed_var rfl (nx.ex (e4.trans r5))
        refine (eb_eq (eb_eqN (ed_kind (b := 0) h4) ed_str p.2.kind_depth) p.2.kind_var).imp fun v _ _ e => ?_
        rw [e]
        rfl
      · obtain ⟨v, rfl, p, rfl, _, hp⟩ := p
        have el : (List.range m.length).map (fun i => V.bl ((m[i]?.map fun p => p.2.isVar).getD false)) = (m.map fun p => p.2.isVar).map V.bl := by
          refine List.ext_getElem? fun i => ?_
          rw [List.getElem?_map, List.getElem?_map, List.getElem?_map]
          by_cases hi : i < m.length
          · rw [List.getElem?_range hi, List.getElem?_eq_getElem hi, Option.map_some, Option.map_some, Option.map_some, List.getElem?_eq_getElem hi]
            rfl
          · rw [List.getElem?_eq_none (by simp; omega), List.getElem?_eq_none (by omega)]
            rfl
        rw [el] at hp
        refine ⟨p, _, rfl, SqL.of hp, q _ H4 (Ex.refl _) ?_⟩
        rw [List.all_map]
        rfl
    have tLenD : ED (gx K) (tCB (rNLen P w K) (tCons (tDcN P w K (iList K (tVar 3)) (gName 4) tYes (tVar 4) (tC (.bl true)) [4]) tNil)) [some v1, some v2, some (.ref a), some (.ref lp), none, none, none, none, none] H2 (.num ((dedG (m.map fun p => p.2.enc)).length : Nat)) := fun H3 r3 Q q => by
      refine ⟨.ref lp, rfl, lp, rfl, ⟨ys, SqL.of (r3 _ _ hl0)⟩, ?_⟩
      intro D ob hD hDN
      have e4 : Ex H3 (upd H3 D ob) := Ex.new hD
      refine dcN_it (walk_list (K := K) (a := lp) (xs := ys)) (fun i H' => Ex H3 H' ∧ DN P w K H' D (keysN (dedG ((m.map fun p => p.2.enc).take i)))) ⟨e4, hDN⟩ (fun i H' _ hp => SqL.of (hp.1 _ _ (r3 _ _ hl0))) (fun i x Ha Hb hi hp y => ?_) (fun H' hp => ?_)
      · obtain ⟨rfl, hx⟩ := y
        obtain ⟨d, hd, nx⟩ := prd_get hnv hx
        have hd0 := hd
        rw [List.getElem?_map] at hd
        cases hmi : m[i]? with
        | none => rw [hmi] at hd; cases hd
        | some p =>
        rw [hmi] at hd
        cases hd
        have nx : NV K Hb x p.2.enc := (nx.ex r3).ex hp.1
        have hdp : p.2.enc.depth ≤ 1 := hok.deep p (List.mem_of_getElem? hmi)
        have nx0 := nx
        have hxr : ∃ b, x = .ref b := by
          cases he : p.2 with
          | var z => rw [he] at nx; cases nx; exact ⟨_, rfl⟩
          | val z => rw [he] at nx; cases nx; exact ⟨_, rfl⟩
        obtain ⟨b, rfl⟩ := hxr
        refine ⟨rfl, ?_⟩
        refine ⟨.ref b, rfl, _, p.2.enc, b, rfl, hp.2, nx0, by omega, ?_, fun ob2 hD2 => ⟨hp.1.mut hD, ?_⟩⟩
        · have h6 := dedG_len ((m.map fun p => p.2.enc).take i)
          rw [List.length_take, List.length_map] at h6
          rw [keysN, List.length_map, sizeLine_eq]
          omega
        · rw [keysN_put] at hD2
          rw [List.take_add_one, hd0, dedG, List.foldl_append]
          exact hD2
      · obtain ⟨ex, hDN2⟩ := hp
        have e6 : (m.map fun p => p.2.enc).take ys.length = m.map fun p => p.2.enc := List.take_of_length_le (by rw [List.length_map]; omega)
        rw [e6] at hDN2
        refine ⟨D, _, rfl, hDN2, q _ H' ex ?_⟩
        rw [keysN, List.length_map]
        exact .int _
    have tLenT : ED (gx K) (tCB (rLenS K) (tCons (tVar 3) tNil)) [some v1, some v2, some (.ref a), some (.ref lp), none, none, none, none, none] H2 (.num (m.length : Nat)) := fun H3 r3 Q q =>
      ⟨.ref lp, rfl, lp, ys, rfl, .inl (SqL.of (r3 _ _ hl0)), q _ H3 (Ex.refl _) (by rw [hyl]; exact .int _)⟩
    refine q_when (G := gx K) (b := (!(m.all fun p => p.2.isVar)) || !decide ((dedG (m.map fun p => p.2.enc)).length = m.length)) trivial (et_or (et_not (a := m.all fun p => p.2.isVar) (et_B tAllV)) fun _ => et_test (eb_eq (eb_neN tLenD tLenT (by simp [NestedKey.depth])) ?_)) (fun hb H3 e3 => ?_) fun hb H3 e3 => ?_
    · congr 1
      refine decide_eq_decide.mpr ⟨fun h => ?_, fun h => by rw [h]⟩
      injection h with h
      exact Int.ofNat.inj h
    · have e : isRen r1 r2 m = false := by
        unfold isRen
        cases h1 : (m.all fun p => p.2.isVar) with
        | false => rfl
        | true =>
          rw [h1] at hb
          have hb : (!decide ((dedG (m.map fun p => p.2.enc)).length = m.length)) = true := hb
          have hb : decide ((dedG (m.map fun p => p.2.enc)).length = m.length) = false := by simpa using hb
          rw [hb]
          rfl
      have q := q H3 (e02.trans e3)
      rw [e] at q
      exact q
    · have hb1 : (m.all fun p => p.2.isVar) = true := by
        cases h1 : (m.all fun p => p.2.isVar) with
        | true => rfl
        | false => rw [h1] at hb; exact absurd hb (by simp)
      rw [hb1] at hb
      have hb : (!decide ((dedG (m.map fun p => p.2.enc)).length = m.length)) = false := hb
      have hb2 : decide ((dedG (m.map fun p => p.2.enc)).length = m.length) = true := by simpa using hb
      have e : isRen r1 r2 m = decide (sortR (r1.2.map (putA m)) = sortR r2.2) := by
        unfold isRen
        rw [hb1, hb2]
        rfl
      rw [e] at q
      have e03 := e02.trans e3
      have hm3 : DKA K H3 a (encM m) := hm2.mono (Tx.ex e3) (e3 a)
      -- atoms
      have elA : EL (gx K) (tLc (iTup K (tOp (rIxT K) (tVar 0) (tC (.int 1)))) (gTup K 2 (gCons (gName 6) (gCons (gName 7) gNil))) tYes (tTupF (tCons (tVar 6) (tCons (tCall (spPutTerms K) [] E0 (tCons (tVar 7) (tCons (tVar 2) tNil))) tNil))) [6, 7]) [some v1, some v2, some (.ref a), some (.ref lp), none, none, none, none, none] H3 (r1.2.map fun x => encA (putA m x)) :=
        el_lcB encA (fun x => encA (putA m x)) (ed_ix (i := 1) (ed_var (d := encR r1) rfl (h1.ex e03)) ed_int rfl) (by have := hw1.most; omega) fun i c x H4 r4 hc nx => by
          cases nx with
          | @tup T0 ws _ b1 b2 =>
          cases b2 with
          | @cons w1 vs1 _ _ c1 c2 =>
          cases c2 with
          | @cons w2 vs2 _ _ c3 c4 =>
          cases c4
          have hca := hw1.atoms c (List.mem_of_getElem? hc)
          refine ⟨_, st_pair (G := gx K) b1.sq, rfl, ?_⟩
          refine ed_tup (eds_cons (ed_var rfl c1) (eds_cons (fun H5 r5 Q q => call2 rfl rfl ⟨w2, a, c.2, m, rfl, c3.ex r5, hm3.mono (Tx.ex (r4.trans r5)) ((r4.trans r5) a), by have := hca.len; have := arN_le c.1; omega, fun y hy => ?_, fun v' H' e nv => q v' H' e nv⟩) eds_nil))
          exact hok.bound y (.inr (List.mem_flatMap.mpr ⟨c, List.mem_of_getElem? hc, hy⟩))
      refine q_asg (G := gx K) trivial elA fun v H4 e4 hp => ?_
      obtain ⟨ap, rfl, _, zs, hzs, nzs⟩ := hp
      have elR1 : EL (gx K) (tLc (iList K (tVar 5)) (gName 8) tYes (tCB (rRepr K) (tCons (tVar 8) tNil)) [8]) [some v1, some v2, some (.ref a), some (.ref lp), none, some (.ref ap), none, none, none] H4 ((r1.2.map (putA m)).map fun x => .text (rpA x)) := by
        have hlen : r1.2.length ≤ 5 := hw1.most
        have h := el_lcL (K := K) (G := gx K) (vs := [8]) (g := gName 8) (tt := tYes) (te := tCB (rRepr K) (tCons (tVar 8) tNil)) (tl := tVar 5) (σ := [some v1, some v2, some (.ref a), some (.ref lp), none, some (.ref ap), none, none, none]) (H := H4) (ds := r1.2.map fun x => encA (putA m x)) (fun d => some (.text (reprN d)))
          (ev_var (v := .ref ap) rfl fun H5 r5 => ⟨ap, zs, rfl, fun H6 r6 => SqL.of ((r5.trans r6) _ _ hzs), nzs.ex r5⟩) (by rw [List.length_map]; omega) fun i d x H5 r5 hd nx => ⟨_, st_name, rfl, et_yes, fun e he => by
            cases he
            rw [List.getElem?_map] at hd
            cases hc : r1.2[i]? with
            | none => rw [hc] at hd; cases hd
            | some c =>
            rw [hc] at hd
            cases hd
            exact ed_rp (ed_var rfl nx) (putA_wf (hw1.atoms c (List.mem_of_getElem? hc)) hok.wf)⟩
        rw [fm_some, List.map_map] at h
        rw [List.map_map]
        exact h
      have elR2 : EL (gx K) (tLc (iTup K (tOp (rIxT K) (tVar 1) (tC (.int 1)))) (gName 8) tYes (tCB (rRepr K) (tCons (tVar 8) tNil)) [8]) [some v1, some v2, some (.ref a), some (.ref lp), none, some (.ref ap), none, none, none] H4 (r2.2.map fun x => .text (rpA x)) :=
        el_lcB encA (fun x => .text (rpA x)) (ed_ix (i := 1) (ed_var (d := encR r2) rfl (h2.ex (e03.trans e4))) ed_int rfl) (by have := hw2.most; omega) fun i c x H5 r5 hc nx => ⟨_, st_name, rfl, ed_rp (ed_var rfl nx) (hw2.atoms c (List.mem_of_getElem? hc))⟩
      have hs1 : SrtTo P w ((r1.2.map (putA m)).map fun x => .text (rpA x)) (sortR (r1.2.map (putA m))) := by
        have h := srt_texts (P := P) (w := w) ((r1.2.map (putA m)).map rpA)
        rw [List.map_map] at h
        exact h
      have hs2 : SrtTo P w (r2.2.map fun x => .text (rpA x)) (sortR r2.2) := by
        have h := srt_texts (P := P) (w := w) (r2.2.map rpA)
        rw [List.map_map] at h
        exact h
      refine el_srt (P := P) (w := w) elR1.seq hs1 (by rw [sortR, (List.mergeSort_perm _ _).length_eq]) H4 (Ex.refl _) _ fun x H5 e5 hx => ?_
      refine el_srt (P := P) (w := w) elR2.seq hs2 (by rw [sortR, (List.mergeSort_perm _ _).length_eq]) H5 e5 _ fun y H6 e6 hy => ?_
      obtain ⟨l1, rfl, _, xs1, hl1, nx1⟩ := hx
      obtain ⟨l2, rfl, _, xs2, hl2, nx2⟩ := hy
      refine ⟨l1, l2, xs1, xs2, _, _, rfl, rfl, SqL.of (e6 _ _ hl1), SqL.of hl2, nx1.ex e6, nx2, fun d hd => ?_, q H6 (((e03.trans e4).trans e5).trans e6)⟩
      have hd : d ∈ (r1.2.map (putA m)).map fun a => NestedKey.text (rpA a) := (List.mergeSort_perm _ _).mem_iff.mp hd
      obtain ⟨z, _, rfl⟩ := List.mem_map.mp hd
      exact Nat.zero_le _
end
end Ew
set_option Elab.async false
set_option linter.all false
set_option maxRecDepth 100000
set_option maxHeartbeats 4000000
namespace Ew
open PySem PySem.Spec PyProof.Rows L2
open Evl (Ex)
/-! ### dict comprehensions, keys tuples (after HandS.DictComp) -/
section
variable {X : Cx}
theorem swD_true {kx vx : Expr} {gs : List Comprehension} {scope : Scope} {pos py : Pos} {y : Str} {l : Nat} {env : Env} (hk : env.scope.kind = .function) (hy : env.scope.names.lookup y = some .local) (hl : (py.line == pos.line) = true)
    (ha : (scope.names.any fun (n, k) => n == y && (k == .local || k == .cell)) = false) : swapsWith (.DictComp kx vx gs scope pos) (some (.Name y py)) l env = pure true := by
  have ky : env.kindOf y = some .local := hy
  have hb : env.blockKind = .function := by unfold Env.blockKind; rw [hk]; rfl
  unfold swapsWith
  simp only [hb, ky, ha, Expr.pos, hl]
  rfl
theorem ps_setDc {i : Nat} {y : Str} {py : Pos} {kx vx tg iter : Expr} {ifs : List Expr} {scope : Scope} {own : List (Str × Nat)} {pos spos : Pos} {wi : TI} {g : TG} {tt : TT} {tk tv : TE} (hc : X.calm = true) (hN : X.N.Nodup) (hy : X.N[i]? = some y) (hyl : X.env.scope.names.lookup y = some .local)
    (hsw : swapsWith (.DictComp kx vx [⟨tg, iter, ifs, 0⟩] scope pos) (some (.Name y py)) spos.line X.env = pure true) (hi : PI X tg iter wi) (ok : BlkOk X.N X.env.scope scope own)
    (hg : ∀ (s : Shared) (H : Hp) (C : Addr) (cl : List (Str × Addr)) (fp : List Addr), PG (X.blk s H scope (compEnvC scope cl C X.env) fp) tg g) (ht : ∀ (s : Shared) (H : Hp) (C : Addr) (cl : List (Str × Addr)) (fp : List Addr), PTs (X.blk s H scope (compEnvC scope cl C X.env) fp) ifs tt)
    (hk : ∀ (s : Shared) (H : Hp) (C : Addr) (cl : List (Str × Addr)) (fp : List Addr), PE (X.blk s H scope (compEnvC scope cl C X.env) fp) kx tk)
    (he : ∀ (s : Shared) (H : Hp) (C : Addr) (cl : List (Str × Addr)) (fp : List Addr), PE (X.blk s H scope (compEnvC scope cl C X.env) fp) vx tv) (hs : ∀ x, foldedSetIterable iter X.env x = pure x := by intro _; rfl) :
    PS X (.Assign [.Name y py] (.DictComp kx vx [⟨tg, iter, ifs, 0⟩] scope pos) spos) (tAsg (tDc wi g tt tk tv (own.map (·.2))) (gName i)) := by
  refine ⟨fun pins s σ H D I h => ?_⟩
  rw [exec_Assign_Name_used _ _ _ _ hsw]
  refine wpAny_bind (wpAny_standAt (wpAny_bind ?_))
  show wpAny _ X.A (do let _ ← comprehension (.DictComp kx vx [⟨tg, iter, ifs, 0⟩] scope pos) scope X.env (firstIterPos [⟨tg, iter, ifs, 0⟩] pos) newDict false (eval iter X.env) (some (assign (.Name y py) X.env))) _ _ s
  have h : tDc wi g tt tk tv (own.map (·.2)) σ H (fun x H1 => gName i x σ H1 D.nx) := h
  refine wpAny_bind (thn (dc_core (Qf := fun _ s' => SP X pins D .next s') hc hN I hi ok hg ht hk he hs h fun L C s' m H' I' q hn f => ?_) fun _ s' hq => wpAny_pure (wpAny_pure hq))
  show wpAny _ _ (assign (.Name y py) X.env (.ref L)) _ _ _
  refine wpAny_assign_Name (store_ok2 (v := V.ref L) I' hN hy (.inl hyl) rfl (fun s2 I2 ⟨a, sb, ha⟩ => ?_) (.inr hyl))
  obtain ⟨f0, f1, f2, f3, f4, f5⟩ := f
  have haC : C ≠ a := by
    rcases ha with z | z
    · rw [z]; exact f1
    · exact fun e => f4 y a z e.symm
  refine ⟨m, hn.sameBut sb haC, fun h3 sb3 => ?_⟩
  exact ⟨_, H', I2.turned (t' := s2.toks) (fun b o hb e => (sb3.2 b hb).trans e) f0 f1 f3 f4 f5, q⟩
end
end Ew
set_option Elab.async false
set_option linter.all false
set_option maxRecDepth 100000
set_option maxHeartbeats 4000000
namespace Ew
open PySem PySem.Spec PyProof.Rows L2
open Evl (Ex)
theorem tx_unlock {K : PySem.W.Frag} {H : Hp} {d : Addr} {od : Obj} {kvs : List (Key × V)} (h : H d = some (.frz od (.dK kvs))) : Tx K H (upd H d (.dK kvs)) := by
  refine ⟨fun p us q => ?_, fun p us ⟨ob, e, r⟩ => ?_⟩
  · rcases q with (q | ⟨ob, q⟩) | q
    · have ne : p ≠ d := fun z => by rw [z, h] at q; cases q
      exact .inl (.inl (by rw [upd_ne ne]; exact q))
    · have ne : p ≠ d := fun z => by rw [z, h] at q; cases q
      exact .inl (.inr ⟨ob, by rw [upd_ne ne]; exact q⟩)
    · exact .inr q
  · have ne : p ≠ d := fun z => by rw [z, h] at e; cases e
    exact ⟨ob, by rw [upd_ne ne]; exact e, r⟩
theorem ex_unlock {H H' : Hp} {d : Addr} {od : Obj} {u : HO} (h : H d = some u) (e : Ex (upd H d (.frz od u)) H') : Ex H (upd H' d u) := fun b z hb => by
  by_cases hbd : b = d
  · subst hbd
    rw [upd_same, ← h, hb]
  · rw [upd_ne hbd]
    exact e _ _ (by rw [upd_ne hbd]; exact hb)
abbrev N_alike : List Str := ["first", "second", "tables", "table", "name", "term", "facts", "row", "worths", "number", "one"]
theorem sc_alike : FnScope N_alike ["first", "second", "tables"] (defScope s_alike) := ⟨rfl, rfl, rfl, by decide +kernel, rfl, by decide +kernel, by decide +kernel⟩
def conM (m : EnvT) : List (Key × Nk) := m.map fun p => (Sum.inr p.1, p.2.cont)
theorem lock_cont {K : PySem.W.Frag} {H : Hp} {Q : VK} {v1 v2 v3 : V} {d : Addr} {m : EnvT} (hd : DKA K H d (encM m)) (hn : (m.map (·.1)).Nodup) (hl : m.length ≤ 100)
    (q : ∀ H' D, Ex H H' → H D = none → DKA K H' D (conM m) → Q (.ref D) H') :
    tLockE (tDc (iItems (tVar 3)) (gTup K 2 (gCons (gName 4) (gCons (gName 5) gNil))) tYes (tVar 4) (tOp (rIxT K) (tVar 5) (tC (.int 1))) [4, 5]) [some v1, some v2, some v3, some (.ref d), none, none, none, none, none, none, none] H Q := by
  obtain ⟨kvs, h1, h2⟩ := hd
  refine ⟨d, .dK kvs, h1, trivial, fun od => ?_⟩
  refine ⟨.ref d, rfl, d, od, kvs, rfl, upd_same, fun D hD => ?_⟩
  have tL : Tx K H (upd H d (.frz od (.dK kvs))) := Tx.upd (.inr (by rw [h1]; trivial))
  have hDd : D ≠ d := fun z => by rw [z, upd_same] at hD; cases hD
  have hD0 : H D = none := by rw [upd_ne hDd] at hD; exact hD
  have hkl : kvs.length = m.length := by rw [h2.len, encM, List.length_map]
  refine dc_it (walk_items (d := d) (o := od) (kvs := kvs)) (fun i H' => Ex (upd H d (.frz od (.dK kvs))) H' ∧ DKA K H' D ((conM m).take i)) ⟨Ex.new hD, [], upd_same, .nil⟩ (fun i H' _ hp => hp.1 _ _ upd_same) (fun i x Ha Hb hi hp y => ?_) (fun H' hp => ?_)
  · obtain ⟨ex, kvs2, hk1, hk2⟩ := hp
    obtain ⟨Tt, x1, y1, rfl, hT, rfl, g1, g2⟩ := y
    have g1 : (kvs[i]?.map fun kv => kV kv.1) = some x1 := g1
    have g2 : kvs[i]?.map Prod.snd = some y1 := g2
    cases hkv : kvs[i]? with
    | none => rw [hkv] at g1; cases g1
    | some kv =>
    rw [hkv] at g1 g2
    cases g1
    cases g2
    obtain ⟨e, he, hek, hen⟩ := prd_get h2 hkv
    rw [encM, List.getElem?_map] at he
    cases hmi : m[i]? with
    | none => rw [hmi] at he; cases he
    | some p =>
    rw [hmi] at he
    cases he
    have e3 : Ex Ha (upd Ha Tt (.tup [kV kv.1, kv.2])) := Ex.new hT
    have nv : NV K (upd Ha Tt (.tup [kV kv.1, kv.2])) kv.2 p.2.enc := ((hen.t tL).ex ex).ex e3
    refine st_pair (G := gx K) (SqT.of upd_same) _ (Ex.refl _) _ ?_
    refine ⟨rfl, ?_⟩
    refine ⟨kV kv.1, rfl, ?_⟩
    refine ed_cont (G := gx K) (t := p.2) (te := tVar 5) (ed_var rfl nv) (upd Ha Tt (.tup [kV kv.1, kv.2])) (Ex.refl _) _ fun z Hc rc nz => ?_
    refine ⟨kvs2, kv.1, rfl, rc _ _ (e3 _ _ hk1), ?_, ((ex.trans e3).trans rc).mut hD, _, upd_same, ?_⟩
    · have := hk2.len
      rw [List.length_take, conM, List.length_map] at this
      rw [sizeLine_eq]
      omega
    · have hmut : Hc D = some (.dK kvs2) := rc _ _ (e3 _ _ hk1)
      have tu : Tx K Hc (upd Hc D (.dK (putK kvs2 kv.1 z))) := Tx.upd (.inr (by rw [hmut]; trivial))
      have hnew : aGet ((conM m).take i) kv.1 = none := aGet_none fun hmem => by
        have hk : kv.1 = Sum.inr p.1 := hek
        rw [hk, conM, ← List.map_take, List.map_map] at hmem
        obtain ⟨q, hq, e⟩ := List.mem_map.mp hmem
        have e : q.1 = p.1 := Sum.inr.inj e
        have hsp := List.take_append_drop i m
        rw [← hsp, List.map_append, List.nodup_append] at hn
        have hin : p ∈ m.drop i := by
          have : (m.drop i)[0]? = some p := by rw [List.getElem?_drop, Nat.add_zero, hmi]
          exact List.mem_of_getElem? this
        exact hn.2.2 _ (List.mem_map.mpr ⟨q, hq, rfl⟩) _ (List.mem_map.mpr ⟨p, hin, rfl⟩) e
      have hp := MRel.put (hk2.imp fun _ _ z => ((z.ex e3).ex rc).t tu) kv.1 (nz.t tu)
      rw [aPut_new hnew] at hp
      have hci : (conM m)[i]? = some (Sum.inr p.1, p.2.cont) := by rw [conM, List.getElem?_map, hmi]; rfl
      have hk : kv.1 = Sum.inr p.1 := hek
      rw [List.take_add_one, hci]
      show MRel _ _ (_ ++ [(Sum.inr p.1, p.2.cont)])
      rw [← hk]
      exact hp
  · obtain ⟨ex, kvs2, hk1, hk2⟩ := hp
    have hfz := ex _ _ upd_same
    have hall : (conM m).take kvs.length = conM m := List.take_of_length_le (by rw [conM, List.length_map]; omega)
    rw [hall] at hk2
    refine ⟨hfz, q _ D (ex_unlock h1 ex) hD0 ⟨kvs2, by rw [upd_ne hDd]; exact hk1, hk2.imp fun _ _ z => z.t (tx_unlock hfz)⟩⟩
def wOne (i : Nat) : Key × Nk := (Sum.inl (i : Int), encPo [([((i : Int), 1)], 1)])
def frzF (n : Int) (r : Rule) : List Fact := factsOf n (varsOf r.2) r.2
def frzRow (n : Int) (r : Rule) : Nk := .tup (r.1.map fun x => instT n (varsOf r.2) (.var x))
def NOk (n : Int) (r1 r2 : Rule) : Prop := (n = 1 ∨ n = 2) ∧ ∀ c, Tm.val (.num c) ∈ tmsOf r1.2 ∨ Tm.val (.num c) ∈ tmsOf r2.2 → c < n
def polyRow (r : Rule) (fs : List Fact) (row : Nk) : Nk := (aGet (polyOf r fs) row).getD (.tup [])
def CapOk (r : Rule) (fs : List Fact) : Prop := ∀ p ∈ grpP r.1 (waysP fs r.2), ∀ j, (sumPo (p.2.take j)).length ≤ 400
def NoCase (r1 r2 : Rule) (fs : List Fact) (row : Nk) : Prop := ∃ n, NOk n r1 r2 ∧ ((polyRow r1 (frzF n r1) (frzRow n r1) ≠ polyRow r2 (frzF n r1) (frzRow n r1) ∧ fs = frzF n r1 ∧ row = frzRow n r1) ∨
  (polyRow r1 (frzF n r1) (frzRow n r1) = polyRow r2 (frzF n r1) (frzRow n r1) ∧ ∃ n2, NOk n2 r2 r1 ∧ fs = frzF n2 r2 ∧ row = frzRow n2 r2))
theorem factsOf_mem {n : Int} {vs : List Str} {as : List Atom} {f : Fact} : f ∈ factsOf n vs as ↔ ∃ a ∈ as, instA n vs a = f := by
  have : ∀ (L acc : List Fact), f ∈ L.foldl addF acc ↔ f ∈ acc ∨ f ∈ L := by
    intro L
    induction L with
    | nil => intro acc; simp
    | cons x L ih =>
      intro acc
      rw [List.foldl_cons, ih, mem_addF, List.mem_cons]
      exact or_assoc
  rw [factsOf, this]
  simp
theorem factsOf_len (n : Int) (vs : List Str) (as : List Atom) : (factsOf n vs as).length ≤ as.length := by
  have : ∀ (L acc : List Fact), (L.foldl addF acc).length ≤ acc.length + L.length := by
    intro L
    induction L with
    | nil => exact fun acc => Nat.le_refl _
    | cons x L ih =>
      intro acc
      have h2 := ih (addF acc x)
      have h3 := len_addF (fs := acc) (f := x)
      rw [List.foldl_cons, List.length_cons]
      omega
  have h := this (as.map (instA n vs)) []
  rw [List.length_nil, List.length_map, Nat.zero_add] at h
  exact h
theorem factsOf_wf {n : Int} {vs : List Str} {as : List Atom} (h : ∀ a ∈ as, WfA a) : WfFs (factsOf n vs as) := fun f hf => by
  obtain ⟨a, ha, rfl⟩ := factsOf_mem.mp hf
  have hw := h a ha
  refine ⟨hw.tab, by rw [instA, List.length_map]; exact hw.len, fun d hd => ?_⟩
  obtain ⟨t, ht, rfl⟩ := List.mem_map.mp hd
  rw [inst_depth (hw.tms t ht)]
  omega
theorem polyRow_depth (r : Rule) (fs : List Fact) (row : Nk) : (polyRow r fs row).depth ≤ 60 := by
  unfold polyRow
  cases e : aGet (polyOf r fs) row with
  | none => simp [NestedKey.depth, NestedKey.depthAll]
  | some d =>
    obtain ⟨p, _, e2⟩ := List.mem_map.mp (aGet_mem e)
    cases e2
    exact Nat.le_trans (depth_Po _) (by decide)
def sp_alike (P : Program) (w : World) (K : PySem.W.Frag) (CF : Addr) : Sp := fun vs H Q _ => ∃ v1 v2 tl xs r1 r2, vs = [v1, v2, .ref tl] ∧ NV K H v1 (encR r1) ∧ NV K H v2 (encR r2) ∧ SqL K H tl xs ∧ NVs K H xs tabsD ∧ WfR r1 ∧ WfR r2 ∧ r1.1.length = r2.1.length ∧
  (∀ n, CapOk r1 (frzF n r1) ∧ CapOk r2 (frzF n r1)) ∧
  (∀ m ∈ allMaps r1 r2, isRen r1 r2 m = true → MapOk r1.1 r2.1 r1.2 m → ∀ H' tp D, Ex H H' → PT H' tp [.str "yes", .ref D] → DKA K H' D (conM m) → Q (.ref tp) H') ∧
  ((∀ m ∈ allMaps r1 r2, isRen r1 r2 m = false) → ∀ H' tp o a l t d fs row rv, Ex H H' → PT H' tp [.str "no", .ref o, rv] → FactsAt P w K CF H' o a l t d fs → NV K H' rv row → NoCase r1 r2 fs row → Q (.ref tp) H')
section
variable {P : Program} {w : World} {K : PySem.W.Frag} {mg : Str → Option Value} {base : Heap} {CF CI CP : Addr}
theorem ed_polyRow {i : Nat} {v1 v2 v3 s3 s4 s5 s9 s10 rv vi : Option V} {o a l t d wa : Addr} {r : Rule} {fs : List Fact} {row : List Nk} {wm : List (Key × Nk)} {H : Hp} {v u : V} {σ : L2.St} (hi : σ[i]? = some (some v)) (h6 : σ[6]? = some (some (.ref o))) (h7 : σ[7]? = some (some u)) (h8 : σ[8]? = some (some (.ref wa)))
    (hv : NV K H v (encR r)) (hw : WfR r) (hF : FactsAt P w K CF H o a l t d fs) (hfs : WfFs fs) (h5 : fs.length ≤ 5) (hu : NV K H u (.tup row)) (hrd : (NestedKey.tup row).depth ≤ 8) (hwm : DKA K H wa wm) (hwg : ∀ i : Nat, i < fs.length → aGet wm (Sum.inl (i : Int)) = some (encPo [([((i : Int), 1)], 1)])) (hcap : CapOk r fs) :
    ED (gx K) (tNM P w K (rNGet P w K) (tCall (sp_rule_meaning P w K CF CP) [] E0 (tCons (tVar i) (tCons (tVar 6) (tCons (tMake0 CP) (tCons (tVar 8) tNil))))) (tCons (tVar 7) (tCons (tTupF tNil) tNil))) σ H (polyRow r fs (.tup row)) := fun H1 e1 Q q => by
  refine ⟨v, hi, .ref o, h6, fun S dxS hS hdS hne => ?_⟩
  refine ⟨.ref wa, h8, ?_⟩
  have e2 : Ex H1 (upd (upd H1 dxS (.own S)) S (.ins CP dxS [])) := (Ex.new hdS).trans (Ex.new (by rw [upd_ne hne.symm]; exact hS))
  have e12 := e1.trans e2
  refine ⟨v, o, S, wa, a, l, t, d, r, fs, wm, rfl, hv.ex e12, hw, hF.ex e12, hfs, h5, ⟨dxS, upd_same⟩, hwm.mono (Tx.ex e12) (e12 wa), hwg, hcap, fun H3 D e3 hD hDN => ?_⟩
  obtain ⟨kvs, hk1, hk2⟩ := hDN
  refine ⟨⟨D, kvs, rfl, hk1⟩, u, h7, ?_⟩
  refine ⟨(by rw [sizeLine_eq]; exact Nat.zero_le _), fun z ob hz hob => ?_⟩
  have e4 : Ex H3 (upd H3 z (.frz ob (.tup []))) := Ex.new hz
  have nu := ((hu.ex e12).ex e3).ex e4
  have nu0 := nu
  cases nu with
  | @tup b ws _ b1 b2 =>
  refine ⟨D, .ref b, valV kvs (.tup row), rfl, ⟨kvs, .tup row, b, hk1.ex' e4, rfl, nu0, hrd, rfl⟩, .inr ⟨.ref z, rfl, ?_⟩⟩
  refine q _ _ ((e2.trans e3).trans e4) ?_
  unfold polyRow
  cases hv : valV kvs (.tup row) with
  | none =>
    rw [mrel_none hk2 hv]
    exact .tup ⟨ob, upd_same, hob⟩ .nil
  | some x =>
    obtain ⟨dd, hd1, hd2⟩ := mrel_val hk2 hv
    rw [hd1]
    exact hd2.ex e4
theorem ok_alike (C : FCls K CF) {k : Nat} {f : Addr} {fd : FuncData} (F : FnP K "alike" "alike" s_alike f fd) (T : Txt mg) (c_check_heads : Callee P w K mg base "check_heads" k ["first", "second"] (sp_check_heads K)) (c_all_maps : Callee P w K mg base "all_maps" k ["first", "second"] (sp_all_maps K))
    (c_is_renaming : CalleeG P w K mg base "is_renaming" k ["first", "second", "table"] (sp_is_renaming K)) (c_frozen : Callee P w K mg base "frozen" k ["rule", "other", "tables"] (sp_frozen P w K CF)) (c_count : MCallee P w K mg base CF "count" k ["self"] (sp_count P w K CF))
    (c_variable : Callee P w K mg base "variable" k ["fact"] (sp_variable K)) (c_rule_meaning : Callee P w K mg base "rule_meaning" k ["rule", "facts", "semiring", "worths"] (sp_rule_meaning P w K CF CP)) (M_Polynomials : Mk0 K CP) (g_Polynomials : mg "Polynomials" = some (.ref CP)) :
    FnG P w K mg base (k + 1) f fd ["first", "second", "tables"] (sp_alike P w K CF) := by
  refine mk_okG F sc_alike (fun vs H Q E h => ?_) (fun cdv A outer s H vs Q E hgu hr h => ?_)
  · obtain ⟨v1, v2, tl, xs, r1, r2, rfl, _⟩ := h
    rfl
  · obtain ⟨v1, v2, tl, xs, r1, r2, rfl, h1, h2, hl, hv, hw1, hw2, hlen, hcap, qy, qn⟩ := h
    have nd := sc_alike.nd
    refine ⟨_, (pss_cons (ps_expr (pe_cal c_check_heads hr (pa_cons (pv 0) (pa_cons (pv 1) pa_nil)))) (pss_cons (ps_for PassesOwn.never rfl (k_ilist (K := K) (pe_cal c_all_maps hr (pa_cons (pv 0) (pa_cons (pv 1) pa_nil)))) (pg_name (i := 3) nd rfl (by first | exact Or.inl rfl | exact Or.inr rfl)) (pss_one (ps_if (pt_val (pe_calG c_is_renaming hgu hr (pa_cons (pv 0) (pa_cons (pv 1) (pa_cons (pv 3) pa_nil))))) (pss_one (ps_ret (pe_tupF (pa_cons pe_str (pa_cons (pe_lock (pe_dc (own := [("name", 4), ("term", 5)]) rfl nd (pi_items (pv 3)) (blkOk_by (N := N_alike) (sc := defScope s_alike) (by decide +kernel)) (fun _ _ _ _ _ => (k_pgt (K := K) (n := 2) (pgs_cons (pg_name (i := 4) nd rfl (by first | exact Or.inl rfl | exact Or.inr rfl)) (pgs_cons (pg_name (i := 5) nd rfl (by first | exact Or.inl rfl | exact Or.inr rfl)) pgs_nil)))) (fun _ _ _ _ _ => pts_nil) (fun _ _ _ _ _ => (pv 4)) (fun _ _ _ _ _ => (k_ixT (K := K) (pv 5) pe_int)))) pa_nil))))) pss_nil))) (pss_cons (ps_asg (pe_cal c_frozen hr (pa_cons (pv 0) (pa_cons (pv 1) (pa_cons (pv 2) pa_nil)))) (k_pgt (K := K) (n := 2) (pgs_cons (pg_name (i := 6) nd rfl (by first | exact Or.inl rfl | exact Or.inr rfl)) (pgs_cons (pg_name (i := 7) nd rfl (by first | exact Or.inl rfl | exact Or.inr rfl)) pgs_nil)))) (pss_cons (ps_setDc (i := 8) (own := [("number", 9)]) rfl nd rfl rfl (swD_true rfl rfl rfl (by decide +kernel)) (k_range T (pa_cons (k_mcal0 (mg := mg) (base := base) (pv 6) c_count hr) pa_nil)) (blkOk_by (N := N_alike) (sc := defScope s_alike) (by decide +kernel)) (fun _ _ _ _ _ => (pg_name (i := 9) nd rfl (by first | exact Or.inl rfl | exact Or.inr rfl))) (fun _ _ _ _ _ => pts_nil) (fun _ _ _ _ _ => (pv 9)) (fun _ _ _ _ _ => (pe_cal c_variable hr (pa_cons (pv 9) pa_nil)))) (pss_cons (ps_set (i := 10) nd rfl (by first | exact Or.inl rfl | exact Or.inr rfl) (pe_nm PySem.F.slot_dict_get PySem.F.type_dict_get (mt_nget hr.units) (pe_cal c_rule_meaning hr (pa_cons (pv 0) (pa_cons (pv 6) (pa_cons (pe_mk0 M_Polynomials (by rfl) g_Polynomials) (pa_cons (pv 8) pa_nil))))) (pa_cons (pv 7) (pa_cons (pe_tupF pa_nil) pa_nil)))) (pss_cons (ps_if (pt_cmpR (k_eq (K := K) hr.units) (pv 10) (pe_nm PySem.F.slot_dict_get PySem.F.type_dict_get (mt_nget hr.units) (pe_cal c_rule_meaning hr (pa_cons (pv 1) (pa_cons (pv 6) (pa_cons (pe_mk0 M_Polynomials (by rfl) g_Polynomials) (pa_cons (pv 8) pa_nil))))) (pa_cons (pv 7) (pa_cons (pe_tupF pa_nil) pa_nil))) (nomark _)) (pss_one (ps_asg (pe_cal c_frozen hr (pa_cons (pv 1) (pa_cons (pv 0) (pa_cons (pv 2) pa_nil)))) (k_pgt (K := K) (n := 2) (pgs_cons (pg_name (i := 6) nd rfl (by first | exact Or.inl rfl | exact Or.inr rfl)) (pgs_cons (pg_name (i := 7) nd rfl (by first | exact Or.inl rfl | exact Or.inr rfl)) pgs_nil))))) pss_nil) (pss_one (ps_ret (pe_tupF (pa_cons pe_str (pa_cons (pv 6) (pa_cons (pv 7) pa_nil)))))))))))), ?_⟩
    refine q_drop (G := gx K) (P := fun _ _ => True) trivial (fun H1 e1 Q q => call2 rfl rfl ⟨v1, v2, r1, r2, rfl, h1.ex e1, h2.ex e1, hlen, fun H2 e2 => q _ H2 e2 trivial⟩) fun _ H1 e1 _ => ?_
    -- for table in all_maps
    have srcM : EvI (gx K) (iList K (tCall (sp_all_maps K) [] E0 (tCons (tVar 0) (tCons (tVar 1) tNil)))) [some v1, some v2, some (.ref tl), none, none, none, none, none, none, none, none] H1 (fun J H2 => ∃ p ys, J = Itl K p ∧ H2 p = some (.lst ys) ∧ Paired (EnvAt K H2) ys (allMaps r1 r2)) := fun H2 e2 Q q =>
      call2 rfl rfl ⟨v1, v2, r1, r2, rfl, (h1.ex e1).ex e2, (h2.ex e1).ex e2, hw1, hw2, hlen, fun H3 p ys e3 _ hp hm => ⟨p, rfl, ⟨ys, SqL.of hp⟩, q _ H3 e3 ⟨p, ys, rfl, hp, hm⟩⟩⟩
    refine q_for (G := gx K) trivial srcM fun J H2 e2 hs => ?_
    obtain ⟨mp, ys, rfl, hmp, hM⟩ := hs
    have e02 := e1.trans e2
    have hyl : ys.length = (allMaps r1 r2).length := Paired.length hM
    have hMok : ∀ m ∈ allMaps r1 r2, MapOk r1.1 r2.1 r1.2 m := by
      have h := maps_ok hlen hw1.atoms hw2 r1.2.length
      rw [List.take_length] at h
      exact h
    refine ⟨ys.length, _, _, fun j σ' H' => ∃ s3, σ' = [some v1, some v2, some (.ref tl), s3, none, none, none, none, none, none, none] ∧ Ex H2 H' ∧ ∀ m ∈ (allMaps r1 r2).take j, isRen r1 r2 m = false, walk_list (K := K) (a := mp) (xs := ys),
      ⟨none, rfl, Ex.refl _, fun m hm => (nomatch hm)⟩, fun j σ' H' _ hp => ?_, fun j x σ' Ha Hb hj hp y => ?_, fun σ' H' hp => ?_⟩
    · obtain ⟨_, _, ex, _⟩ := hp
      exact SqL.of (ex _ _ hmp)
    · obtain ⟨s3, rfl, ex, hno⟩ := hp
      obtain ⟨rfl, hx⟩ := y
      obtain ⟨m, hmi, hE⟩ := prd_get hM hx
      obtain ⟨dm, rfl, hdm⟩ := hE.ex ex
      have hmem := List.mem_of_getElem? hmi
      have e0 := e02.trans ex
      refine nmI ?_
      refine s_when (G := gx K) (b := isRen r1 r2 m) trivial (et_B fun H3 e3 Q q => call3 rfl rfl rfl ⟨v1, v2, dm, r1, r2, m, rfl, (h1.ex e0).ex e3, (h2.ex e0).ex e3, hw1, hw2, hdm.mono (Tx.ex e3) (e3 dm), hMok m hmem, fun H4 e4 => q _ H4 e4 rfl⟩) (fun hb H3 e3 => ?_) fun hb H3 e3 => ?_
      · have hok := hMok m hmem
        have hml : m.length ≤ 100 := by
          have a1 := hok.len
          have a2 := tmsOf_len hw1.atoms
          have a3 := hw1.most
          have a4 := hw1.head
          omega
        refine lock_cont (hdm.mono (Tx.ex e3) (e3 dm)) hok.nodup hml fun H4 D e4 hD hDK => ?_
        refine ⟨(by rw [sizeLine_eq]; exact Nat.le_of_ble_eq_true rfl), fun tp ob htp hob => ?_⟩
        have e5 : Ex H4 (upd H4 tp (.frz ob (.tup [.str "yes", .ref D]))) := Ex.new htp
        exact qy m hmem hb hok _ tp D (((e0.trans e3).trans e4).trans e5) ⟨ob, upd_same, hob⟩ (hDK.mono (Tx.ex e5) (e5 D))
      · refine ⟨_, rfl, ex.trans e3, fun m' hm' => ?_⟩
        rw [List.take_add_one, hmi] at hm'
        rcases List.mem_append.mp hm' with h | h
        · exact hno m' h
        · rw [List.mem_singleton.mp h]
          exact hb
    · obtain ⟨s3, rfl, ex, hno⟩ := hp
      rw [hyl, List.take_length] at hno
      have qn := qn hno
      have e0 := e02.trans ex
      clear qy hno hmp hM hyl
      -- facts, row = frozen(first, second, tables)
      refine seqI ?_
      refine call3 rfl rfl rfl ⟨v1, v2, tl, xs, r1, r2, rfl, h1.ex e0, h2.ex e0, Evl.ex_l e0 hl, hv.ex e0, hw1, hw2, fun H3 n tp o a l t d rv e3 ho ha hlf ht hd hn hc hF hrv hPT => ?_⟩
      have hnok : NOk n r1 r2 := ⟨hn, hc⟩
      have hF : FactsAt P w K CF H3 o a l t d (frzF n r1) := hF
      have hrv : NV K H3 rv (frzRow n r1) := hrv
      refine st_pair (G := gx K) hPT.sq _ (Ex.refl _) _ ?_
      have e03 := e0.trans e3
      -- worths
      dsimp only
      refine seqI (asgI ?_)
      obtain ⟨dxo, ho'⟩ := hF.ins
      have hfl : (frzF n r1).length ≤ 5 := Nat.le_trans (factsOf_len n _ r1.2) hw1.most
      refine ⟨.ref o, rfl, o, dxo, _, rfl, ho', rfl, o, a, l, t, d, frzF n r1, rfl, hF, ?_⟩
      refine ⟨((frzF n r1).length : Nat), rfl, by omega, by omega, fun D hD => ?_⟩
      have hnn : (((frzF n r1).length : Nat) : Int).toNat = (frzF n r1).length := rfl
      have hDn : ∀ i : Nat, i < (frzF n r1).length → aGet ((List.range (frzF n r1).length).map wOne) (Sum.inl (i : Int)) = some (encPo [([((i : Int), 1)], 1)]) := fun i hi => by
        have key : ∀ (L : List Nat), i ∈ L → aGet (L.map wOne) (Sum.inl (i : Int)) = some (encPo [([((i : Int), 1)], 1)]) := by
          intro L
          induction L with
          | nil => intro h; exact (nomatch h)
          | cons x L ih =>
            intro h
            by_cases hx : x = i
            · subst hx
              rw [List.map_cons, aGet_pos (show (wOne x).1 = Sum.inl (x : Int) from rfl)]
              rfl
            · rw [List.map_cons, aGet_neg (show ¬ (wOne x).1 = Sum.inl (i : Int) from fun e => hx (Int.ofNat.inj (Sum.inl.inj e)))]
              exact ih ((List.mem_cons.mp h).resolve_left fun z => hx z.symm)
        exact key _ (List.mem_range.mpr hi)
      refine dc_it (walk_range (lo := 0) (n := (frzF n r1).length)) (fun i H' => Ex H3 H' ∧ DKA K H' D ((List.range i).map wOne)) ⟨Ex.new hD, [], upd_same, .nil⟩ (fun _ _ _ _ => trivial) (fun i x Ha Hb hi hp y => ?_) (fun H4 hp => ?_)
      · obtain ⟨ex4, kvs2, hk1, hk2⟩ := hp
        obtain ⟨rfl, hx⟩ := y
        have hx : x = V.int (0 + (i : Nat)) := hx
        rw [Int.zero_add] at hx
        subst hx
        refine ⟨rfl, .int (i : Nat), rfl, ?_⟩
        refine call1 rfl ⟨(i : Nat), rfl, fun v Hc rc nv => ?_⟩
        have hDc := rc _ _ hk1
        have tu : ∀ o', Tx K Hc (upd Hc D o') := fun o' => Tx.upd (.inr (by rw [hDc]; trivial))
        refine ⟨kvs2, .inl (i : Nat), rfl, hDc, ?_, (ex4.trans rc).mut hD, _, upd_same, ?_⟩
        · have := hk2.len
          rw [List.length_map, List.length_range] at this
          rw [sizeLine_eq]
          omega
        · have hnew : aGet ((List.range i).map wOne) (Sum.inl (i : Int)) = none := aGet_none fun hmem => by
            rw [List.map_map] at hmem
            obtain ⟨z, hz, e⟩ := List.mem_map.mp hmem
            have e : (z : Int) = (i : Int) := Sum.inl.inj e
            have := List.mem_range.mp hz
            omega
          have hp := MRel.put (hk2.imp fun _ _ z => (z.ex rc).t (tu (.dK (putK kvs2 (Sum.inl (i : Int)) v)))) (Sum.inl (i : Int)) (nv.t (tu _))
          rw [aPut_new hnew] at hp
          rw [List.range_succ, List.map_append]
          exact hp
      obtain ⟨e34, hwm⟩ := hp
      refine nmI ?_
      dsimp only
      have e04 := e03.trans e34
      have hF4 := hF.ex e34
      have hfw : WfFs (frzF n r1) := factsOf_wf hw1.atoms
      have hrd : (frzRow n r1).depth ≤ 8 := by
        refine Nat.le_trans (depth_tupL (fun x => instT n (varsOf r1.2) (.var x)) 0 r1.1 fun x _ => ?_) (by decide)
        exact Nat.le_refl _
      have edP : ∀ (i : Nat) (v : V) (r : Rule) (σ : L2.St) (H5 : Hp), Ex H4 H5 → σ[i]? = some (some v) → σ[6]? = some (some (.ref o)) → σ[7]? = some (some rv) → σ[8]? = some (some (.ref D)) → NV K H5 v (encR r) → WfR r → CapOk r (frzF n r1) →
          ED (gx K) (tNM P w K (rNGet P w K) (tCall (sp_rule_meaning P w K CF CP) [] E0 (tCons (tVar i) (tCons (tVar 6) (tCons (tMake0 CP) (tCons (tVar 8) tNil))))) (tCons (tVar 7) (tCons (tTupF tNil) tNil))) σ H5 (polyRow r (frzF n r1) (frzRow n r1)) := fun i v r σ H5 e5 g1 g2 g3 g4 hvv hwr hcr =>
        ed_polyRow (v1 := none) (v2 := none) (v3 := none) (s3 := none) (s4 := none) (s5 := none) (s9 := none) (s10 := none) (rv := none) (vi := none) g1 g2 g3 g4 hvv hwr (hF4.ex e5) hfw hfl ((hrv.ex e34).ex e5) hrd (hwm.mono (Tx.ex e5) (e5 D)) hDn hcr
      refine q_asg (G := gx K) trivial (edP 0 v1 r1 _ H4 (Ex.refl _) rfl rfl rfl rfl (h1.ex e04) hw1 (hcap n).1) fun pv H5 e5 np => ?_
      have hb : EvT (gx K) (tTest (tOp (rEqN K) (tVar 10) (tNM P w K (rNGet P w K) (tCall (sp_rule_meaning P w K CF CP) [] E0 (tCons (tVar 1) (tCons (tVar 6) (tCons (tMake0 CP) (tCons (tVar 8) tNil))))) (tCons (tVar 7) (tCons (tTupF tNil) tNil))))) [some v1, some v2, some (.ref tl), s3, none, none, some (.ref o), some rv, some (.ref D), none, some pv] H5
          (decide (polyRow r1 (frzF n r1) (frzRow n r1) = polyRow r2 (frzF n r1) (frzRow n r1))) :=
        et_test (eb_eqN (ed_var rfl np) (edP 1 v2 r2 _ H5 e5 rfl rfl rfl rfl (h2.ex (e04.trans e5)) hw2 (hcap n).2) (polyRow_depth _ _ _))
      have e05 := e04.trans e5
      refine q_when (G := gx K) trivial hb (fun hb H6 e6 => ?_) fun hb H6 e6 => ?_
      · have e06 := e05.trans e6
        refine call3 rfl rfl rfl ⟨v2, v1, tl, xs, r2, r1, rfl, h2.ex e06, h1.ex e06, Evl.ex_l e06 hl, hv.ex e06, hw2, hw1, fun H7 n2 tp2 o2 a2 l2 t2 d2 rv2 e7 _ _ _ _ _ hn2 hc2 hF2 hrv2 hPT2 => ?_⟩
        refine st_pair (G := gx K) hPT2.sq _ (Ex.refl _) _ ?_
        dsimp only
        refine ⟨.ref o2, rfl, rv2, rfl, (by rw [sizeLine_eq]; exact Nat.le_of_ble_eq_true rfl), fun tp3 ob3 htp3 hob3 => ?_⟩
        have e8 : Ex H7 (upd H7 tp3 (.frz ob3 (.tup [.str "no", .ref o2, rv2]))) := Ex.new htp3
        refine qn _ tp3 o2 a2 l2 t2 d2 (frzF n2 r2) (frzRow n2 r2) rv2 ((e06.trans e7).trans e8) ⟨ob3, upd_same, hob3⟩ (hF2.ex e8) (hrv2.ex e8) ⟨n, hnok, .inr ⟨of_decide_eq_true hb, n2, ⟨hn2, hc2⟩, rfl, rfl⟩⟩
      · refine ⟨.ref o, rfl, rv, rfl, (by rw [sizeLine_eq]; exact Nat.le_of_ble_eq_true rfl), fun tp3 ob3 htp3 hob3 => ?_⟩
        have e8 : Ex H6 (upd H6 tp3 (.frz ob3 (.tup [.str "no", .ref o, rv]))) := Ex.new htp3
        have e48 := (e5.trans e6).trans e8
        refine qn _ tp3 o a l t d (frzF n r1) (frzRow n r1) rv ((e05.trans e6).trans e8) ⟨ob3, upd_same, hob3⟩ (hF4.ex e48) ((hrv.ex e34).ex e48) ⟨n, hnok, .inl ⟨of_decide_eq_false hb, rfl, rfl⟩⟩
end
end Ew
set_option Elab.async false
set_option linter.all false
set_option maxRecDepth 100000
set_option maxHeartbeats 4000000
namespace Ew
open PySem PySem.Spec PyProof.Rows L2
open Evl (Ex)
/-! ### the pot of draws -/
abbrev N__law_pot : List Str := ["_law_script", "_law_seed", "_law_cell"]
theorem sc__law_pot : FnScope N__law_pot ["_law_script"] (defScope s__law_pot) := ⟨rfl, rfl, rfl, by decide +kernel, rfl, by decide +kernel, by decide +kernel⟩
abbrev N__law_next : List Str := ["_law_pot_here", "_law_limit", "_law_cell", "_law_found", "_law_mixed"]
theorem sc__law_next : FnScope N__law_next ["_law_pot_here", "_law_limit"] (defScope s__law_next) := ⟨rfl, rfl, rfl, by decide +kernel, rfl, by decide +kernel, by decide +kernel⟩
def sp_pot (K : PySem.W.Frag) : Sp := fun vs H Q _ => ∃ (a : Addr) (ns : List Int), vs = [.ref a] ∧ SqL K H a (ns.map V.int) ∧ ns.length ≤ 100 ∧ ∀ H' pot l, Ex H H' → PotAt K pot l H' → Q (.ref pot) H'
def sp_next (K : PySem.W.Frag) : Sp := fun vs H Q _ => ∃ (pot l : Addr) (lim : Int), vs = [.ref pot, .int lim] ∧ PotAt K pot l H ∧ 1 ≤ lim ∧ lim ≤ 1000 ∧ ∀ (r : Nat) H', (r : Int) < lim → (gp K pot l).R H H' → Q (.int r) H'
theorem q_when2 {K : PySem.W.Frag} {G : Gw K} {σ : L2.St} {H : Hp} {t : TT} {tu tz : TS} {D : Ends} {b : Bool} (Pst : L2.St → Hp → Prop) (ok : G.Ok H) (h : EvT G t σ H b) (tail : ∀ σ' H', Pst σ' H' → tz D σ' H') (h1 : b = true → ∀ H1, G.R H H1 → ∀ nx : L2.St → Hp → Prop, (∀ σ' H', Pst σ' H' → nx σ' H') → tu { D with nx := nx } σ H1)
    (h2 : b = false → ∀ H1, G.R H H1 → Pst σ H1) : tSeq (tIfS t tu tNext) tz D σ H := q_when ok h (fun hb H1 r => h1 hb H1 r (tz D) tail) fun hb H1 r => tail _ _ (h2 hb H1 r)
theorem potR {K : PySem.W.Frag} {pot l : Addr} {H : Hp} (h : PotAt K pot l H) (i b c : Int) (h1 : 0 ≤ i) (h2 : i ≤ 100) (h3 : 0 ≤ b) : (gp K pot l).R H (upd H pot (.lst [.ref l, .int i, .int b, .int c])) := by
  obtain ⟨n, ⟨ns, hl, hn⟩, i', b', c', hp, _⟩ := h
  exact ⟨⟨n, ⟨ns, hl, hn⟩, i', b', c', hp, ‹_›⟩, ⟨n, ⟨ns, by rw [upd_ne n]; exact hl, hn⟩, i, b, c, upd_same, h1, h2, h3⟩, fun a o na ha => by rw [upd_ne na]; exact ha⟩
/-- pot[k] -/
theorem pot_ix {K : PySem.W.Frag} {σ : L2.St} {H : Hp} {pot : Addr} {xs : List V} {k : Int} {v : V} {Q : VK} (h0 : σ[0]? = some (some (.ref pot))) (hp : H pot = some (.lst xs)) (hk : atI xs k = some v) (q : Q v H) : tOp (rIxL K) (tVar 0) (tC (.int k)) σ H Q :=
  ⟨.ref pot, h0, pot, xs, k, v, rfl, rfl, SqL.of hp, hk, q⟩
theorem ev_potix {K : PySem.W.Frag} {σ : L2.St} {H : Hp} {pot : Addr} {xs : List V} {k : Int} {v : V} (h0 : σ[0]? = some (some (.ref pot))) (hp : H pot = some (.lst xs)) (hk : atI xs k = some v) : EvP (gx K) (tOp (rIxL K) (tVar 0) (tC (.int k))) σ H (fun u _ => u = v) := fun H1 e Q q =>
  pot_ix h0 (e _ _ hp) hk (q v H1 (Ex.refl _) rfl)
theorem nat_mod {x lim : Int} (h : 1 ≤ lim) : ∃ r : Nat, x % lim = (r : Nat) ∧ ((r : Nat) : Int) < lim := by
  have h1 := Int.emod_nonneg x (show lim ≠ 0 by omega)
  have h2 := Int.emod_lt_of_pos x (show 0 < lim by omega)
  exact ⟨(x % lim).toNat, by omega, by omega⟩
section
variable {P : Program} {w : World} {K : PySem.W.Frag} {mg : Str → Option Value} {base : Heap}
theorem ok_pot {k : Nat} {f : Addr} {fd : FuncData} (F : FnP K "_law_pot" "_law_pot" s__law_pot f fd) (T : Txt mg) : FnOk P w K mg base CX0 (k + 1) f fd ["_law_script"] (sp_pot K) := by
  refine mk_ok F sc__law_pot (fun vs H Q E h => ?_) (fun cdv A outer s H vs Q E hr h => ?_)
  · obtain ⟨a, ns, rfl, _⟩ := h
    rfl
  · obtain ⟨a, ns, rfl, ha, hn, q⟩ := h
    have nd := sc__law_pot.nd
    refine ⟨_, (pss_cons (ps_set (i := 1) nd rfl (by first | exact Or.inl rfl | exact Or.inr rfl) pe_int) (pss_cons (ps_for PassesOwn.never rfl (k_ilist (K := K) (pv 0)) (pg_name (i := 2) nd rfl (by first | exact Or.inl rfl | exact Or.inr rfl)) (pss_one (ps_set (i := 1) nd rfl (by first | exact Or.inl rfl | exact Or.inr rfl) (pe_op op_mod (k_cty T.f_int (call_int1) (pa_cons (pe_op op_add (pe_op op_mul (pv 1) pe_int) (pv 2)) pa_nil)) pe_int)))) (pss_one (ps_ret (pe_lst (pa_cons (k_cty T.f_list (k_listS (K := K)) (pa_cons (pv 0) pa_nil)) (pa_cons pe_int (pa_cons pe_int (pa_cons (pv 1) pa_nil))))))))), ?_⟩
    refine seqI (asgI ?_)
    dsimp only [tC]
    have src : EvI (gx K) (iList K (tVar 0)) [some (.ref a), some (.int 1), none] H (fun J H2 => J = Itl K a ∧ Ex H H2) := fun H2 r2 Q q =>
      ⟨.ref a, rfl, a, rfl, ⟨_, Evl.ex_l r2 ha⟩, q _ H2 (Ex.refl _) ⟨rfl, r2⟩⟩
    refine q_for (G := gx K) trivial src fun J H1 r1 hs => ?_
    obtain ⟨rfl, _⟩ := hs
    refine ⟨(ns.map V.int).length, _, _, fun j σ' H' => ∃ s s2, σ' = [some (.ref a), some (.int s), s2] ∧ Ex H H', walk_list (K := K) (a := a) (xs := ns.map V.int), ⟨1, none, rfl, r1⟩, fun j σ' H' _ hp => ?_, fun j x σ' Ha Hb hj hp y => ?_, fun σ' H' hp => ?_⟩
    · obtain ⟨_, _, _, ex⟩ := hp
      exact Evl.ex_l ex ha
    · obtain ⟨s, s2, rfl, ex⟩ := hp
      obtain ⟨rfl, hx⟩ := y
      rw [List.getElem?_map] at hx
      cases hnj : ns[j]? with
      | none => rw [hnj] at hx; cases hx
      | some n =>
      rw [hnj] at hx
      cases hx
      refine nmI (asgI ?_)
      refine ⟨.int s, rfl, s, 31, rfl, rfl, .inr ⟨by decide, by decide⟩, .int n, rfl, _, n, rfl, rfl, .inl ⟨_, rfl, _, _, rfl, rfl, Int.lt_of_lt_of_le (by decide : (0 : Int) < 127) (by decide), ?_⟩⟩
      exact ⟨_, _, rfl, ex⟩
    · obtain ⟨s, s2, rfl, ex⟩ := hp
      refine ⟨.ref a, rfl, a, ns.map V.int, rfl, .inl (Evl.ex_l ex ha), fun l hl => ?_⟩
      refine ⟨.int s, rfl, (by rw [sizeLine_eq]; exact Nat.le_of_ble_eq_true rfl), fun pot hpot => ?_⟩
      have e1 : Ex H' (upd H' l (.lst (ns.map V.int))) := Ex.new hl
      have nlp : l ≠ pot := fun z => by rw [← z, upd_same] at hpot; cases hpot
      refine q _ pot l ((ex.trans e1).trans (Ex.new hpot)) ⟨nlp, ⟨ns, by rw [upd_ne nlp]; exact upd_same, hn⟩, 0, 0, s, upd_same, by decide, by decide, by decide⟩
theorem ok_next {k : Nat} {f : Addr} {fd : FuncData} (F : FnP K "_law_next" "_law_next" s__law_next f fd) (T : Txt mg) : FnOk P w K mg base CX0 (k + 1) f fd ["_law_pot_here", "_law_limit"] (sp_next K) := by
  refine mk_ok F sc__law_next (fun vs H Q E h => ?_) (fun cdv A outer s H vs Q E hr h => ?_)
  · obtain ⟨pot, l, lim, rfl, _⟩ := h
    rfl
  · obtain ⟨pot, l, lim, rfl, hp, h1, h2, q⟩ := h
    have nd := sc__law_next.nd
    refine ⟨_, (pss_cons (ps_if (PW.pt (pw_and (pt_cmpR (k_eq (K := K) hr.units) (k_ixL (K := K) (pv 0) pe_int) pe_int (nomark _)) (pw_and1 (pt_cmpR (op_lt) (k_ixL (K := K) (pv 0) pe_int) (k_cb T.f_len (k_len (K := K)) (pa_cons (k_ixL (K := K) (pv 0) pe_int) pa_nil)) (nomark _))))) (pss_cons (ps_set (i := 2) nd rfl (by first | exact Or.inl rfl | exact Or.inr rfl) (k_cb T.f_abs (call_abs) (pa_cons (k_cty T.f_int (call_int1) (pa_cons (k_ixL (K := K) (k_ixL (K := K) (pv 0) pe_int) (k_ixL (K := K) (pv 0) pe_int)) pa_nil)) pa_nil))) (pss_cons (ps_asg (pe_op op_add (k_ixL (K := K) (pv 0) pe_int) pe_int) (pg_sub (pv 0) pe_int set_list)) (pss_cons (ps_if (pt_cmpR (op_lt) (pv 2) (pe_op op_pow pe_int pe_int) (nomark _)) (pss_one (ps_ret (pe_op op_mod (k_cty T.f_int (call_int1) (pa_cons (pv 2) pa_nil)) (pv 1)))) pss_nil) (pss_one (ps_asg (pv 2) (pg_sub (pv 0) pe_int set_list)))))) pss_nil) (pss_cons (ps_if (pt_cmpR (op_gt) (k_ixL (K := K) (pv 0) pe_int) pe_int (nomark _)) (pss_cons (ps_set (i := 3) nd rfl (by first | exact Or.inl rfl | exact Or.inr rfl) (pe_op op_mod (k_cty T.f_int (call_int1) (pa_cons (k_ixL (K := K) (pv 0) pe_int) pa_nil)) (pv 1))) (pss_cons (ps_asg (pe_op op_fdiv (k_ixL (K := K) (pv 0) pe_int) (pv 1)) (pg_sub (pv 0) pe_int set_list)) (pss_one (ps_ret (pv 3))))) pss_nil) (pss_cons (ps_asg (pe_op op_mod (k_cty T.f_int (call_int1) (pa_cons (pe_op op_add (pe_op op_mul (k_ixL (K := K) (pv 0) pe_int) pe_int) pe_int) pa_nil)) pe_int) (pg_sub (pv 0) pe_int set_list)) (pss_cons (ps_set (i := 4) nd rfl (by first | exact Or.inl rfl | exact Or.inr rfl) (pe_op op_mod (k_cty T.f_int (call_int1) (pa_cons (pe_op op_add (pe_op op_mul (k_ixL (K := K) (pv 0) pe_int) pe_int) (pe_op op_fdiv (k_ixL (K := K) (pv 0) pe_int) pe_int)) pa_nil)) pe_int)) (pss_one (ps_ret (pe_op op_mod (k_cty T.f_int (call_int1) (pa_cons (pv 4) pa_nil)) (pv 1)))))))), ?_⟩
    have hp0 := hp
    obtain ⟨hne, ⟨ns, hl, hn⟩, i, b, c, hpot, hi0, hi1, hb0⟩ := hp
    have t1 : EvT (gx K) (tAnd (tTest (tOp (rEqN K) (tOp (rIxL K) (tVar 0) (tC (.int 2))) (tC (.int 0)))) (tTest (tOp (rI0 fun i j => .bl (decide (i < j))) (tOp (rIxL K) (tVar 0) (tC (.int 1))) (tCB (rLenS K) (tCons (tOp (rIxL K) (tVar 0) (tC (.int 0))) tNil))))) (start N__law_next [.ref pot, .int lim]) H
        (decide (NestedKey.num b = .num 0) && decide (i < (ns.length : Nat))) := by
      refine et_and (et_test (eb_eqN ((ev_potix rfl hpot rfl).imp fun v H2 _ e => by rw [e]; exact .int b) ed_int)) fun _ => et_test fun H1 e Q q => ?_
      refine pot_ix rfl (e _ _ hpot) rfl ?_
      refine pot_ix rfl (e _ _ hpot) rfl ?_
      refine ⟨l, ns.map V.int, rfl, .inl (SqL.of (e _ _ hl)), i, _, rfl, rfl, q _ H1 (Ex.refl _) ?_⟩
      rw [List.length_map]
    refine q_when2 (G := gx K) (fun σ' H' => ∃ s2, σ' = [some (.ref pot), some (.int lim), s2, none, none] ∧ (gp K pot l).R H H') trivial t1 (fun σ' H' hs => ?_) (fun hb H1 e1 nx hnx => ?_) fun hb H1 e1 => ?_
    · -- behind the first test
      obtain ⟨s2, rfl, hR⟩ := hs
      have hP := hR.2.1
      obtain ⟨_, _, i2, b2, c2, hpot2, hi2, hi3, hb2⟩ := hR.2.1
      have t2 : EvT (gx K) (tTest (tOp (rI0 fun i j => .bl (decide (j < i))) (tOp (rIxL K) (tVar 0) (tC (.int 2))) (tC (.int 0)))) [some (.ref pot), some (.int lim), s2, none, none] H' (decide (0 < b2)) := et_test fun H1 e Q q => pot_ix rfl (e _ _ hpot2) rfl ⟨b2, 0, rfl, rfl, q _ H1 (Ex.refl _) rfl⟩
      refine q_when (G := gx K) trivial t2 (fun hb H1 e1 => ?_) fun hb H1 e1 => ?_
      · have hR1 := (gp K pot l).tr hR ((gp K pot l).exr hP e1)
        refine seqI (asgI ?_)
        refine pot_ix rfl (e1 _ _ hpot2) rfl (.inl ⟨b2, rfl, .int lim, rfl, b2, lim, rfl, rfl, by omega, ?_⟩)
        obtain ⟨r, hr1, hr2⟩ := nat_mod (x := b2) h1
        dsimp only
        rw [hr1]
        refine seqI ?_
        refine pot_ix rfl (e1 _ _ hpot2) rfl ⟨.int lim, rfl, b2, lim, rfl, rfl, ⟨by omega, by omega⟩, ?_⟩
        refine ⟨.ref pot, rfl, pot, _, 2, 2, rfl, rfl, e1 _ _ hpot2, rfl, ?_⟩
        have hR2 := (gp K pot l).tr hR1 (potR hR1.2.1 i2 (b2 / lim) c2 hi2 hi3 (Int.ediv_nonneg hb2 (by omega)))
        exact ⟨.int r, rfl, q r _ hr2 hR2⟩
      · have hR1 := (gp K pot l).tr hR ((gp K pot l).exr hP e1)
        refine seqI ?_
        refine pot_ix rfl (e1 _ _ hpot2) rfl ⟨c2, 48271, rfl, rfl, .inr ⟨by decide, by decide⟩, _, 12345, rfl, rfl, .inl ⟨_, rfl, _, _, rfl, rfl, Int.lt_of_lt_of_le (by decide : (0 : Int) < 127) (by decide), ?_⟩⟩
        refine ⟨.ref pot, rfl, pot, _, 3, 3, rfl, rfl, e1 _ _ hpot2, rfl, ?_⟩
        have hR2 := (gp K pot l).tr hR1 (potR hR1.2.1 i2 b2 ((c2 * 48271 + 12345) % 2147483647) hi2 hi3 hb2)
        dsimp only
        change tSeq (tAsg _ (gName 4)) _ _ [some (.ref pot), some (.int lim), s2, none, none] (upd H1 pot (.lst [.ref l, .int i2, .int b2, .int ((c2 * 48271 + 12345) % 2147483647)]))
        refine seqI (asgI ?_)
        generalize (c2 * 48271 + 12345) % 2147483647 = c3 at hR2
        refine pot_ix rfl upd_same rfl ⟨_, 69621, rfl, rfl, .inr ⟨by decide, by decide⟩, ?_⟩
        refine pot_ix rfl upd_same rfl ⟨_, 127, rfl, rfl, ⟨by decide, by decide⟩, _, _, rfl, rfl, .inl ⟨_, rfl, _, _, rfl, rfl, Int.lt_of_lt_of_le (by decide : (0 : Int) < 127) (by decide), ?_⟩⟩
        dsimp only
        generalize (c3 * 69621 + c3 / 127) % 2147483629 = mx
        obtain ⟨r, hr1, hr2⟩ := nat_mod (x := mx) h1
        refine ⟨.int mx, rfl, .inl ⟨mx, rfl, .int lim, rfl, mx, lim, rfl, rfl, by omega, ?_⟩⟩
        dsimp only
        rw [hr1]
        exact q r _ hr2 hR2
    · -- a cell of the script
      rw [Bool.and_eq_true, decide_eq_true_eq, decide_eq_true_eq] at hb
      have hR1 := (gp K pot l).exr hp0 e1
      have hil : i.toNat < ns.length := by omega
      have hat : atI (ns.map V.int) i = some (.int ns[i.toNat]) := by
        have h := atI_nat (xs := ns.map V.int) (j := i.toNat) (v := .int ns[i.toNat]) (by rw [List.getElem?_map, List.getElem?_eq_getElem hil]; rfl)
        rw [show ((i.toNat : Nat) : Int) = i from by omega] at h
        exact h
      generalize ns[i.toNat] = n0 at hat
      refine seqI (asgI ?_)
      refine pot_ix rfl (e1 _ _ hpot) rfl ?_
      refine pot_ix rfl (e1 _ _ hpot) rfl ⟨l, ns.map V.int, i, .int n0, rfl, rfl, SqL.of (e1 _ _ hl), hat, .inl ⟨n0, rfl, n0, rfl, ?_⟩⟩
      dsimp only
      have hcell : 0 ≤ (if n0 < 0 then -n0 else n0) := by split <;> omega
      generalize (if n0 < 0 then -n0 else n0) = cell at hcell
      refine seqI ?_
      refine pot_ix rfl (e1 _ _ hpot) rfl ⟨i, 1, rfl, rfl, ?_⟩
      refine ⟨.ref pot, rfl, pot, _, 1, 1, rfl, rfl, e1 _ _ hpot, rfl, ?_⟩
      have hR2 := (gp K pot l).tr hR1 (potR hR1.2.1 (i + 1) b c (by omega) (by omega) hb0)
      change tSeq _ _ _ [some (.ref pot), some (.int lim), some (.int cell), none, none] (upd H1 pot (.lst [.ref l, .int (i + 1), .int b, .int c]))
      have hp2 : upd H1 pot (.lst [.ref l, .int (i + 1), .int b, .int c]) pot = some (.lst [.ref l, .int (i + 1), .int b, .int c]) := upd_same
      have hR2 : (gp K pot l).R H (upd H1 pot (.lst [.ref l, .int (i + 1), .int b, .int c])) := hR2
      generalize upd H1 pot (.lst [.ref l, .int (i + 1), .int b, .int c]) = H2 at hR2 hp2 ⊢
      have t3 : EvT (gx K) (tTest (tOp (rI0 fun i j => .bl (decide (i < j))) (tVar 2) (tOp (rI CPow fun i j => .int (i ^ j.toNat)) (tC (.int 10)) (tC (.int 18))))) [some (.ref pot), some (.int lim), some (.int cell), none, none] H2 (decide (cell < 10 ^ 18)) := et_test fun H3 e Q q =>
        ⟨.int cell, rfl, 10, 18, rfl, rfl, ⟨by decide, by decide, by decide⟩, cell, _, rfl, rfl, q _ H3 (Ex.refl _) rfl⟩
      refine q_when (G := gx K) trivial t3 (fun _ H3 e3 => ?_) fun _ H3 e3 => ?_
      · have hR3 := (gp K pot l).tr hR2 ((gp K pot l).exr hR2.2.1 e3)
        obtain ⟨r, hr1, hr2⟩ := nat_mod (x := cell) h1
        refine ⟨.int cell, rfl, .inl ⟨cell, rfl, .int lim, rfl, cell, lim, rfl, rfl, by omega, ?_⟩⟩
        dsimp only
        rw [hr1]
        exact q r _ hr2 hR3
      · have hR3 := (gp K pot l).tr hR2 ((gp K pot l).exr hR2.2.1 e3)
        refine ⟨.int cell, rfl, .ref pot, rfl, pot, _, 2, 2, rfl, rfl, e3 _ _ hp2, rfl, ?_⟩
        exact hnx _ _ ⟨_, rfl, (gp K pot l).tr hR3 (potR hR3.2.1 (i + 1) cell c (by omega) (by omega) hcell)⟩
    · exact ⟨_, rfl, (gp K pot l).exr hp0 e1⟩
end
end Ew
set_option Elab.async false
set_option linter.all false
set_option maxRecDepth 100000
set_option maxHeartbeats 4000000
namespace Ew
open PySem PySem.Spec PyProof.Rows L2
open Evl (Ex)
/-! ### draws -/
section
variable {K : PySem.W.Frag} {pot l : Addr} {σ : L2.St} {H : Hp} {i : Nat} {lim : Int}
theorem ev_next {E : XK} {tl : TE} (hi : σ[i]? = some (some (.ref pot))) (h1 : 1 ≤ lim) (h2 : lim ≤ 1000) (hl : EvP (gp K pot l) tl σ H (fun v _ => v = .int lim)) : EvP (gp K pot l) (tCall (sp_next K) [] E (tCons (tVar i) (tCons tl tNil))) σ H (fun v _ => ∃ r : Nat, v = .int r ∧ (r : Int) < lim) := fun H1 e Q q => by
  refine ⟨.ref pot, hi, ?_⟩
  refine hl H1 e _ fun v H2 e2 hv => ?_
  subst hv
  exact ⟨pot, l, lim, rfl, e2.2.1, h1, h2, fun r H' hr hR => q _ H' ((gp K pot l).tr e2 hR) ⟨r, rfl, hr⟩⟩
theorem ev_int {G : Gw K} {n : Int} : EvP G (tC (.int n)) σ H (fun v _ => v = .int n) := ev_c fun _ _ => rfl
/-- a pick of a new list -/
theorem ev_pickL {G : Gw K} {ta tb : TE} {ds : List Nk} (ha : EL G ta σ H ds) (hb : EvP G tb σ H (fun v _ => ∃ r : Nat, v = .int r ∧ (r : Int) < ds.length)) : EvP G (tOp (rIxL K) ta tb) σ H (fun v H2 => ∃ d ∈ ds, NV K H2 v d) := fun H1 e Q q => by
  refine ha H1 e _ fun v H2 e2 ⟨p, hp, hn, xs, hx, hv⟩ => ?_
  subst hp
  refine (EvP.mono (G.tr e e2) hb) H2 (G.rf (G.ok2 e2)) _ fun u H3 e3 ⟨r, hr, hlt⟩ => ?_
  subst hr
  have hx3 := G.loc (G.tr e e2) hn e3 hx
  have hlt : r < ds.length := by omega
  obtain ⟨y, hy1, hy2⟩ := (hv.t (G.tx e3)).get (List.getElem?_eq_getElem hlt)
  exact ⟨p, xs, _, y, rfl, rfl, SqL.of hx3, atI_nat hy1, q y H3 (G.tr e2 e3) ⟨_, List.getElem_mem hlt, hy2⟩⟩
theorem ed_pickAt {G : Gw K} {ta tb : TE} {ds : List Nk} {r : Nat} {d : Nk} (ha : EL G ta σ H ds) (hb : EvP G tb σ H (fun v _ => v = .int (r : Nat))) (hd : ds[r]? = some d) : ED G (tOp (rIxL K) ta tb) σ H d := fun H1 e Q q => by
  refine ha H1 e _ fun v H2 e2 ⟨p, hp, hn, xs, hx, hv⟩ => ?_
  subst hp
  refine (EvP.mono (G.tr e e2) hb) H2 (G.rf (G.ok2 e2)) _ fun u H3 e3 hr => ?_
  subst hr
  have hx3 := G.loc (G.tr e e2) hn e3 hx
  obtain ⟨y, hy1, hy2⟩ := (hv.t (G.tx e3)).get hd
  exact ⟨p, xs, _, y, rfl, rfl, SqL.of hx3, atI_nat hy1, q y H3 (G.tr e2 e3) hy2⟩
theorem q_whenN {G : Gw K} {te : TE} {tu tz : TS} {D : Ends} (ok : G.Ok H) (h : EvP G te σ H (fun v _ => ∃ b, v = .bl b)) (h1 : ∀ H1, G.R H H1 → tu { D with nx := tz D } σ H1) (h2 : ∀ H1, G.R H H1 → tz D σ H1) : tSeq (tIfS (tTest te) tu tNext) tz D σ H := by
  refine h H (G.rf ok) _ fun v H1 e ⟨b, hb⟩ => ?_
  subst hb
  refine ⟨b, rfl, ?_⟩
  cases b with
  | true => exact ifT (p := fun H => tu { D with nx := tz D } σ H) (q := fun H => tz D σ H) (h1 H1 e)
  | false => exact ifF (p := fun H => tu { D with nx := tz D } σ H) (q := fun H => tz D σ H) (h2 H1 e)
theorem ev_eqN {G : Gw K} {ta tb : TE} {Pd : Nk → Prop} {e : Nk} (ha : EvP G ta σ H (fun v H2 => ∃ d, Pd d ∧ d.depth ≤ 60 ∧ NV K H2 v d)) (hb : ED G tb σ H e) : EvP G (tOp (rEqN K) ta tb) σ H (fun v _ => ∃ b, v = .bl b) :=
  ev_op ha (fun x H1 a _ => hb.mono a) fun x y H1 H2 a ⟨d, _, hd, n1⟩ b n2 Q q => ⟨d, e, n1.t (G.tx b), n2, hd, q _ H2 (G.rf (G.ok2 b)) ⟨_, rfl⟩⟩
/-- tuple(a new list of some data) -/
theorem ev_tupN {G : Gw K} {te : TE} {B : List Nk → Prop} (h : EvP G te σ H (fun v H2 => ∃ p xs, v = .ref p ∧ H p = none ∧ H2 p = some (.lst xs) ∧ ∃ ts, B ts ∧ NVs K H2 xs ts)) : EvP G (tThen te (kTupF K)) σ H (fun v H2 => ∃ ts, B ts ∧ NV K H2 v (.tup ts)) := fun H1 r Q q =>
  h H1 r _ fun v H2 r2 ⟨l, xs, e, hn, hl, ts, hB, hv⟩ => by
    subst e
    exact ⟨l, xs, rfl, SqL.of hl, fun p o hp ho => q _ _ (G.tr r2 (G.new (G.ok2 r2) hp)) ⟨ts, hB, .tup ⟨o, upd_same, ho⟩ (hv.t (G.tx (G.new (G.ok2 r2) hp)))⟩⟩
end
abbrev N__law_term : List Str := ["_law_pot_here"]
theorem sc__law_term : FnScope N__law_term ["_law_pot_here"] (defScope s__law_term) := ⟨rfl, rfl, rfl, by decide +kernel, rfl, by decide +kernel, by decide +kernel⟩
abbrev N__law_atoms : List Str := ["_law_pot_here", "_law_many", "_law_found", "_law_k", "_law_table", "_law_j"]
theorem sc__law_atoms : FnScope N__law_atoms ["_law_pot_here", "_law_many"] (defScope s__law_atoms) := ⟨rfl, rfl, rfl, by decide +kernel, rfl, by decide +kernel, by decide +kernel⟩
def sp_term (K : PySem.W.Frag) : Sp := fun vs H Q _ => ∃ (pot l : Addr), vs = [.ref pot] ∧ PotAt K pot l H ∧ ∀ t v H', WfT t → (gp K pot l).R H H' → NV K H' v t.enc → Q v H'
def sp_atoms (K : PySem.W.Frag) : Sp := fun vs H Q _ => ∃ (pot l : Addr) (many : Int), vs = [.ref pot, .int many] ∧ PotAt K pot l H ∧ 1 ≤ many ∧ many ≤ 4 ∧ ∀ (as : List Atom) v H', (∀ a ∈ as, WfA a) → 1 ≤ as.length → (as.length : Int) ≤ many → (gp K pot l).R H H' → NV K H' v (.tup (as.map encA)) → Q v H'
section
variable {P : Program} {w : World} {K : PySem.W.Frag} {mg : Str → Option Value} {base : Heap}
theorem ok_term {k : Nat} {f : Addr} {fd : FuncData} (F : FnP K "_law_term" "_law_term" s__law_term f fd) (T : Txt mg) (c__law_next : Callee P w K mg base "_law_next" k ["_law_pot_here", "_law_limit"] (sp_next K)) : FnOk P w K mg base CX0 (k + 1) f fd ["_law_pot_here"] (sp_term K) := by
  refine mk_ok F sc__law_term (fun vs H Q E h => ?_) (fun cdv A outer s H vs Q E hr h => ?_)
  · obtain ⟨pot, l, rfl, _⟩ := h
    rfl
  · obtain ⟨pot, l, rfl, hp, q⟩ := h
    have nd := sc__law_term.nd
    refine ⟨_, (pss_cons (ps_if (pt_cmpR (k_eq (K := K) hr.units) (pe_cal c__law_next hr (pa_cons (pv 0) (pa_cons pe_int pa_nil))) pe_int (nomark _)) (pss_one (ps_ret (pe_tupF (pa_cons pe_str (pa_cons (k_ixL (K := K) (pe_lst (pa_cons pe_int (pa_cons pe_int (pa_cons pe_str pa_nil)))) (pe_cal c__law_next hr (pa_cons (pv 0) (pa_cons pe_int pa_nil)))) pa_nil))))) pss_nil) (pss_one (ps_ret (pe_tupF (pa_cons pe_str (pa_cons (k_ixL (K := K) (pe_lst (pa_cons pe_str (pa_cons pe_str (pa_cons pe_str (pa_cons pe_str pa_nil))))) (pe_cal c__law_next hr (pa_cons (pv 0) (pa_cons pe_int pa_nil)))) pa_nil)))))), ?_⟩
    have nxt : ∀ (lim : Int) (H' : Hp), 1 ≤ lim → lim ≤ 1000 → EvP (gp K pot l) (tCall (sp_next K) [] E0 (tCons (tVar 0) (tCons (tC (.int lim)) tNil))) [some (.ref pot)] H' (fun v _ => ∃ r : Nat, v = .int r ∧ (r : Int) < lim) := fun lim H' a b => ev_next rfl a b ev_int
    refine q_whenN (G := gp K pot l) hp (ev_eqN (Pd := fun _ => True) ((nxt 5 H (by decide) (by decide)).imp fun v H2 _ ⟨r, hr, _⟩ => ⟨.num r, trivial, by simp [NestedKey.depth], by rw [hr]; exact .int _⟩) ed_int) (fun H1 e1 => ?_) fun H1 e1 => ?_
    · refine (ev_pickL (G := gp K pot l) (ds := [.num 0, .num 1, .text "a"]) (el_lst (eds_cons ed_int (eds_cons ed_int (eds_cons ed_str eds_nil)))) (nxt 3 H1 (by decide) (by decide))) H1 ((gp K pot l).rf e1.2.1) _ fun v H2 e2 ⟨d, hd, nv⟩ => ?_
      refine ⟨(by rw [sizeLine_eq]; exact Nat.le_of_ble_eq_true rfl), fun tp ob htp hob => ?_⟩
      have e3 := (gp K pot l).new (o := .frz ob (.tup [.str "value", v])) e2.2.1 htp
      have hw : WfT (.val d) := by
        simp only [List.mem_cons, List.mem_nil_iff, or_false] at hd
        rcases hd with rfl | rfl | rfl <;> simp [WfT, vals3]
      exact q (.val d) _ _ hw ((gp K pot l).tr ((gp K pot l).tr e1 e2) e3) (.tup ⟨ob, upd_same, hob⟩ (.cons (.str _) (.cons (nv.t ((gp K pot l).tx e3)) .nil)))
    · refine (ev_pickL (G := gp K pot l) (ds := [.text "x", .text "y", .text "z", .text "u"]) (el_lst (eds_cons ed_str (eds_cons ed_str (eds_cons ed_str (eds_cons ed_str eds_nil))))) (nxt 4 H1 (by decide) (by decide))) H1 ((gp K pot l).rf e1.2.1) _ fun v H2 e2 ⟨d, hd, nv⟩ => ?_
      refine ⟨(by rw [sizeLine_eq]; exact Nat.le_of_ble_eq_true rfl), fun tp ob htp hob => ?_⟩
      have e3 := (gp K pot l).new (o := .frz ob (.tup [.str "var", v])) e2.2.1 htp
      obtain ⟨x, rfl, hx⟩ : ∃ x, d = .text x ∧ x ∈ names4 := by
        simp only [List.mem_cons, List.mem_nil_iff, or_false] at hd
        rcases hd with rfl | rfl | rfl | rfl
        · exact ⟨_, rfl, by simp [names4]⟩
        · exact ⟨_, rfl, by simp [names4]⟩
        · exact ⟨_, rfl, by simp [names4]⟩
        · exact ⟨_, rfl, by simp [names4]⟩
      exact q (.var x) _ _ hx ((gp K pot l).tr ((gp K pot l).tr e1 e2) e3) (.tup ⟨ob, upd_same, hob⟩ (.cons (.str _) (.cons (nv.t ((gp K pot l).tx e3)) .nil)))
theorem ok_atoms {k : Nat} {f : Addr} {fd : FuncData} (F : FnP K "_law_atoms" "_law_atoms" s__law_atoms f fd) (T : Txt mg) (c__law_next : Callee P w K mg base "_law_next" k ["_law_pot_here", "_law_limit"] (sp_next K)) (c__law_term : Callee P w K mg base "_law_term" k ["_law_pot_here"] (sp_term K)) :
    FnOk P w K mg base CX0 (k + 1) f fd ["_law_pot_here", "_law_many"] (sp_atoms K) := by
  refine mk_ok F sc__law_atoms (fun vs H Q E h => ?_) (fun cdv A outer s H vs Q E hr h => ?_)
  · obtain ⟨pot, l, many, rfl, _⟩ := h
    rfl
  · obtain ⟨pot, l, many, rfl, hp, hm1, hm4, q⟩ := h
    have nd := sc__law_atoms.nd
    refine ⟨_, (pss_cons (ps_set (i := 2) nd rfl (by first | exact Or.inl rfl | exact Or.inr rfl) (pe_lst pa_nil)) (pss_cons (ps_for PassesOwn.never rfl (k_range T (pa_cons (pe_op op_add pe_int (pe_cal c__law_next hr (pa_cons (pv 0) (pa_cons (pv 1) pa_nil)))) pa_nil)) (pg_name (i := 3) nd rfl (by first | exact Or.inl rfl | exact Or.inr rfl)) (pss_cons (ps_set (i := 4) nd rfl (by first | exact Or.inl rfl | exact Or.inr rfl) (k_ixL (K := K) (pe_lst (pa_cons pe_str (pa_cons pe_str (pa_cons pe_str pa_nil)))) (pe_cal c__law_next hr (pa_cons (pv 0) (pa_cons pe_int pa_nil))))) (pss_one (ps_expr (k_append (K := K) (pv 2) (pa_cons (pe_tupF (pa_cons (pv 4) (pa_cons (k_tuple (K := K) T (pe_lc (own := [("_law_j", 5)]) rfl nd (k_range T (pa_cons (k_ixL (K := K) (pe_lst (pa_cons pe_int (pa_cons pe_int pa_nil))) (k_cty T.f_int (call_int1) (pa_cons (pe_cmpR (k_eq (K := K) hr.units) (pv 4) pe_str (nomark _)) pa_nil))) pa_nil)) (blkOk_by (N := N__law_atoms) (sc := defScope s__law_atoms) (by decide +kernel)) (fun _ _ _ _ _ => (pg_name (i := 5) nd rfl (by first | exact Or.inl rfl | exact Or.inr rfl))) (fun _ _ _ _ _ => pts_nil) (fun _ _ _ _ _ => (pe_cal c__law_term hr (pa_cons (pv 0) pa_nil))))) pa_nil))) pa_nil)))))) (pss_one (ps_ret (k_tuple (K := K) T (pv 2)))))), ?_⟩
    -- found = []
    refine seqI (asgI ?_)
    refine ⟨(by rw [sizeLine_eq]; exact Nat.zero_le _), fun D hD => ?_⟩
    have g0 := (gp K pot l).new (o := .lst []) hp hD
    dsimp only
    have src : EvI (gp K pot l) (iRng1 (tCons (tOp (rI0 fun i j => .int (i + j)) (tC (.int 1)) (tCall (sp_next K) [] E0 (tCons (tVar 0) (tCons (tVar 1) tNil)))) tNil)) [some (.ref pot), some (.int many), some (.ref D), none, none, none] (upd H D (.lst [])) (fun J _ => ∃ n : Nat, J = Itr 0 n ∧ 1 ≤ n ∧ (n : Int) ≤ many) := fun H1 e1 Q q => by
      refine (ev_next (K := K) (l := l) (H := upd H D (.lst [])) rfl hm1 (by omega) (ev_var rfl fun _ _ => rfl)) H1 e1 _ fun v H2 e2 ⟨r, hr, hlt⟩ => ?_
      subst hr
      refine ⟨1, r, rfl, rfl, 1 + (r : Int), rfl, by omega, by omega, ?_⟩
      exact q _ H2 e2 ⟨1 + r, by congr 1, by omega, by omega⟩
    refine q_for (G := gp K pot l) g0.2.1 src fun J H1 e1 hs => ?_
    obtain ⟨n, rfl, hn1, hn2⟩ := hs
    refine ⟨n, _, _, fun j σ' H' => ∃ s3 s4, σ' = [some (.ref pot), some (.int many), some (.ref D), s3, s4, none] ∧ (gp K pot l).R H H' ∧ ∃ as xs, as.length = j ∧ (∀ a ∈ as, WfA a) ∧ H' D = some (.lst xs) ∧ NVs K H' xs (as.map encA), walk_range (lo := 0) (n := n),
      ⟨none, none, rfl, (gp K pot l).tr g0 e1, [], [], rfl, fun a ha => (nomatch ha), (gp K pot l).loc g0 hD e1 upd_same, .nil⟩, fun _ _ _ _ _ => trivial, fun j x σ' Ha Hb hj hp y => ?_, fun σ' H' hp => ?_⟩
    · obtain ⟨s3, s4, rfl, hR, as, xs, hal, haw, hxs, hv⟩ := hp
      obtain ⟨rfl, hx⟩ := y
      refine nmI ?_
      refine q_asg (G := gp K pot l) hR.2.1 (ev_pickL (G := gp K pot l) (ds := [.text "e", .text "e", .text "p"]) (el_lst (eds_cons ed_str (eds_cons ed_str (eds_cons ed_str eds_nil)))) (ev_next rfl (by decide) (by decide) ev_int)) fun v H2 e2 ⟨d, hd, nv⟩ => ?_
      obtain ⟨tab, rfl, htab⟩ : ∃ t, d = .text t ∧ Tab t := by
        simp only [List.mem_cons, List.mem_nil_iff, or_false] at hd
        rcases hd with rfl | rfl | rfl
        · exact ⟨_, rfl, .inl rfl⟩
        · exact ⟨_, rfl, .inl rfl⟩
        · exact ⟨_, rfl, .inr rfl⟩
      cases nv
      have hR2 := (gp K pot l).tr hR e2
      have hxs2 := (gp K pot l).loc hR hD e2 hxs
      -- how many terms
      have cnt : EvA (gp K pot l) (tCons (tOp (rIxL K) (tLst (tCons (tC (.int 1)) (tCons (tC (.int 2)) tNil))) (tCB (fun xs H Q => (∃ i, xs = [.int i] ∧ Q (.int i) H) ∨ ∃ k, xs = [.bl k] ∧ Q (.int (if k then 1 else 0)) H) (tCons (tOp (rEqN K) (tVar 4) (tC (.str "e"))) tNil))) tNil) [some (.ref pot), some (.int many), some (.ref D), some x, some (.str tab), none] H2 (fun vs _ => vs = [.int (arN tab : Nat)]) := fun H3 e3 Q q => by
        have elL : EL (gp K pot l) (tLst (tCons (tC (.int 1)) (tCons (tC (.int 2)) tNil))) [some (.ref pot), some (.int many), some (.ref D), some x, some (.str tab), none] H2 [.num 1, .num 2] := el_lst (eds_cons ed_int (eds_cons ed_int eds_nil))
        have ix : EvP (gp K pot l) (tCB (fun xs H Q => (∃ i, xs = [.int i] ∧ Q (.int i) H) ∨ ∃ k, xs = [.bl k] ∧ Q (.int (if k then 1 else 0)) H) (tCons (tOp (rEqN K) (tVar 4) (tC (.str "e"))) tNil)) [some (.ref pot), some (.int many), some (.ref D), some x, some (.str tab), none] H2 (fun v _ => v = .int ((arN tab - 1 : Nat) : Int)) :=
          ev_cb (ea_one (eb_eqN (ed_var rfl (.str tab)) ed_str)) fun vs H4 e4 p Q q => by
            obtain ⟨v, rfl, rfl⟩ := p
            refine .inr ⟨_, rfl, q _ H4 ((gp K pot l).rf ((gp K pot l).ok2 e4)) ?_⟩
            rcases htab with rfl | rfl <;> rfl
        have hat : ([.num 1, .num 2] : List Nk)[arN tab - 1]? = some (.num (arN tab : Nat)) := by rcases htab with rfl | rfl <;> rfl
        exact ea_one (ed_pickAt elL ix hat) H3 e3 Q fun vs H4 e4 ⟨v, hv, nv⟩ => q vs H4 e4 (by rw [hv]; cases nv; rfl)
      have lc : EvP (gp K pot l) (tLc (iRng1 (tCons (tOp (rIxL K) (tLst (tCons (tC (.int 1)) (tCons (tC (.int 2)) tNil))) (tCB (fun xs H Q => (∃ i, xs = [.int i] ∧ Q (.int i) H) ∨ ∃ k, xs = [.bl k] ∧ Q (.int (if k then 1 else 0)) H) (tCons (tOp (rEqN K) (tVar 4) (tC (.str "e"))) tNil))) tNil)) (gName 5) tYes (tCall (sp_term K) [] E0 (tCons (tVar 0) tNil)) [5]) [some (.ref pot), some (.int many), some (.ref D), some x, some (.str tab), none] H2
          (fun v H3 => ∃ p xs, v = .ref p ∧ H2 p = none ∧ H3 p = some (.lst xs) ∧ ∃ ts, (∃ us : List Tm, us.length = arN tab ∧ (∀ u ∈ us, WfT u) ∧ ts = us.map Tm.enc) ∧ NVs K H3 xs ts) := by
        refine ev_lc (G := gp K pot l) (n := arN tab) (fun i acc H' => ∃ ts, (∃ us : List Tm, us.length = i ∧ (∀ u ∈ us, WfT u) ∧ ts = us.map Tm.enc) ∧ NVs K H' acc ts) (ei_range cnt ⟨by omega, by have := arN_le tab; omega⟩) (by have := arN_le tab; omega) (fun _ => ⟨[], ⟨[], rfl, fun u hu => (nomatch hu), rfl⟩, .nil⟩) (fun i acc Ha Hb e ⟨ts, h1, h2⟩ => ⟨ts, h1, h2.t e⟩)
          (fun i acc Ha ⟨ts, ⟨us, h1, _, h3⟩, h2⟩ => by rw [h2.len, h3, List.length_map, h1]; exact Nat.le_refl _) fun J H3 e3 hs => ?_
        subst hs
        refine ⟨_, (walk_range (lo := 0) (n := arN tab)).mono (fun _ _ => trivial) (fun i H4 x H5 _ _ y => y), fun i H4 x' H5 hi e4 y => ?_⟩
        obtain ⟨rfl, _⟩ := y
        refine ⟨(gp K pot l).rf e4.2.1, _, true, st_name, rfl, et_yes, fun _ => ⟨fun v H6 => ∃ t, WfT t ∧ NV K H6 v t.enc, fun H6 e6 Q q => call1 rfl ⟨pot, l, rfl, e6.2.1, fun t v H7 ht e7 nv => q v H7 e7 ⟨t, ht, nv⟩⟩, fun v H6 acc e6 ⟨t, ht, nt⟩ ⟨ts, ⟨us, h1, h2, h3⟩, h4⟩ => ?_⟩, fun e => by cases e⟩
        refine ⟨ts ++ [t.enc], ⟨us ++ [t], by rw [List.length_append, h1]; rfl, fun u hu => ?_, by rw [h3, List.map_append]; rfl⟩, h4.snoc nt⟩
        rcases List.mem_append.mp hu with hu | hu
        · exact h2 u hu
        · rw [List.mem_singleton.mp hu]
          exact ht
      have hlen : xs.length ≤ 4 := by
        have := hv.len
        rw [List.length_map, hal] at this
        omega
      refine s_app (G := gp K pot l) (l := D) (xs := xs) (P := fun v H3 => ∃ a, WfA a ∧ NV K H3 v (encA a)) hR2.2.1 (ev_var rfl fun _ _ => rfl) (fun H3 e3 Q q => ?_) (fun H3 e3 => (gp K pot l).loc hR2 hD e3 hxs2) (by omega) fun v H3 e3 ⟨a, hwa, na⟩ => ?_
      · refine ⟨.str tab, rfl, ?_⟩
        refine (ev_tupN lc) H3 e3 _ fun v H4 e4 ⟨ts, ⟨us, hu1, hu2, hu3⟩, nv⟩ => ?_
        refine ⟨(by rw [sizeLine_eq]; exact Nat.le_of_ble_eq_true rfl), fun tp ob htp hob => ?_⟩
        have e5 := (gp K pot l).new (o := .frz ob (.tup [.str tab, v])) e4.2.1 htp
        refine q _ _ ((gp K pot l).tr e4 e5) ⟨(tab, us), ⟨htab, hu1, hu2⟩, .tup ⟨ob, upd_same, hob⟩ (.cons (.str _) (.cons ?_ .nil))⟩
        rw [hu3] at nv
        exact nv.t ((gp K pot l).tx e5)
      · have hR3 := (gp K pot l).tr hR2 e3
        have hx3 := (gp K pot l).loc hR2 hD e3 hxs2
        have tu : Tx K H3 (upd H3 D (.lst (xs ++ [v]))) := Tx.upd (.inr (by rw [hx3]; trivial))
        refine ⟨_, _, rfl, (gp K pot l).chg hR3 hD, as ++ [a], xs ++ [v], by rw [List.length_append, hal]; rfl, fun b hb => ?_, upd_same, ?_⟩
        · rcases List.mem_append.mp hb with hb | hb
          · exact haw b hb
          · rw [List.mem_singleton.mp hb]
            exact hwa
        · rw [List.map_append]
          exact (((hv.t ((gp K pot l).tx e2)).t ((gp K pot l).tx e3)).t tu).snoc (na.t tu)
    · obtain ⟨s3, s4, rfl, hR, as, xs, hal, haw, hxs, hv⟩ := hp
      refine ⟨.ref D, rfl, D, xs, rfl, SqL.of hxs, fun tp ob htp hob => ?_⟩
      have e5 := (gp K pot l).new (o := .frz ob (.tup xs)) hR.2.1 htp
      exact q as _ _ haw (by omega) (by omega) ((gp K pot l).tr hR e5) (.tup ⟨ob, upd_same, hob⟩ (hv.t ((gp K pot l).tx e5)))
end
end Ew
set_option Elab.async false
set_option linter.all false
set_option maxRecDepth 100000
set_option maxHeartbeats 4000000
namespace Ew
open PySem PySem.Spec PyProof.Rows L2
open Evl (Ex)
section
variable {X : Cx} {tg e : Expr} {w1 w2 : TI} {K : PySem.W.Frag}
theorem pi_or (a : PI X tg e w1) (b : PI X tg e w2) : PI X tg e (fun σ H R => w1 σ H R ∨ w2 σ H R) := ⟨fun pins s σ H R I h => h.elim (fun h => a.run pins s σ H R I h) fun h => b.run pins s σ H R I h⟩
theorem k_in (hK : X.K = K := by rfl) : OpR X (compareOp .In) (rIn K false) := by subst hK; exact op_in_seq
theorem k_notIn (hK : X.K = K := by rfl) : OpR X (compareOp .NotIn) (rIn K true) := by subst hK; exact op_notIn_seq
end
theorem inV_str (x : Str) (ns : List Str) : inV (.str x) (ns.map V.str) = decide (x ∈ ns) := by
  induction ns with
  | nil => rfl
  | cons y ns ih =>
    have h1 : inV (.str x) ((y :: ns).map V.str) = (eqV (.str y) (.str x) || inV (.str x) (ns.map V.str)) := rfl
    have h2 : eqV (.str y) (.str x) = decide (y = x) := by
      show (y == x) = _
      rfl
    rw [h1, ih, h2]
    by_cases h : y = x
    · rw [decide_eq_true h, show decide (x ∈ y :: ns) = true from decide_eq_true (by rw [h]; exact List.mem_cons_self)]
      rfl
    · rw [decide_eq_false h, Bool.false_or]
      by_cases hm : x ∈ ns
      · rw [decide_eq_true hm, decide_eq_true (List.mem_cons_of_mem _ hm)]
      · rw [decide_eq_false hm, decide_eq_false (fun z => (List.mem_cons.mp z).elim (fun z => h z.symm) hm)]
theorem flat_strs (ns : List Str) : (ns.map V.str).all flatV = true := List.all_eq_true.mpr fun v hv => by
  obtain ⟨x, _, rfl⟩ := List.mem_map.mp hv
  rfl
section
variable {K : PySem.W.Frag} {σ : L2.St} {H : Hp} {ta tb : TE} {x : Str} {ns : List Str} {p : Addr}
theorem eb_in (ha : ED (gx K) ta σ H (.text x)) (hb : EvP (gx K) tb σ H (fun v _ => v = .ref p)) (hl : ∀ H', Ex H H' → SqL K H' p (ns.map V.str)) : EB (gx K) (tOp (rIn K false) ta tb) σ H (decide (x ∈ ns)) :=
  ev_op ha (fun _ H1 a _ => hb.mono a) fun u v H1 H2 a n1 b e Q q => by
    cases n1
    subst e
    exact ⟨p, _, rfl, .inl (hl H2 (a.trans b)), rfl, flat_strs ns, q _ H2 (Ex.refl _) (by rw [← inV_str]; rfl)⟩
theorem eb_notIn (ha : ED (gx K) ta σ H (.text x)) (hb : EvP (gx K) tb σ H (fun v _ => v = .ref p)) (hl : ∀ H', Ex H H' → SqL K H' p (ns.map V.str)) : EB (gx K) (tOp (rIn K true) ta tb) σ H (!decide (x ∈ ns)) :=
  ev_op ha (fun _ H1 a _ => hb.mono a) fun u v H1 H2 a n1 b e Q q => by
    cases n1
    subst e
    exact ⟨p, _, rfl, .inl (hl H2 (a.trans b)), rfl, flat_strs ns, q _ H2 (Ex.refl _) (by rw [← inV_str]; rfl)⟩
end
abbrev N__law_variables : List Str := ["_law_atoms_here", "_law_found", "_law_atom", "_law_term_here", "_law_name"]
theorem sc__law_variables : FnScope N__law_variables ["_law_atoms_here"] (defScope s__law_variables) := ⟨rfl, rfl, rfl, by decide +kernel, rfl, by decide +kernel, by decide +kernel⟩
abbrev N__law_rule : List Str := ["_law_pot_here", "_law_many", "_law_width", "_law_atoms_here", "_law_names", "_law_k"]
theorem sc__law_rule : FnScope N__law_rule ["_law_pot_here", "_law_many", "_law_width"] (defScope s__law_rule) := ⟨rfl, rfl, rfl, by decide +kernel, rfl, by decide +kernel, by decide +kernel⟩
abbrev N__law_put_in : List Str := ["_law_terms", "_law_table", "_law_term_here"]
theorem sc__law_put_in : FnScope N__law_put_in ["_law_terms", "_law_table"] (defScope s__law_put_in) := ⟨rfl, rfl, rfl, by decide +kernel, rfl, by decide +kernel, by decide +kernel⟩
def names6 : List Str := ["x", "y", "z", "u", "xx", "yy"]
def lawVars (as : List Atom) : List Str := names6.filter fun x => decide (Tm.var x ∈ tmsOf as)
def sp_variables (K : PySem.W.Frag) : Sp := fun vs H Q _ => ∃ p xs as, vs = [.ref p] ∧ (SqL K H p xs ∨ SqT K H p xs) ∧ NVs K H xs (as.map encA) ∧ (∀ a ∈ as, WfA a) ∧ as.length ≤ 10 ∧ ∀ q H', Ex H H' → H q = none → H' q = some (.lst ((lawVars as).map V.str)) → Q (.ref q) H'
/-- names by names -/
def nmK (τ : List (Str × Str)) : List (Key × Nk) := τ.map fun p => (Sum.inr p.1, .text p.2)
def putN (τ : List (Str × Str)) : Tm → Tm
  | .var x => .var ((aGet τ x).getD x)
  | .val c => .val c
theorem nmK_get (τ : List (Str × Str)) (x : Str) : aGet (nmK τ) (.inr x) = (aGet τ x).map .text := aGet_map (f := (Sum.inr : Str → Key)) (fun _ _ e => Sum.inr.inj e) NestedKey.text x τ
def sp_put_in (K : PySem.W.Frag) : Sp := fun vs H Q _ => ∃ (v : V) (a : Addr) (ts : List Tm) (τ : List (Str × Str)), vs = [v, .ref a] ∧ NV K H v (.tup (ts.map Tm.enc)) ∧ DKA K H a (nmK τ) ∧ ts.length ≤ 1000 ∧ (∀ x, Tm.var x ∈ ts → (aGet τ x).isSome = true) ∧ ∀ v' H', Ex H H' → NV K H' v' (.tup ((ts.map (putN τ)).map Tm.enc)) → Q v' H'
def sp_rule (K : PySem.W.Frag) : Sp := fun vs H Q _ => ∃ (pot l : Addr) (many width : Int), vs = [.ref pot, .int many, .int width] ∧ PotAt K pot l H ∧ 1 ≤ many ∧ many ≤ 4 ∧ 0 ≤ width ∧ width ≤ 2 ∧ ∀ (r : Rule) v H', WfR r → (r.1.length : Int) = width → (r.2.length : Int) ≤ many → (gp K pot l).R H H' → NV K H' v (encR r) → Q v H'
section
variable {P : Program} {w : World} {K : PySem.W.Frag} {mg : Str → Option Value} {base : Heap}
def inN (ns : List Str) : Nk → Option Nk
  | .text x => if x ∈ ns then some (.text x) else none
  | _ => none
def newN (ns : List Str) (t : Tm) : Option Nk := match t with
  | .var x => if x ∈ ns then none else some (.text x)
  | .val _ => none
theorem newN_names (ns : List Str) : ∀ ts : List Tm, ∃ ms : List Str, ts.filterMap (newN ns) = ms.map .text ∧ (∀ x, x ∈ ns ++ ms ↔ x ∈ ns ∨ Tm.var x ∈ ts) ∧ ms.length ≤ ts.length
  | [] => ⟨[], rfl, by simp, Nat.le_refl _⟩
  | t :: ts => by
    obtain ⟨ms, h1, h2, h3⟩ := newN_names ns ts
    cases t with
    | val c =>
      refine ⟨ms, h1, fun x => ?_, Nat.le_succ_of_le h3⟩
      rw [h2 x, List.mem_cons]
      simp
    | var y =>
      by_cases hy : y ∈ ns
      · refine ⟨ms, ?_, fun x => ?_, Nat.le_succ_of_le h3⟩
        · rw [List.filterMap_cons, show newN ns (.var y) = none from if_pos hy]
          exact h1
        · rw [h2 x, List.mem_cons]
          constructor
          · rintro (h | h)
            · exact .inl h
            · exact .inr (.inr h)
          · rintro (h | h | h)
            · exact .inl h
            · cases h; exact .inl hy
            · exact .inr h
      · refine ⟨y :: ms, ?_, fun x => ?_, Nat.succ_le_succ h3⟩
        · rw [List.filterMap_cons, show newN ns (.var y) = some (.text y) from if_neg hy, h1]
          rfl
        · have := h2 x
          rw [List.mem_append] at this
          rw [List.mem_append, List.mem_cons, List.mem_cons]
          constructor
          · rintro (h | h | h)
            · exact .inl h
            · subst h; exact .inr (.inl rfl)
            · rcases this.mp (.inr h) with h | h
              · exact .inl h
              · exact .inr (.inr h)
          · rintro (h | h | h)
            · exact .inl h
            · cases h; exact .inr (.inl rfl)
            · rcases this.mpr (.inr h) with h | h
              · exact .inl h
              · exact .inr (.inr h)
theorem ok_variables {k : Nat} {f : Addr} {fd : FuncData} (F : FnP K "_law_variables" "_law_variables" s__law_variables f fd) (T : Txt mg) : FnOk P w K mg base CX0 (k + 1) f fd ["_law_atoms_here"] (sp_variables K) := by
  refine mk_ok F sc__law_variables (fun vs H Q E h => ?_) (fun cdv A outer s H vs Q E hr h => ?_)
  · obtain ⟨p, xs, as, rfl, _⟩ := h
    rfl
  · obtain ⟨p, xs, as, rfl, hs, hv, hw, hl, q⟩ := h
    have nd := sc__law_variables.nd
    refine ⟨_, (pss_cons (ps_set (i := 1) nd rfl (by first | exact Or.inl rfl | exact Or.inr rfl) (pe_lst pa_nil)) (pss_cons (ps_for PassesOwn.never rfl (pi_or (k_ilist (K := K) (pv 0)) (k_itup (K := K) (pv 0))) (pg_name (i := 2) nd rfl (by first | exact Or.inl rfl | exact Or.inr rfl)) (pss_one (ps_set (i := 1) nd rfl (by first | exact Or.inl rfl | exact Or.inr rfl) (pe_op op_cat (pv 1) (pe_lc (own := [("_law_term_here", 3)]) rfl nd (k_itup (K := K) (k_ixT (K := K) (pv 2) pe_int)) (blkOk_by (N := N__law_variables) (sc := defScope s__law_variables) (by decide +kernel)) (fun _ _ _ _ _ => (pg_name (i := 3) nd rfl (by first | exact Or.inl rfl | exact Or.inr rfl))) (fun _ _ _ _ _ => (pts_one (PW.pt (pw_and (pt_cmpR (k_eq (K := K) hr.units) (k_ixT (K := K) (pv 3) pe_int) pe_str (nomark _)) (pw_and1 (pt_cmpR (k_notIn (K := K)) (k_ixT (K := K) (pv 3) pe_int) (pv 1) rfl)))))) (fun _ _ _ _ _ => (k_ixT (K := K) (pv 3) pe_int))))))) (pss_one (ps_ret (pe_lc (own := [("_law_name", 4)]) rfl nd (k_ilist (K := K) (pe_lst (pa_cons pe_str (pa_cons pe_str (pa_cons pe_str (pa_cons pe_str (pa_cons pe_str (pa_cons pe_str pa_nil)))))))) (blkOk_by (N := N__law_variables) (sc := defScope s__law_variables) (by decide +kernel)) (fun _ _ _ _ _ => (pg_name (i := 4) nd rfl (by first | exact Or.inl rfl | exact Or.inr rfl))) (fun _ _ _ _ _ => (pts_one (pt_cmpR (k_in (K := K)) (pv 4) (pv 1) rfl))) (fun _ _ _ _ _ => (pv 4))))))), ?_⟩
    have hxl : xs.length = as.length := by rw [hv.len, List.length_map]
    have keep : ∀ H', Ex H H' → SqL K H' p xs ∨ SqT K H' p xs := fun H' e => hs.elim (fun h => .inl (Evl.ex_l e h)) fun h => .inr (Evl.ex_t e h)
    refine q_asg (G := gx K) trivial (el_lst eds_nil) fun v H1 e1 hp => ?_
    obtain ⟨D, rfl, hD0, ds, hD, hds⟩ := hp
    cases hds
    have src : EvI (gx K) (fun σ H R => iList K (tVar 0) σ H R ∨ iTup K (tVar 0) σ H R) [some (.ref p), some (.ref D), none, none, none] H1 (fun J H2 => Ex H1 H2 ∧ Walk J xs.length (fun H3 => Ex H2 H3) (YAt xs)) := fun H2 r2 Q q => by
      rcases keep H2 (e1.trans r2) with h | h
      · exact .inl ⟨.ref p, rfl, p, rfl, ⟨xs, h⟩, q _ H2 (Ex.refl _) ⟨r2, (walk_list (K := K) (a := p) (xs := xs)).mono (fun H3 r3 => Evl.ex_l r3 h) fun _ _ _ _ _ _ y => y⟩⟩
      · exact .inr ⟨.ref p, rfl, p, rfl, ⟨xs, h⟩, q _ H2 (Ex.refl _) ⟨r2, (walk_tup (K := K) (a := p) (xs := xs)).mono (fun H3 r3 => Evl.ex_t r3 h) fun _ _ _ _ _ _ y => y⟩⟩
    refine q_for (G := gx K) trivial src fun J H2 r2 hJ => ?_
    obtain ⟨_, hwalk⟩ := hJ
    have e2 := e1.trans r2
    refine ⟨xs.length, _, _, fun j σ' H' => ∃ F s2 ns, σ' = [some (.ref p), some (.ref F), s2, none, none] ∧ Ex H2 H' ∧ H' F = some (.lst (ns.map V.str)) ∧ (∀ x, x ∈ ns ↔ Tm.var x ∈ tmsOf (as.take j)) ∧ ns.length ≤ 2 * j, hwalk,
      ⟨D, none, [], rfl, Ex.refl _, r2 _ _ hD, by simp [tmsOf], Nat.zero_le _⟩, fun j σ' H' _ hp => ?_, fun j x σ' Ha Hb hj hp y => ?_, fun σ' H' hp => ?_⟩
    · obtain ⟨_, _, _, _, ex, _⟩ := hp
      exact ex
    · obtain ⟨F, s2, ns, rfl, ex, hF, hns, hnl⟩ := hp
      obtain ⟨rfl, hx⟩ := y
      obtain ⟨dd, hdd, nx⟩ := hv.getV hx
      rw [List.getElem?_map] at hdd
      cases hat : as[j]? with
      | none => rw [hat] at hdd; cases hdd
      | some a =>
      rw [hat] at hdd
      cases hdd
      have hwa := hw a (List.mem_of_getElem? hat)
      have nx : NV K Hb x (encA a) := (nx.ex e2).ex ex
      refine nmI ?_
      obtain ⟨ms, hms, hmem, hml⟩ := newN_names ns a.2
      have hal := arN_le a.1
      have elN : EL (gx K) (tLc (iTup K (tOp (rIxT K) (tVar 2) (tC (.int 1)))) (gName 3) (tAnd (tTest (tOp (rEqN K) (tOp (rIxT K) (tVar 3) (tC (.int 0))) (tC (.str "var")))) (tTest (tOp (rIn K true) (tOp (rIxT K) (tVar 3) (tC (.int 1))) (tVar 1)))) (tOp (rIxT K) (tVar 3) (tC (.int 1))) [3]) [some (.ref p), some (.ref F), some x, none, none] Hb (a.2.filterMap (newN ns)) :=
        el_lcA Tm.enc (newN ns) (ed_ix (i := 1) (ed_var (d := encA a) rfl nx) ed_int rfl) (by rw [hwa.len]; omega) fun i t z H3 r3 ht nz => ⟨_, st_name, rfl, by
          have h3 : ED (gx K) (tVar 3) [some (.ref p), some (.ref F), some x, some z, none] H3 t.enc := ed_var rfl nz
          cases t with
          | val c =>
            refine ⟨et_eq (et_and (b := false) (et_isVar h3) fun e => (nomatch e)) rfl, fun r hr => by cases hr⟩
          | var y =>
            refine ⟨et_eq (et_and (et_isVar h3) fun _ => et_test (eb_notIn (x := y) (ns := ns) (ed_cont h3) (ev_var rfl fun _ _ => rfl) fun H4 r4 => SqL.of (r4 _ _ (r3 _ _ hF)))) ?_, fun r hr => ?_⟩
            · show (true && !decide (y ∈ ns)) = (if y ∈ ns then none else some (NestedKey.text y)).isSome
              by_cases hy : y ∈ ns
              · rw [if_pos hy, decide_eq_true hy]; rfl
              · rw [if_neg hy, decide_eq_false hy]; rfl
            · have hr : (if y ∈ ns then none else some (NestedKey.text y)) = some r := hr
              by_cases hy : y ∈ ns
              · rw [if_pos hy] at hr; cases hr
              · rw [if_neg hy] at hr
                cases hr
                exact ed_cont h3⟩
      refine asgI ?_
      refine ⟨.ref F, rfl, ?_⟩
      refine elN Hb (Ex.refl _) _ fun u H3 e3 hp => ?_
      obtain ⟨L, rfl, hL0, zs, hL, hzs⟩ := hp
      rw [hms] at hzs
      rw [nvs_text hzs] at hL
      refine ⟨F, L, ns.map V.str, ms.map V.str, rfl, rfl, e3 _ _ hF, hL, ?_, fun N hN => ?_⟩
      · rw [List.length_map, List.length_map, sizeLine_eq]
        rw [hwa.len] at hml
        omega
      · have e4 : Ex H3 (upd H3 N (.lst (ns.map V.str ++ ms.map V.str))) := Ex.new hN
        refine ⟨N, _, ns ++ ms, rfl, (ex.trans e3).trans e4, by rw [upd_same, List.map_append], fun z => ?_, ?_⟩
        · rw [hmem z, hns z, List.take_add_one, hat, tmsOf, tmsOf, List.flatMap_append, List.mem_append]
          simp
        · rw [List.length_append]
          rw [hwa.len] at hml
          omega
    · obtain ⟨F, s2, ns, rfl, ex, hF, hns, hnl⟩ := hp
      rw [hxl, List.take_length] at hns
      have el6 : EL (gx K) (tLst (tCons (tC (.str "x")) (tCons (tC (.str "y")) (tCons (tC (.str "z")) (tCons (tC (.str "u")) (tCons (tC (.str "xx")) (tCons (tC (.str "yy")) tNil))))))) [some (.ref p), some (.ref F), s2, none, none] H' (names6.map .text) := el_lst (eds_cons ed_str (eds_cons ed_str (eds_cons ed_str (eds_cons ed_str (eds_cons ed_str (eds_cons ed_str eds_nil))))))
      refine s_ret (G := gx K) trivial (el_lcL (ds := names6.map .text) (inN ns) (el6.imp fun v H3 e3 ⟨q, h1, _, ys, h2, h3⟩ => ⟨q, ys, h1, fun H4 e4 => SqL.of (e4 _ _ h2), h3⟩) (by decide) fun i d x H3 e3 hd nx => ⟨_, st_name, rfl, ?_⟩) fun v H3 e3 hp => ?_
      · rw [List.getElem?_map] at hd
        cases hni : names6[i]? with
        | none => rw [hni] at hd; cases hd
        | some y =>
        rw [hni] at hd
        cases hd
        cases nx
        refine ⟨et_eq (et_test (eb_in (x := y) (ns := ns) (ed_var rfl (.str y)) (ev_var rfl fun _ _ => rfl) fun H4 r4 => SqL.of (r4 _ _ (e3 _ _ hF)))) ?_, fun r hr => ?_⟩
        · show decide (y ∈ ns) = (if y ∈ ns then some (NestedKey.text y) else none).isSome
          by_cases hy : y ∈ ns
          · rw [if_pos hy, decide_eq_true hy]; rfl
          · rw [if_neg hy, decide_eq_false hy]; rfl
        · have hr : (if y ∈ ns then some (NestedKey.text y) else none) = some r := hr
          by_cases hy : y ∈ ns
          · rw [if_pos hy] at hr
            cases hr
            exact ed_var rfl (.str y)
          · rw [if_neg hy] at hr; cases hr
      · obtain ⟨L, rfl, hL0, zs, hL, hzs⟩ := hp
        have efm : ∀ l : List Str, (l.map NestedKey.text).filterMap (inN ns) = (l.filter fun x => decide (Tm.var x ∈ tmsOf as)).map .text := by
          intro l
          induction l with
          | nil => rfl
          | cons y l ih =>
            rw [List.map_cons, List.filterMap_cons, List.filter_cons]
            by_cases hy : y ∈ ns
            · rw [if_pos (decide_eq_true ((hns y).mp hy)), List.map_cons, ← ih]
              rw [show inN ns (.text y) = some (.text y) from if_pos hy]
            · rw [if_neg (by rw [decide_eq_true_eq]; exact fun z => hy ((hns y).mpr z)), ← ih]
              rw [show inN ns (.text y) = none from if_neg hy]
        rw [efm] at hzs
        rw [nvs_text hzs] at hL
        exact q L H3 ((e2.trans ex).trans e3) (Evl.fresh_back (e2.trans ex) hL0) hL
theorem ok_put_in {k : Nat} {f : Addr} {fd : FuncData} (F : FnP K "_law_put_in" "_law_put_in" s__law_put_in f fd) (T : Txt mg) : FnOk P w K mg base CX0 (k + 1) f fd ["_law_terms", "_law_table"] (sp_put_in K) := by
  refine mk_ok F sc__law_put_in (fun vs H Q E h => ?_) (fun cdv A outer s H vs Q E hr h => ?_)
  · obtain ⟨v, a, ts, τ, rfl, _⟩ := h
    rfl
  · obtain ⟨v, a, ts, τ, rfl, hv, hm, hl, hb, q⟩ := h
    have nd := sc__law_put_in.nd
    refine ⟨_, (pss_one (ps_ret (k_tuple (K := K) T (pe_lc (own := [("_law_term_here", 2)]) rfl nd (k_itup (K := K) (pv 0)) (blkOk_by (N := N__law_put_in) (sc := defScope s__law_put_in) (by decide +kernel)) (fun _ _ _ _ _ => (pg_name (i := 2) nd rfl (by first | exact Or.inl rfl | exact Or.inr rfl))) (fun _ _ _ _ _ => pts_nil) (fun _ _ _ _ _ => (pe_ifExp (pt_cmpR (k_eq (K := K) hr.units) (k_ixT (K := K) (pv 2) pe_int) pe_str (nomark _)) (pe_tupF (pa_cons pe_str (pa_cons (pe_dget (hu_of hr) (pv 1) (k_ixT (K := K) (pv 2) pe_int) (fun _ _ => rfl)) pa_nil))) (pv 2))))))), ?_⟩
    refine s_ret (G := gx K) trivial (ed_tupleL (el_lcB Tm.enc (fun t => (putN τ t).enc) (ed_var rfl hv) (by omega) fun i t x H1 r ht hx => ⟨_, st_name, rfl, ?_⟩)) fun v' H1 r p => q v' H1 r (by rw [List.map_map]; exact p)
    have h2 : ED (gx K) (tVar 2) [some v, some (.ref a), some x] H1 t.enc := ed_var rfl hx
    refine ev_if (b := t.isVar) (et_isVar h2) (fun hb' => ?_) fun hb' => ?_
    · cases t with
      | val c => cases hb'
      | var y =>
        obtain ⟨z, hz⟩ := Option.isSome_iff_exists.mp (hb y (List.mem_of_getElem? ht))
        have e : (putN τ (.var y)).enc = .tup [.text "var", .text z] := by rw [putN, hz]; rfl
        rw [e]
        exact ed_tup (eds_cons ed_str (eds_cons (ed_dget (m := nmK τ) (k := .inr y) (ea_var rfl) (fun H2 r2 => (hm.mono (Tx.ex r) (r a)).mono (Tx.ex r2) (r2 a)) (ed_cont h2) (by rw [nmK_get, hz]; rfl)) eds_nil))
    · cases t with
      | var y => cases hb'
      | val c => exact h2
end
end Ew
set_option Elab.async false
set_option linter.all false
set_option maxRecDepth 100000
set_option maxHeartbeats 4000000
namespace Ew
open PySem PySem.Spec PyProof.Rows L2
open Evl (Ex)
theorem cut1 {xs : List V} (h : 1 ≤ xs.length) : cutV xs (some 1) none = xs.drop 1 := by
  have h1 : HT.sIx xs.length 0 (some 1) = 1 := by
    have h := HT.sIx_nat xs.length 0 1
    rw [show ((1 : Nat) : Int) = 1 from rfl] at h
    rw [h]
    omega
  unfold cutV
  rw [h1, HT.sIx_none]
  exact List.take_of_length_le (by rw [List.length_drop]; omega)
theorem cut1_ne {xs : List V} (h : 1 ≤ xs.length) : ¬ (HT.sIx xs.length 0 (some 1) = 0 ∧ HT.sIx xs.length xs.length none = xs.length) := fun ⟨h1, _⟩ => by
  have h := HT.sIx_nat xs.length 0 1
  rw [show ((1 : Nat) : Int) = 1 from rfl, h1] at h
  omega
def xyA : Atom := ("e", [.var "x", .var "y"])
theorem xyA_wf : WfA xyA := ⟨.inl rfl, rfl, fun t ht => by
  simp only [xyA, List.mem_cons, List.mem_nil_iff, or_false] at ht
  rcases ht with rfl | rfl <;> simp [WfT, names4]⟩
section
variable {P : Program} {w : World} {K : PySem.W.Frag} {mg : Str → Option Value} {base : Heap}
theorem ok_rule {k : Nat} {f : Addr} {fd : FuncData} (F : FnP K "_law_rule" "_law_rule" s__law_rule f fd) (T : Txt mg) (c__law_next : Callee P w K mg base "_law_next" k ["_law_pot_here", "_law_limit"] (sp_next K)) (c__law_atoms : Callee P w K mg base "_law_atoms" k ["_law_pot_here", "_law_many"] (sp_atoms K))
    (c__law_variables : Callee P w K mg base "_law_variables" k ["_law_atoms_here"] (sp_variables K)) : FnOk P w K mg base CX0 (k + 1) f fd ["_law_pot_here", "_law_many", "_law_width"] (sp_rule K) := by
  refine mk_ok F sc__law_rule (fun vs H Q E h => ?_) (fun cdv A outer s H vs Q E hr h => ?_)
  · obtain ⟨pot, l, many, width, rfl, _⟩ := h
    rfl
  · obtain ⟨pot, l, many, width, rfl, hp, hm1, hm4, hw0, hw2, q⟩ := h
    have nd := sc__law_rule.nd
    refine ⟨_, (pss_cons (ps_set (i := 3) nd rfl (by first | exact Or.inl rfl | exact Or.inr rfl) (pe_cal c__law_atoms hr (pa_cons (pv 0) (pa_cons (pv 1) pa_nil)))) (pss_cons (ps_set (i := 4) nd rfl (by first | exact Or.inl rfl | exact Or.inr rfl) (pe_cal c__law_variables hr (pa_cons (pv 3) pa_nil))) (pss_cons (ps_if (pt_cmpR (k_eq (K := K) hr.units) (k_cb T.f_len (k_len (K := K)) (pa_cons (pv 4) pa_nil)) pe_int (nomark _)) (pss_cons (ps_set (i := 3) nd rfl (by first | exact Or.inl rfl | exact Or.inr rfl) (pe_op (k_catT (K := K)) (k_slT (K := K) (pv 3) (po_some pe_int) po_none) (pe_tupF (pa_cons (pe_tupF (pa_cons pe_str (pa_cons (pe_tupF (pa_cons (pe_tupF (pa_cons pe_str (pa_cons pe_str pa_nil))) (pa_cons (pe_tupF (pa_cons pe_str (pa_cons pe_str pa_nil))) pa_nil))) pa_nil))) pa_nil)))) (pss_one (ps_set (i := 4) nd rfl (by first | exact Or.inl rfl | exact Or.inr rfl) (pe_lst (pa_cons pe_str (pa_cons pe_str pa_nil)))))) pss_nil) (pss_one (ps_ret (pe_tupF (pa_cons (k_tuple (K := K) T (pe_lc (own := [("_law_k", 5)]) rfl nd (k_range T (pa_cons (pv 2) pa_nil)) (blkOk_by (N := N__law_rule) (sc := defScope s__law_rule) (by decide +kernel)) (fun _ _ _ _ _ => (pg_name (i := 5) nd rfl (by first | exact Or.inl rfl | exact Or.inr rfl))) (fun _ _ _ _ _ => pts_nil) (fun _ _ _ _ _ => (k_ixL (K := K) (pv 4) (pe_cal c__law_next hr (pa_cons (pv 0) (pa_cons (k_cb T.f_len (k_len (K := K)) (pa_cons (pv 4) pa_nil)) pa_nil))))))) (pa_cons (pv 3) pa_nil)))))))), ?_⟩
    let G := gp K pot l
    refine q_asg (G := gp K pot l) (P := fun v H1 => ∃ as : List Atom, (∀ a ∈ as, WfA a) ∧ 1 ≤ as.length ∧ (as.length : Int) ≤ many ∧ NV K H1 v (.tup (as.map encA))) hp (fun H1 e1 Q q => call2 rfl rfl ⟨pot, l, many, rfl, e1.2.1, hm1, hm4, fun as v H' h1 h2 h3 hR nv => q v H' hR ⟨as, h1, h2, h3, nv⟩⟩) fun v H1 e1 ⟨as, haw, ha1, ham, nv⟩ => ?_
    have nv0 := nv
    cases nv with
    | @tup ap xs _ a1 a2 =>
    refine q_asg (G := gp K pot l) (P := fun v H2 => ∃ q, v = .ref q ∧ H1 q = none ∧ H2 q = some (.lst ((lawVars as).map V.str))) e1.2.1 (fun H2 e2 Q q => call1 rfl ⟨ap, xs, as, rfl, .inr (((gp K pot l).tx e2).1 _ _ a1.sq), a2.t ((gp K pot l).tx e2), haw, by omega, fun n H' e hn hl => q _ H' ((gp K pot l).exr e2.2.1 e) ⟨n, rfl, (gp K pot l).back e2 hn, hl⟩⟩) fun v H2 e2 ⟨np, hv, hnp, hnl⟩ => ?_
    subst hv
    have e12 := (gp K pot l).tr e1 e2
    have hnp0 : H np = none := (gp K pot l).back e1 hnp
    have t0 : EvT (gp K pot l) (tTest (tOp (rEqN K) (tCB (rLenS K) (tCons (tVar 4) tNil)) (tC (.int 0)))) [some (.ref pot), some (.int many), some (.int width), some (.ref ap), some (.ref np), none] H2 (decide (NestedKey.num ((lawVars as).length : Nat) = .num 0)) :=
      et_test (eb_eqN (fun H3 e3 Q q => ⟨.ref np, rfl, np, (lawVars as).map V.str, rfl, .inl (SqL.of ((gp K pot l).loc e12 hnp0 e3 hnl)), q _ H3 ((gp K pot l).rf e3.2.1) (by rw [List.length_map]; exact .int _)⟩) ed_int)
    refine q_when2 (G := gp K pot l) (fun σ' H' => ∃ (ns : List Str) (as : List Atom) (v : V) (q : Addr), σ' = [some (.ref pot), some (.int many), some (.int width), some v, some (.ref q), none] ∧ (gp K pot l).R H H' ∧ NV K H' v (.tup (as.map encA)) ∧ (∀ a ∈ as, WfA a) ∧ 1 ≤ as.length ∧ (as.length : Int) ≤ many ∧ H q = none ∧ H' q = some (.lst (ns.map V.str)) ∧ ns ≠ [] ∧ (∀ x ∈ ns, Tm.var x ∈ tmsOf as) ∧ ns.length ≤ 6)
      e12.2.1 t0 (fun σ' H' hs => ?_) (fun hb H3 e3 nx hnx => ?_) fun hb H3 e3 => ?_
    · obtain ⟨ns, as, v, np, rfl, hR, nv, haw, ha1, ham, hnp, hnl, hne, hns, hn6⟩ := hs
      have hnl1 : 1 ≤ ns.length := by
        cases ns with
        | nil => exact absurd rfl hne
        | cons x ns => simp
      have lc : EvP (gp K pot l) (tLc (iRng1 (tCons (tVar 2) tNil)) (gName 5) tYes (tOp (rIxL K) (tVar 4) (tCall (sp_next K) [] E0 (tCons (tVar 0) (tCons (tCB (rLenS K) (tCons (tVar 4) tNil)) tNil)))) [5]) [some (.ref pot), some (.int many), some (.int width), some v, some (.ref np), none] H'
          (fun v H3 => ∃ p xs, v = .ref p ∧ H' p = none ∧ H3 p = some (.lst xs) ∧ ∃ ts, (∃ us : List Str, us.length = width.toNat ∧ (∀ u ∈ us, Tm.var u ∈ tmsOf as) ∧ ts = us.map NestedKey.text) ∧ NVs K H3 xs ts) := by
        refine ev_lc (G := gp K pot l) (n := width.toNat) (fun i acc H' => ∃ ts, (∃ us : List Str, us.length = i ∧ (∀ u ∈ us, Tm.var u ∈ tmsOf as) ∧ ts = us.map NestedKey.text) ∧ NVs K H' acc ts) (ei_range (n := width) (fun H3 e3 Q q => ⟨.int width, rfl, q _ H3 ((gp K pot l).rf e3.2.1) rfl⟩) ⟨by omega, by omega⟩) (by omega) (fun _ => ⟨[], ⟨[], rfl, fun u hu => (nomatch hu), rfl⟩, .nil⟩) (fun i acc Ha Hb e ⟨ts, h1, h2⟩ => ⟨ts, h1, h2.t e⟩)
          (fun i acc Ha ⟨ts, ⟨us, h1, _, h3⟩, h2⟩ => by rw [h2.len, h3, List.length_map, h1]; exact Nat.le_refl _) fun J H3 e3 hs => ?_
        subst hs
        refine ⟨_, (walk_range (lo := 0) (n := width.toNat)).mono (fun _ _ => trivial) (fun i H4 x H5 _ _ y => y), fun i H4 x' H5 hi e4 y => ?_⟩
        obtain ⟨rfl, _⟩ := y
        refine ⟨(gp K pot l).rf e4.2.1, _, true, st_name, rfl, et_yes, fun _ => ⟨fun v H6 => ∃ x, Tm.var x ∈ tmsOf as ∧ v = .str x, fun H6 e6 Q q => ?_, fun v H6 acc e6 ⟨t, ht, nt⟩ ⟨ts, ⟨us, h1, h2, h3⟩, h4⟩ => ?_⟩, fun e => by cases e⟩
        · have e36 := (gp K pot l).tr ((gp K pot l).tr e3 e4) e6
          have hnl6 := (gp K pot l).loc hR hnp e36 hnl
          refine ⟨.ref np, rfl, .ref pot, rfl, .ref np, rfl, np, ns.map V.str, rfl, .inl (SqL.of hnl6), pot, l, ((ns.map V.str).length : Nat), rfl, e6.2.1, by rw [List.length_map]; omega, by rw [List.length_map]; omega, fun r H7 hr e7 => ?_⟩
          rw [List.length_map] at hr
          have hr : r < ns.length := by omega
          have hnl7 := (gp K pot l).loc hR hnp ((gp K pot l).tr e36 e7) hnl
          refine ⟨np, ns.map V.str, r, .str ns[r], rfl, rfl, SqL.of hnl7, atI_nat (by rw [List.getElem?_map, List.getElem?_eq_getElem hr]; rfl), q _ H7 e7 ⟨_, hns _ (List.getElem_mem hr), rfl⟩⟩
        · subst nt
          refine ⟨ts ++ [.text t], ⟨us ++ [t], by rw [List.length_append, h1]; rfl, fun u hu => ?_, by rw [h3, List.map_append]; rfl⟩, h4.snoc (.str t)⟩
          rcases List.mem_append.mp hu with hu | hu
          · exact h2 u hu
          · rw [List.mem_singleton.mp hu]
            exact ht
      refine s_ret (G := gp K pot l) (P := fun v H3 => ∃ r : Rule, WfR r ∧ (r.1.length : Int) = width ∧ (r.2.length : Int) ≤ many ∧ NV K H3 v (encR r)) hR.2.1 (fun H3 e3 Q q => ?_) fun u H3 e3 ⟨r, h1, h2, h3, h4⟩ => q r u H3 h1 h2 h3 ((gp K pot l).tr hR e3) h4
      have lt := ev_tupN lc
      refine lt H3 e3 _ fun hd H4 e4 ⟨ts, ⟨us, hu1, hu2, hu3⟩, nh⟩ => ?_
      refine ⟨v, rfl, (by rw [sizeLine_eq]; exact Nat.le_of_ble_eq_true rfl), fun tp ob htp hob => ?_⟩
      have e5 := (gp K pot l).new (o := .frz ob (.tup [hd, v])) e4.2.1 htp
      have e35 := (gp K pot l).tr e4 e5
      subst hu3
      refine q _ _ e35 ⟨(us, as), ⟨by show us.length ≤ 2; omega, ha1, by show as.length ≤ 5; omega, haw, hu2⟩, by show (us.length : Int) = width; omega, ham, .tup ⟨ob, upd_same, hob⟩ (.cons (nh.t ((gp K pot l).tx e5)) (.cons (nv.t ((gp K pot l).tx ((gp K pot l).tr e3 e35))) .nil))⟩
    · -- no names at all
      have e13 := (gp K pot l).tr e12 e3
      have a1' : SqT K H3 ap xs := ((gp K pot l).tx ((gp K pot l).tr e2 e3)).1 _ _ a1.sq
      have a2' := a2.t ((gp K pot l).tx ((gp K pot l).tr e2 e3))
      have hxl : xs.length = as.length := by rw [a2.len, List.length_map]
      have edX : ED (gp K pot l) (tTupF (tCons (tTupF (tCons (tC (.str "e")) (tCons (tTupF (tCons (tTupF (tCons (tC (.str "var")) (tCons (tC (.str "x")) tNil))) (tCons (tTupF (tCons (tC (.str "var")) (tCons (tC (.str "y")) tNil))) tNil))) tNil))) tNil)) [some (.ref pot), some (.int many), some (.int width), some (.ref ap), some (.ref np), none] H3 (.tup [encA xyA]) :=
        ed_tup (eds_cons (ed_tup (eds_cons ed_str (eds_cons (ed_tup (eds_cons (ed_tup (eds_cons ed_str (eds_cons ed_str eds_nil))) (eds_cons (ed_tup (eds_cons ed_str (eds_cons ed_str eds_nil))) eds_nil))) eds_nil))) eds_nil)
      refine q_asg (G := gp K pot l) (P := fun v H4 => NV K H4 v (.tup ((as.drop 1 ++ [xyA]).map encA))) e13.2.1 (fun H4 e4 Q q => ?_) fun v H4 e4 nv4 => ?_
      · refine ⟨.ref ap, rfl, 1, rfl, ap, xs, rfl, ((gp K pot l).tx e4).1 _ _ a1', cut1_ne (by omega), fun sp ob hsp hob => ?_⟩
        rw [cut1 (by omega)]
        have e5 := (gp K pot l).new (o := .frz ob (.tup (xs.drop 1))) e4.2.1 hsp
        refine edX _ ((gp K pot l).tr e4 e5) _ fun u H6 e6 nu => ?_
        cases nu with
        | @tup ub us _ u1 u2 =>
        have hsq : SqT K H6 sp (xs.drop 1) := ((gp K pot l).tx e6).1 _ _ (.inl (.inr ⟨ob, upd_same⟩))
        have hdl : (xs.drop 1).length = (as.drop 1).length := by rw [List.length_drop, List.length_drop, hxl]
        refine ⟨sp, ub, xs.drop 1, us, rfl, rfl, hsq, u1.sq, ?_, fun hz => ?_, fun _ hz => ?_, fun _ _ tp ob2 htp hob2 => ?_⟩
        · have := u2.len
          rw [List.length_drop, this, sizeLine_eq]
          simp
          omega
        · refine q _ _ ((gp K pot l).tr e5 e6) ?_
          have hd0 : as.drop 1 = [] := by
            rw [hz] at hdl
            exact List.eq_nil_of_length_eq_zero hdl.symm
          rw [hd0]
          exact .tup u1 u2
        · have := u2.len
          rw [hz] at this
          cases this
        · have e7 := (gp K pot l).new (o := .frz ob2 (.tup (xs.drop 1 ++ us))) e6.2.1 htp
          refine q _ _ ((gp K pot l).tr ((gp K pot l).tr e5 e6) e7) (.tup ⟨ob2, upd_same, hob2⟩ ?_)
          rw [List.map_append, List.map_drop]
          refine NVs.app (u2.t ((gp K pot l).tx e7)) ?_
          have hall : ∀ (n : Nat) {vs : List V} {ds : List Nk}, NVs K (upd H6 tp (.frz ob2 (.tup (xs.drop 1 ++ us)))) vs ds → NVs K (upd H6 tp (.frz ob2 (.tup (xs.drop 1 ++ us)))) (vs.drop n) (ds.drop n) := by
            intro n
            induction n with
            | zero => intro vs ds h; exact h
            | succ n ih =>
              intro vs ds h
              cases h with
              | nil => exact .nil
              | cons h1 h2 => exact ih h2
          exact hall 1 (a2'.t ((gp K pot l).tx ((gp K pot l).tr ((gp K pot l).tr e4 e5) ((gp K pot l).tr e6 e7))))
      · have e14 := (gp K pot l).tr e13 e4
        refine s_asg (G := gp K pot l) (P := fun v H5 => ∃ q, v = .ref q ∧ H4 q = none ∧ H5 q = some (.lst ((["x", "y"] : List Str).map V.str))) e14.2.1 (fun H5 e5 Q q => ?_) fun u H5 e5 ⟨nq, hu, hnq, hql⟩ => ?_
        · refine ⟨(by rw [sizeLine_eq]; exact Nat.le_of_ble_eq_true rfl), fun L hL => q _ _ ((gp K pot l).new e5.2.1 hL) ⟨L, rfl, (gp K pot l).back e5 hL, upd_same⟩⟩
        · subst hu
          refine hnx _ _ ⟨["x", "y"], as.drop 1 ++ [xyA], v, nq, rfl, (gp K pot l).tr e14 e5, nv4.t ((gp K pot l).tx e5), fun a ha => ?_, by simp, ?_, (gp K pot l).back e14 hnq, hql, by simp, fun x hx => ?_, by simp⟩
          · rcases List.mem_append.mp ha with ha | ha
            · exact haw a (List.mem_of_mem_drop ha)
            · rw [List.mem_singleton.mp ha]
              exact xyA_wf
          · rw [List.length_append, List.length_drop, List.length_singleton]
            omega
          · rw [tmsOf, List.flatMap_append, List.mem_append]
            refine .inr ?_
            simp only [List.mem_cons, List.mem_nil_iff, or_false] at hx
            rcases hx with rfl | rfl <;> simp [xyA]
    · have e13 := (gp K pot l).tr e12 e3
      refine ⟨lawVars as, as, .ref ap, np, rfl, e13, nv0.t ((gp K pot l).tx ((gp K pot l).tr e2 e3)), haw, ha1, ham, hnp0, (gp K pot l).loc e12 hnp0 e3 hnl, fun z => ?_, fun x hx => ?_, ?_⟩
      · rw [z] at hb
        simp at hb
      · have := (List.mem_filter.mp hx).2
        simpa using this
      · exact Nat.le_trans (List.length_filter_le _ _) (by decide)
end
end Ew
set_option Elab.async false
set_option linter.all false
set_option maxRecDepth 100000
set_option maxHeartbeats 4000000
namespace Ew
open PySem PySem.Spec PyProof.Rows L2
open Evl (Ex)
theorem seq_nat {r n : Nat} (h : r < n) : seqIndex? (r : Int) n = some r := by
  unfold seqIndex?
  have h1 : ¬ (r : Int) < 0 := by omega
  simp only [if_neg h1]
  rw [if_pos (by simp; omega)]
  simp
theorem map_erase {α β : Type} (f : α → β) : ∀ (l : List α) (i : Nat), (l.map f).eraseIdx i = (l.eraseIdx i).map f
  | [], _ => by simp
  | _ :: _, 0 => rfl
  | a :: l, i + 1 => by
    rw [List.map_cons, List.eraseIdx_cons_succ, List.eraseIdx_cons_succ, List.map_cons, map_erase f l i]
theorem el_lcLB {K : PySem.W.Frag} {G : Gw K} {σ : L2.St} {H : Hp} {g : TG} {te tl : TE} {vs : List Nat} {α : Type} {xs : List α} (e f : α → Nk) (h : EvP G tl σ H (fun v H2 => ∃ p ys, v = .ref p ∧ (∀ H3, G.R H2 H3 → SqL K H3 p ys) ∧ NVs K H2 ys (xs.map e))) (hn : xs.length ≤ 50000)
    (ht : ∀ (i : Nat) (c : α) (x : V) H1, G.R H H1 → xs[i]? = some c → NV K H1 x (e c) → ∃ σ2, StT G g x (wipe σ vs) H1 σ2 ∧ wipe σ2 vs = wipe σ vs ∧ ED G te σ2 H1 (f c)) : EL G (tLc (iList K tl) g tYes te vs) σ H (xs.map f) := by
  have hr : xs.map f = (List.range xs.length).filterMap fun i => (xs[i]?).bind fun c => some (f c) := by rw [range_fm, ← fm_some]
  rw [hr]
  refine el_lc (src := fun J H2 => ∃ a ys, J = Itl K a ∧ (∀ H3, G.R H2 H3 → SqL K H3 a ys) ∧ NVs K H2 ys (xs.map e)) (fun i => (xs[i]?).bind fun c => some (f c)) (fun H1 a Q q => h H1 a _ fun v H2 b p => ?_) hn fun J H1 a hs => ?_
  · obtain ⟨l, ys, rfl, h1, h2⟩ := p
    exact ⟨_, rfl, ⟨_, h1 H2 (G.rf (G.ok2 b))⟩, q _ H2 b ⟨_, _, rfl, h1, h2⟩⟩
  · obtain ⟨p, ys, rfl, h1, h2⟩ := hs
    have hl : ys.length = xs.length := by rw [h2.len, List.length_map]
    refine ⟨YAt ys, ?_, fun i H2 x H3 hin r2 y => ?_⟩
    · have w := walk_list (K := K) (a := p) (xs := ys)
      rw [hl] at w
      exact w.mono (fun H2 r => h1 H2 r) fun i H2 x H3 _ _ y => y
    · obtain ⟨rfl, hx⟩ := y
      obtain ⟨d, hd, nx⟩ := h2.getV hx
      rw [List.getElem?_map] at hd
      cases hc : xs[i]? with
      | none => rw [hc] at hd; cases hd
      | some c =>
      rw [hc] at hd
      cases hd
      obtain ⟨σ2, q1, q2, q3⟩ := ht i c x H3 (G.tr a r2) hc (nx.t (G.tx r2))
      exact ⟨G.rf (G.ok2 r2), σ2, q1, q2, et_yes, fun d e => by cases e; exact q3⟩
theorem cut_to {xs : List V} {k : Nat} : cutV xs none (some (k : Int)) = xs.take k := by
  unfold cutV
  rw [HT.sIx_none, HT.sIx_nat, List.drop_zero, Nat.sub_zero]
  by_cases h : k ≤ xs.length
  · rw [Nat.min_eq_left h]
  · rw [Nat.min_eq_right (by omega), List.take_of_length_le (Nat.le_refl _), List.take_of_length_le (by omega)]
def tabV (τ : List (Str × Str)) : List (Key × V) := τ.map fun p => ((Sum.inr p.1 : Key), V.str p.2)
theorem tab_dka {K : PySem.W.Frag} {H : Hp} {a : Addr} {τ : List (Str × Str)} (h : H a = some (.dK (tabV τ))) : DKA K H a (nmK τ) := by
  refine ⟨_, h, ?_⟩
  clear h
  induction τ with
  | nil => exact .nil
  | cons p τ ih => exact .cons ⟨rfl, .str _⟩ ih
theorem tabV_put {τ : List (Str × Str)} {x y : Str} (h : x ∉ τ.map (·.1)) : putK (tabV τ) (Sum.inr x) (.str y) = tabV (τ ++ [(x, y)]) := by
  rw [putK_eq, aPut_new (aGet_none fun hm => h ?_), tabV, tabV, List.map_append]
  · rfl
  · rw [tabV, List.map_map] at hm
    obtain ⟨p, hp, e⟩ := List.mem_map.mp hm
    exact List.mem_map.mpr ⟨p, hp, Sum.inr.inj e⟩
theorem nvs_erase {K : PySem.W.Frag} {H : Hp} : ∀ {vs : List V} {ds : List Nk} (i : Nat), NVs K H vs ds → NVs K H (vs.eraseIdx i) (ds.eraseIdx i)
  | _, _, _, .nil => by simp; exact .nil
  | _, _, 0, .cons h t => t
  | _, _, i + 1, .cons h t => .cons h (nvs_erase i t)
theorem nvs_take {K : PySem.W.Frag} {H : Hp} : ∀ {vs : List V} {ds : List Nk} (i : Nat), NVs K H vs ds → NVs K H (vs.take i) (ds.take i)
  | _, _, i, .nil => by simp; exact .nil
  | _, _, 0, .cons h t => .nil
  | _, _, i + 1, .cons h t => .cons h (nvs_take i t)
theorem nvs_drop {K : PySem.W.Frag} {H : Hp} : ∀ {vs : List V} {ds : List Nk} (i : Nat), NVs K H vs ds → NVs K H (vs.drop i) (ds.drop i)
  | _, _, i, .nil => by simp; exact .nil
  | _, _, 0, .cons h t => .cons h t
  | _, _, i + 1, .cons h t => nvs_drop i t
theorem nvs_strs {K : PySem.W.Frag} {H : Hp} : ∀ (ns : List Str), NVs K H (ns.map V.str) (ns.map .text)
  | [] => .nil
  | n :: ns => .cons (.str n) (nvs_strs ns)
theorem call_ev {sp : Sp} {E : XK} {σ : L2.St} {H : Hp} {Q : VK} {te : TE} {j : Nat} (h : te σ H fun v H1 => ∃ u, σ[j]? = some (some u) ∧ sp [v, u] H1 Q E) : tCall sp [] E (tCons te (tCons (tVar j) tNil)) σ H Q := h
def putAN (τ : List (Str × Str)) (a : Atom) : Atom := (a.1, a.2.map (putN τ))
theorem putAN_wf {τ : List (Str × Str)} {a : Atom} (ha : WfA a) (h : ∀ p ∈ τ, p.2 ∈ names4) : WfA (putAN τ a) := by
  refine ⟨ha.tab, by rw [putAN, List.length_map]; exact ha.len, fun t ht => ?_⟩
  obtain ⟨u, hu, rfl⟩ := List.mem_map.mp ht
  have hw := ha.tms u hu
  cases u with
  | val c => exact hw
  | var x =>
    show (aGet τ x).getD x ∈ names4
    cases e : aGet τ x with
    | none => exact hw
    | some y => exact h _ (aGet_mem e)
section
variable {K : PySem.W.Frag} {pot l : Addr} {H H' : Hp}
theorem gp_keep {a : Addr} {kvs : List (Key × V)} (e : (gp K pot l).R H H') (h : H a = some (.dK kvs)) : H' a = some (.dK kvs) := by
  obtain ⟨_, _, i, b, c, hp, _⟩ := e.1
  exact e.2.2 a _ (fun z => by rw [z, hp] at h; cases h) h
/-- the atoms with their names put in -/
theorem el_putA {σ : L2.St} {d : Nat} {a : Addr} {as : List Atom} {τ : List (Str × Str)} (te : TE) (hte : te = tTupF (tCons (tOp (rIxT K) (tVar 9) (tC (.int 0))) (tCons (tCall (sp_put_in K) [] E0 (tCons (tOp (rIxT K) (tVar 9) (tC (.int 1))) (tCons (tVar d) tNil))) tNil)))
    (ha : ∀ b ∈ as, WfA b) (hb : ∀ x ∈ names4, (aGet τ x).isSome = true) (hd : ∀ (x : V), ((wipe σ [9]).set 9 (some x))[d]? = some (some (.ref a))) (h9 : ∀ x : V, ((wipe σ [9]).set 9 (some x))[9]? = some (some x)) (hm : ∀ H2, (gp K pot l).R H H2 → H2 a = some (.dK (tabV τ)))
    (b : Atom) (hbm : b ∈ as) (x : V) (H1 : Hp) (e1 : (gp K pot l).R H H1) (nx : NV K H1 x (encA b)) : ED (gp K pot l) te ((wipe σ [9]).set 9 (some x)) H1 (encA (putAN τ b)) := by
  subst hte
  have hwb := ha b hbm
  have h9' : ED (gp K pot l) (tVar 9) ((wipe σ [9]).set 9 (some x)) H1 (encA b) := ed_var (h9 x) nx
  refine ed_tup (eds_cons (ed_ix (i := 0) h9' ed_int rfl) (eds_cons (fun H5 e5 Q q => call_ev ?_) eds_nil))
  have h91 : ED (gp K pot l) (tOp (rIxT K) (tVar 9) (tC (.int 1))) ((wipe σ [9]).set 9 (some x)) H1 (.tup (b.2.map Tm.enc)) := ed_ix (i := 1) h9' ed_int rfl
  refine h91 H5 e5 _ fun u H6 e6 nu => ⟨.ref a, hd x, u, a, b.2, τ, rfl, nu, tab_dka (hm H6 ((gp K pot l).tr e1 ((gp K pot l).tr e5 e6))), by have := hwb.len; have := arN_le b.1; omega, fun y hy => hb y ?_, fun v' H7 e7 nv => q v' H7 ((gp K pot l).tr e6 ((gp K pot l).exr e6.2.1 e7)) nv⟩
  exact hwb.tms _ hy
end
abbrev N__law_second : List Str := ["_law_pot_here", "_law_first", "_law_head", "_law_atoms_here", "_law_names", "_law_left", "_law_table", "_law_name", "_law_new", "_law_atom", "_law_moved", "_law_k", "_law_kind", "_law_other", "_law_heads"]
theorem sc__law_second : FnScope N__law_second ["_law_pot_here", "_law_first"] (defScope s__law_second) := ⟨rfl, rfl, rfl, by decide +kernel, rfl, by decide +kernel, by decide +kernel⟩
def sp_second (K : PySem.W.Frag) : Sp := fun vs H Q _ => ∃ (pot l : Addr) (fv : V) (r : Rule), vs = [.ref pot, fv] ∧ PotAt K pot l H ∧ NV K H fv (encR r) ∧ WfR r ∧ r.2.length ≤ 4 ∧ ∀ (r' : Rule) v H', WfR r' → r'.1.length = r.1.length → (gp K pot l).R H H' → NV K H' v (encR r') → Q v H'
section
variable {P : Program} {w : World} {K : PySem.W.Frag} {mg : Str → Option Value} {base : Heap}
theorem ok_second {k : Nat} {f : Addr} {fd : FuncData} (F : FnP K "_law_second" "_law_second" s__law_second f fd) (T : Txt mg) (c__law_next : Callee P w K mg base "_law_next" k ["_law_pot_here", "_law_limit"] (sp_next K)) (c__law_put_in : Callee P w K mg base "_law_put_in" k ["_law_terms", "_law_table"] (sp_put_in K))
    (c__law_variables : Callee P w K mg base "_law_variables" k ["_law_atoms_here"] (sp_variables K)) (c__law_rule : Callee P w K mg base "_law_rule" k ["_law_pot_here", "_law_many", "_law_width"] (sp_rule K)) : FnOk P w K mg base CX0 (k + 1) f fd ["_law_pot_here", "_law_first"] (sp_second K) := by
  refine mk_ok F sc__law_second (fun vs H Q E h => ?_) (fun cdv A outer s H vs Q E hr h => ?_)
  · obtain ⟨pot, l, fv, r, rfl, _⟩ := h
    rfl
  · obtain ⟨pot, l, fv, r, rfl, hp, hfv, hwr, hr4, q⟩ := h
    have nd := sc__law_second.nd
    refine ⟨_, (pss_cons (ps_asg (pv 1) (k_pgt (K := K) (n := 2) (pgs_cons (pg_name (i := 2) nd rfl (by first | exact Or.inl rfl | exact Or.inr rfl)) (pgs_cons (pg_name (i := 3) nd rfl (by first | exact Or.inl rfl | exact Or.inr rfl)) pgs_nil)))) (pss_cons (ps_set (i := 4) nd rfl (by first | exact Or.inl rfl | exact Or.inr rfl) (pe_lst (pa_cons pe_str (pa_cons pe_str (pa_cons pe_str (pa_cons pe_str pa_nil)))))) (pss_cons (ps_set (i := 5) nd rfl (by first | exact Or.inl rfl | exact Or.inr rfl) (k_cty T.f_list (k_listS (K := K)) (pa_cons (pv 4) pa_nil))) (pss_cons (ps_set (i := 6) nd rfl (by first | exact Or.inl rfl | exact Or.inr rfl) pe_dnewK) (pss_cons (ps_for PassesOwn.never rfl (k_ilist (K := K) (pv 4)) (pg_name (i := 7) nd rfl (by first | exact Or.inl rfl | exact Or.inr rfl)) (pss_one (ps_dput (hu_of hr) (pv 6) (pv 7) (k_popAt (K := K) (pv 5) (pa_cons (pe_cal c__law_next hr (pa_cons (pv 0) (pa_cons (k_cb T.f_len (k_len (K := K)) (pa_cons (pv 5) pa_nil)) pa_nil))) pa_nil)) rfl))) (pss_cons (ps_setLc (i := 8) (own := [("_law_atom", 9)]) rfl nd rfl rfl (sw_true rfl rfl rfl (by decide +kernel)) (k_itup (K := K) (pv 3)) (blkOk_by (N := N__law_second) (sc := defScope s__law_second) (by decide +kernel)) (fun _ _ _ _ _ => (pg_name (i := 9) nd rfl (by first | exact Or.inl rfl | exact Or.inr rfl))) (fun _ _ _ _ _ => pts_nil) (fun _ _ _ _ _ => (pe_tupF (pa_cons (k_ixT (K := K) (pv 9) pe_int) (pa_cons (pe_cal c__law_put_in hr (pa_cons (k_ixT (K := K) (pv 9) pe_int) (pa_cons (pv 6) pa_nil))) pa_nil))))) (pss_cons (ps_set (i := 10) nd rfl (by first | exact Or.inl rfl | exact Or.inr rfl) (pe_lst pa_nil)) (pss_cons (ps_for PassesOwn.never rfl (k_range T (pa_cons (k_cb T.f_len (k_len (K := K)) (pa_cons (pv 8) pa_nil)) pa_nil)) (pg_name (i := 11) nd rfl (by first | exact Or.inl rfl | exact Or.inr rfl)) (pss_one (ps_expr (k_append (K := K) (pv 10) (pa_cons (k_popAt (K := K) (pv 8) (pa_cons (pe_cal c__law_next hr (pa_cons (pv 0) (pa_cons (k_cb T.f_len (k_len (K := K)) (pa_cons (pv 8) pa_nil)) pa_nil))) pa_nil)) pa_nil))))) (pss_cons (ps_set (i := 12) nd rfl (by first | exact Or.inl rfl | exact Or.inr rfl) (pe_cal c__law_next hr (pa_cons (pv 0) (pa_cons pe_int pa_nil)))) (pss_cons (ps_if (pt_cmpR (k_eq (K := K) hr.units) (pv 12) pe_int (nomark _)) (pss_one (ps_set (i := 10) nd rfl (by first | exact Or.inl rfl | exact Or.inr rfl) (pe_op op_cat (pv 10) (k_slL (K := K) (pv 10) po_none (po_some pe_int))))) pss_nil) (pss_cons (ps_if (PW.pt (pw_and (pt_cmpR (k_eq (K := K) hr.units) (pv 12) pe_int (nomark _)) (pw_and1 (pt_cmpR (op_gt) (k_cb T.f_len (k_len (K := K)) (pa_cons (pv 10) pa_nil)) pe_int (nomark _))))) (pss_one (ps_set (i := 10) nd rfl (by first | exact Or.inl rfl | exact Or.inr rfl) (k_slL (K := K) (pv 10) (po_some pe_int) po_none))) pss_nil) (pss_cons (ps_if (pt_cmpR (k_eq (K := K) hr.units) (pv 12) pe_int (nomark _)) (pss_cons (ps_set (i := 13) nd rfl (by first | exact Or.inl rfl | exact Or.inr rfl) pe_dnewK) (pss_cons (ps_for PassesOwn.never rfl (k_ilist (K := K) (pv 4)) (pg_name (i := 7) nd rfl (by first | exact Or.inl rfl | exact Or.inr rfl)) (pss_one (ps_dput (hu_of hr) (pv 13) (pv 7) (k_ixL (K := K) (pe_lst (pa_cons (pv 7) (pa_cons pe_str pa_nil))) (pe_cal c__law_next hr (pa_cons (pv 0) (pa_cons pe_int pa_nil)))) rfl))) (pss_one (ps_set (i := 10) nd rfl (by first | exact Or.inl rfl | exact Or.inr rfl) (pe_lc (own := [("_law_atom", 9)]) rfl nd (k_ilist (K := K) (pv 10)) (blkOk_by (N := N__law_second) (sc := defScope s__law_second) (by decide +kernel)) (fun _ _ _ _ _ => (pg_name (i := 9) nd rfl (by first | exact Or.inl rfl | exact Or.inr rfl))) (fun _ _ _ _ _ => pts_nil) (fun _ _ _ _ _ => (pe_tupF (pa_cons (k_ixT (K := K) (pv 9) pe_int) (pa_cons (pe_cal c__law_put_in hr (pa_cons (k_ixT (K := K) (pv 9) pe_int) (pa_cons (pv 13) pa_nil))) pa_nil))))))))) pss_nil) (pss_cons (ps_set (i := 14) nd rfl (by first | exact Or.inl rfl | exact Or.inr rfl) (k_tuple (K := K) T (pe_lc (own := [("_law_name", 7)]) rfl nd (k_itup (K := K) (pv 2)) (blkOk_by (N := N__law_second) (sc := defScope s__law_second) (by decide +kernel)) (fun _ _ _ _ _ => (pg_name (i := 7) nd rfl (by first | exact Or.inl rfl | exact Or.inr rfl))) (fun _ _ _ _ _ => pts_nil) (fun _ _ _ _ _ => (pe_dget (hu_of hr) (pv 6) (pv 7) (fun _ _ => rfl)))))) (pss_cons (ps_if (pt_val (k_cb T.f_all (k_all (K := K)) (pa_cons (pe_lc (own := [("_law_name", 7)]) rfl nd (k_itup (K := K) (pv 14)) (blkOk_by (N := N__law_second) (sc := defScope s__law_second) (by decide +kernel)) (fun _ _ _ _ _ => (pg_name (i := 7) nd rfl (by first | exact Or.inl rfl | exact Or.inr rfl))) (fun _ _ _ _ _ => pts_nil) (fun _ _ _ _ _ => (pe_cmpR (k_in (K := K)) (pv 7) (pe_cal c__law_variables hr (pa_cons (pv 10) pa_nil)) rfl))) pa_nil))) (pss_one (ps_ret (pe_tupF (pa_cons (pv 14) (pa_cons (k_tuple (K := K) T (k_slL (K := K) (pv 10) po_none (po_some pe_int))) pa_nil))))) pss_nil) (pss_one (ps_ret (pe_cal c__law_rule hr (pa_cons (pv 0) (pa_cons pe_int (pa_cons (k_cb T.f_len (k_len (K := K)) (pa_cons (pv 2) pa_nil)) pa_nil)))))))))))))))))))), ?_⟩
    cases hfv with
    | @tup rp ws _ b1 b2 =>
    cases b2 with
    | @cons hv vs1 _ _ c1 c2 =>
    cases c2 with
    | @cons av vs2 _ _ c3 c4 =>
    cases c4
    refine seqI ?_
    refine ⟨.ref rp, rfl, ?_⟩
    refine st_pair (G := gp K pot l) b1.sq _ ((gp K pot l).rf hp) _ ?_
    dsimp only
    -- names
    refine q_asg (G := gp K pot l) (P := fun v H1 => ∃ n, v = .ref n ∧ H n = none ∧ H1 n = some (.lst (names4.map V.str))) hp (fun H1 e1 Q q => ⟨(by rw [sizeLine_eq]; exact Nat.le_of_ble_eq_true rfl), fun L hL => q _ _ ((gp K pot l).new e1.2.1 hL) ⟨L, rfl, (gp K pot l).back e1 hL, upd_same⟩⟩) fun v H1 e1 ⟨np, hv1, hnp, hnpl⟩ => ?_
    subst hv1
    refine q_asg (G := gp K pot l) (P := fun v H2 => ∃ n, v = .ref n ∧ H1 n = none ∧ H2 n = some (.lst (names4.map V.str))) e1.2.1 (fun H2 e2 Q q => ⟨.ref np, rfl, np, _, rfl, .inl (SqL.of ((gp K pot l).loc e1 hnp e2 hnpl)), fun L hL => q _ _ ((gp K pot l).new e2.2.1 hL) ⟨L, rfl, (gp K pot l).back e2 hL, upd_same⟩⟩) fun v H2 e2 ⟨lp, hv1, hlp1, hlpl⟩ => ?_
    subst hv1
    have hlp : H lp = none := (gp K pot l).back e1 hlp1
    have nnl : np ≠ lp := fun z => by rw [z, hlp1] at hnpl; cases hnpl
    have e12 := (gp K pot l).tr e1 e2
    have hnp2 := (gp K pot l).loc e1 hnp e2 hnpl
    refine q_asg (G := gp K pot l) (P := fun v H3 => ∃ n, v = .ref n ∧ H2 n = none ∧ H3 n = some (.dK [])) e12.2.1 (fun H3 e3 Q q => fun L hL => q _ _ ((gp K pot l).new e3.2.1 hL) ⟨L, rfl, (gp K pot l).back e3 hL, upd_same⟩) fun v H3 e3 ⟨tp, hv1, htp2, htpl⟩ => ?_
    subst hv1
    have htp : H tp = none := (gp K pot l).back e12 htp2
    have e13 := (gp K pot l).tr e12 e3
    -- the table of names
    have srcN : ∀ (σ : L2.St) (H' : Hp), (gp K pot l).R H H' → σ[4]? = some (some (.ref np)) → H' np = some (.lst (names4.map V.str)) → EvI (gp K pot l) (iList K (tVar 4)) σ H' (fun J H4 => J = Itl K np ∧ (gp K pot l).R H' H4) := fun σ H' eR h4 hn H4 e4 Q q =>
      ⟨.ref np, h4, np, rfl, ⟨_, SqL.of ((gp K pot l).loc eR hnp e4 hn)⟩, q _ H4 ((gp K pot l).rf e4.2.1) ⟨rfl, e4⟩⟩
    refine q_for (G := gp K pot l) e13.2.1 (srcN _ H3 e13 rfl ((gp K pot l).loc e12 hnp e3 hnp2)) fun J H4 e4 hs => ?_
    obtain ⟨rfl, _⟩ := hs
    have e14 := (gp K pot l).tr e13 e4
    refine ⟨(names4.map V.str).length, _, _, fun j σ' H' => ∃ s7 ls τ, σ' = [some (.ref pot), some (.ref rp), some hv, some av, some (.ref np), some (.ref lp), some (.ref tp), s7, none, none, none, none, none, none, none] ∧ (gp K pot l).R H H' ∧ H' np = some (.lst (names4.map V.str)) ∧ H' lp = some (.lst (ls.map V.str)) ∧ ls.length + j = 4 ∧ (∀ x ∈ ls, x ∈ names4) ∧ H' tp = some (.dK (tabV τ)) ∧ τ.map (·.1) = names4.take j ∧ ∀ p ∈ τ, p.2 ∈ names4,
      walk_list (K := K) (a := np) (xs := names4.map V.str), ⟨none, names4, [], rfl, e14, (gp K pot l).loc e12 hnp ((gp K pot l).tr e3 e4) hnp2, (gp K pot l).loc e12 hlp ((gp K pot l).tr e3 e4) hlpl, rfl, fun x hx => hx, gp_keep e4 htpl, rfl, fun p hp => (nomatch hp)⟩, fun j σ' H' _ hp => ?_, fun j x σ' Ha Hb hj hp y => ?_, fun σ' H' hp => ?_⟩
    · obtain ⟨_, _, _, _, _, hn, _⟩ := hp
      exact SqL.of hn
    · obtain ⟨s7, ls, τ, rfl, hR, hn, hls, hlen, hlm, ht, hτ, hτm⟩ := hp
      obtain ⟨rfl, hx⟩ := y
      rw [List.getElem?_map] at hx
      cases hnj : names4[j]? with
      | none => rw [hnj] at hx; cases hx
      | some nm =>
      rw [hnj] at hx
      cases hx
      have hj4 : j < 4 := hj
      refine nmI ?_
      refine ⟨.ref lp, rfl, Or.inl ⟨rfl, _, SqL.of hls⟩, .ref pot, rfl, .ref lp, rfl, lp, _, rfl, .inl (SqL.of hls), pot, l, _, rfl, hR.2.1, by rw [List.length_map]; omega, by rw [List.length_map]; omega, fun rr H5 hrr e5 => ?_⟩
      rw [List.length_map] at hrr
      have hrr : rr < ls.length := by omega
      have hls5 := (gp K pot l).loc hR hlp e5 hls
      have hR5 := (gp K pot l).tr hR e5
      refine ⟨lp, ls.map V.str, (rr : Nat), rr, .str ls[rr], rfl, rfl, hls5, by omega, by omega, seq_nat (by rw [List.length_map]; exact hrr), by rw [List.getElem?_map, List.getElem?_eq_getElem hrr]; rfl, ?_⟩
      have hR6 := (gp K pot l).chg (o := .lst ((ls.map V.str).eraseIdx rr)) hR5 hlp
      have ntl : tp ≠ lp := fun z => by rw [z, hls] at ht; cases ht
      have ntn : np ≠ tp := fun z => by rw [z, ht] at hn; cases hn
      have ht6 : upd H5 lp (.lst ((ls.map V.str).eraseIdx rr)) tp = some (.dK (tabV τ)) := by rw [upd_ne ntl]; exact gp_keep e5 ht
      refine ⟨.ref tp, rfl, .str nm, rfl, tp, _, rfl, DPut.k (k := .inr nm) ht6 ?_, ?_⟩
      · have h := congrArg List.length hτ
        rw [List.length_map, List.length_take] at h
        rw [tabV, List.length_map, h, sizeLine_eq]
        omega
      · have hnew : nm ∉ τ.map (·.1) := by
          rw [hτ]
          intro hmem
          have hnd : names4.Nodup := by decide
          have hsp := List.take_append_drop j names4
          rw [← hsp] at hnd
          have hin : nm ∈ names4.drop j := by
            have : (names4.drop j)[0]? = some nm := by rw [List.getElem?_drop, Nat.add_zero, hnj]
            exact List.mem_of_getElem? this
          exact (List.nodup_append.mp hnd).2.2 _ hmem _ hin rfl
        rw [tabV_put hnew]
        refine ⟨_, ls.eraseIdx rr, τ ++ [(nm, ls[rr])], rfl, (gp K pot l).chg hR6 htp, ?_, ?_, ?_, fun x hx => hlm x (List.mem_of_mem_eraseIdx hx), upd_same, ?_, fun p hp => ?_⟩
        · rw [upd_ne ntn, upd_ne nnl]
          exact (gp K pot l).loc hR hnp e5 hn
        · rw [upd_ne ntl.symm, upd_same, map_erase]
        · rw [List.length_eraseIdx_of_lt hrr]
          omega
        · rw [List.map_append, hτ, List.take_add_one, hnj]
          rfl
        · rcases List.mem_append.mp hp with hp | hp
          · exact hτm p hp
          · rw [List.mem_singleton.mp hp]
            exact hlm _ (List.getElem_mem hrr)
    · obtain ⟨s7, ls, τ, rfl, hR, hn, hls, hlen, hlm, ht, hτ, hτm⟩ := hp
      have hτ4 : τ.map (·.1) = names4 := hτ
      have hbd : ∀ x ∈ names4, (aGet τ x).isSome = true := fun x hx => aGet_isSome.mpr (by rw [hτ4]; exact hx)
      clear e4 e14 e13 e3 e12 e2 hlp1 hlpl htpl htp2 hnp2 hτ hls hlen hlm hnpl e1
      have c3' := c3.t ((gp K pot l).tx hR)
      have c1' := c1.t ((gp K pot l).tx hR)
      -- new
      refine q_asg (G := gp K pot l) hR.2.1 (el_lcB (vs := [9]) (g := gName 9) encA (fun a => encA (putAN τ a)) (ed_var rfl c3') (by have := hwr.most; omega) fun i c x H5 e5 hc nx => ⟨_, st_name, rfl, el_putA (d := 6) (a := tp) (te := _) rfl (fun b hb => hwr.atoms b hb) hbd (fun _ => rfl) (fun _ => rfl) (fun H6 e6 => gp_keep e6 ht) c (List.mem_of_getElem? hc) x H5 e5 nx⟩) fun v H5 e5 hp5 => ?_
      obtain ⟨wp, rfl, hwp, xs5, hx5, nv5⟩ := hp5
      have hwp0 : H wp = none := (gp K pot l).back hR hwp
      have hR5 := (gp K pot l).tr hR e5
      have hn5 := (gp K pot l).loc hR hnp e5 hn
      have ht5 := gp_keep e5 ht
      -- moved = []
      refine q_asg (G := gp K pot l) (P := fun v H6 => ∃ n, v = .ref n ∧ H5 n = none ∧ H6 n = some (.lst [])) hR5.2.1 (fun H6 e6 Q q => ⟨(by rw [sizeLine_eq]; exact Nat.zero_le _), fun L hL => q _ _ ((gp K pot l).new e6.2.1 hL) ⟨L, rfl, (gp K pot l).back e6 hL, upd_same⟩⟩) fun v H6 e6 ⟨mp, hv1, hmp5, hmpl⟩ => ?_
      subst hv1
      have hmp : H mp = none := (gp K pot l).back hR5 hmp5
      have nmw : mp ≠ wp := fun z => by rw [z, hx5] at hmp5; cases hmp5
      have nmn : mp ≠ np := fun z => by rw [z, hn5] at hmp5; cases hmp5
      have nwn : wp ≠ np := fun z => by rw [z, hn] at hwp; cases hwp
      have hR6 := (gp K pot l).tr hR5 e6
      have nv5 : NVs K H5 xs5 ((r.2.map (putAN τ)).map encA) := by rw [List.map_map]; exact nv5
      have hlen5 : xs5.length = r.2.length := by rw [nv5.len, List.length_map, List.length_map]
      have srcR : EvI (gp K pot l) (iRng1 (tCons (tCB (rLenS K) (tCons (tVar 8) tNil)) tNil)) [some (.ref pot), some (.ref rp), some hv, some av, some (.ref np), some (.ref lp), some (.ref tp), s7, some (.ref wp), none, some (.ref mp), none, none, none, none] H6 (fun J _ => J = Itr 0 r.2.length) := fun H7 e7 Q q =>
        ⟨.ref wp, rfl, wp, xs5, rfl, .inl (SqL.of ((gp K pot l).loc hR5 hwp0 ((gp K pot l).tr e6 e7) hx5)), (xs5.length : Nat), rfl, by omega, by omega, by rw [hlen5]; exact q _ H7 ((gp K pot l).rf e7.2.1) rfl⟩
      refine q_for (G := gp K pot l) hR6.2.1 srcR fun J H7 e7 hs => ?_
      subst hs
      have e57 := (gp K pot l).tr e6 e7
      refine ⟨r.2.length, _, _, fun j σ' H' => ∃ s11 as1 as2 xs1 xs2, σ' = [some (.ref pot), some (.ref rp), some hv, some av, some (.ref np), some (.ref lp), some (.ref tp), s7, some (.ref wp), none, some (.ref mp), s11, none, none, none] ∧ (gp K pot l).R H H' ∧ H' np = some (.lst (names4.map V.str)) ∧ H' tp = some (.dK (tabV τ)) ∧
          H' wp = some (.lst xs1) ∧ NVs K H' xs1 (as1.map encA) ∧ H' mp = some (.lst xs2) ∧ NVs K H' xs2 (as2.map encA) ∧ as1.length + j = r.2.length ∧ as2.length = j ∧ (∀ a ∈ as1, WfA a) ∧ ∀ a ∈ as2, WfA a, walk_range (lo := 0) (n := r.2.length),
        ⟨none, r.2.map (putAN τ), [], xs5, [], rfl, (gp K pot l).tr hR6 e7, (gp K pot l).loc hR5 hnp e57 hn5, gp_keep e57 ht5, (gp K pot l).loc hR5 hwp0 e57 hx5, nv5.t ((gp K pot l).tx e57), (gp K pot l).loc hR6 hmp e7 hmpl, .nil, by rw [List.length_map]; rfl, rfl, fun a ha => ?_, fun a ha => (nomatch ha)⟩, fun _ _ _ _ _ => trivial, fun j x σ' Ha Hb hj hp y => ?_, fun σ' H' hp => ?_⟩
      · obtain ⟨b, hb, rfl⟩ := List.mem_map.mp ha
        exact putAN_wf (hwr.atoms b hb) hτm
      · obtain ⟨s11, as1, as2, xs1, xs2, rfl, hRb, hnb, htb, hw1, nw1, hm2, nm2, hl1, hl2, ha1, ha2⟩ := hp
        obtain ⟨rfl, hx⟩ := y
        refine nmI ?_
        have hx1 : xs1.length = as1.length := by rw [nw1.len, List.length_map]
        have hx2 : xs2.length = as2.length := by rw [nm2.len, List.length_map]
        refine ⟨.ref mp, rfl, Or.inl ⟨rfl, _, SqL.of hm2⟩, .ref wp, rfl, Or.inl ⟨rfl, _, SqL.of hw1⟩, .ref pot, rfl, .ref wp, rfl, wp, _, rfl, .inl (SqL.of hw1), pot, l, _, rfl, hRb.2.1, by omega, by omega, fun rr H8 hrr e8 => ?_⟩
        have hrr : rr < as1.length := by omega
        have hw8 := (gp K pot l).loc hRb hwp0 e8 hw1
        obtain ⟨yv, hy1, hy2⟩ := (nw1.t ((gp K pot l).tx e8)).get (i := rr) (d := encA as1[rr]) (by rw [List.getElem?_map, List.getElem?_eq_getElem hrr]; rfl)
        refine ⟨wp, xs1, (rr : Nat), rr, yv, rfl, rfl, hw8, by omega, by omega, seq_nat (by omega), hy1, ?_⟩
        have hR8 := (gp K pot l).tr hRb e8
        have hR9 := (gp K pot l).chg (o := .lst (xs1.eraseIdx rr)) hR8 hwp0
        have tu1 : Tx K H8 (upd H8 wp (.lst (xs1.eraseIdx rr))) := Tx.upd (.inr (by rw [hw8]; trivial))
        have hm9 : upd H8 wp (.lst (xs1.eraseIdx rr)) mp = some (.lst xs2) := by rw [upd_ne nmw]; exact (gp K pot l).loc hRb hmp e8 hm2
        refine ⟨mp, xs2, yv, rfl, rfl, hm9, by rw [sizeLine_eq]; omega, ?_⟩
        have tu2 : Tx K (upd H8 wp (.lst (xs1.eraseIdx rr))) (upd (upd H8 wp (.lst (xs1.eraseIdx rr))) mp (.lst (xs2 ++ [yv]))) := Tx.upd (.inr (by rw [hm9]; trivial))
        have tall := ((gp K pot l).tx e8).trans (tu1.trans tu2)
        have ntw : tp ≠ wp := fun z => by rw [z, hw1] at htb; cases htb
        have ntm : tp ≠ mp := fun z => by rw [z, hm2] at htb; cases htb
        refine ⟨_, as1.eraseIdx rr, as2 ++ [as1[rr]], xs1.eraseIdx rr, xs2 ++ [yv], rfl, (gp K pot l).chg hR9 hmp, ?_, ?_, ?_, ?_, upd_same, ?_, ?_, by rw [List.length_append, hl2]; rfl, fun a ha => ha1 a (List.mem_of_mem_eraseIdx ha), fun a ha => ?_⟩
        · rw [upd_ne nmn.symm, upd_ne nwn.symm]
          exact (gp K pot l).loc hRb hnp e8 hnb
        · rw [upd_ne ntm, upd_ne ntw]
          exact gp_keep e8 htb
        · rw [upd_ne nmw.symm, upd_same]
        · rw [← map_erase]
          exact nvs_erase rr (nw1.t tall)
        · rw [List.map_append]
          exact (nm2.t tall).snoc (hy2.t (tu1.trans tu2))
        · rw [List.length_eraseIdx_of_lt hrr]
          omega
        · rcases List.mem_append.mp ha with ha | ha
          · exact ha2 a ha
          · rw [List.mem_singleton.mp ha]
            exact ha1 _ (List.getElem_mem hrr)
      · obtain ⟨s11, as1, as2, xs1, xs2, rfl, hRb, hnb, htb, hw1, nw1, hm2, nm2, hl1, hl2, ha1, ha2⟩ := hp
        -- kind
        refine q_asg (G := gp K pot l) hRb.2.1 (ev_next rfl (by decide) (by decide) ev_int) fun v H8 e8 ⟨kd, hv1, _⟩ => ?_
        subst hv1
        have hR8 := (gp K pot l).tr hRb e8
        have eqk : ∀ (c : Int) (σ : L2.St) (H9 : Hp), σ[12]? = some (some (.int (kd : Nat))) → EvT (gp K pot l) (tTest (tOp (rEqN K) (tVar 12) (tC (.int c)))) σ H9 (decide (NestedKey.num (kd : Nat) = .num c)) := fun c σ H9 h => et_test (eb_eqN (ed_var h (.int _)) ed_int)
        have P1 : ∀ H', (gp K pot l).R H8 H' → (gp K pot l).R H H' ∧ H' np = some (.lst (names4.map V.str)) ∧ H' tp = some (.dK (tabV τ)) := fun H' e => ⟨(gp K pot l).tr hR8 e, (gp K pot l).loc hRb hnp ((gp K pot l).tr e8 e) hnb, gp_keep ((gp K pot l).tr e8 e) htb⟩
        have hm8 := (gp K pot l).loc hRb hmp e8 hm2
        have nm8 := nm2.t ((gp K pot l).tx e8)
        let Pst : L2.St → Hp → Prop := fun σ' H' => ∃ t7 t13 m, σ' = [some (.ref pot), some (.ref rp), some hv, some av, some (.ref np), some (.ref lp), some (.ref tp), t7, some (.ref wp), none, some (.ref m), s11, some (.int (kd : Nat)), t13, none] ∧ (gp K pot l).R H H' ∧ H' np = some (.lst (names4.map V.str)) ∧ H' tp = some (.dK (tabV τ)) ∧ H m = none ∧
          ∃ (as : List Atom) (xs : List V), H' m = some (.lst xs) ∧ NVs K H' xs (as.map encA) ∧ (∀ a ∈ as, WfA a) ∧ 1 ≤ as.length ∧ as.length ≤ 5
        have hxl2 : xs2.length = as2.length := by rw [nm2.len, List.length_map]
        have hone := hwr.one
        refine q_when2 (G := gp K pot l) Pst hR8.2.1 (eqk 0 _ H8 rfl) (fun σ' H' hs => ?_) (fun hb H9 e9 nx hnx => ?_) fun hb H9 e9 => ?_
        rotate_left
        · -- moved + moved[:1]
          obtain ⟨k1, k2, k3⟩ := P1 H9 e9
          have hm9 := (gp K pot l).loc hR8 hmp e9 hm8
          refine ⟨.ref mp, rfl, .ref mp, rfl, 1, rfl, mp, xs2, rfl, SqL.of hm9, fun sp hsp => ?_⟩
          have n1 := (gp K pot l).new (o := .lst (cutV xs2 none (some 1))) k1.2.1 hsp
          have hm10 := (gp K pot l).loc k1 hmp n1 hm9
          refine ⟨mp, sp, xs2, _, rfl, rfl, hm10, upd_same, ?_, fun cp hcp => ?_⟩
          · have := cutV_length xs2 none (some 1)
            rw [sizeLine_eq]
            omega
          · have n2 := (gp K pot l).new (o := .lst (xs2 ++ cutV xs2 none (some 1))) n1.2.1 hcp
            have n12 := (gp K pot l).tr n1 n2
            have k4 := (gp K pot l).tr e9 n12
            obtain ⟨k5, k6, k7⟩ := P1 _ k4
            have hcut : cutV xs2 none (some 1) = xs2.take 1 := cut_to (k := 1)
            refine hnx _ _ ⟨_, _, cp, rfl, k5, k6, k7, (gp K pot l).back k1 ((gp K pot l).back n1 hcp), as2 ++ as2.take 1, xs2 ++ cutV xs2 none (some 1), upd_same, ?_, fun a ha => ?_, ?_, ?_⟩
            · rw [hcut, List.map_append, List.map_take]
              have nmx := nm8.t ((gp K pot l).tx k4)
              rw [hcut] at nmx
              exact NVs.app (nvs_take 1 nmx) nmx
            · rcases List.mem_append.mp ha with ha | ha
              · exact ha2 a ha
              · exact ha2 a (List.mem_of_mem_take ha)
            · rw [List.length_append]
              omega
            · rw [List.length_append, List.length_take]
              omega
        · obtain ⟨k1, k2, k3⟩ := P1 H9 e9
          exact ⟨_, _, mp, rfl, k1, k2, k3, hmp, as2, xs2, (gp K pot l).loc hR8 hmp e9 hm8, nm8.t ((gp K pot l).tx e9), ha2, by omega, by omega⟩
        -- the second test
        obtain ⟨t7, t13, m, rfl, hRs, hns, hts, hm, as, xs, hmx, nvx, hax, ho1, ho5⟩ := hs
        have hxl : xs.length = as.length := by rw [nvx.len, List.length_map]
        have tst : EvT (gp K pot l) (tAnd (tTest (tOp (rEqN K) (tVar 12) (tC (.int 1)))) (tTest (tOp (rI0 fun i j => .bl (decide (j < i))) (tCB (rLenS K) (tCons (tVar 10) tNil)) (tC (.int 1))))) [some (.ref pot), some (.ref rp), some hv, some av, some (.ref np), some (.ref lp), some (.ref tp), t7, some (.ref wp), none, some (.ref m), s11, some (.int (kd : Nat)), t13, none] H'
            (decide (NestedKey.num (kd : Nat) = .num 1) && decide ((1 : Int) < (as.length : Nat))) :=
          et_and (eqk 1 _ H' rfl) fun _ => et_test fun H9 e9 Q q => ⟨.ref m, rfl, m, xs, rfl, .inl (SqL.of ((gp K pot l).loc hRs hm e9 hmx)), _, 1, rfl, rfl, q _ H9 ((gp K pot l).rf e9.2.1) (by rw [hxl])⟩
        refine q_when2 (G := gp K pot l) Pst hRs.2.1 tst (fun σ' H9 hs => ?_) (fun hb H9 e9 nx hnx => ?_) fun hb H9 e9 => ?_
        rotate_left
        · rw [Bool.and_eq_true, decide_eq_true_eq, decide_eq_true_eq] at hb
          have k1 := (gp K pot l).tr hRs e9
          have hm9 := (gp K pot l).loc hRs hm e9 hmx
          refine ⟨.ref m, rfl, 1, rfl, m, xs, rfl, SqL.of hm9, fun sp hsp => ?_⟩
          have n1 := (gp K pot l).new (o := .lst (cutV xs (some 1) none)) k1.2.1 hsp
          have k2 := (gp K pot l).tr e9 n1
          refine hnx _ _ ⟨_, _, sp, rfl, (gp K pot l).tr hRs k2, (gp K pot l).loc hRs hnp k2 hns, gp_keep k2 hts, (gp K pot l).back k1 hsp, as.drop 1, cutV xs (some 1) none, upd_same, ?_, fun a ha => hax a (List.mem_of_mem_drop ha), ?_, ?_⟩
          · rw [cut1 (by omega), List.map_drop]
            have nvy := nvx.t ((gp K pot l).tx k2)
            rw [cut1 (by omega)] at nvy
            exact nvs_drop 1 nvy
          · rw [List.length_drop]
            omega
          · rw [List.length_drop]
            omega
        · exact ⟨_, _, m, rfl, (gp K pot l).tr hRs e9, (gp K pot l).loc hRs hnp e9 hns, gp_keep e9 hts, hm, as, xs, (gp K pot l).loc hRs hm e9 hmx, nvx.t ((gp K pot l).tx e9), hax, ho1, ho5⟩
        clear hmx nvx hax ho1 ho5 hxl tst hns hts hm hRs
        obtain ⟨t7, t13, m, rfl, hRs, hns, hts, hm, as, xs, hmx, nvx, hax, ho1, ho5⟩ := hs
        have hxl : xs.length = as.length := by rw [nvx.len, List.length_map]
        refine q_when2 (G := gp K pot l) Pst hRs.2.1 (eqk 2 _ H9 rfl) (fun σ' H10 hs => ?_) (fun hb H10 e10 nx hnx => ?_) fun hb H10 e10 => ?_
        rotate_left
        · -- other
          have k1 := (gp K pot l).tr hRs e10
          have hn10 := (gp K pot l).loc hRs hnp e10 hns
          have ht10 := gp_keep e10 hts
          have hm10 := (gp K pot l).loc hRs hm e10 hmx
          refine q_asg (G := gp K pot l) (P := fun v H3 => ∃ n, v = .ref n ∧ H10 n = none ∧ H3 n = some (.dK [])) k1.2.1 (fun H3 e3 Q q => fun L hL => q _ _ ((gp K pot l).new e3.2.1 hL) ⟨L, rfl, (gp K pot l).back e3 hL, upd_same⟩) fun v H11 e11 ⟨op, hv1, hop10, hopl⟩ => ?_
          subst hv1
          have hop : H op = none := (gp K pot l).back k1 hop10
          have k2 := (gp K pot l).tr k1 e11
          have nom : op ≠ m := fun z => by rw [z, hm10] at hop10; cases hop10
          have non : op ≠ np := fun z => by rw [z, hn10] at hop10; cases hop10
          have notp : op ≠ tp := fun z => by rw [z, ht10] at hop10; cases hop10
          refine q_for (G := gp K pot l) k2.2.1 (srcN _ H11 k2 rfl ((gp K pot l).loc k1 hnp e11 hn10)) fun J H12 e12 hs => ?_
          obtain ⟨rfl, _⟩ := hs
          have k3 := (gp K pot l).tr e11 e12
          refine ⟨(names4.map V.str).length, _, _, fun j σ' H' => ∃ t7 ω, σ' = [some (.ref pot), some (.ref rp), some hv, some av, some (.ref np), some (.ref lp), some (.ref tp), t7, some (.ref wp), none, some (.ref m), s11, some (.int (kd : Nat)), some (.ref op), none] ∧ (gp K pot l).R H H' ∧ H' np = some (.lst (names4.map V.str)) ∧ H' tp = some (.dK (tabV τ)) ∧ H' m = some (.lst xs) ∧ Tx K H12 H' ∧
              H' op = some (.dK (tabV ω)) ∧ ω.map (·.1) = names4.take j ∧ ∀ p ∈ ω, p.2 ∈ names4, walk_list (K := K) (a := np) (xs := names4.map V.str),
            ⟨_, [], rfl, (gp K pot l).tr k1 k3, (gp K pot l).loc k1 hnp k3 hn10, gp_keep k3 ht10, (gp K pot l).loc k1 hm k3 hm10, Tx.refl K H12, gp_keep e12 hopl, rfl, fun p hp => (nomatch hp)⟩, fun j σ' H' _ hp => ?_, fun j x σ' Ha Hb hj hp y => ?_, fun σ' H' hp => ?_⟩
          · obtain ⟨_, _, _, _, hn, _⟩ := hp
            exact SqL.of hn
          · obtain ⟨t7, ω, rfl, hRc, hnc, htc, hmc, txc, hoc, hω, hωm⟩ := hp
            obtain ⟨rfl, hx⟩ := y
            rw [List.getElem?_map] at hx
            cases hnj : names4[j]? with
            | none => rw [hnj] at hx; cases hx
            | some nm =>
            rw [hnj] at hx
            cases hx
            have hj4 : j < 4 := hj
            have hnm4 : nm ∈ names4 := List.mem_of_getElem? hnj
            refine nmI ?_
            refine (ev_pickL (G := gp K pot l) (ds := [.text nm, .text "x"]) (el_lst (eds_cons (ed_var rfl (.str nm)) (eds_cons ed_str eds_nil))) (ev_next (lim := 2) rfl (by decide) (by decide) ev_int)) Hb ((gp K pot l).rf hRc.2.1) _ fun v H13 e13 ⟨d, hd, nv⟩ => ?_
            obtain ⟨y, rfl, hy⟩ : ∃ y, d = .text y ∧ y ∈ names4 := by
              simp only [List.mem_cons, List.mem_nil_iff, or_false] at hd
              rcases hd with rfl | rfl
              · exact ⟨_, rfl, hnm4⟩
              · exact ⟨_, rfl, by simp [names4]⟩
            cases nv
            have ho13 := gp_keep e13 hoc
            refine ⟨.ref op, rfl, .str nm, rfl, op, _, rfl, DPut.k (k := .inr nm) ho13 ?_, ?_⟩
            · have h := congrArg List.length hω
              rw [List.length_map, List.length_take] at h
              rw [tabV, List.length_map, h, sizeLine_eq]
              omega
            · have hnew : nm ∉ ω.map (·.1) := by
                rw [hω]
                intro hmem
                have hnd : names4.Nodup := by decide
                have hsp := List.take_append_drop j names4
                rw [← hsp] at hnd
                have hin : nm ∈ names4.drop j := by
                  have : (names4.drop j)[0]? = some nm := by rw [List.getElem?_drop, Nat.add_zero, hnj]
                  exact List.mem_of_getElem? this
                exact (List.nodup_append.mp hnd).2.2 _ hmem _ hin rfl
              rw [tabV_put hnew]
              have tu : Tx K H13 (upd H13 op (.dK (tabV (ω ++ [(nm, y)])))) := Tx.upd (.inr (by rw [ho13]; trivial))
              refine ⟨_, ω ++ [(nm, y)], rfl, (gp K pot l).chg ((gp K pot l).tr hRc e13) hop, ?_, ?_, ?_, txc.trans (((gp K pot l).tx e13).trans tu), upd_same, ?_, fun p hp => ?_⟩
              · rw [upd_ne non.symm]
                exact (gp K pot l).loc hRc hnp e13 hnc
              · rw [upd_ne notp.symm]
                exact gp_keep e13 htc
              · rw [upd_ne nom.symm]
                exact (gp K pot l).loc hRc hm e13 hmc
              · rw [List.map_append, hω, List.take_add_one, hnj]
                rfl
              · rcases List.mem_append.mp hp with hp | hp
                · exact hωm p hp
                · rw [List.mem_singleton.mp hp]
                  exact hy
          · obtain ⟨t7, ω, rfl, hRc, hnc, htc, hmc, txc, hoc, hω, hωm⟩ := hp
            have hω4 : ω.map (·.1) = names4 := hω
            have hbo : ∀ x ∈ names4, (aGet ω x).isSome = true := fun x hx => aGet_isSome.mpr (by rw [hω4]; exact hx)
            have nvc : NVs K H' xs (as.map encA) := (nvx.t (((gp K pot l).tx ((gp K pot l).tr e10 k3)))).t txc
            refine s_asg (G := gp K pot l) hRc.2.1 (el_lcLB (vs := [9]) (g := gName 9) encA (fun a => encA (putAN ω a)) (ev_var (v := .ref m) rfl fun H13 e13 => ⟨m, xs, rfl, fun H14 e14 => SqL.of ((gp K pot l).loc hRc hm ((gp K pot l).tr e13 e14) hmc), nvc.t ((gp K pot l).tx e13)⟩) (by omega)
              fun i c x H13 e13 hc nx => ⟨_, st_name, rfl, el_putA (d := 13) (a := op) (te := _) rfl (fun b hb => hax b hb) hbo (fun _ => rfl) (fun _ => rfl) (fun H14 e14 => gp_keep e14 hoc) c (List.mem_of_getElem? hc) x H13 e13 nx⟩) fun v H13 e13 hp13 => ?_
            obtain ⟨m2, rfl, hm2, ys, hys, nys⟩ := hp13
            refine hnx _ _ ⟨_, _, m2, rfl, (gp K pot l).tr hRc e13, (gp K pot l).loc hRc hnp e13 hnc, gp_keep e13 htc, (gp K pot l).back hRc hm2, as.map (putAN ω), ys, hys, by rw [List.map_map]; exact nys, fun a ha => ?_, by rw [List.length_map]; exact ho1, by rw [List.length_map]; exact ho5⟩
            obtain ⟨b, hb, rfl⟩ := List.mem_map.mp ha
            exact putAN_wf (hax b hb) hωm
        · exact ⟨_, _, m, rfl, (gp K pot l).tr hRs e10, (gp K pot l).loc hRs hnp e10 hns, gp_keep e10 hts, hm, as, xs, (gp K pot l).loc hRs hm e10 hmx, nvx.t ((gp K pot l).tx e10), hax, ho1, ho5⟩
        clear hmx nvx hax ho1 ho5 hxl hns hts hm hRs
        obtain ⟨t7, t13, m, rfl, hRs, hns, hts, hm, as, xs, hmx, nvx, hax, ho1, ho5⟩ := hs
        have hxl : xs.length = as.length := by rw [nvx.len, List.length_map]
        have c1s := c1.t ((gp K pot l).tx hRs)
        -- heads
        have edH : ED (gp K pot l) (tThen (tLc (iTup K (tVar 2)) (gName 7) tYes (tDGet (tVar 6) (tVar 7)) [7]) (kTupF K)) [some (.ref pot), some (.ref rp), some hv, some av, some (.ref np), some (.ref lp), some (.ref tp), t7, some (.ref wp), none, some (.ref m), s11, some (.int (kd : Nat)), t13, none] H10 (.tup (r.1.map fun x => .text ((aGet τ x).getD x))) :=
          ed_tupleL (el_lcB (vs := [7]) (g := gName 7) NestedKey.text (fun x => .text ((aGet τ x).getD x)) (ed_var rfl c1s) (by have := hwr.head; omega) fun i x v H11 e11 hx nx => ⟨_, st_name, rfl, by
            have hx4 : x ∈ names4 := tms_wf hwr.atoms (hwr.safe x (List.mem_of_getElem? hx))
            obtain ⟨z, hz⟩ := Option.isSome_iff_exists.mp (hbd x hx4)
            rw [hz]
            exact ed_dget (m := nmK τ) (k := .inr x) (ea_var rfl) (fun H12 e12 => tab_dka (gp_keep ((gp K pot l).tr e11 e12) hts)) (ed_var rfl nx) (by rw [nmK_get, hz]; rfl)⟩)
        refine q_asg (G := gp K pot l) hRs.2.1 edH fun hsv H11 e11 nhs => ?_
        have hR11 := (gp K pot l).tr hRs e11
        have hm11 := (gp K pot l).loc hRs hm e11 hmx
        have nv11 := nvx.t ((gp K pot l).tx e11)
        let hs : List Str := r.1.map fun x => (aGet τ x).getD x
        have nhs' : NV K H11 hsv (.tup (hs.map .text)) := by
          show NV K H11 hsv (.tup ((r.1.map fun x => (aGet τ x).getD x).map .text))
          rw [List.map_map]
          exact nhs
        have hall : EvP (gp K pot l) (tCB (rAll K) (tCons (tLc (iTup K (tVar 14)) (gName 7) tYes (tOp (rIn K false) (tVar 7) (tCall (sp_variables K) [] E0 (tCons (tVar 10) tNil))) [7]) tNil)) [some (.ref pot), some (.ref rp), some hv, some av, some (.ref np), some (.ref lp), some (.ref tp), t7, some (.ref wp), none, some (.ref m), s11, some (.int (kd : Nat)), t13, some hsv] H11 (fun v _ => v = .bl (hs.all fun x => decide (x ∈ lawVars as))) := by
          refine ev_cb (ea_one (ev_lcV (n := hs.length) (fun i => .bl ((hs[i]?.map fun x => decide (x ∈ lawVars as)).getD false)) (ei_tup (ed_var rfl nhs')) (by have := hwr.head; simp only [hs, List.length_map]; omega) fun J H12 e12 hJ => ?_)) fun vs H12 e12 p Q q => ?_
          · obtain ⟨p, ys, rfl, h1, h2⟩ := hJ
            have hyl : ys.length = hs.length := by rw [h2.len, List.length_map]
            have w0 := walk_tup (K := K) (a := p) (xs := ys)
            rw [hyl] at w0
            refine ⟨_, w0.mono (fun H13 e13 => ((gp K pot l).tx e13).1 _ _ h1) (fun i H13 x H14 _ _ y => y), fun i H13 x H14 hi e13 y => ?_⟩
            obtain ⟨rfl, hx⟩ := y
            obtain ⟨d, hd, nx⟩ := h2.getV hx
            rw [List.getElem?_map] at hd
            cases hni : hs[i]? with
            | none => rw [hni] at hd; cases hd
            | some y =>
            rw [hni] at hd
            cases hd
            cases nx
            refine ⟨(gp K pot l).rf e13.2.1, _, st_name, rfl, fun H15 e15 Q q => ?_⟩
            have e115 := (gp K pot l).tr ((gp K pot l).tr e12 e13) e15
            have hm15 := (gp K pot l).loc hR11 hm e115 hm11
            refine ⟨.str y, rfl, ?_⟩
            refine call1 rfl ⟨m, xs, as, rfl, .inl (SqL.of hm15), nv11.t ((gp K pot l).tx e115), hax, by omega, fun qa H16 e16 _ hq => ?_⟩
            refine ⟨qa, _, rfl, .inl (SqL.of hq), rfl, flat_strs _, q _ H16 ((gp K pot l).exr e15.2.1 e16) ?_⟩
            rw [inV_str]
            rfl
          · obtain ⟨v, rfl, p, rfl, _, hp⟩ := p
            have el : (List.range hs.length).map (fun i => V.bl ((hs[i]?.map fun x => decide (x ∈ lawVars as)).getD false)) = (hs.map fun x => decide (x ∈ lawVars as)).map V.bl := by
              refine List.ext_getElem? fun i => ?_
              rw [List.getElem?_map, List.getElem?_map, List.getElem?_map]
              by_cases hi : i < hs.length
              · rw [List.getElem?_range hi, List.getElem?_eq_getElem hi, Option.map_some, Option.map_some, Option.map_some, List.getElem?_eq_getElem hi]
                rfl
              · rw [List.getElem?_eq_none (by simp; omega), List.getElem?_eq_none (by omega)]
                rfl
            rw [el] at hp
            refine ⟨p, _, rfl, SqL.of hp, q _ H12 ((gp K pot l).rf e12.2.1) ?_⟩
            rw [List.all_map]
            rfl
        refine q_when (G := gp K pot l) hR11.2.1 (et_B hall) (fun hb H12 e12 => ?_) fun hb H12 e12 => ?_
        · have hm12 := (gp K pot l).loc hR11 hm e12 hm11
          refine ⟨hsv, rfl, .ref m, rfl, 5, rfl, m, xs, rfl, SqL.of hm12, fun sp hsp => ?_⟩
          have n1 := (gp K pot l).new (o := .lst (cutV xs none (some 5))) e12.2.1 hsp
          refine ⟨sp, _, rfl, SqL.of upd_same, fun tq oq htq hoq => ?_⟩
          have n2 := (gp K pot l).new (o := .frz oq (.tup (cutV xs none (some 5)))) n1.2.1 htq
          refine ⟨(by rw [sizeLine_eq]; exact Nat.le_of_ble_eq_true rfl), fun tz oz htz hoz => ?_⟩
          have n3 := (gp K pot l).new (o := .frz oz (.tup [hsv, .ref tq])) n2.2.1 htz
          have n23 := (gp K pot l).tr n2 n3
          have n13 := (gp K pot l).tr n1 n23
          have e1z := (gp K pot l).tr e12 n13
          have hcut : cutV xs none (some 5) = xs := by
            rw [show (5 : Int) = ((5 : Nat) : Int) from rfl, cut_to]
            exact List.take_of_length_le (by omega)
          refine q (hs, as) _ _ ⟨by simp only [hs, List.length_map]; exact hwr.head, ho1, ho5, hax, fun x hx => ?_⟩ (by simp only [hs, List.length_map]) ((gp K pot l).tr hR11 e1z) (.tup ⟨oz, upd_same, hoz⟩ (.cons (nhs'.t ((gp K pot l).tx e1z)) (.cons ?_ .nil)))
          · have h1 := List.all_eq_true.mp hb x hx
            have h2 := (List.mem_filter.mp (of_decide_eq_true h1)).2
            exact of_decide_eq_true h2
          · have nvz := nv11.t ((gp K pot l).tx e1z)
            refine .tup ?_ nvz
            have hpt : PT (upd (upd H12 sp (.lst (cutV xs none (some 5)))) tq (.frz oq (.tup (cutV xs none (some 5))))) tq (cutV xs none (some 5)) := ⟨oq, upd_same, hoq⟩
            have := ((gp K pot l).tx n3).2 _ _ hpt
            have goal : ∀ ys, ys = xs → PT (upd (upd (upd H12 sp (.lst (cutV xs none (some 5)))) tq (.frz oq (.tup (cutV xs none (some 5))))) tz (.frz oz (.tup [hsv, .ref tq]))) tq ys → PT (upd (upd (upd H12 sp (.lst (cutV xs none (some 5)))) tq (.frz oq (.tup (cutV xs none (some 5))))) tz (.frz oz (.tup [hsv, .ref tq]))) tq xs := fun ys e h => e ▸ h
            exact goal _ hcut this
        · have c112 := c1.t ((gp K pot l).tx ((gp K pot l).tr hR11 e12))
          cases c112 with
          | @tup hb0 hws _ d1 d2 =>
          have hwl : hws.length = r.1.length := by rw [d2.len, List.length_map]
          refine ⟨.ref pot, rfl, .ref hb0, rfl, hb0, hws, rfl, .inr d1.sq, pot, l, 3, _, rfl, e12.2.1, by decide, by decide, by omega, by have := hwr.head; omega, fun r' v' H13 hw' hl' _ e13 nv' => ?_⟩
          exact q r' v' H13 hw' (by omega) ((gp K pot l).tr ((gp K pot l).tr hR11 e12) e13) nv'
end
end Ew
set_option Elab.async false
set_option linter.all false
set_option maxRecDepth 100000
set_option maxHeartbeats 4000000
namespace Ew
open PySem PySem.Spec PyProof.Rows L2
open Evl (Ex)
/-! ### the values in facts, told -/
def valsL : List Nk := [.num 0, .num 1, .num 2, .num 3, .num 4, .num 5, .num 6, .num 7, .text "a"]
theorem valsL_ok : ∀ d ∈ valsL, (toPy d).showable = true ∧ (reprN d).length ≤ 1000 ∧ d.depth = 0 := by decide +kernel
theorem valsL_nodup : (valsL.map reprN).Nodup := by decide +kernel
theorem reprV_inj {d e : Nk} (hd : d ∈ valsL) (he : e ∈ valsL) (h : reprN d = reprN e) : d = e := by
  have key : ∀ (l : List Nk), (l.map reprN).Nodup → ∀ a ∈ l, ∀ b ∈ l, reprN a = reprN b → a = b := by
    intro l
    induction l with
    | nil => intro _ a ha; exact (nomatch ha)
    | cons c l ih =>
      intro hn a ha b hb e
      rw [List.map_cons, List.nodup_cons] at hn
      rcases List.mem_cons.mp ha with ha | ha
      · rcases List.mem_cons.mp hb with hb | hb
        · rw [ha, hb]
        · exact absurd (List.mem_map.mpr ⟨b, hb, by rw [← e, ha]⟩) hn.1
      · rcases List.mem_cons.mp hb with hb | hb
        · exact absurd (List.mem_map.mpr ⟨a, ha, by rw [e, hb]⟩) hn.1
        · exact ih hn.2 a ha b hb e
  exact key valsL valsL_nodup d hd e he h
theorem vals3_L {c : Nk} (h : c ∈ vals3) : c ∈ valsL := by
  simp only [vals3, List.mem_cons, List.mem_nil_iff, or_false] at h
  rcases h with rfl | rfl | rfl <;> simp [valsL]
/-- facts as the law meets them -/
def FsOk (fs : List Fact) : Prop := ∀ f ∈ fs, Tab f.1 ∧ f.2.length = arN f.1 ∧ ∀ d ∈ f.2, d ∈ valsL
theorem FsOk.wf {fs : List Fact} (h : FsOk fs) : WfFs fs := fun f hf => ⟨(h f hf).1, (h f hf).2.1, fun d hd => by rw [(valsL_ok d ((h f hf).2.2 d hd)).2.2]; omega⟩
/-! ### the law's own ways -/
abbrev Wy := List (Str × Nk) × List Nat
def meansP (fs : List Fact) : List Atom → List (Str × Nk) → List Wy
  | [], m => [(m, [])]
  | a :: as, m => (rowsOf fs a.1).flatMap fun r => match fitL nkId (a.2.zip r.2) m with
    | none => []
    | some m' => (meansP fs as m').map fun e => (e.1, e.2 ++ [r.1])
def rowW (fs : List Fact) (a : Atom) (as : List Atom) (m : List (Str × Nk)) (r : Nat × List Nk) : List Wy := match fitL nkId (a.2.zip r.2) m with
  | none => []
  | some m' => (meansP fs as m').map fun e => (e.1, e.2 ++ [r.1])
theorem meansP_cons (fs : List Fact) (a : Atom) (as : List Atom) (m : List (Str × Nk)) : meansP fs (a :: as) m = (rowsOf fs a.1).flatMap (rowW fs a as m) := rfl
def encW (h : List Str) (e : Wy) : Nk := .tup [headRow h e.1, .tup (e.2.map fun i => .num (i : Nat))]
theorem meansP_len {fs : List Fact} (h8 : fs.length ≤ 8) : ∀ (as : List Atom) (m : List (Str × Nk)), (meansP fs as m).length ≤ 8 ^ as.length
  | [], m => Nat.le_refl _
  | a :: as, m => by
    rw [meansP_cons, List.length_flatMap, List.length_cons, Nat.pow_succ]
    have h1 : ∀ r, (rowW fs a as m r).length ≤ 8 ^ as.length := fun r => by
      unfold rowW
      cases fitL nkId (a.2.zip r.2) m with
      | none => exact Nat.zero_le _
      | some m' =>
        rw [List.length_map]
        exact meansP_len h8 as m'
    have h2 : ∀ l : List (Nat × List Nk), (l.map fun r => (rowW fs a as m r).length).sum ≤ 8 ^ as.length * l.length := by
      intro l
      induction l with
      | nil => simp
      | cons r l ih =>
        rw [List.map_cons, List.sum_cons, List.length_cons, Nat.mul_succ]
        have := h1 r
        omega
    refine Nat.le_trans (h2 _) (Nat.mul_le_mul_left _ (Nat.le_trans (rowsOf_len fs a.1) h8))
/-- the law's step over a row's values -/
structure EnvOk (m : List (Str × Nk)) : Prop where
  vals : ∀ p ∈ m, p.2 ∈ valsL
end Ew
set_option Elab.async false
set_option linter.all false
set_option maxRecDepth 100000
set_option maxHeartbeats 4000000
namespace Ew
open PySem PySem.Spec PyProof.Rows L2
open Evl (Ex)
abbrev N__law_means : List Str := ["_law_rule_here", "_law_rows", "_law_known_here", "_law_name", "_law_found", "_law_table", "_law_terms", "_law_pair", "_law_new", "_law_fits_here", "_law_k", "_law_value", "_law_way"]
theorem sc__law_means : FnScope N__law_means ["_law_rule_here", "_law_rows", "_law_known_here"] (defScope s__law_means) := ⟨rfl, rfl, rfl, by decide +kernel, rfl, by decide +kernel, by decide +kernel⟩
/-- the law's two lists of rows -/
def RowsAt (K : PySem.W.Frag) (H : Hp) (ra : Addr) (fs : List Fact) : Prop := ∃ pe pp xe xp, H ra = some (.dK [(Sum.inr "e", .ref pe), (Sum.inr "p", .ref pp)]) ∧ H pe = some (.lst xe) ∧ NVs K H xe ((rowsOf fs "e").map encKR) ∧ H pp = some (.lst xp) ∧ NVs K H xp ((rowsOf fs "p").map encKR)
theorem RowsAt.ex {K : PySem.W.Frag} {H H' : Hp} {ra : Addr} {fs : List Fact} (h : RowsAt K H ra fs) (e : Ex H H') : RowsAt K H' ra fs := by
  obtain ⟨pe, pp, xe, xp, h1, h2, h3, h4, h5⟩ := h
  exact ⟨pe, pp, xe, xp, e _ _ h1, e _ _ h2, h3.ex e, e _ _ h4, h5.ex e⟩
theorem RowsAt.get {K : PySem.W.Frag} {H : Hp} {ra : Addr} {fs : List Fact} (h : RowsAt K H ra fs) {x : Str} (hx : Tab x) : ∃ p xs, (∀ H', Ex H H' → DGet H' ra (.str x) (some (.ref p))) ∧ H p = some (.lst xs) ∧ NVs K H xs ((rowsOf fs x).map encKR) := by
  obtain ⟨pe, pp, xe, xp, h1, h2, h3, h4, h5⟩ := h
  rcases hx with rfl | rfl
  · exact ⟨pe, xe, fun H' e => DGet.k (k := .inr "e") (e _ _ h1), h2, h3⟩
  · exact ⟨pp, xp, fun H' e => DGet.k (k := .inr "p") (e _ _ h1), h4, h5⟩
def sp_means (K : PySem.W.Frag) (n : Nat) : Sp := fun vs H Q _ => ∃ (rv : V) (ra ka : Addr) (h : List Str) (as : List Atom) (fs : List Fact) (m : List (Str × Nk)), vs = [rv, .ref ra, .ref ka] ∧ NV K H rv (encR (h, as)) ∧ as.length < n ∧ as.length ≤ 5 ∧ h.length ≤ 2 ∧ (∀ a ∈ as, WfA a) ∧ RowsAt K H ra fs ∧ FsOk fs ∧ fs.length ≤ 8 ∧
  DKA K H ka (encE m) ∧ (∀ p ∈ m, p.2 ∈ valsL) ∧ (m.map (·.1)).Nodup ∧ m.length + (tmsOf as).length ≤ 50 ∧ (∀ x ∈ h, (aGet m x).isSome ∨ Tm.var x ∈ tmsOf as) ∧ ∀ p H', Ex H H' → NL K H H' p ((meansP fs as m).map (encW h)) → Q (.ref p) H'
theorem iList_call3 {K : PySem.W.Frag} {sp : Sp} {σ : L2.St} {H : Hp} {te : TE} {R : It → Hp → Prop} (h : te σ H fun v H1 => ∃ u, σ[1]? = some (some u) ∧ ∃ z, σ[8]? = some (some z) ∧ sp [v, u, z] H1 (fun x H2 => ∃ p, x = .ref p ∧ (∃ xs, SqL K H2 p xs) ∧ R (Itl K p) H2) E0) : iList K (tCall sp [] E0 (tCons te (tCons (tVar 1) (tCons (tVar 8) tNil)))) σ H R := h
theorem sl_ev {r : V → Option Int → Option Int → Hp → VK → Prop} {te : TE} {tl th : TO} {σ : L2.St} {H : Hp} {Q : VK} (h : te σ H fun x H1 => tl σ H1 fun l H2 => th σ H2 fun u H3 => r x l u H3 Q) : tSl r te tl th σ H Q := h
theorem ed_catF {K : PySem.W.Frag} {G : Gw K} {σ : L2.St} {H : Hp} {ta tb : TE} {ds es : List Nk} (ha : ED G ta σ H (.tup ds)) (hb : ED G tb σ H (.tup es)) (hne : es ≠ []) (hz : ds.length + es.length ≤ 100000) : ED G (tOp (rCatF K) ta tb) σ H (.tup (ds ++ es)) :=
  ev_op ha (fun _ H1 a _ => hb.mono a) fun x y H1 H2 a n1 b n2 Q q => by
    have n1 := n1.t (G.tx b)
    cases n1 with
    | @tup p xs _ p1 p2 =>
    cases n2 with
    | @tup u ys _ u1 u2 =>
    have l1 := p2.len
    have l2 := u2.len
    refine ⟨p, u, xs, ys, rfl, rfl, p1.sq, u1.sq, by rw [sizeLine_eq]; omega, fun h => ?_, fun _ h => ?_, fun _ _ tp ob htp hob => ?_⟩
    · rw [h] at l1
      have hd0 : ds = [] := List.eq_nil_of_length_eq_zero l1.symm
      exact q _ H2 (G.rf (G.ok2 b)) (by rw [hd0]; exact .tup u1 u2)
    · rw [h] at l2
      exact absurd (List.eq_nil_of_length_eq_zero l2.symm) hne
    · have e := G.new (o := .frz ob (.tup (xs ++ ys))) (G.ok2 b) htp
      exact q _ _ e (.tup ⟨ob, upd_same, hob⟩ ((NVs.app u2 p2).t (G.tx e)))
theorem flat_len {fs : List Fact} (h8 : fs.length ≤ 8) (a : Atom) (as : List Atom) (m : List (Str × Nk)) (j : Nat) : (((rowsOf fs a.1).take j).flatMap (rowW fs a as m)).length ≤ 8 ^ as.length * 8 := by
  have h1 : ∀ r, (rowW fs a as m r).length ≤ 8 ^ as.length := fun r => by
    unfold rowW
    cases fitL nkId (a.2.zip r.2) m with
    | none => exact Nat.zero_le _
    | some m' =>
      rw [List.length_map]
      exact meansP_len h8 as m'
  have h2 : ∀ l : List (Nat × List Nk), (l.flatMap (rowW fs a as m)).length ≤ 8 ^ as.length * l.length := by
    intro l
    induction l with
    | nil => simp
    | cons r l ih =>
      rw [List.flatMap_cons, List.length_append, List.length_cons, Nat.mul_succ]
      have := h1 r
      omega
  refine Nat.le_trans (h2 _) (Nat.mul_le_mul_left _ ?_)
  rw [List.length_take]
  have := rowsOf_len fs a.1
  omega
theorem meansP_idx {fs : List Fact} : ∀ {as : List Atom} {m : List (Str × Nk)} (e : Wy), e ∈ meansP fs as m → e.2.length = as.length
  | [], m, e, he => by rw [List.mem_singleton.mp he]; rfl
  | a :: as, m, e, he => by
    rw [meansP_cons] at he
    obtain ⟨r, _, h1⟩ := List.mem_flatMap.mp he
    unfold rowW at h1
    cases hf : fitL nkId (a.2.zip r.2) m with
    | none => rw [hf] at h1; exact (nomatch h1)
    | some m' =>
      rw [hf] at h1
      obtain ⟨e', h2, rfl⟩ := List.mem_map.mp h1
      have := meansP_idx e' h2
      simp [this]
theorem aPut_same {κ β : Type} [DecidableEq κ] : ∀ {m : List (κ × β)} {k : κ} {v : β}, (m.map (·.1)).Nodup → aGet m k = some v → aPut m k v = m := by
  intro m k v hn hg
  rw [aPut_old hg]
  induction m with
  | nil => rfl
  | cons p m ih =>
    rw [List.map_cons, List.nodup_cons] at hn
    by_cases c : p.1 = k
    · rw [aGet_pos c] at hg
      cases hg
      rw [List.map_cons, if_pos c]
      congr 1
      rw [List.map_congr_left (g := id), List.map_id]
      intro y hy
      exact if_neg fun z => hn.1 (List.mem_map.mpr ⟨y, hy, z.trans c.symm⟩)
    · rw [aGet_neg c] at hg
      rw [List.map_cons, if_neg c, ih hn.2 hg]
section
variable {K : PySem.W.Frag} {σ : L2.St} {H : Hp} {te : TE} {d : Nk}
theorem ed_rpV (h : ED (gx K) te σ H d) (hd : d ∈ valsL) : ED (gx K) (tCB (rRepr K) (tCons te tNil)) σ H (.text (reprN d)) :=
  ev_cb (ea_one h) fun vs H2 r p Q q => by
    obtain ⟨v, rfl, nv⟩ := p
    obtain ⟨h1, h2, h3⟩ := valsL_ok d hd
    have hdp : (toPy d).depth ≤ 60 := Nat.le_trans (toPy_depth _) (by rw [h3]; decide)
    exact ⟨v, d, rfl, nv, h1, Nat.le_trans h2 (by rw [sizeLine_eq]; decide), hdp, q _ H2 (Ex.refl _) (.str _)⟩
end
section
variable {P : Program} {w : World} {K : PySem.W.Frag} {mg : Str → Option Value} {base : Heap}
theorem ok_means0 {k : Nat} {f : Addr} {fd : FuncData} : FnG P w K mg base k f fd ["_law_rule_here", "_law_rows", "_law_known_here"] (sp_means K 0) :=
  ⟨fun vs H Q E h => by obtain ⟨rv, ra, ka, hd, as, fs, m, rfl, _⟩ := h; rfl, fun A outer s H args us vs Q E _ _ _ _ _ h => by obtain ⟨_, _, _, _, _, _, _, _, _, h, _⟩ := h; exact absurd h (Nat.not_lt_zero _)⟩
theorem ok_means1 {k n : Nat} {f : Addr} {fd : FuncData} (F : FnP K "_law_means" "_law_means" s__law_means f fd) (T : Txt mg) (c__law_means : CalleeG P w K mg base "_law_means" k ["_law_rule_here", "_law_rows", "_law_known_here"] (sp_means K n)) :
    FnG P w K mg base (k + 1) f fd ["_law_rule_here", "_law_rows", "_law_known_here"] (sp_means K (n + 1)) := by
  refine mk_okG F sc__law_means (fun vs H Q E h => ?_) (fun cdv A outer s H vs Q E hgu hr h => ?_)
  · obtain ⟨rv, ra, ka, hd, as, fs, m, rfl, _⟩ := h
    rfl
  · obtain ⟨rv, ra, ka, h, as, fs, m, rfl, hv, hn, h5, hh2, hwa, hrw, hfs, h8, hka, hmv, hmn, hml, hhd, q⟩ := h
    have nd := sc__law_means.nd
    refine ⟨_, (pss_cons (ps_if (pt_cmpR (k_eq (K := K) hr.units) (k_cb T.f_len (k_len (K := K)) (pa_cons (k_ixT (K := K) (pv 0) pe_int) pa_nil)) pe_int (nomark _)) (pss_one (ps_ret (pe_lst (pa_cons (pe_tupF (pa_cons (k_tuple (K := K) T (pe_lc (own := [("_law_name", 3)]) rfl nd (k_itup (K := K) (k_ixT (K := K) (pv 0) pe_int)) (blkOk_by (N := N__law_means) (sc := defScope s__law_means) (by decide +kernel)) (fun _ _ _ _ _ => (pg_name (i := 3) nd rfl (by first | exact Or.inl rfl | exact Or.inr rfl))) (fun _ _ _ _ _ => pts_nil) (fun _ _ _ _ _ => (pe_dget (hu_of hr) (pv 2) (pv 3) (fun _ _ => rfl))))) (pa_cons (pe_tupF pa_nil) pa_nil))) pa_nil)))) pss_nil) (pss_cons (ps_set (i := 4) nd rfl (by first | exact Or.inl rfl | exact Or.inr rfl) (pe_lst pa_nil)) (pss_cons (ps_asg (k_ixT (K := K) (k_ixT (K := K) (pv 0) pe_int) pe_int) (k_pgt (K := K) (n := 2) (pgs_cons (pg_name (i := 5) nd rfl (by first | exact Or.inl rfl | exact Or.inr rfl)) (pgs_cons (pg_name (i := 6) nd rfl (by first | exact Or.inl rfl | exact Or.inr rfl)) pgs_nil)))) (pss_cons (ps_for PassesOwn.never rfl (k_ilist (K := K) (pe_dget (hu_of hr) (pv 1) (pv 5) (fun _ _ => rfl))) (pg_name (i := 7) nd rfl (by first | exact Or.inl rfl | exact Or.inr rfl)) (pss_cons (ps_set (i := 8) nd rfl (by first | exact Or.inl rfl | exact Or.inr rfl) (k_cty T.f_dict (call_dictD) (pa_cons (pv 2) pa_nil))) (pss_cons (ps_set (i := 9) nd rfl (by first | exact Or.inl rfl | exact Or.inr rfl) pe_bl) (pss_cons (ps_for PassesOwn.never rfl (k_range T (pa_cons (k_cb T.f_len (k_len (K := K)) (pa_cons (pv 6) pa_nil)) pa_nil)) (pg_name (i := 10) nd rfl (by first | exact Or.inl rfl | exact Or.inr rfl)) (pss_cons (ps_set (i := 11) nd rfl (by first | exact Or.inl rfl | exact Or.inr rfl) (k_ixT (K := K) (k_ixT (K := K) (pv 6) (pv 10)) pe_int)) (pss_cons (ps_if (pt_cmpR (k_eq (K := K) hr.units) (k_ixT (K := K) (k_ixT (K := K) (pv 6) (pv 10)) pe_int) pe_str (nomark _)) (pss_cons (ps_set (i := 11) nd rfl (by first | exact Or.inl rfl | exact Or.inr rfl) (pe_dget2 (hu_of hr) (pv 8) (k_ixT (K := K) (k_ixT (K := K) (pv 6) (pv 10)) pe_int) (k_ixT (K := K) (k_ixT (K := K) (pv 7) pe_int) (pv 10)) ⟨rfl, rfl, rfl, rfl⟩)) (pss_one (ps_dput (hu_of hr) (pv 8) (k_ixT (K := K) (k_ixT (K := K) (pv 6) (pv 10)) pe_int) (k_ixT (K := K) (k_ixT (K := K) (pv 7) pe_int) (pv 10)) rfl))) pss_nil) (pss_one (ps_set (i := 9) nd rfl (by first | exact Or.inl rfl | exact Or.inr rfl) (pe_and (pv 9) (pe_one (pe_cmpR (k_eq (K := K) hr.units) (k_cb T.f_repr (k_repr (K := K) hgu (hu80 hr)) (pa_cons (pv 11) pa_nil)) (k_cb T.f_repr (k_repr (K := K) hgu (hu80 hr)) (pa_cons (k_ixT (K := K) (k_ixT (K := K) (pv 7) pe_int) (pv 10)) pa_nil)) (nomark _))))))))) (pss_one (ps_if (pt_val (pv 9)) (pss_one (ps_for PassesOwn.never rfl (k_ilist (K := K) (pe_calG c__law_means hgu hr (pa_cons (pe_tupF (pa_cons (k_ixT (K := K) (pv 0) pe_int) (pa_cons (k_slT (K := K) (k_ixT (K := K) (pv 0) pe_int) (po_some pe_int) po_none) pa_nil))) (pa_cons (pv 1) (pa_cons (pv 8) pa_nil))))) (pg_name (i := 12) nd rfl (by first | exact Or.inl rfl | exact Or.inr rfl)) (pss_one (ps_expr (k_append (K := K) (pv 4) (pa_cons (pe_tupF (pa_cons (k_ixT (K := K) (pv 12) pe_int) (pa_cons (pe_op (k_catT (K := K)) (k_ixT (K := K) (pv 12) pe_int) (pe_tupF (pa_cons (k_ixT (K := K) (pv 7) pe_int) pa_nil))) pa_nil))) pa_nil)))))) pss_nil)))))) (pss_one (ps_ret (pv 4))))))), ?_⟩
    have edAs : ∀ (σ : L2.St) (H' : Hp), Ex H H' → σ[0]? = some (some rv) → ED (gx K) (tOp (rIxT K) (tVar 0) (tC (.int 1))) σ H' (.tup (as.map encA)) := fun σ H' e h0 => ed_ix (i := 1) (ed_var (d := encR (h, as)) h0 (hv.ex e)) ed_int rfl
    have edHd : ∀ (σ : L2.St) (H' : Hp), Ex H H' → σ[0]? = some (some rv) → ED (gx K) (tOp (rIxT K) (tVar 0) (tC (.int 0))) σ H' (.tup (h.map .text)) := fun σ H' e h0 => ed_ix (i := 0) (ed_var (d := encR (h, as)) h0 (hv.ex e)) ed_int rfl
    refine q_when (G := gx K) trivial (et_test (eb_eqN (ed_len (ED.seq (edAs _ H (Ex.refl _) rfl))) ed_int (by simp [NestedKey.depth]))) (fun hb H1 e1 => ?_) fun hb H1 e1 => ?_
    · -- no atoms
      have has : as = [] := by
        have hb := of_decide_eq_true hb
        injection hb with hb
        rw [List.length_map] at hb
        exact List.eq_nil_of_length_eq_zero (Int.ofNat.inj hb)
      subst has
      have elH : EL (gx K) (tLc (iTup K (tOp (rIxT K) (tVar 0) (tC (.int 0)))) (gName 3) tYes (tDGet (tVar 2) (tVar 3)) [3]) (start N__law_means [rv, .ref ra, .ref ka]) H1 (h.map fun x => (aGet m x).getD .none) :=
        el_lcB (vs := [3]) (g := gName 3) NestedKey.text (fun x => (aGet m x).getD .none) (edHd _ H1 e1 rfl) (by omega) fun i x v H2 r2 hx nx => ⟨_, st_name, rfl, by
          have hb : (aGet m x).isSome := (hhd x (List.mem_of_getElem? hx)).elim id fun z => (nomatch z)
          obtain ⟨z, hz⟩ := Option.isSome_iff_exists.mp hb
          refine ed_eq (d := z) ?_ (by rw [hz]; rfl)
          exact ed_dget (m := encE m) (k := .inr x) (ea_var rfl) (fun H3 r3 => hka.mono (Tx.ex ((e1.trans r2).trans r3)) (((e1.trans r2).trans r3) ka)) (ed_var rfl nx) (by rw [encE_get]; exact hz)⟩
      refine s_ret (G := gx K) trivial (el_lst (eds_cons (ed_tup (eds_cons (ed_tupleL elH) (eds_cons (ed_tup eds_nil) eds_nil))) eds_nil)) fun v H2 e2 hp => ?_
      obtain ⟨p, rfl, hp0, xs, hx, hxs⟩ := hp
      exact q p H2 (e1.trans e2) ⟨Evl.fresh_back e1 hp0, xs, hx, hxs⟩
    · cases as with
      | nil => exact absurd hb (by simp)
      | cons a as =>
      have hwA := hwa a List.mem_cons_self
      -- found
      refine q_asg (G := gx K) trivial (el_lst eds_nil) fun v H2 e2 hp => ?_
      obtain ⟨D, rfl, hD1, ds, hD2, hds⟩ := hp
      cases hds
      have hD0 : H D = none := Evl.fresh_back e1 hD1
      have e02 := e1.trans e2
      -- table, terms
      refine seqI ?_
      have edA : ED (gx K) (tOp (rIxT K) (tOp (rIxT K) (tVar 0) (tC (.int 1))) (tC (.int 0))) [some rv, some (.ref ra), some (.ref ka), none, some (.ref D), none, none, none, none, none, none, none, none] H2 (encA a) := ed_ix (i := 0) (edAs _ H2 e02 rfl) ed_int rfl
      refine edA H2 (Ex.refl _) _ fun av H3 e3 nav => ?_
      cases nav with
      | @tup T0 ws _ b1 b2 =>
      cases b2 with
      | @cons w1 vs1 _ _ c1 c2 =>
      cases c2 with
      | @cons w2 vs2 _ _ c3 c4 =>
      cases c4
      cases c1
      refine st_pair (G := gx K) b1.sq _ (Ex.refl _) _ ?_
      dsimp only
      have e03 := e02.trans e3
      -- for pair in rows[table]
      obtain ⟨pl, xr, hg0, hplH, hxrH⟩ := hrw.get hwA.tab
      have hpl0 : pl ≠ D := ne_of_none hplH hD0
      have hg : ∀ H', Ex H3 H' → DGet H' ra (.str a.1) (some (.ref pl)) := fun H' e => hg0 H' (e03.trans e)
      have hpl := e03 _ _ hplH
      have hxr := hxrH.ex e03
      have src : EvI (gx K) (iList K (tDGet (tVar 1) (tVar 5))) [some rv, some (.ref ra), some (.ref ka), none, some (.ref D), some (.str a.1), some w2, none, none, none, none, none, none] H3 (fun J H4 => J = Itl K pl ∧ Ex H3 H4) := fun H4 e4 Q q =>
        ⟨.ref ra, rfl, .str a.1, rfl, ra, .ref pl, rfl, hg H4 e4, pl, rfl, ⟨xr, SqL.of (e4 _ _ hpl)⟩, q _ H4 (Ex.refl _) ⟨rfl, e4⟩⟩
      refine q_for (G := gx K) trivial src fun J H4 e4 hJ => ?_
      obtain ⟨rfl, _⟩ := hJ
      have hxl : xr.length = (rowsOf fs a.1).length := by rw [hxr.len, List.length_map]
      have hD3 : H3 D = some (.lst []) := e3 _ _ hD2
      refine ⟨xr.length, _, _, fun j σ' H' => ∃ s7 s8 s9 s10 s11 s12 acc, σ' = [some rv, some (.ref ra), some (.ref ka), none, some (.ref D), some (.str a.1), some w2, s7, s8, s9, s10, s11, s12] ∧ (∀ b z, b ≠ D → H3 b = some z → H' b = some z) ∧ Tx K H3 H' ∧ H' D = some (.lst acc) ∧ NVs K H' acc ((((rowsOf fs a.1).take j).flatMap (rowW fs a as m)).map (encW h)), walk_list (K := K) (a := pl) (xs := xr),
        ⟨none, none, none, none, none, none, [], rfl, fun b z _ hb => e4 _ _ hb, Tx.ex e4, e4 _ _ hD3, .nil⟩, fun j σ' H' _ hp => ?_, fun j x σ' Ha Hb hj hp y => ?_, fun σ' H' hp => ?_⟩
      · obtain ⟨_, _, _, _, _, _, _, _, kp, _⟩ := hp
        exact SqL.of (kp _ _ hpl0 hpl)
      · obtain ⟨s7, s8, s9, s10, s11, s12, acc, rfl, kp, tx, hDa, hacc⟩ := hp
        obtain ⟨rfl, hx⟩ := y
        obtain ⟨dd, hdd, nx⟩ := hxr.getV hx
        rw [List.getElem?_map] at hdd
        cases hrj : (rowsOf fs a.1)[j]? with
        | none => rw [hrj] at hdd; cases hdd
        | some r =>
        rw [hrj] at hdd
        cases hdd
        have hrf := rowsOf_mem (List.mem_of_getElem? hrj)
        obtain ⟨g1, g2, g3⟩ := hfs _ (List.mem_of_getElem? hrf)
        have g2 : r.2.length = arN a.1 := g2
        have exH : Ex H Hb := fun b z hb => kp b z (ne_of_none hb hD0) (e03 _ _ hb)
        have nx : NV K Hb x (encKR r) := nx.t tx
        have c3b : NV K Hb w2 (.tup (a.2.map Tm.enc)) := c3.t tx
        have har := arN_le a.1
        have hal : a.2.length = arN a.1 := hwA.len
        refine nmI ?_
        dsimp only
        -- new = dict(known)
        refine seqI (asgI ?_)
        obtain ⟨kvs0, hk0, hk0r⟩ := hka.mono (Tx.ex exH) (exH ka)
        refine ⟨.ref ka, rfl, ka, kvs0, rfl, Rd.of hk0, fun nd hnd => ?_⟩
        have e5 : Ex Hb (upd Hb nd (.dK kvs0)) := Ex.new hnd
        have hnD : nd ≠ D := fun z => by rw [z, hDa] at hnd; cases hnd
        dsimp only
        -- fits = True
        refine seqI (asgI ?_)
        dsimp only [tC]
        -- for k in range(len(terms))
        have srcK : EvI (gx K) (iRng1 (tCons (tCB (rLenS K) (tCons (tVar 6) tNil)) tNil)) [some rv, some (.ref ra), some (.ref ka), none, some (.ref D), some (.str a.1), some w2, some x, some (.ref nd), some (.bl true), s10, s11, s12] (upd Hb nd (.dK kvs0)) (fun J _ => J = Itr 0 a.2.length) := fun H5 e6 Q q => by
          have c3c := (c3b.ex e5).ex e6
          cases c3c with
          | @tup tb ts _ d1 d2 =>
          have hl : ts.length = a.2.length := by rw [d2.len, List.length_map]
          exact ⟨.ref tb, rfl, tb, ts, rfl, .inr d1.sq, (ts.length : Nat), rfl, by omega, by omega, by rw [hl]; exact q _ H5 (Ex.refl _) rfl⟩
        refine q_for (G := gx K) trivial srcK fun J H5 e6 hJ => ?_
        subst hJ
        have hzl : (a.2.zip r.2).length = a.2.length := by rw [List.length_zip]; omega
        refine ⟨a.2.length, _, _, fun i σ' H' => ∃ s10 s11 ok m', σ' = [some rv, some (.ref ra), some (.ref ka), none, some (.ref D), some (.str a.1), some w2, some x, some (.ref nd), some (.bl ok), s10, s11, s12] ∧ Ex Hb H' ∧ DKA K H' nd (encE m') ∧ (∀ p ∈ m', p.2 ∈ valsL) ∧ (m'.map (·.1)).Nodup ∧ m'.length ≤ m.length + i ∧
            ((ok = true ∧ fitL nkId ((a.2.zip r.2).take i) m = some m') ∨ (ok = false ∧ fitL nkId ((a.2.zip r.2).take i) m = none)), walk_range (lo := 0) (n := a.2.length),
          ⟨s10, s11, true, m, rfl, e5.trans e6, ⟨kvs0, e6 _ _ upd_same, hk0r.imp fun _ _ z => (z.ex e5).ex e6⟩, hmv, hmn, by omega, .inl ⟨rfl, rfl⟩⟩, fun _ _ _ _ _ => trivial, fun i z σ' Hc Hd hi hp y => ?_, fun σ' H' hp => ?_⟩
        · obtain ⟨s10, s11, ok, m', rfl, exd, hdk, hmv', hmn', hml', hfit⟩ := hp
          obtain ⟨rfl, hz⟩ := y
          have hz : z = V.int (0 + (i : Nat)) := hz
          rw [Int.zero_add] at hz
          subst hz
          have hti : a.2[i]? = some a.2[i] := List.getElem?_eq_getElem hi
          have hir : i < r.2.length := by omega
          have hui : r.2[i]? = some r.2[i] := List.getElem?_eq_getElem hir
          have hwt := hwA.tms _ (List.mem_of_getElem? hti)
          have huL := g3 _ (List.mem_of_getElem? hui)
          generalize a.2[i] = t at hti hwt
          generalize r.2[i] = u at hui huL
          have hzi : (a.2.zip r.2)[i]? = some (t, u) := List.getElem?_zip_eq_some.mpr ⟨hti, hui⟩
          refine nmI ?_
          have edT : ∀ (σ : L2.St) (H' : Hp), Ex Hd H' → σ[6]? = some (some w2) → σ[10]? = some (some (.int (i : Nat))) → ED (gx K) (tOp (rIxT K) (tVar 6) (tVar 10)) σ H' t.enc := fun σ H' e h6 h10 => ed_ix (i := i) (ed_var h6 ((c3b.ex exd).ex e)) (ed_var h10 (.int _)) (by rw [List.getElem?_map, hti]; rfl)
          have edU : ∀ (σ : L2.St) (H' : Hp), Ex Hd H' → σ[7]? = some (some x) → σ[10]? = some (some (.int (i : Nat))) → ED (gx K) (tOp (rIxT K) (tOp (rIxT K) (tVar 7) (tC (.int 1))) (tVar 10)) σ H' u := fun σ H' e h7 h10 => ed_ix (i := i) (ed_ix (i := 1) (ed_var (d := encKR r) h7 ((nx.ex exd).ex e)) ed_int rfl) (ed_var h10 (.int _)) hui
          refine q_asg (G := gx K) trivial (ed_cont (edT _ Hd (Ex.refl _) rfl rfl)) fun cv H6 e7 ncv => ?_
          refine q_when2 (G := gx K) (fun σ' H' => ∃ (vv : V) (d : Nk) (m'' : List (Str × Nk)), σ' = [some rv, some (.ref ra), some (.ref ka), none, some (.ref D), some (.str a.1), some w2, some x, some (.ref nd), some (.bl ok), some (.int (i : Nat)), some vv, s12] ∧ Ex Hb H' ∧ NV K H' vv d ∧ d ∈ valsL ∧ DKA K H' nd (encE m'') ∧ (∀ p ∈ m'', p.2 ∈ valsL) ∧ (m''.map (·.1)).Nodup ∧ m''.length ≤ m'.length + 1 ∧
            fit1 nkId m' t u = if d = u then some m'' else none) trivial (et_isVar (edT _ H6 e7 rfl rfl)) (fun σ' H7 hs => ?_) (fun hb H7 e8 nx2 hnx => ?_) fun hb H7 e8 => ?_
          · -- fits = fits and repr(value) == repr(..)
            obtain ⟨vv, d, m'', rfl, ex7, nvv, hdL, hdk7, hmv7, hmn7, hml7, hf1⟩ := hs
            have edU7 : ED (gx K) (tOp (rIxT K) (tOp (rIxT K) (tVar 7) (tC (.int 1))) (tVar 10)) [some rv, some (.ref ra), some (.ref ka), none, some (.ref D), some (.str a.1), some w2, some x, some (.ref nd), some (.bl ok), some (.int (i : Nat)), some vv, s12] H7 u := ed_ix (i := i) (ed_ix (i := 1) (ed_var (d := encKR r) rfl (nx.ex ex7)) ed_int rfl) (ed_var rfl (.int _)) hui
            refine s_asg (G := gx K) trivial (eb_and (a := ok) (b := decide (NestedKey.text (reprN d) = .text (reprN u))) (ev_var (v := .bl ok) rfl fun _ _ => rfl) fun _ => eb_eqN (ed_rpV (ed_var rfl nvv) hdL) (ed_rpV edU7 huL)) fun v H8 e9 hv8 => ?_
            subst hv8
            refine ⟨_, _, _, m'', rfl, ex7.trans e9, hdk7.mono (Tx.ex e9) (e9 nd), hmv7, hmn7, by omega, ?_⟩
            rcases hfit with ⟨rfl, hfi⟩ | ⟨rfl, hfi⟩
            · have hst := fitL_take nkId (a.2.zip r.2) i (t, u) m m' hzi hfi
              rw [hst, hf1]
              by_cases hdu : d = u
              · rw [if_pos hdu, hdu]
                exact .inl ⟨by simp, rfl⟩
              · rw [if_neg hdu]
                refine .inr ⟨?_, rfl⟩
                have hne : ¬ (NestedKey.text (reprN d) = .text (reprN u)) := fun e => hdu (reprV_inj hdL huL (by injection e))
                rw [decide_eq_false hne]
                rfl
            · refine .inr ⟨rfl, ?_⟩
              have h1 : (a.2.zip r.2).take i = ((a.2.zip r.2).take (i + 1)).take i := by rw [List.take_take, Nat.min_eq_left (Nat.le_succ i)]
              rw [h1] at hfi
              exact fitL_none nkId ((a.2.zip r.2).take (i + 1)) i m hfi
          · cases t with
            | val c => cases hb
            | var y =>
              have e78 := e7.trans e8
              have hdk7 : DKA K H7 nd (encE m') := hdk.mono (Tx.ex e78) (e78 nd)
              -- value = new.get(name, ..)
              refine seqI (asgI ?_)
              refine ⟨.ref nd, rfl, nd, rfl, ?_⟩
              obtain ⟨kvs, hk1, hk2⟩ := hdk7
              refine ⟨.inl ⟨kvs, .inl hk1⟩, ?_⟩
              have edN : ∀ (σ : L2.St) (H' : Hp), Ex Hd H' → σ[6]? = some (some w2) → σ[10]? = some (some (.int (i : Nat))) → ED (gx K) (tOp (rIxT K) (tOp (rIxT K) (tVar 6) (tVar 10)) (tC (.int 1))) σ H' (.text y) := fun σ H' e h6 h10 => ed_cont (t := .var y) (edT σ H' e h6 h10)
              refine edN _ H7 e78 rfl rfl H7 (Ex.refl _) _ fun yv H8 e9 nyv => ?_
              cases nyv
              refine edU _ H8 (e78.trans e9) rfl rfl H8 (Ex.refl _) _ fun uv H9 e10 nuv => ?_
              have e910 := e9.trans e10
              have hk9 := e910 _ _ hk1
              have hk29 := hk2.imp fun _ _ z => z.ex e910
              refine ⟨_, DGet.k (k := .inr y) hk9, ?_⟩
              have nvd : NV K H9 ((valV kvs (Sum.inr y)).getD uv) ((aGet m' y).getD u) ∧ (aGet m' y).getD u ∈ valsL := by
                cases hv : valV kvs (Sum.inr y) with
                | none =>
                  have := mrel_none hk29 hv
                  rw [encE_get] at this
                  rw [this]
                  exact ⟨nuv, huL⟩
                | some z =>
                  obtain ⟨d, hd1, hd2⟩ := mrel_val hk29 hv
                  rw [encE_get] at hd1
                  rw [hd1]
                  exact ⟨hd2, hmv' _ (aGet_mem hd1)⟩
              generalize (valV kvs (Sum.inr y)).getD uv = vv at nvd
              dsimp only
              -- new[name] = ..
              have e79 := e78.trans e910
              refine edU _ H9 e79 rfl rfl H9 (Ex.refl _) _ fun uv2 H10 e11 nuv2 => ?_
              refine ⟨.ref nd, rfl, ?_⟩
              have e7a := e79.trans e11
              refine edN _ H10 e7a rfl rfl H10 (Ex.refl _) _ fun yv H11 e12 nyv => ?_
              cases nyv
              have e911 := e11.trans e12
              have hk11 := e911 _ _ hk9
              have hkl := hk2.len
              rw [encE, List.length_map] at hkl
              refine ⟨nd, _, rfl, DPut.k (k := .inr y) hk11 (by rw [sizeLine_eq]; omega), ?_⟩
              have tu : Tx K H11 (upd H11 nd (.dK (putK kvs (.inr y) uv2))) := Tx.upd (.inr (by rw [hk11]; trivial))
              refine hnx _ _ ⟨vv, (aGet m' y).getD u, aPut m' y u, rfl, (((exd.trans e7a).trans e12)).mut hnd, (nvd.1.ex e911).t tu, nvd.2, ⟨_, upd_same, ?_⟩, fun p hp => ?_, aPut_nodup hmn', aPut_len _ _ _, ?_⟩
              · rw [← encE_put]
                exact MRel.put (hk29.imp fun _ _ z => (z.ex e911).t tu) (.inr y) ((nuv2.ex e12).t tu)
              · cases hga : aGet m' y with
                | none =>
                  rw [aPut_new hga] at hp
                  rcases List.mem_append.mp hp with hp | hp
                  · exact hmv' p hp
                  · rw [List.mem_singleton.mp hp]; exact huL
                | some z =>
                  rw [aPut_old hga] at hp
                  obtain ⟨p0, hp0, e⟩ := List.mem_map.mp hp
                  split at e
                  · rw [← e]; exact huL
                  · rw [← e]; exact hmv' p0 hp0
              · cases hga : aGet m' y with
                | none => rw [fit1_new hga]; simp
                | some z =>
                  rw [fit1_old hga]
                  show (if z = u then some m' else none) = if z = u then some (aPut m' y u) else none
                  by_cases hzu : z = u
                  · rw [if_pos hzu, if_pos hzu, aPut_same hmn' (by rw [hga, hzu])]
                  · rw [if_neg hzu, if_neg hzu]
          · cases t with
            | var y => cases hb
            | val c =>
              have e78 := e7.trans e8
              exact ⟨cv, c, m', rfl, exd.trans e78, ncv.ex e8, vals3_L hwt, hdk.mono (Tx.ex e78) (e78 nd), hmv', hmn', by omega, rfl⟩
        · -- is it a fit
          obtain ⟨s10, s11, ok, m', rfl, exd, hdk, hmv', hmn', hml', hfit⟩ := hp
          have hzt : (a.2.zip r.2).take a.2.length = a.2.zip r.2 := List.take_of_length_le (by omega)
          rw [hzt] at hfit
          have txb : Tx K H3 H' := tx.trans (Tx.ex exd)
          have enext : ((((rowsOf fs a.1).take (j + 1)).flatMap (rowW fs a as m)).map (encW h)) = ((((rowsOf fs a.1).take j).flatMap (rowW fs a as m)).map (encW h)) ++ (rowW fs a as m r).map (encW h) := by
            rw [List.take_add_one, hrj, List.flatMap_append, List.map_append]
            show _ ++ List.map _ (List.flatMap _ [r]) = _
            rw [List.flatMap_cons, List.flatMap_nil, List.append_nil]
          refine s_when (G := gx K) (b := ok) trivial (et_B (ev_var (v := .bl ok) rfl fun _ _ => rfl)) (fun hb H6 e7 => ?_) fun hb H6 e7 => ?_
          · rcases hfit with ⟨_, hf⟩ | ⟨h1, _⟩
            rotate_left
            · rw [h1] at hb; cases hb
            have exb := exd.trans e7
            have exH6 : Ex H H6 := fun b z hz => exb _ _ (exH b z hz)
            have hdk6 : DKA K H6 nd (encE m') := hdk.mono (Tx.ex e7) (e7 nd)
            obtain ⟨f1, f2, f3, f4, f5⟩ := fitL_spec hf
            have hzf : (a.2.zip r.2).map (·.1) = a.2 := List.map_fst_zip (by omega)
            have htm : (tmsOf (a :: as)).length = a.2.length + (tmsOf as).length := by simp [tmsOf]
            have hlen : as.length + 1 ≤ 5 := h5
            have hrow : rowW fs a as m r = (meansP fs as m').map fun e => (e.1, e.2 ++ [r.1]) := by unfold rowW; rw [hf]
            have edSl : ∀ H7, Ex H6 H7 → ED (gx K) (tSl (rSlF K) (tOp (rIxT K) (tVar 0) (tC (.int 1))) (tPart (tC (.int 1))) tNoPart) [some rv, some (.ref ra), some (.ref ka), none, some (.ref D), some (.str a.1), some w2, some x, some (.ref nd), some (.bl ok), s10, s11, s12] H7 (.tup (as.map encA)) := fun H7 e8 H8 e9 Q q => sl_ev (by
              refine edAs _ H8 ((exH6.trans e8).trans e9) rfl H8 (Ex.refl _) _ fun asv H9 e10 nas => ?_
              cases nas with
              | @tup ab us _ a1 a2 =>
              have hul : us.length = as.length + 1 := by rw [a2.len, List.length_map, List.length_cons]
              refine ⟨1, rfl, ab, us, rfl, a1.sq, cut1_ne (by omega), fun sp ob hsp hob => ?_⟩
              have e11 : Ex H9 (upd H9 sp (.frz ob (.tup (cutV us (some 1) none)))) := Ex.new hsp
              refine q _ _ (e10.trans e11) (.tup ⟨ob, upd_same, hob⟩ ?_)
              have hd : NVs K (upd H9 sp (.frz ob (.tup (cutV us (some 1) none)))) (us.drop 1) (as.map encA) := nvs_drop 1 (a2.ex e11)
              have goal : ∀ ys, ys = us.drop 1 → NVs K (upd H9 sp (.frz ob (.tup (cutV us (some 1) none)))) ys (as.map encA) := fun ys e => e ▸ hd
              exact goal _ (cut1 (by omega)))
            have srcW : EvI (gx K) (iList K (tCall (sp_means K n) [] E0 (tCons (tTupF (tCons (tOp (rIxT K) (tVar 0) (tC (.int 0))) (tCons (tSl (rSlF K) (tOp (rIxT K) (tVar 0) (tC (.int 1))) (tPart (tC (.int 1))) tNoPart) tNil))) (tCons (tVar 1) (tCons (tVar 8) tNil))))) [some rv, some (.ref ra), some (.ref ka), none, some (.ref D), some (.str a.1), some w2, some x, some (.ref nd), some (.bl ok), s10, s11, s12] H6 (fun J H7 => ∃ p ys, J = Itl K p ∧ H6 p = none ∧ H7 p = some (.lst ys) ∧ NVs K H7 ys ((meansP fs as m').map (encW h))) := fun H7 e8 Q q => iList_call3 (by
              refine (ed_tup (G := gx K) (ds := [.tup (h.map .text), .tup (as.map encA)]) (eds_cons (edHd _ H7 (exH6.trans e8) rfl) (eds_cons (edSl H7 e8) eds_nil))) H7 (Ex.refl _) _ fun v H8 e9 nv => ?_
              · refine ⟨.ref ra, rfl, .ref nd, rfl, ?_⟩
                have e89 := e8.trans e9
                refine ⟨v, ra, nd, h, as, fs, m', rfl, nv, by simp only [List.length_cons] at hn; omega, by omega, hh2, fun b hb => hwa b (List.mem_cons_of_mem _ hb), hrw.ex (exH6.trans e89), hfs, h8, hdk6.mono (Tx.ex e89) (e89 nd), hmv', hmn', by omega, fun y hy => ?_, fun p H9 e10 nl => ?_⟩
                · rcases hhd y hy with h1 | h1
                  · obtain ⟨z, hz⟩ := Option.isSome_iff_exists.mp h1
                    exact .inl (by rw [f1 y z hz]; rfl)
                  · rw [tmsOf, List.flatMap_cons, List.mem_append] at h1
                    rcases h1 with h1 | h1
                    · rw [← hzf] at h1
                      obtain ⟨z, hz1, hz2⟩ := List.mem_map.mp h1
                      have := f2 z hz1
                      rw [hz2] at this
                      have this : aGet m' y = some z.2 := this
                      exact .inl (by rw [this]; rfl)
                    · exact .inr h1
                · obtain ⟨n1, ys, n2, n3⟩ := nl
                  exact ⟨p, rfl, ⟨ys, SqL.of n2⟩, q _ H9 (e9.trans e10) ⟨p, ys, rfl, Evl.fresh_back e89 n1, n2, n3⟩⟩)
            refine s_for (G := gx K) trivial srcW fun J H7 e8 hJ => ?_
            obtain ⟨wp, ys, rfl, hwp0, hwp, hys⟩ := hJ
            have hD6 := exb _ _ hDa
            have hwD : wp ≠ D := fun z => by rw [z, hD6] at hwp0; cases hwp0
            have hyl : ys.length = (meansP fs as m').length := by rw [hys.len, List.length_map]
            have hxb : Ex Hb H7 := exb.trans e8
            have hflat := flat_len h8 a as m j
            have hmp := meansP_len h8 as m'
            have h84 : (8 : Nat) ^ as.length ≤ 4096 := Nat.le_trans (Nat.pow_le_pow_right (by decide) (show as.length ≤ 4 by omega)) (by decide)
            refine ⟨ys.length, _, _, fun i σ' H' => ∃ s12 acc', σ' = [some rv, some (.ref ra), some (.ref ka), none, some (.ref D), some (.str a.1), some w2, some x, some (.ref nd), some (.bl ok), s10, s11, s12] ∧ (∀ b z, b ≠ D → H7 b = some z → H' b = some z) ∧ Tx K H7 H' ∧ H' D = some (.lst acc') ∧
                NVs K H' acc' ((((rowsOf fs a.1).take j).flatMap (rowW fs a as m)).map (encW h) ++ (((meansP fs as m').map fun e => (e.1, e.2 ++ [r.1])).take i).map (encW h)), walk_list (K := K) (a := wp) (xs := ys),
              ⟨_, acc, rfl, fun _ _ _ z => z, Tx.refl K H7, hxb _ _ hDa, by rw [List.take_zero, List.map_nil, List.append_nil]; exact hacc.ex hxb⟩, fun i σ' H' _ hp => ?_, fun i z σ' Hc Hd hi hp y => ?_, fun σ' H' hp => ?_⟩
            · obtain ⟨_, _, _, kp7, _⟩ := hp
              exact SqL.of (kp7 _ _ hwD hwp)
            · obtain ⟨s12, acc', rfl, kp7, tx7, hD7, hacc7⟩ := hp
              obtain ⟨rfl, hz⟩ := y
              obtain ⟨dd, hdd, nz⟩ := hys.getV hz
              rw [List.getElem?_map] at hdd
              cases hei : (meansP fs as m')[i]? with
              | none => rw [hei] at hdd; cases hdd
              | some e =>
              rw [hei] at hdd
              cases hdd
              have nz : NV K Hd z (encW h e) := nz.t tx7
              have nxd : NV K Hd x (encKR r) := (nx.ex hxb).t tx7
              refine nmI ?_
              have ed12 : ED (gx K) (tVar 12) [some rv, some (.ref ra), some (.ref ka), none, some (.ref D), some (.str a.1), some w2, some x, some (.ref nd), some (.bl ok), s10, s11, some z] Hd (encW h e) := ed_var rfl nz
              have edW : ED (gx K) (tTupF (tCons (tOp (rIxT K) (tVar 12) (tC (.int 0))) (tCons (tOp (rCatF K) (tOp (rIxT K) (tVar 12) (tC (.int 1))) (tTupF (tCons (tOp (rIxT K) (tVar 7) (tC (.int 0))) tNil))) tNil))) [some rv, some (.ref ra), some (.ref ka), none, some (.ref D), some (.str a.1), some w2, some x, some (.ref nd), some (.bl ok), s10, s11, some z] Hd (encW h (e.1, e.2 ++ [r.1])) := by
                refine ed_eq (d := .tup [headRow h e.1, .tup (e.2.map (fun i => .num (i : Nat)) ++ [.num (r.1 : Nat)])]) ?_ (by rw [encW, List.map_append]; rfl)
                refine ed_tup (eds_cons (ed_ix (i := 0) ed12 ed_int rfl) (eds_cons (ed_catF (ed_ix (i := 1) ed12 ed_int rfl) (ed_tup (eds_cons (ed_ix (i := 0) (ed_var (d := encKR r) rfl nxd) ed_int rfl) eds_nil)) (by simp) ?_) eds_nil))
                have := meansP_idx e (List.mem_of_getElem? hei)
                simp
                omega
              refine s_app (G := gx K) (l := D) (xs := acc') trivial (ea_var rfl) edW (fun H8 e9 => e9 _ _ hD7) ?_ fun v H8 e9 nv => ?_
              · have h1 := hacc7.len
                rw [List.length_append, List.length_map, List.length_map, List.length_take, List.length_map] at h1
                omega
              · have hD8 := e9 _ _ hD7
                have tu : Tx K H8 (upd H8 D (.lst (acc' ++ [v]))) := Tx.upd (.inr (by rw [hD8]; trivial))
                refine ⟨_, _, rfl, fun b z n hz => by rw [upd_ne n]; exact e9 _ _ (kp7 b z n hz), (tx7.trans (Tx.ex e9)).trans tu, upd_same, ?_⟩
                rw [List.take_add_one, List.map_append, List.getElem?_map, hei, ← List.append_assoc]
                exact ((hacc7.ex e9).t tu).snoc (nv.t tu)
            · obtain ⟨s12, acc', rfl, kp7, tx7, hD7, hacc7⟩ := hp
              have hall : (((meansP fs as m').map fun e => (e.1, e.2 ++ [r.1])).take ys.length) = (meansP fs as m').map fun e => (e.1, e.2 ++ [r.1]) := List.take_of_length_le (by rw [List.length_map]; omega)
              rw [hall] at hacc7
              refine ⟨_, _, _, _, _, _, acc', rfl, fun b z n hz => kp7 b z n (hxb _ _ (kp b z n hz)), (tx.trans (Tx.ex hxb)).trans tx7, hD7, ?_⟩
              rw [enext, hrow]
              exact hacc7
          · rcases hfit with ⟨h1, _⟩ | ⟨_, hno⟩
            · rw [h1] at hb; cases hb
            · have exb := exd.trans e7
              refine ⟨_, _, _, _, _, _, acc, rfl, fun b z n hz => exb _ _ (kp b z n hz), tx.trans (Tx.ex exb), exb _ _ hDa, ?_⟩
              rw [enext, rowW, hno, List.map_nil, List.append_nil]
              exact hacc.ex exb
      · obtain ⟨s7, s8, s9, s10, s11, s12, acc, rfl, kp, tx, hDa, hacc⟩ := hp
        rw [hxl, List.take_length] at hacc
        refine ⟨.ref D, rfl, q D H' (fun b z hb => kp b z (ne_of_none hb hD0) (e03 _ _ hb)) ⟨hD0, acc, hDa, ?_⟩⟩
        rw [meansP_cons]
        exact hacc
theorem ok_means {k n : Nat} {f : Addr} {fd : FuncData} (F : FnP K "_law_means" "_law_means" s__law_means f fd) (T : Txt mg) (hg : mg "_law_means" = some (.ref f)) (kp : PySem.W.keepIn K (.ref f) = true) (bd : Binds K fd ["_law_rule_here", "_law_rows", "_law_known_here"] []) :
    FnG P w K mg base (k + n) f fd ["_law_rule_here", "_law_rows", "_law_known_here"] (sp_means K n) := by
  induction n with
  | zero => exact ok_means0
  | succ n ih => exact ok_means1 F T ⟨f, fd, ih, hg, kp, bd⟩
end
end Ew
set_option Elab.async false
set_option linter.all false
set_option maxRecDepth 100000
set_option maxHeartbeats 4000000
namespace Ew
open PySem PySem.Spec PyProof.Rows L2
open Evl (Ex)
abbrev N__law_ways : List Str := ["_law_rule_here", "_law_facts", "_law_rows", "_law_found", "_law_way", "_law_row"]
theorem sc__law_ways : FnScope N__law_ways ["_law_rule_here", "_law_facts"] (defScope s__law_ways) := ⟨rfl, rfl, rfl, by decide +kernel, rfl, by decide +kernel, by decide +kernel⟩
def srtIdx (is : List Nat) : Nk := .tup (sortN (is.map fun i => .num (i : Nat)))
def grpL1 (h : List Str) (g : List (Nk × List Nk)) (e : Wy) : List (Nk × List Nk) := aPut g (headRow h e.1) (((aGet g (headRow h e.1)).getD []) ++ [srtIdx e.2])
def grpL (h : List Str) (W : List Wy) : List (Nk × List Nk) := W.foldl (grpL1 h) []
theorem grpL_snoc (h : List Str) (W : List Wy) (e : Wy) : grpL h (W ++ [e]) = grpL1 h (grpL h W) e := by rw [grpL, List.foldl_append]; rfl
theorem grpL_nodup (h : List Str) (W : List Wy) : ((grpL h W).map (·.1)).Nodup := by
  have : ∀ (W : List Wy) (g : List (Nk × List Nk)), (g.map (·.1)).Nodup → ((W.foldl (grpL1 h) g).map (·.1)).Nodup := by
    intro W
    induction W with
    | nil => exact fun g hg => hg
    | cons e W ih => exact fun g hg => ih _ (aPut_nodup hg)
  exact this W [] List.nodup_nil
/-- every group: lists of the ways' lengths -/
theorem grpL_in (h : List Str) (W : List Wy) : (grpL h W).length ≤ W.length ∧ ∀ p ∈ grpL h W, p.2.length ≤ W.length ∧ (∃ e ∈ W, p.1 = headRow h e.1) ∧ ∀ d ∈ p.2, ∃ e ∈ W, d = srtIdx e.2 := by
  have : ∀ (W V : List Wy) (g : List (Nk × List Nk)), (g.length ≤ V.length ∧ ∀ p ∈ g, p.2.length ≤ V.length ∧ (∃ e ∈ V, p.1 = headRow h e.1) ∧ ∀ d ∈ p.2, ∃ e ∈ V, d = srtIdx e.2) →
      ((W.foldl (grpL1 h) g).length ≤ (V ++ W).length ∧ ∀ p ∈ W.foldl (grpL1 h) g, p.2.length ≤ (V ++ W).length ∧ (∃ e ∈ V ++ W, p.1 = headRow h e.1) ∧ ∀ d ∈ p.2, ∃ e ∈ V ++ W, d = srtIdx e.2) := by
    intro W
    induction W with
    | nil => intro V g hg; rw [List.append_nil]; exact hg
    | cons e W ih =>
      intro V g hg
      have e1 : V ++ e :: W = (V ++ [e]) ++ W := by simp
      rw [e1]
      refine ih (V ++ [e]) (grpL1 h g e) ⟨?_, fun p hp => ?_⟩
      · have h1 : (grpL1 h g e).length ≤ g.length + 1 := aPut_len g _ _
        rw [List.length_append, List.length_singleton]
        omega
      have hp : p ∈ aPut g (headRow h e.1) (((aGet g (headRow h e.1)).getD []) ++ [srtIdx e.2]) := hp
      have old : ∀ p ∈ g, p.2.length ≤ (V ++ [e]).length ∧ (∃ e' ∈ V ++ [e], p.1 = headRow h e'.1) ∧ ∀ d ∈ p.2, ∃ e' ∈ V ++ [e], d = srtIdx e'.2 := fun p hp => by
        obtain ⟨h1, ⟨e', h2, h3⟩, h4⟩ := hg.2 p hp
        refine ⟨by rw [List.length_append]; omega, ⟨e', List.mem_append_left _ h2, h3⟩, fun d hd => ?_⟩
        obtain ⟨e'', h5, h6⟩ := h4 d hd
        exact ⟨e'', List.mem_append_left _ h5, h6⟩
      cases hx : aGet g (headRow h e.1) with
      | none =>
        rw [hx, aPut_new hx] at hp
        rcases List.mem_append.mp hp with hp | hp
        · exact old p hp
        · rw [List.mem_singleton.mp hp]
          exact ⟨by simp, ⟨e, by simp, rfl⟩, fun d hd => ⟨e, by simp, by simpa using hd⟩⟩
      | some w =>
        rw [hx, aPut_old hx] at hp
        obtain ⟨q, hq, e2⟩ := List.mem_map.mp hp
        have hw := hg.2 _ (aGet_mem hx)
        split at e2
        · rename_i hk
          rw [← e2]
          refine ⟨?_, (old q hq).2.1, fun d hd => ?_⟩
          · have := hw.1
            simp at this ⊢
            exact this
          · rcases List.mem_append.mp (show d ∈ w ++ [srtIdx e.2] from hd) with hd | hd
            · obtain ⟨e'', h5, h6⟩ := hw.2.2 d hd
              exact ⟨e'', List.mem_append_left _ h5, h6⟩
            · exact ⟨e, by simp, by simpa using hd⟩
        · rw [← e2]
          exact old q hq
  have h1 := this W [] [] ⟨Nat.le_refl _, fun p hp => (nomatch hp)⟩
  rw [List.nil_append] at h1
  exact h1
def lawWays (h : List Str) (fs : List Fact) (as : List Atom) : List (Nk × List Nk) := (grpL h (meansP fs as [])).map fun p => (p.1, sortN p.2)
def LNs (K : PySem.W.Frag) (H : Hp) (v : V) (ds : List Nk) : Prop := ∃ l xs, v = .ref l ∧ H l = some (.lst xs) ∧ NVs K H xs ds
theorem LNs.ex {K : PySem.W.Frag} {H H' : Hp} {v : V} {ds : List Nk} (h : LNs K H v ds) (e : Ex H H') : LNs K H' v ds := by
  obtain ⟨l, xs, h0, h1, h2⟩ := h
  exact ⟨l, xs, h0, e _ _ h1, h2.ex e⟩
theorem LNs.up {P : Program} {w : World} {K : PySem.W.Frag} {H : Hp} {v : V} {ds : List Nk} {D : Addr} {kvs : List (Nk × V)} {o : HO} (h : LNs K H v ds) (hD : DN P w K H D kvs) : LNs K (upd H D o) v ds := by
  obtain ⟨l, xs, h0, h1, h2⟩ := h
  have ne : l ≠ D := fun z => by
    obtain ⟨_, _, _, q⟩ := hD.ex
    rw [← z, h1] at q
    cases q
  exact ⟨l, xs, h0, by rw [upd_ne ne]; exact h1, h2.t (Tx.upd (.inr hD.mut))⟩
/-- at D the law's ways -/
def WaysAt (P : Program) (w : World) (K : PySem.W.Frag) (H : Hp) (D : Addr) (g : List (Nk × List Nk)) : Prop := ∃ kvs, DN P w K H D kvs ∧ MRel (LNs K H) kvs g
def rowsK (pe pp : Addr) : List (Key × V) := [(Sum.inr "e", V.ref pe), (Sum.inr "p", V.ref pp)]
theorem rowsK_merge (pe pp : Addr) : mergeK [] (rowsK pe pp) = rowsK pe pp := mergeK_nodup _ (by
  have h : (rowsK pe pp).map (fun x => x.1) = ([Sum.inr "e", Sum.inr "p"] : List Key) := rfl
  rw [h]
  decide)
def sp_ways (P : Program) (w : World) (K : PySem.W.Frag) (CF : Addr) : Sp := fun vs H Q _ => ∃ rv o a l t d r fs, vs = [rv, .ref o] ∧ NV K H rv (encR r) ∧ WfR r ∧ FactsAt P w K CF H o a l t d fs ∧ FsOk fs ∧ fs.length ≤ 8 ∧ ∀ H' D, Ex H H' → H D = none → WaysAt P w K H' D (lawWays r.1 fs r.2) → Q (.ref D) H'
theorem srt_nums {P : Program} {w : World} (xs : List Nat) : SrtTo P w (xs.map fun i => .num (i : Nat)) (sortN (xs.map fun i => .num (i : Nat))) := by
  refine srt_data (fun d hd d' hd' => ?_) (.inr fun d hd => ?_) fun d hd => ?_
  · obtain ⟨x, hx, rfl⟩ := List.mem_map.mp hd
    obtain ⟨y, hy, rfl⟩ := List.mem_map.mp hx
    obtain ⟨x', hx', rfl⟩ := List.mem_map.mp hd'
    obtain ⟨y', hy', rfl⟩ := List.mem_map.mp hx'
    simp [toPy, PySem.W.alike]
  · obtain ⟨x, hx, rfl⟩ := List.mem_map.mp hd
    obtain ⟨y, hy, rfl⟩ := List.mem_map.mp hx
    rw [toPy]
    exact ⟨by simp, by simp⟩
  · obtain ⟨y, hy, rfl⟩ := List.mem_map.mp hd
    rw [toPy]
    simp [PyData.depth]
theorem srtIdx_map (is : List Nat) : ∃ js : List Nat, js.length = is.length ∧ srtIdx is = .tup (js.map fun i => .num (i : Nat)) := by
  have hp := List.mergeSort_perm (is.map fun i => NestedKey.num (i : Nat)) (PySem.W.dataLe false toPy)
  have key : ∀ l : List Nk, (∀ d ∈ l, ∃ i : Nat, d = .num (i : Nat)) → ∃ js : List Nat, l = js.map fun i => .num (i : Nat) := by
    intro l
    induction l with
    | nil => exact fun _ => ⟨[], rfl⟩
    | cons d l ih =>
      intro h
      obtain ⟨i, hi⟩ := h d List.mem_cons_self
      obtain ⟨js, hj⟩ := ih fun x hx => h x (List.mem_cons_of_mem _ hx)
      exact ⟨i :: js, by rw [hi, hj]; rfl⟩
  obtain ⟨js, hj⟩ := key (sortN (is.map fun i => .num (i : Nat))) fun d hd => by
    obtain ⟨i, _, e⟩ := List.mem_map.mp (hp.mem_iff.mp hd)
    exact ⟨i, e.symm⟩
  refine ⟨js, ?_, by rw [srtIdx, hj]⟩
  have h1 := hp.length_eq
  have h2 : (sortN (is.map fun i => NestedKey.num (i : Nat))).length = js.length := by rw [hj, List.length_map]
  rw [List.length_map] at h1
  rw [← h2]
  exact h1
theorem alike_nums : ∀ js ks : List Nat, PySem.W.alikeAll (toPys (js.map fun i => NestedKey.num (i : Nat))) (toPys (ks.map fun i => NestedKey.num (i : Nat))) = true :=
  fun js ks => alike_all (fun i : Nat => NestedKey.num (i : Nat)) (fun a b => by simp [toPy, PySem.W.alike]) js ks
theorem srt_idxs {P : Program} {w : World} (ds : List Nk) (h : ∀ d ∈ ds, ∃ is : List Nat, is ≠ [] ∧ d = srtIdx is) : SrtTo P w ds (sortN ds) := by
  refine srt_data (fun d hd d' hd' => ?_) (.inl fun d hd => ?_) fun d hd => ?_
  · obtain ⟨x, hx, rfl⟩ := List.mem_map.mp hd
    obtain ⟨x', hx', rfl⟩ := List.mem_map.mp hd'
    obtain ⟨is, _, rfl⟩ := h x hx
    obtain ⟨is', _, rfl⟩ := h x' hx'
    obtain ⟨js, _, e1⟩ := srtIdx_map is
    obtain ⟨js', _, e2⟩ := srtIdx_map is'
    rw [e1, e2, toPy, toPy, PySem.W.alike]
    exact alike_nums js js'
  · obtain ⟨x, hx, rfl⟩ := List.mem_map.mp hd
    obtain ⟨is, hne, rfl⟩ := h x hx
    obtain ⟨js, hl, e1⟩ := srtIdx_map is
    cases js with
    | nil => exact absurd (List.eq_nil_of_length_eq_zero hl.symm) hne
    | cons j js => exact ⟨toPy (.num (j : Nat)), toPys (js.map fun i => .num (i : Nat)), by rw [e1, List.map_cons]; simp only [toPy, toPys]⟩
  · obtain ⟨is, _, rfl⟩ := h d hd
    obtain ⟨js, _, e1⟩ := srtIdx_map is
    have h1 := toPy_depth (srtIdx is)
    have h2 : (srtIdx is).depth ≤ 1 := by rw [e1]; exact depth_tupL (fun i : Nat => NestedKey.num (i : Nat)) 0 js fun _ _ => Nat.le_refl _
    omega
theorem mrel_keys {κ β : Type} {R : V → β → Prop} {kvs : List (κ × V)} {m : List (κ × β)} (h : MRel R kvs m) : kvs.map (·.1) = m.map (·.1) := by
  induction h with
  | nil => rfl
  | cons h t ih => rw [List.map_cons, List.map_cons, ih, h.1]
theorem meansP_vals {fs : List Fact} (hfs : FsOk fs) : ∀ {as : List Atom} {m : List (Str × Nk)} (e : Wy), (∀ p ∈ m, p.2 ∈ valsL) → e ∈ meansP fs as m → ∀ p ∈ e.1, p.2 ∈ valsL
  | [], m, e, hm, he => by rw [List.mem_singleton.mp he]; exact hm
  | a :: as, m, e, hm, he => by
    rw [meansP_cons] at he
    obtain ⟨r, hr, h1⟩ := List.mem_flatMap.mp he
    unfold rowW at h1
    cases hf : fitL nkId (a.2.zip r.2) m with
    | none => rw [hf] at h1; exact (nomatch h1)
    | some m' =>
      rw [hf] at h1
      obtain ⟨e', h2, rfl⟩ := List.mem_map.mp h1
      obtain ⟨_, _, _, b4, _⟩ := fitL_spec hf
      refine meansP_vals hfs e' (fun p hp => ?_) h2
      rcases b4 p hp with h | ⟨z, hz, h⟩
      · exact hm p h
      · rw [h]
        exact (hfs _ (List.mem_of_getElem? (rowsOf_mem hr))).2.2 _ (List.of_mem_zip hz).2
theorem meansP_deep {fs : List Fact} (hfs : FsOk fs) {r : Rule} (_hw : WfR r) (h : List Str) : ∀ e ∈ meansP fs r.2 [], (headRow h e.1).depth ≤ 5 := fun e he => headRow_depth fun p hp => by
  have := meansP_vals (m := []) hfs e (fun p hp => by cases hp) he p hp
  have h3 := (valsL_ok _ this).2.2
  show p.2.depth ≤ 4
  omega
section
variable {P : Program} {w : World} {K : PySem.W.Frag} {mg : Str → Option Value} {base : Heap} {CF : Addr}
theorem ok_ways (C : FCls K CF) {k n : Nat} (hn6 : 6 ≤ n) {f : Addr} {fd : FuncData} (F : FnP K "_law_ways" "_law_ways" s__law_ways f fd) (T : Txt mg) (c_rows : MCallee P w K mg base CF "rows" k ["self", "table"] (sp_rows P w K CF))
    (c__law_means : CalleeG P w K mg base "_law_means" k ["_law_rule_here", "_law_rows", "_law_known_here"] (sp_means K n)) : FnG P w K mg base (k + 1) f fd ["_law_rule_here", "_law_facts"] (sp_ways P w K CF) := by
  refine mk_okG F sc__law_ways (fun vs H Q E h => ?_) (fun cdv A outer s H vs Q E hgu hr h => ?_)
  · obtain ⟨rv, o, a, l, t, d, r, fs, rfl, _⟩ := h
    rfl
  · obtain ⟨rv, o, a, l, t, d, r, fs, rfl, hv, hw, hF, hfs, h8, q⟩ := h
    have nd := sc__law_ways.nd
    refine ⟨_, (pss_cons (ps_set (i := 2) nd rfl (by first | exact Or.inl rfl | exact Or.inr rfl) (pe_disp (pps_cons pe_str (pe_mcal (pv 1) c_rows hr (pa_cons pe_str pa_nil)) (pps_cons pe_str (pe_mcal (pv 1) c_rows hr (pa_cons pe_str pa_nil)) pps_nil)) rfl rfl (by simp) (by decide))) (pss_cons (ps_set (i := 3) nd rfl (by first | exact Or.inl rfl | exact Or.inr rfl) (k_dnewN (P := P) (w := w) (K := K))) (pss_cons (ps_for PassesOwn.never rfl (k_ilist (K := K) (pe_calG c__law_means hgu hr (pa_cons (pv 0) (pa_cons (pv 2) (pa_cons pe_dnewK pa_nil))))) (pg_name (i := 4) nd rfl (by first | exact Or.inl rfl | exact Or.inr rfl)) (pss_one (k_nput (P := P) (w := w) (K := K) hr.units (pv 3) (k_ixT (K := K) (pv 4) pe_int) (pe_op op_cat (pe_nm PySem.F.slot_dict_get PySem.F.type_dict_get (mt_nget hr.units) (pv 3) (pa_cons (k_ixT (K := K) (pv 4) pe_int) (pa_cons (pe_lst pa_nil) pa_nil))) (pe_lst (pa_cons (k_tuple (K := K) T (k_cb T.f_sorted (k_srt (P := P) (w := w) (K := K) (hu80 hr)) (pa_cons (k_ixT (K := K) (pv 4) pe_int) pa_nil))) pa_nil)))))) (pss_one (ps_ret (k_cty T.f_dict (k_dictN (P := P) (w := w) (K := K) rfl (hu80 hr)) (pa_cons (pe_lc (own := [("_law_row", 5)]) rfl nd (pi_nk (P := P) (w := w) (K := K) (pv 3)) (blkOk_by (N := N__law_ways) (sc := defScope s__law_ways) (by decide +kernel)) (fun _ _ _ _ _ => (pg_name (i := 5) nd rfl (by first | exact Or.inl rfl | exact Or.inr rfl))) (fun _ _ _ _ _ => pts_nil) (fun _ _ _ _ _ => (pe_tupF (pa_cons (pv 5) (pa_cons (k_cb T.f_sorted (k_srt (P := P) (w := w) (K := K) (hu80 hr)) (pa_cons (k_nget (P := P) (w := w) (K := K) hr.units (pv 3) (pv 5)) pa_nil)) pa_nil))))) pa_nil))))))), ?_⟩
    obtain ⟨dxo, ho⟩ := hF.ins
    -- rows
    refine seqI (asgI ?_)
    intro ra hra
    have e1 : Ex H (upd H ra (.dK [])) := Ex.new hra
    refine ⟨.ref o, rfl, o, dxo, _, rfl, e1 _ _ ho, rfl, o, a, l, t, d, fs, "e", rfl, hF.ex e1, .inl rfl, by omega, fun pe H2 e2 ⟨ne, xe, he, hxe⟩ => ?_⟩
    have e12 := e1.trans e2
    refine ⟨.ref o, rfl, o, dxo, _, rfl, e12 _ _ ho, rfl, o, a, l, t, d, fs, "p", rfl, hF.ex e12, .inr rfl, by omega, fun pp H3 e3 ⟨np, xp, hpp, hxp⟩ => ?_⟩
    have hra3 : H3 ra = some (.dK []) := e3 _ _ (e2 _ _ upd_same)
    have e13 := e12.trans e3
    refine ⟨hra3, rowsK pe pp, rfl, Nat.le_of_ble_eq_true rfl, ?_⟩
    rw [rowsK_merge]
    have e4 : Ex H (upd H3 ra (.dK (rowsK pe pp))) := e13.mut hra
    have t4 : Tx K H3 (upd H3 ra (.dK (rowsK pe pp))) := Tx.upd (.inr (by rw [hra3]; trivial))
    have hrw : RowsAt K (upd H3 ra (.dK (rowsK pe pp))) ra fs := by
      have n1 : pe ≠ ra := fun z => by rw [z] at he; rw [e3 _ _ he] at hra3; cases hra3
      have n2 : pp ≠ ra := fun z => by rw [z, hra3] at hpp; cases hpp
      exact ⟨pe, pp, xe, xp, upd_same, by rw [upd_ne n1]; exact e3 _ _ he, (hxe.ex e3).t t4, by rw [upd_ne n2]; exact hpp, hxp.t t4⟩
    generalize upd H3 ra (.dK (rowsK pe pp)) = H4 at e4 hrw ⊢
    dsimp only
    -- found = {}
    refine seqI (asgI ?_)
    refine fun D ob hD hDN => ?_
    have e5 : Ex H4 (upd H4 D ob) := Ex.new hD
    have e05 := e4.trans e5
    dsimp only
    have src : EvI (gx K) (iList K (tCall (sp_means K n) [] E0 (tCons (tVar 0) (tCons (tVar 2) (tCons tDNewK tNil))))) [some rv, some (.ref o), some (.ref ra), some (.ref D), none, none] (upd H4 D ob) (fun J H6 => ∃ p ys, J = Itl K p ∧ H6 p = some (.lst ys) ∧ Ex (upd H4 D ob) H6 ∧ NVs K H6 ys ((meansP fs r.2 []).map (encW r.1))) := fun H6 e6 Q q => by
      refine ⟨rv, rfl, .ref ra, rfl, fun kd hkd => ?_⟩
      have e7 : Ex H6 (upd H6 kd (.dK [])) := Ex.new hkd
      have e67 := e6.trans e7
      refine ⟨rv, ra, kd, r.1, r.2, fs, [], rfl, hv.ex (e05.trans e67), by have := hw.most; omega, hw.most, hw.head, hw.atoms, (hrw.ex e5).ex e67, hfs, h8, ⟨[], upd_same, .nil⟩, fun p hp => (nomatch hp), List.nodup_nil, ?_, fun x hx => .inr (hw.safe x hx), fun p H8 e8 ⟨n1, ys, n2, n3⟩ => ?_⟩
      · have := tmsOf_len hw.atoms
        have := hw.most
        rw [List.length_nil]
        omega
      · exact ⟨p, rfl, ⟨ys, SqL.of n2⟩, q _ H8 (e7.trans e8) ⟨p, ys, rfl, n2, e67.trans e8, n3⟩⟩
    refine q_for (G := gx K) trivial src fun J H6 r6 hJ => ?_
    obtain ⟨p, ys, rfl, hp, e6, hys⟩ := hJ
    have hyl : ys.length = (meansP fs r.2 []).length := by rw [hys.len, List.length_map]
    have hml := meansP_len h8 r.2 []
    have h85 : (8 : Nat) ^ r.2.length ≤ 32768 := Nat.le_trans (Nat.pow_le_pow_right (by decide) hw.most) (by decide)
    have hidx : ∀ e ∈ meansP fs r.2 [], e.2.length = r.2.length := fun e he => meansP_idx e he
    have hdeep : ∀ e ∈ meansP fs r.2 [], (headRow r.1 e.1).depth ≤ 5 := meansP_deep hfs hw r.1
    rw [lawWays] at q
    generalize meansP fs r.2 [] = W at hys hyl hml hidx hdeep q
    have hpD : p ≠ D := fun z => by
      obtain ⟨_, _, _, q⟩ := (hDN.ex' e6).ex
      rw [← z, hp] at q
      cases q
    refine ⟨ys.length, _, _, fun j σ' H' => ∃ s4, σ' = [some rv, some (.ref o), some (.ref ra), some (.ref D), s4, none] ∧ Ex H4 H' ∧ (∀ b z, b ≠ D → H6 b = some z → H' b = some z) ∧ Tx K H6 H' ∧ ∃ kvs, DN P w K H' D kvs ∧ MRel (LNs K H') kvs (grpL r.1 (W.take j)), walk_list (K := K) (a := p) (xs := ys),
      ⟨none, rfl, e5.trans e6, fun _ _ _ z => z, Tx.refl K H6, [], hDN.ex' e6, .nil⟩, fun j σ' H' _ hp' => ?_, fun j x σ' Ha Hb hj hp' y => ?_, fun σ' H' hp' => ?_⟩
    · obtain ⟨_, _, _, kp, _⟩ := hp'
      exact SqL.of (kp _ _ hpD hp)
    · obtain ⟨s4, rfl, ex, kp, tx, kvs, hDb, hM⟩ := hp'
      obtain ⟨rfl, hx⟩ := y
      obtain ⟨dd, hdd, nx⟩ := hys.getV hx
      rw [List.getElem?_map] at hdd
      cases hej : W[j]? with
      | none => rw [hej] at hdd; cases hdd
      | some e =>
      rw [hej] at hdd
      cases hdd
      have nx : NV K Hb x (encW r.1 e) := nx.t tx
      have hin := grpL_in r.1 (W.take j)
      have hgn := grpL_nodup r.1 (W.take j)
      have enext : grpL r.1 (W.take (j + 1)) = grpL1 r.1 (grpL r.1 (W.take j)) e := by rw [List.take_add_one, hej]; exact grpL_snoc _ _ _
      rw [grpL1] at enext
      have hWj : (W.take j).length ≤ 32768 := by rw [List.length_take]; omega
      generalize grpL r.1 (W.take j) = g at hM enext hin hgn
      have hdp := hdeep e (List.mem_of_getElem? hej)
      refine nmI ?_
      have ed4 : ∀ H', Ex Hb H' → ED (gx K) (tVar 4) [some rv, some (.ref o), some (.ref ra), some (.ref D), some x, none] H' (encW r.1 e) := fun H' e' => ed_var rfl (nx.ex e')
      have edK : ∀ H', Ex Hb H' → ED (gx K) (tOp (rIxT K) (tVar 4) (tC (.int 0))) [some rv, some (.ref o), some (.ref ra), some (.ref D), some x, none] H' (headRow r.1 e.1) := fun H' e' => ed_ix (i := 0) (ed4 H' e') ed_int rfl
      have evG : EvP (gx K) (tNM P w K (rNGet P w K) (tVar 3) (tCons (tOp (rIxT K) (tVar 4) (tC (.int 0))) (tCons (tLst tNil) tNil))) [some rv, some (.ref o), some (.ref ra), some (.ref D), some x, none] Hb (fun v H' => LNs K H' v ((aGet g (headRow r.1 e.1)).getD [])) := fun H7 e7 Q q => by
        refine ⟨.ref D, rfl, ⟨D, kvs, rfl, hDb.ex' e7⟩, ?_⟩
        refine edK H7 e7 H7 (Ex.refl _) _ fun kv H8 e8 nk => ?_
        refine ⟨(by rw [sizeLine_eq]; exact Nat.zero_le _), fun l0 hl0 => ?_⟩
        have e9 : Ex H8 (upd H8 l0 (.lst [])) := Ex.new hl0
        have nk9 := nk.ex e9
        cases nk with
        | @tup kb ks _ k1 k2 =>
        have e79 := e8.trans e9
        refine ⟨D, .ref kb, valV kvs (headRow r.1 e.1), rfl, ⟨kvs, headRow r.1 e.1, kb, (hDb.ex' e7).ex' e79, rfl, nk9, by omega, rfl⟩, .inr ⟨.ref l0, rfl, ?_⟩⟩
        refine q _ _ e79 ?_
        cases hvv : valV kvs (headRow r.1 e.1) with
        | none =>
          rw [mrel_none hM hvv]
          exact ⟨l0, [], rfl, upd_same, .nil⟩
        | some z =>
          obtain ⟨ds, h1, h2⟩ := mrel_val hM hvv
          rw [h1]
          exact (h2.ex e7).ex e79
      have hgl : ((aGet g (headRow r.1 e.1)).getD []).length ≤ 32768 := by
        cases hg : aGet g (headRow r.1 e.1) with
        | none => exact Nat.zero_le _
        | some ds => exact Nat.le_trans (hin.2 _ (aGet_mem hg)).1 hWj
      have elS : ∀ H', Ex Hb H' → EL (gx K) (tLst (tCons (tThen (tCB (rSrt P w K) (tCons (tOp (rIxT K) (tVar 4) (tC (.int 1))) tNil)) (kTupF K)) tNil)) [some rv, some (.ref o), some (.ref ra), some (.ref D), some x, none] H' [srtIdx e.2] := fun H' e' =>
        el_lst (eds_cons (ed_tupleL (el_srt (P := P) (w := w) (ED.seq (ed_ix (i := 1) (ed4 H' e') ed_int rfl)) (srt_nums e.2) (by rw [(List.mergeSort_perm _ _).length_eq]))) eds_nil)
      have evV : EvP (gx K) (tOp rCat (tNM P w K (rNGet P w K) (tVar 3) (tCons (tOp (rIxT K) (tVar 4) (tC (.int 0))) (tCons (tLst tNil) tNil))) (tLst (tCons (tThen (tCB (rSrt P w K) (tCons (tOp (rIxT K) (tVar 4) (tC (.int 1))) tNil)) (kTupF K)) tNil))) [some rv, some (.ref o), some (.ref ra), some (.ref D), some x, none] Hb (fun v H' => LNs K H' v ((aGet g (headRow r.1 e.1)).getD [] ++ [srtIdx e.2])) :=
        ev_op (P2 := fun v H' => LNs K H' v [srtIdx e.2]) evG (fun _ H7 e7 _ => (elS H7 e7).imp fun v H8 _ ⟨p, h1, _, ys, h2, h3⟩ => ⟨p, ys, h1, h2, h3⟩) fun u v H7 H8 e7 hu e8 hv Q q => by
          obtain ⟨l1, xs1, rfl, h1, h2⟩ := hu.ex e8
          obtain ⟨l2, xs2, rfl, h3, h4⟩ := hv
          have hl1 := h2.len
          have hl2 := h4.len
          rw [List.length_singleton] at hl2
          refine ⟨l1, l2, xs1, xs2, rfl, rfl, h1, h3, by rw [sizeLine_eq]; omega, fun np hnp => ?_⟩
          have e9 : Ex H8 (upd H8 np (.lst (xs1 ++ xs2))) := Ex.new hnp
          exact q _ _ e9 ⟨np, _, rfl, upd_same, NVs.app (h4.ex e9) (h2.ex e9)⟩
      refine evV Hb (Ex.refl _) _ fun v H7 e7 hvL => ?_
      refine ⟨.ref D, rfl, ?_⟩
      refine edK H7 e7 H7 (Ex.refl _) _ fun kv H8 e8 nk => ?_
      have nk0 := nk
      cases nk with
      | @tup kb ks _ k1 k2 =>
      have e78 := e7.trans e8
      have hD8 := hDb.ex' e78
      have hkl := hM.len
      refine ⟨D, kvs, headRow r.1 e.1, kb, rfl, rfl, hD8, nk0, by omega, by rw [sizeLine_eq]; have := hin.1; omega, fun ob2 hD9 => ?_⟩
      refine ⟨_, rfl, (ex.trans e78).mut hD, fun b z n hb => by rw [upd_ne n]; exact e78 _ _ (kp b z n hb), (tx.trans (Tx.ex e78)).trans (Tx.upd (.inr hD8.mut)), _, hD9, ?_⟩
      rw [enext]
      exact MRel.put (hM.imp fun _ _ z => (z.ex e78).up hD8) (headRow r.1 e.1) ((hvL.ex e8).up hD8)
    · obtain ⟨s4, rfl, ex, kp, tx, kvs, hDb, hM⟩ := hp'
      rw [hyl, List.take_length] at hM
      have hin := grpL_in r.1 W
      have hgn := grpL_nodup r.1 W
      generalize grpL r.1 W = g at hM hin hgn q
      have e0 := e4.trans ex
      refine ⟨.ref D, rfl, D, kvs, rfl, hDb, fun xs2 ep hrel hxd => ?_⟩
      intro L hL
      have eL : Ex H' (upd H' L (.lst [])) := Ex.new hL
      have hkl : xs2.length = kvs.length := (Paired.length hrel).symm
      have hkg : kvs.length = g.length := hM.len
      refine lc_it (walk_nk (P := P) (w := w) (d := D) (ep := ep) (xs := xs2)) (fun i H3 => Ex H' H3 ∧ ∃ ps kvs2, H3 L = some (.lst (ps.map V.ref)) ∧ Paired (PairN K H3) ps kvs2 ∧ MRel (fun v ds => LNs K H3 v ds ∧ v ≠ .ref L) kvs2 ((g.take i).map fun p => (p.1, sortN p.2))) ⟨eL, [], [], upd_same, .nil, .nil⟩ (fun i H3 _ hp => hp.1 _ _ hxd) (fun i x Hc Hd hi hp y => ?_) (fun H3 hp => ?_)
      · obtain ⟨exc, ps, kvs2, hLc, hP, hMc⟩ := hp
        obtain ⟨rfl, yy, g1, rfl⟩ := y
        have hik : i < kvs.length := by omega
        have g2 : kvs[i]? = some kvs[i] := List.getElem?_eq_getElem hik
        generalize kvs[i] = kv at g2
        obtain ⟨gq, hgq, hgk, hLn⟩ := prd_get hM g2
        obtain ⟨yy', hy', hr1, hr2, hr3, _⟩ := prd_get hrel g2
        rw [g1] at hy'
        cases hy'
        obtain ⟨l1, zs, hl0, hl1, hl2⟩ := hLn
        have hkeys : kvs.map (·.1) = g.map (·.1) := mrel_keys hM
        have hval : valV kvs kv.1 = some (.ref l1) := by
          have hm := List.mem_of_getElem? g2
          have hs : (aGet kvs kv.1).isSome = true := aGet_isSome.mpr (List.mem_map.mpr ⟨kv, hm, rfl⟩)
          obtain ⟨v, hv⟩ := Option.isSome_iff_exists.mp hs
          have h1 := aGet_mem hv
          have h2 : v = kv.2 := nodup_fst (by rw [hkeys]; exact hgn) h1 hm
          rw [valV_eq, hv, h2, hl0]
        have hDc : DN P w K Hd D kvs := hDb.ex' exc
        refine ⟨rfl, ?_⟩
        refine ⟨.ref yy.2.1, rfl, .ref D, rfl, .ref yy.2.1, rfl, D, .ref l1, rfl, ⟨kvs, kv.1, yy.2.1, hDc, rfl, hr2.ex exc, hr3, hval.symm⟩, ?_⟩
        have hmem := List.mem_of_getElem? hgq
        have hS : SrtTo P w gq.2 (sortN gq.2) := srt_idxs gq.2 fun dd hdd => by
          obtain ⟨e, he, h3⟩ := (hin.2 gq hmem).2.2 dd hdd
          refine ⟨e.2, fun z => ?_, h3⟩
          have h4 := hidx e he
          rw [z, List.length_nil] at h4
          have := hw.one
          omega
        refine ⟨l1, zs, gq.2, sortN gq.2, rfl, .inl (SqL.of (exc _ _ hl1)), hl2.ex exc, hS, (List.mergeSort_perm _ _).length_eq, fun ln zs2 hln hz2 => ?_⟩
        have e6' : Ex Hd (upd Hd ln (.lst zs2)) := Ex.new hln
        refine ⟨(by rw [sizeLine_eq]; exact Nat.le_of_ble_eq_true rfl), fun tp ob htp hob => ?_⟩
        have e7 : Ex (upd Hd ln (.lst zs2)) (upd (upd Hd ln (.lst zs2)) tp (.frz ob (.tup [.ref yy.2.1, .ref ln]))) := Ex.new htp
        have e67 := e6'.trans e7
        have hL2 := e67 _ _ hLc
        have tu : Tx K (upd (upd Hd ln (.lst zs2)) tp (.frz ob (.tup [.ref yy.2.1, .ref ln]))) (upd (upd (upd Hd ln (.lst zs2)) tp (.frz ob (.tup [.ref yy.2.1, .ref ln]))) L (.lst (ps.map V.ref ++ [.ref tp]))) := Tx.upd (.inr (by rw [hL2]; trivial))
        have hpl := Paired.length hP
        have hml2 := hMc.len
        rw [List.length_map, List.length_take] at hml2
        have nlnL : ln ≠ L := fun z => by rw [z, hLc] at hln; cases hln
        have up1 : ∀ v ds, LNs K Hd v ds → v ≠ .ref L → LNs K (upd (upd (upd Hd ln (.lst zs2)) tp (.frz ob (.tup [.ref yy.2.1, .ref ln]))) L (.lst (ps.map V.ref ++ [.ref tp]))) v ds := fun v ds ⟨l, us, p0, p1, p2⟩ hv => by
          have n : l ≠ L := fun z => hv (by rw [p0, z])
          exact ⟨l, us, p0, by rw [upd_ne n]; exact e67 _ _ p1, (p2.ex e67).t tu⟩
        refine ⟨_, hL2, by rw [List.length_map, hpl, hml2, sizeLine_eq]; have := hin.1; omega, ((exc.trans e67)).mut hL, ps ++ [tp], kvs2 ++ [(kv.1, .ref ln)], by rw [upd_same, List.map_append]; rfl, ?_, ?_⟩
        · refine Paired.snoc (L2.Paired.mapP hP fun p kv ⟨b, h1, h2, h3⟩ => ⟨b, tu.1 _ _ (Evl.ex_t e67 h1), (h2.ex e67).t tu, h3⟩) ⟨yy.2.1, tu.1 _ _ (.inl (.inr ⟨ob, upd_same⟩)), ((hr2.ex exc).ex e67).t tu, hr3⟩
        · rw [List.take_add_one, hgq, List.map_append]
          show MRel _ _ (_ ++ [(gq.1, sortN gq.2)])
          refine Paired.snoc (L2.Paired.mapP hMc fun p q z => ⟨z.1, up1 _ _ z.2.1 z.2.2, z.2.2⟩) ⟨hgk, ⟨ln, zs2, rfl, by rw [upd_ne nlnL]; exact e7 _ _ upd_same, (hz2.ex e7).t tu⟩, fun z => nlnL (V.ref.inj z)⟩
      · obtain ⟨exc, ps, kvs2, hLc, hP, hMc⟩ := hp
        rw [hkl, hkg, List.take_length] at hMc
        refine ⟨L, ps, kvs2, rfl, .inr (SqL.of hLc), hP, fun pd ob hpd hDd => ?_⟩
        have hkn : (kvs2.map (·.1)).Nodup := by
          rw [mrel_keys hMc, List.map_map]
          exact hgn
        rw [mergeN_nodup _ hkn] at hDd
        have ed : Ex H3 (upd H3 pd ob) := Ex.new hpd
        exact q _ pd ((e0.trans exc).trans ed) (Evl.fresh_back (e0.trans exc) hpd) ⟨kvs2, hDd, hMc.imp fun _ _ z => z.1.ex ed⟩
end
end Ew
set_option Elab.async false
set_option linter.all false
set_option maxRecDepth 100000
set_option maxHeartbeats 4000000
namespace Ew
open PySem PySem.Spec PyProof.Rows L2
open Evl (Ex)
/-! ### sorted lists of names, unique -/
def allS : Nat → List (List Str)
  | 0 => [[]]
  | n + 1 => allS n ++ (allS n).flatMap fun l => names4.map fun x => x :: l
theorem mem_allS : ∀ (n : Nat) (l : List Str), l.length ≤ n → (∀ x ∈ l, x ∈ names4) → l ∈ allS n
  | 0, [], _, _ => List.mem_singleton.mpr rfl
  | 0, _ :: _, h, _ => by simp at h
  | n + 1, [], _, _ => List.mem_append_left _ (mem_allS n [] (Nat.zero_le _) fun x hx => (nomatch hx))
  | n + 1, x :: l, h, hm => List.mem_append_right _ (List.mem_flatMap.mpr ⟨l, mem_allS n l (by simp at h; omega) fun y hy => hm y (List.mem_cons_of_mem _ hy), List.mem_map.mpr ⟨x, hm x List.mem_cons_self, rfl⟩⟩)
def sortedL : List (List Str) := ((allS 4).filter fun l => sortedS l).eraseDups
theorem sorted_uniq4 : ∀ a ∈ (allS 4).filter (fun l => sortedS l), ∀ b ∈ (allS 4).filter (fun l => sortedS l), a.isPerm b = true → a = b := by decide +kernel
theorem sorted_uniq {a b : List Str} (ha : a.length ≤ 4) (hm : ∀ x ∈ a, x ∈ names4) (hp : a.Perm b) (h1 : sortedS a = true) (h2 : sortedS b = true) : a = b :=
  sorted_uniq4 a (List.mem_filter.mpr ⟨mem_allS 4 a ha hm, h1⟩) b (List.mem_filter.mpr ⟨mem_allS 4 b (by rw [← hp.length_eq]; exact ha) fun x hx => hm x (hp.mem_iff.mpr hx), h2⟩) (List.isPerm_iff.mpr hp)
end Ew
set_option Elab.async false
set_option linter.all false
set_option maxRecDepth 100000
set_option maxHeartbeats 4000000
namespace Ew
open PySem PySem.Spec PyProof.Rows L2
open Evl (Ex)
theorem k_sortedS {X : Cx} {K : PySem.W.Frag} (hK : X.K = K := by rfl) : CallR X (.builtin "sorted") (rSortedS K) := by subst hK; exact cr_sortedS
abbrev N__law_is_renaming : List Str := ["_law_first", "_law_second_here", "_law_table", "_law_name", "_law_mine", "_law_atom"]
theorem sc__law_is_renaming : FnScope N__law_is_renaming ["_law_first", "_law_second_here", "_law_table"] (defScope s__law_is_renaming) := ⟨rfl, rfl, rfl, by decide +kernel, rfl, by decide +kernel, by decide +kernel⟩
theorem n46 (x : Str) (h : x ∈ names4) : x ∈ names6 := by
  simp only [names4, List.mem_cons, List.mem_nil_iff, or_false] at h
  rcases h with rfl | rfl | rfl | rfl <;> simp [names6]
def sp_lawren (K : PySem.W.Frag) : Sp := fun vs H Q _ => ∃ (v1 v2 : V) (a : Addr) (r1 r2 : Rule) (τ : List (Str × Str)), vs = [v1, v2, .ref a] ∧ NV K H v1 (encR r1) ∧ NV K H v2 (encR r2) ∧ WfR r1 ∧ WfR r2 ∧ H a = some (.dK (tabV τ)) ∧ (τ.map (·.1)).Nodup ∧ (∀ x, x ∈ τ.map (·.1) ↔ Tm.var x ∈ tmsOf r1.2) ∧ (τ.map (·.2)).Nodup ∧ (∀ p ∈ τ, p.2 ∈ names4) ∧
  r1.1.map (fun x => (aGet τ x).getD x) = r2.1 ∧ sortR (r1.2.map (putAN τ)) = sortR r2.2 ∧ ∀ H', Ex H H' → Q (.bl true) H'
section
variable {P : Program} {w : World} {K : PySem.W.Frag} {mg : Str → Option Value} {base : Heap}
theorem ok_lawren {k : Nat} {f : Addr} {fd : FuncData} (F : FnP K "_law_is_renaming" "_law_is_renaming" s__law_is_renaming f fd) (T : Txt mg) (c__law_variables : Callee P w K mg base "_law_variables" k ["_law_atoms_here"] (sp_variables K)) (c__law_put_in : Callee P w K mg base "_law_put_in" k ["_law_terms", "_law_table"] (sp_put_in K)) :
    FnG P w K mg base (k + 1) f fd ["_law_first", "_law_second_here", "_law_table"] (sp_lawren K) := by
  refine mk_okG F sc__law_is_renaming (fun vs H Q E h => ?_) (fun cdv A outer s H vs Q E hgu hr h => ?_)
  · obtain ⟨v1, v2, a, r1, r2, τ, rfl, _⟩ := h
    rfl
  · obtain ⟨v1, v2, a, r1, r2, τ, rfl, h1, h2, hw1, hw2, ha, hk, hkm, hvn, hv4, hhd, hsr, q⟩ := h
    have nd := sc__law_is_renaming.nd
    refine ⟨_, (pss_cons (ps_if (PW.pt (pw_or (pt_cmpR (k_neL (K := K) hr.units) (k_cb T.f_sorted (call_sortedD rfl) (pa_cons (pv 2) pa_nil)) (k_cb T.f_sorted (k_sortedS (K := K)) (pa_cons (pe_cal c__law_variables hr (pa_cons (k_ixT (K := K) (pv 0) pe_int) pa_nil)) pa_nil)) (nomark _)) (pw_or1 (pt_cmpR (k_ne (K := K) hr.units) (k_cb T.f_len (call_lenD) (pa_cons (k_cty T.f_dict (k_dictK (K := K) rfl) (pa_cons (pe_lock (pe_lc (own := [("_law_name", 3)]) rfl nd (pi_keys (pv 2)) (blkOk_by (N := N__law_is_renaming) (sc := defScope s__law_is_renaming) (by decide +kernel)) (fun _ _ _ _ _ => (pg_name (i := 3) nd rfl (by first | exact Or.inl rfl | exact Or.inr rfl))) (fun _ _ _ _ _ => pts_nil) (fun _ _ _ _ _ => (pe_tupF (pa_cons (pe_dget (hu_of hr) (pv 2) (pv 3) (fun _ _ => rfl)) (pa_cons pe_int pa_nil)))))) pa_nil)) pa_nil)) (k_cb T.f_len (call_lenD) (pa_cons (pv 2) pa_nil)) (nomark _))))) (pss_one (ps_ret pe_bl)) pss_nil) (pss_cons (ps_if (pt_cmpR (k_ne (K := K) hr.units) (k_tuple (K := K) T (pe_lc (own := [("_law_name", 3)]) rfl nd (k_itup (K := K) (k_ixT (K := K) (pv 0) pe_int)) (blkOk_by (N := N__law_is_renaming) (sc := defScope s__law_is_renaming) (by decide +kernel)) (fun _ _ _ _ _ => (pg_name (i := 3) nd rfl (by first | exact Or.inl rfl | exact Or.inr rfl))) (fun _ _ _ _ _ => pts_nil) (fun _ _ _ _ _ => (pe_dget (hu_of hr) (pv 2) (pv 3) (fun _ _ => rfl))))) (k_ixT (K := K) (pv 1) pe_int) (nomark _)) (pss_one (ps_ret pe_bl)) pss_nil) (pss_cons (ps_set (i := 4) nd rfl (by first | exact Or.inl rfl | exact Or.inr rfl) (k_cb T.f_sorted (k_srt (P := P) (w := w) (K := K) (hu80 hr)) (pa_cons (pe_lc (own := [("_law_atom", 5)]) rfl nd (k_itup (K := K) (k_ixT (K := K) (pv 0) pe_int)) (blkOk_by (N := N__law_is_renaming) (sc := defScope s__law_is_renaming) (by decide +kernel)) (fun _ _ _ _ _ => (pg_name (i := 5) nd rfl (by first | exact Or.inl rfl | exact Or.inr rfl))) (fun _ _ _ _ _ => pts_nil) (fun _ _ _ _ _ => (k_cb T.f_repr (k_repr (K := K) hgu (hu80 hr)) (pa_cons (pe_tupF (pa_cons (k_ixT (K := K) (pv 5) pe_int) (pa_cons (pe_cal c__law_put_in hr (pa_cons (k_ixT (K := K) (pv 5) pe_int) (pa_cons (pv 2) pa_nil))) pa_nil))) pa_nil)))) pa_nil))) (pss_one (ps_ret (pe_cmpR (k_eqL (K := K) hr.units) (pv 4) (k_cb T.f_sorted (k_srt (P := P) (w := w) (K := K) (hu80 hr)) (pa_cons (pe_lc (own := [("_law_atom", 5)]) rfl nd (k_itup (K := K) (k_ixT (K := K) (pv 1) pe_int)) (blkOk_by (N := N__law_is_renaming) (sc := defScope s__law_is_renaming) (by decide +kernel)) (fun _ _ _ _ _ => (pg_name (i := 5) nd rfl (by first | exact Or.inl rfl | exact Or.inr rfl))) (fun _ _ _ _ _ => pts_nil) (fun _ _ _ _ _ => (k_cb T.f_repr (k_repr (K := K) hgu (hu80 hr)) (pa_cons (pv 5) pa_nil)))) pa_nil)) (nomark _))))))), ?_⟩
    have hk4 : ∀ x ∈ τ.map (·.1), x ∈ names4 := fun x hx => tms_wf hw1.atoms ((hkm x).mp hx)
    have hkl : (τ.map (·.1)).length ≤ 4 := nodup_len hk hk4
    have hlv : (lawVars r1.2).Nodup := List.Pairwise.filter _ (show names6.Nodup by decide)
    have hpm : (τ.map (·.1)).Perm (lawVars r1.2) := (List.perm_ext_iff_of_nodup hk hlv).mpr fun x => by
      rw [hkm x, lawVars, List.mem_filter, decide_eq_true_eq]
      exact ⟨fun h => ⟨n46 x (tms_wf hw1.atoms h), h⟩, fun h => h.2⟩
    have bd : ∀ x, Tm.var x ∈ tmsOf r1.2 → (aGet τ x).isSome = true := fun x hx => aGet_isSome.mpr ((hkm x).mpr hx)
    have t1 : EvT (gx K) (tTest (tOp (rNeL K) (tCB (fun xs H Q => ∃ (a : Addr) (kvs : List (Key × V)) (ks : List Str), xs = [.ref a] ∧ Rd H a (.dK kvs) ∧ kvs.map (·.1) = ks.map Sum.inr ∧ ks.length < 64 ∧ ∀ ys p, ys.Perm ks → sortedS ys = true → H p = none → Q (.ref p) (upd H p (.lst (ys.map V.str)))) (tCons (tVar 2) tNil)) (tCB (rSortedS K) (tCons (tCall (sp_variables K) [] E0 (tCons (tOp (rIxT K) (tVar 0) (tC (.int 1))) tNil)) tNil)))) (start N__law_is_renaming [v1, v2, .ref a]) H false := et_test fun H1 e1 Q q => by
      refine ⟨.ref a, rfl, a, tabV τ, τ.map (·.1), rfl, Rd.of (e1 _ _ ha), by rw [tabV, List.map_map, List.map_map]; rfl, by omega, fun ys p hys hs hp => ?_⟩
      have e2 : Ex H1 (upd H1 p (.lst (ys.map V.str))) := Ex.new hp
      have hp2 : upd H1 p (.lst (ys.map V.str)) p = some (.lst (ys.map V.str)) := upd_same
      generalize upd H1 p (.lst (ys.map V.str)) = H2 at e2 hp2 ⊢
      have e02 := e1.trans e2
      have evL : EvP (gx K) (tCall (sp_variables K) [] E0 (tCons (tOp (rIxT K) (tVar 0) (tC (.int 1))) tNil)) (start N__law_is_renaming [v1, v2, .ref a]) H2 (fun v H3 => ∃ q, v = .ref q ∧ H3 q = some (.lst ((lawVars r1.2).map V.str))) :=
        ev_call (ea_one (ed_ix (i := 1) (ed_var (d := encR r1) rfl (h1.ex e02)) ed_int rfl)) fun vs H3 r pp Q q => by
          obtain ⟨v, rfl, nv⟩ := pp
          cases nv with
          | @tup ab us _ a1 a2 =>
          exact ⟨ab, us, r1.2, rfl, .inr a1.sq, a2, hw1.atoms, by have := hw1.most; omega, fun qq H4 e4 _ hq => q _ H4 e4 ⟨qq, rfl, hq⟩⟩
      have evS : EvP (gx K) (tCB (rSortedS K) (tCons (tCall (sp_variables K) [] E0 (tCons (tOp (rIxT K) (tVar 0) (tC (.int 1))) tNil)) tNil)) (start N__law_is_renaming [v1, v2, .ref a]) H2 (fun v H3 => ∃ q zs, v = .ref q ∧ H3 q = some (.lst (zs.map V.str)) ∧ zs.Perm (lawVars r1.2) ∧ sortedS zs = true) :=
        ev_cb (ea_one evL) fun vs H3 r pp Q q => by
          obtain ⟨v, rfl, ql, rfl, hql⟩ := pp
          refine ⟨ql, lawVars r1.2, rfl, SqL.of hql, by have := hpm.length_eq; omega, fun zs pz h3 h4 h5 => q _ _ (Ex.new h5) ⟨pz, zs, rfl, upd_same, h3, h4⟩⟩
      refine evS H2 (Ex.refl _) _ fun v H3 e3 ⟨qz, zs, hv1, hqz, h3, h4⟩ => ?_
      subst hv1
      have hyz : ys = zs := sorted_uniq (by rw [hys.length_eq]; exact hkl) (fun x hx => hk4 x (hys.mem_iff.mp hx)) ((hys.trans hpm).trans h3.symm) hs h4
      refine ⟨p, qz, _, _, _, _, rfl, rfl, SqL.of (e3 _ _ hp2), SqL.of hqz, nvs_strs ys, nvs_strs zs, fun d hd => ?_, q _ H3 (e2.trans e3) ?_⟩
      · obtain ⟨z, _, rfl⟩ := List.mem_map.mp hd
        exact Nat.zero_le _
      · rw [hyz, decide_eq_true rfl]
        rfl
    have edH : ∀ H', Ex H H' → ED (gx K) (tThen (tLc (iTup K (tOp (rIxT K) (tVar 0) (tC (.int 0)))) (gName 3) tYes (tDGet (tVar 2) (tVar 3)) [3]) (kTupF K)) (start N__law_is_renaming [v1, v2, .ref a]) H' (.tup (r2.1.map .text)) := fun H' e' => by
      refine ed_eq (ed_tupleL (el_lcB (vs := [3]) (g := gName 3) NestedKey.text (fun x => .text ((aGet τ x).getD x)) (xs := r1.1) (ed_ix (i := 0) (ed_var (d := encR r1) rfl (h1.ex e')) ed_int rfl) (by have := hw1.head; omega) fun i x v H6 r6 hx nz => ⟨_, st_name, rfl, by
        obtain ⟨z, hz⟩ := Option.isSome_iff_exists.mp (bd x (hw1.safe x (List.mem_of_getElem? hx)))
        rw [hz]
        exact ed_dget (m := nmK τ) (k := .inr x) (ea_var rfl) (fun H7 r7 => tab_dka (((e'.trans r6).trans r7) _ _ ha)) (ed_var rfl nz) (by rw [nmK_get, hz]; rfl)⟩)) ?_
      rw [← hhd, List.map_map]
      rfl
    have t2 : EvT (gx K) (tTest (tOp (rNeN K) (tCB (fun xs H Q => ∃ a kvs, xs = [V.ref a] ∧ H a = some (.dK kvs) ∧ Q (.int (kvs.length : Nat)) H) (tCons (tCB (rDictK K) (tCons (tLockE (tLc (iKeys (tVar 2)) (gName 3) tYes (tTupF (tCons (tDGet (tVar 2) (tVar 3)) (tCons (tC (.int 1)) tNil))) [3])) tNil)) tNil)) (tCB (fun xs H Q => ∃ a kvs, xs = [V.ref a] ∧ H a = some (.dK kvs) ∧ Q (.int (kvs.length : Nat)) H) (tCons (tVar 2) tNil)))) (start N__law_is_renaming [v1, v2, .ref a]) H false := et_test fun H1 e1 Q q => by
      refine ⟨a, .dK (tabV τ), e1 _ _ ha, trivial, fun od => ?_⟩
      refine ⟨.ref a, rfl, a, od, rfl, .inl ⟨tabV τ, upd_same, fun L hL => ?_⟩⟩
      have ha1 := e1 _ _ ha
      have hLa : L ≠ a := fun z => by rw [z, upd_same] at hL; cases hL
      have htl : (tabV τ).length = τ.length := by rw [tabV, List.length_map]
      have hτl : τ.length ≤ 4 := by rw [List.length_map] at hkl; exact hkl
      refine lc_it (walk_keys (d := a) (o := od) (kvs := tabV τ)) (fun i H' => Ex (upd H1 a (.frz od (.dK (tabV τ)))) H' ∧ ∃ ps : List Addr, H' L = some (.lst (ps.map V.ref)) ∧ Paired (fun p (kv : Key × V) => SqT K H' p [kV kv.1, kv.2]) ps ((τ.take i).map fun p => ((Sum.inr p.2 : Key), V.int 1))) ⟨Ex.new hL, [], upd_same, .nil⟩ (fun i H' _ hp => hp.1 _ _ upd_same) (fun i x Hc Hd hi hp y => ?_) (fun H' hp => ?_)
      · obtain ⟨exc, ps, hLc, hP⟩ := hp
        obtain ⟨rfl, kk, vv, g1, rfl⟩ := y
        have hit : i < τ.length := by omega
        have g1 : (tabV τ)[i]? = some (kk, vv) := g1
        rw [tabV, List.getElem?_map, List.getElem?_eq_getElem hit] at g1
        have hmem : τ[i] ∈ τ := List.getElem_mem hit
        have hgi : τ[i]? = some τ[i] := List.getElem?_eq_getElem hit
        generalize τ[i] = pr at g1 hmem hgi
        cases g1
        have hval : valV (tabV τ) (Sum.inr pr.1) = some (.str pr.2) := by
          have hs : (aGet τ pr.1).isSome = true := aGet_isSome.mpr (List.mem_map.mpr ⟨pr, hmem, rfl⟩)
          obtain ⟨z, hz⟩ := Option.isSome_iff_exists.mp hs
          have hzz : z = pr.2 := nodup_fst hk (aGet_mem hz) hmem
          rw [valV_eq]
          have := aGet_map (f := (Sum.inr : Str → Key)) (fun _ _ e => Sum.inr.inj e) V.str pr.1 τ
          rw [hz, hzz] at this
          exact this
        refine ⟨rfl, ?_⟩
        refine ⟨.ref a, rfl, .str pr.1, rfl, a, .str pr.2, rfl, .inl ⟨tabV τ, Sum.inr pr.1, .inr ⟨od, exc _ _ upd_same⟩, rfl, hval.symm⟩, ?_⟩
        refine ⟨(by rw [sizeLine_eq]; exact Nat.le_of_ble_eq_true rfl), fun tp ob htp hob => ?_⟩
        have e7 : Ex Hd (upd Hd tp (.frz ob (.tup [.str pr.2, .int 1]))) := Ex.new htp
        have hL2 := e7 _ _ hLc
        have tu : Tx K (upd Hd tp (.frz ob (.tup [.str pr.2, .int 1]))) (upd (upd Hd tp (.frz ob (.tup [.str pr.2, .int 1]))) L (.lst (ps.map V.ref ++ [.ref tp]))) := Tx.upd (.inr (by rw [hL2]; trivial))
        have hpl := Paired.length hP
        rw [List.length_map, List.length_take] at hpl
        refine ⟨_, hL2, by rw [List.length_map, sizeLine_eq]; omega, (exc.trans e7).mut hL, ps ++ [tp], by rw [upd_same, List.map_append]; rfl, ?_⟩
        rw [List.take_add_one, hgi, List.map_append]
        exact Paired.snoc (L2.Paired.mapP hP fun _ _ z => tu.1 _ _ (Evl.ex_t e7 z)) (tu.1 _ _ (.inl (.inr ⟨ob, upd_same⟩)))
      · obtain ⟨exc, ps, hLc, hP⟩ := hp
        have hfz := exc _ _ upd_same
        have hall : τ.take (tabV τ).length = τ := List.take_of_length_le (by omega)
        rw [hall] at hP
        refine ⟨hfz, ?_⟩
        have eu : Ex H1 (upd H' a (.dK (tabV τ))) := ex_unlock ha1 exc
        have tu := tx_unlock (K := K) hfz
        refine ⟨L, ps, _, rfl, .inr (SqL.of (by rw [upd_ne hLa]; exact hLc)), L2.Paired.mapP hP fun _ _ z => tu.1 _ _ z, fun pd hpd => ?_⟩
        have hmk : mergeK [] (τ.map fun p => ((Sum.inr p.2 : Key), V.int 1)) = τ.map fun p => ((Sum.inr p.2 : Key), V.int 1) := mergeK_nodup _ (by
          rw [List.map_map]
          have : (τ.map (·.2)).Pairwise (· ≠ ·) := hvn
          exact List.Pairwise.map _ (fun a b h => fun e => h (Sum.inr.inj e)) (List.pairwise_map.mp this))
        rw [hmk]
        have ed : Ex (upd H' a (.dK (tabV τ))) (upd (upd H' a (.dK (tabV τ))) pd (.dK (τ.map fun p => ((Sum.inr p.2 : Key), V.int 1)))) := Ex.new hpd
        refine ⟨pd, _, rfl, upd_same, .ref a, rfl, a, tabV τ, rfl, ed _ _ upd_same, ?_⟩
        refine ⟨.num (τ.length : Nat), .num (τ.length : Nat), by rw [List.length_map]; exact .int _, by rw [htl]; exact .int _, by simp [NestedKey.depth], q _ _ (eu.trans ed) ?_⟩
        rw [decide_eq_true rfl]
        rfl
    refine q_when (G := gx K) (b := false) trivial (et_or (a := false) t1 fun _ => t2) (fun hb => (nomatch hb)) fun _ H1 e1 => ?_
    refine q_when (G := gx K) (b := false) trivial (et_test (eb_eq (eb_neN (edH H1 e1) (ed_ix (i := 0) (ed_var (d := encR r2) rfl (h2.ex e1)) ed_int rfl) ?_) ?_)) (fun hb => (nomatch hb)) fun _ H2 e2 => ?_
    · exact Nat.le_trans (depth_tupL NestedKey.text 0 r2.1 fun _ _ => Nat.le_refl _) (by decide)
    · rw [decide_eq_true (show NestedKey.tup (r2.1.map .text) = encH r2.1 from rfl)]
      rfl
    have e02 := e1.trans e2
    have elR1 : EL (gx K) (tLc (iTup K (tOp (rIxT K) (tVar 0) (tC (.int 1)))) (gName 5) tYes (tCB (rRepr K) (tCons (tTupF (tCons (tOp (rIxT K) (tVar 5) (tC (.int 0))) (tCons (tCall (sp_put_in K) [] E0 (tCons (tOp (rIxT K) (tVar 5) (tC (.int 1))) (tCons (tVar 2) tNil))) tNil))) tNil)) [5]) (start N__law_is_renaming [v1, v2, .ref a]) H2 (r1.2.map fun x => .text (rpA (putAN τ x))) :=
      el_lcB encA (fun x => .text (rpA (putAN τ x))) (ed_ix (i := 1) (ed_var (d := encR r1) rfl (h1.ex e02)) ed_int rfl) (by have := hw1.most; omega) fun i c x H5 r5 hc nx => ⟨_, st_name, rfl, by
        have hcm := List.mem_of_getElem? hc
        have hwc := hw1.atoms c hcm
        refine ed_rp ?_ (putAN_wf hwc hv4)
        have h5 : ED (gx K) (tVar 5) [some v1, some v2, some (.ref a), none, none, some x] H5 (encA c) := ed_var rfl nx
        refine ed_tup (eds_cons (ed_ix (i := 0) h5 ed_int rfl) (eds_cons (fun H6 e6 Q q => call_ev ?_) eds_nil))
        have h51 : ED (gx K) (tOp (rIxT K) (tVar 5) (tC (.int 1))) [some v1, some v2, some (.ref a), none, none, some x] H5 (.tup (c.2.map Tm.enc)) := ed_ix (i := 1) h5 ed_int rfl
        refine h51 H6 e6 _ fun u H7 e7 nu => ⟨.ref a, rfl, u, a, c.2, τ, rfl, nu, tab_dka ((((e02.trans r5).trans e6).trans e7) _ _ ha), by have := hwc.len; have := arN_le c.1; omega, fun y hy => bd y (List.mem_flatMap.mpr ⟨c, hcm, hy⟩), fun v' H8 e8 nv => q v' H8 (e7.trans e8) nv⟩⟩
    have hs1 : SrtTo P w (r1.2.map fun x => .text (rpA (putAN τ x))) (sortR (r1.2.map (putAN τ))) := by
      have h := srt_texts (P := P) (w := w) ((r1.2.map (putAN τ)).map rpA)
      rw [List.map_map, List.map_map] at h
      rw [sortR, List.map_map]
      exact h
    refine q_asg (G := gx K) trivial (el_srt (P := P) (w := w) elR1.seq hs1 (by rw [sortR, (List.mergeSort_perm _ _).length_eq, List.length_map, List.length_map, List.length_map])) fun v H3 e3 hp => ?_
    obtain ⟨l1, rfl, _, xs1, hl1, nx1⟩ := hp
    have e03 := e02.trans e3
    have elR2 : EL (gx K) (tLc (iTup K (tOp (rIxT K) (tVar 1) (tC (.int 1)))) (gName 5) tYes (tCB (rRepr K) (tCons (tVar 5) tNil)) [5]) [some v1, some v2, some (.ref a), none, some (.ref l1), none] H3 (r2.2.map fun x => .text (rpA x)) :=
      el_lcB encA (fun x => .text (rpA x)) (ed_ix (i := 1) (ed_var (d := encR r2) rfl (h2.ex e03)) ed_int rfl) (by have := hw2.most; omega) fun i c x H5 r5 hc nx => ⟨_, st_name, rfl, ed_rp (ed_var rfl nx) (hw2.atoms c (List.mem_of_getElem? hc))⟩
    have hs2 : SrtTo P w (r2.2.map fun x => .text (rpA x)) (sortR r2.2) := by
      have h := srt_texts (P := P) (w := w) (r2.2.map rpA)
      rw [List.map_map] at h
      exact h
    refine ⟨.ref l1, rfl, ?_⟩
    refine el_srt (P := P) (w := w) elR2.seq hs2 (by rw [sortR, (List.mergeSort_perm _ _).length_eq]) H3 (Ex.refl _) _ fun y H4 e4 hy => ?_
    obtain ⟨l2, rfl, _, xs2, hl2, nx2⟩ := hy
    refine ⟨l1, l2, xs1, xs2, _, _, rfl, rfl, SqL.of (e4 _ _ hl1), SqL.of hl2, nx1.ex e4, nx2, fun d hd => ?_, ?_⟩
    · have hd : d ∈ (r1.2.map (putAN τ)).map fun a => NestedKey.text (rpA a) := (List.mergeSort_perm _ _).mem_iff.mp hd
      obtain ⟨z, _, rfl⟩ := List.mem_map.mp hd
      exact Nat.zero_le _
    · rw [decide_eq_true hsr]
      exact q H4 (e03.trans e4)
end
end Ew
set_option Elab.async false
set_option linter.all false
set_option maxRecDepth 100000
set_option maxHeartbeats 4000000
namespace Ew
open PySem PySem.Spec PyProof.Rows L2
open Evl (Ex)
/-! ### sorting data that are alike: one order only -/
mutual
theorem eqv_inj : ∀ a b : Nk, PyData.eqv (toPy a) (toPy b) = true → a = b
  | .none, .none, _ => rfl
  | .none, .num _, h => by simp [toPy, PyData.eqv] at h
  | .none, .text _, h => by simp [toPy, PyData.eqv] at h
  | .none, .tup _, h => by simp [toPy, PyData.eqv] at h
  | .num _, .none, h => by simp [toPy, PyData.eqv] at h
  | .num i, .num j, h => by
    have h : i = j := by simpa [toPy, PyData.eqv] using h
    rw [h]
  | .num _, .text _, h => by simp [toPy, PyData.eqv] at h
  | .num _, .tup _, h => by simp [toPy, PyData.eqv] at h
  | .text _, .none, h => by simp [toPy, PyData.eqv] at h
  | .text _, .num _, h => by simp [toPy, PyData.eqv] at h
  | .text x, .text y, h => by
    have h : x = y := by simpa [toPy, PyData.eqv] using h
    rw [h]
  | .text _, .tup _, h => by simp [toPy, PyData.eqv] at h
  | .tup _, .none, h => by simp [toPy, PyData.eqv] at h
  | .tup _, .num _, h => by simp [toPy, PyData.eqv] at h
  | .tup _, .text _, h => by simp [toPy, PyData.eqv] at h
  | .tup as, .tup bs, h => by
    rw [toPy, toPy, PyData.eqv] at h
    rw [eqvAll_inj as bs h]
theorem eqvAll_inj : ∀ as bs : List Nk, PyData.eqvAll (toPys as) (toPys bs) = true → as = bs
  | [], [], _ => rfl
  | [], _ :: _, h => by simp [toPys, PyData.eqvAll] at h
  | _ :: _, [], h => by simp [toPys, PyData.eqvAll] at h
  | a :: as, b :: bs, h => by
    rw [toPys, toPys, PyData.eqvAll, Bool.and_eq_true] at h
    rw [eqv_inj a b h.1, eqvAll_inj as bs h.2]
end
theorem dle_anti {a b : Nk} (ha : PySem.W.alike (toPy a) (toPy b) = true) (h1 : PySem.W.dataLe false toPy a b = true) (h2 : PySem.W.dataLe false toPy b a = true) : a = b := by
  have h1 : (!PyProof.Rows.lexLt itemOrd (PySem.W.keyToks (toPy b)) (PySem.W.keyToks (toPy a))) = true := h1
  have h2 : (!PyProof.Rows.lexLt itemOrd (PySem.W.keyToks (toPy a)) (PySem.W.keyToks (toPy b))) = true := h2
  rw [Bool.not_eq_true'] at h1 h2
  have t : PySem.W.keyToks (toPy a) = PySem.W.keyToks (toPy b) := lex_total _ _ h2 h1
  cases e : PyData.eqv (toPy a) (toPy b) with
  | true => exact eqv_inj _ _ e
  | false =>
    have h3 := (PySem.W.toks_eqv _ _ ha).2 e [.inl 0] [.inl 1]
    rw [t, PySem.W.lex_pre, lex_irrefl] at h3
    exact absurd h3 (by decide)
theorem dle_total : PySem.W.TotalLe (PySem.W.dataLe false toPy) := PySem.W.sortLe_total _ _ _
theorem dleM_perm {α : Type} {f : α → Nk} (hf : ∀ a b, f a = f b → a = b) {l l' : List α} (hp : l.Perm l') (ha : ∀ a ∈ l, ∀ b ∈ l, PySem.W.alike (toPy (f a)) (toPy (f b)) = true) :
    l.mergeSort (fun p q => PySem.W.dataLe false toPy (f p) (f q)) = l'.mergeSort (fun p q => PySem.W.dataLe false toPy (f p) (f q)) := by
  have ht : PySem.W.TotalLe (fun p q : α => PySem.W.dataLe false toPy (f p) (f q)) := ⟨fun a b c => dle_total.trans _ _ _, fun a b => dle_total.total _ _⟩
  have p1 := List.mergeSort_perm l (fun p q => PySem.W.dataLe false toPy (f p) (f q))
  have p2 := List.mergeSort_perm l' (fun p q => PySem.W.dataLe false toPy (f p) (f q))
  refine List.Perm.eq_of_pairwise (le := fun p q => PySem.W.dataLe false toPy (f p) (f q) = true) (fun a b h1 h2 h3 h4 => ?_) (PySem.W.sort_pairwise ht l) (PySem.W.sort_pairwise ht l') ((p1.trans hp).trans p2.symm)
  exact hf _ _ (dle_anti (ha a (p1.mem_iff.mp h1) b (hp.mem_iff.mpr (p2.mem_iff.mp h2))) h3 h4)
theorem sortN_perm {l l' : List Nk} (hp : l.Perm l') (ha : ∀ a ∈ l, ∀ b ∈ l, PySem.W.alike (toPy a) (toPy b) = true) : sortN l = sortN l' := dleM_perm (f := fun a => a) (fun _ _ e => e) hp ha
theorem perm_sortN {l l' : List Nk} (h : sortN l = sortN l') : l.Perm l' := by
  have p1 := List.mergeSort_perm l (PySem.W.dataLe false toPy)
  have p2 := List.mergeSort_perm l' (PySem.W.dataLe false toPy)
  have h : l.mergeSort (PySem.W.dataLe false toPy) = l'.mergeSort (PySem.W.dataLe false toPy) := h
  rw [h] at p1
  exact p1.symm.trans p2
theorem srtIdx_perm {is js : List Nat} (h : is.Perm js) : srtIdx is = srtIdx js := by
  rw [srtIdx, srtIdx, sortN_perm (h.map _) fun a ha b hb => ?_]
  obtain ⟨i, _, rfl⟩ := List.mem_map.mp ha
  obtain ⟨j, _, rfl⟩ := List.mem_map.mp hb
  simp [toPy, PySem.W.alike]
theorem perm_srtIdx {is js : List Nat} (h : srtIdx is = srtIdx js) : is.Perm js := by
  have h := perm_sortN (NestedKey.tup.inj h)
  have h2 := h.filterMap (fun d => match d with | .num i => some i.toNat | _ => none)
  rw [List.filterMap_map, List.filterMap_map] at h2
  have e : ((fun d : Nk => match d with | .num i => some i.toNat | _ => none) ∘ fun i : Nat => NestedKey.num (i : Nat)) = some := by funext i; simp
  rw [e, List.filterMap_some, List.filterMap_some] at h2
  exact h2
/-! ### lists of lists, as heaps of things -/
theorem perm_fm {α β : Type} {f g : α → List β} : ∀ l : List α, (∀ a ∈ l, (f a).Perm (g a)) → (l.flatMap f).Perm (l.flatMap g)
  | [], _ => .refl _
  | a :: l, h => (h a List.mem_cons_self).append (perm_fm l fun b hb => h b (List.mem_cons_of_mem _ hb))
theorem perm_fm_app {α β : Type} (f g : α → List β) : ∀ l : List α, (l.flatMap fun a => f a ++ g a).Perm (l.flatMap f ++ l.flatMap g)
  | [] => .refl _
  | a :: l => by
    rw [List.flatMap_cons, List.flatMap_cons, List.flatMap_cons]
    refine ((perm_fm_app f g l).append_left _).trans ?_
    rw [List.append_assoc, List.append_assoc]
    refine List.Perm.append_left _ ?_
    rw [← List.append_assoc, ← List.append_assoc]
    exact List.perm_append_comm.append_right _
theorem perm_fm_comm {α β γ : Type} (f : α → β → List γ) (ys : List β) : ∀ xs : List α, (xs.flatMap fun a => ys.flatMap (f a)).Perm (ys.flatMap fun b => xs.flatMap fun a => f a b)
  | [] => by
    have : (ys.flatMap fun b => ([] : List α).flatMap fun a => f a b) = [] := List.flatMap_eq_nil_iff.mpr fun b _ => rfl
    rw [this]
    exact .refl _
  | a :: xs => ((perm_fm_comm f ys xs).append_left _).trans (perm_fm_app (f a) (fun b => xs.flatMap fun a => f a b) ys).symm
/-- a map that is one to one on the two lists -/
theorem perm_unmap {α β : Type} [DecidableEq β] {f : α → β} {l l' : List α} (hf : ∀ a ∈ l ++ l', ∀ b ∈ l ++ l', f a = f b → a = b) (h : (l.map f).Perm (l'.map f)) : l.Perm l' := by
  have key : ∀ a ∈ l ++ l', (l ++ l').find? (fun b => decide (f b = f a)) = some a := fun a ha => by
    cases e : (l ++ l').find? (fun b => decide (f b = f a)) with
    | none => exact absurd (decide_eq_true rfl) (List.find?_eq_none.mp e a ha)
    | some b =>
      have h1 := List.find?_some e
      have h2 := List.mem_of_find?_eq_some e
      rw [hf b h2 a ha (of_decide_eq_true h1)]
  have h2 := h.filterMap fun y => (l ++ l').find? (fun b => decide (f b = y))
  rw [List.filterMap_map, List.filterMap_map] at h2
  have e : ∀ m : List α, (∀ a ∈ m, a ∈ l ++ l') → m.filterMap ((fun y => (l ++ l').find? (fun b => decide (f b = y))) ∘ f) = m := by
    intro m
    induction m with
    | nil => exact fun _ => rfl
    | cons a m ih =>
      intro hm
      rw [List.filterMap_cons, ih fun b hb => hm b (List.mem_cons_of_mem _ hb)]
      show (match (l ++ l').find? (fun b => decide (f b = f a)) with | none => m | some b => b :: m) = _
      rw [key a (hm a List.mem_cons_self)]
  rw [e l fun a ha => List.mem_append_left _ ha, e l' fun a ha => List.mem_append_right _ ha] at h2
  exact h2
theorem perm_of_sub {α : Type} [DecidableEq α] : ∀ {l m : List α}, l.Nodup → (∀ x ∈ l, x ∈ m) → m.length ≤ l.length → m.Perm l
  | [], m, _, _, h => by rw [List.eq_nil_of_length_eq_zero (Nat.le_zero.mp h)]
  | x :: l, m, hn, hs, h => by
    have hx := hs x List.mem_cons_self
    have h1 := perm_of_sub (l := l) (m := m.erase x) (List.nodup_cons.mp hn).2 (fun y hy => by
      refine (List.mem_erase_of_ne fun e => ?_).mpr (hs y (List.mem_cons_of_mem _ hy))
      rw [e] at hy
      exact (List.nodup_cons.mp hn).1 hy) (by
      rw [List.length_erase_of_mem hx]
      rw [List.length_cons] at h
      omega)
    exact (List.perm_cons_erase hx).trans (h1.cons x)
/-! ### groups -/
section
variable {β : Type}
def grpG1 (g : List (Nk × List β)) (p : Nk × β) : List (Nk × List β) := aPut g p.1 (((aGet g p.1).getD []) ++ [p.2])
def grpG (L : List (Nk × β)) : List (Nk × List β) := L.foldl grpG1 []
def colG (L : List (Nk × β)) (k : Nk) : List β := (L.filter fun p => decide (p.1 = k)).map (·.2)
theorem colG_snoc (L : List (Nk × β)) (p : Nk × β) (k : Nk) : colG (L ++ [p]) k = colG L k ++ if p.1 = k then [p.2] else [] := by
  rw [colG, List.filter_append, List.map_append]
  by_cases h : p.1 = k
  · rw [if_pos h, List.filter_cons_of_pos (by simpa using h)]; rfl
  · rw [if_neg h, List.filter_cons_of_neg (by simpa using h)]; rfl
theorem colG_perm {L L' : List (Nk × β)} (h : L.Perm L') (k : Nk) : (colG L k).Perm (colG L' k) := (h.filter _).map _
theorem grpG_get (L : List (Nk × β)) (k : Nk) : aGet (grpG L) k = if (colG L k).isEmpty then none else some (colG L k) := by
  have : ∀ (L L0 : List (Nk × β)) (g : List (Nk × List β)), (∀ k, aGet g k = if (colG L0 k).isEmpty then none else some (colG L0 k)) → ∀ k, aGet (L.foldl grpG1 g) k = if (colG (L0 ++ L) k).isEmpty then none else some (colG (L0 ++ L) k) := by
    intro L
    induction L with
    | nil => intro L0 g h k; rw [List.append_nil]; exact h k
    | cons p L ih =>
      intro L0 g h k
      have e1 : L0 ++ p :: L = (L0 ++ [p]) ++ L := by simp
      rw [e1]
      refine ih (L0 ++ [p]) (grpG1 g p) (fun k => ?_) k
      rw [grpG1, aGet_put, colG_snoc]
      by_cases hk : k = p.1
      · subst hk
        rw [if_pos rfl, if_pos rfl, h p.1]
        cases colG L0 p.1 with
        | nil => rfl
        | cons x xs => rfl
      · have hk2 : ¬ p.1 = k := fun e => hk e.symm
        rw [if_neg hk, if_neg hk2, List.append_nil]
        exact h k
  have h := this L [] [] (fun k => rfl) k
  rw [List.nil_append] at h
  exact h
theorem grpG_getD (L : List (Nk × β)) (k : Nk) : (aGet (grpG L) k).getD [] = colG L k := by
  rw [grpG_get]
  cases colG L k with
  | nil => rfl
  | cons x xs => rfl
end
/-! ### the law's ways, as rows with sorted numbers -/
def outF (h : List Str) (is : List Nat) (e : Wy) : Nk × Nk := (headRow h e.1, srtIdx (e.2 ++ is))
def meansF (h : List Str) (fs : List Fact) (as : List Atom) (m : List (Str × Nk)) (is : List Nat) : List (Nk × Nk) := (meansP fs as m).map (outF h is)
theorem grpL_G (h : List Str) (W : List Wy) : grpL h W = grpG (W.map (outF h [])) := by
  rw [grpL, grpG, List.foldl_map]
  congr 1
  funext g e
  rw [grpL1, grpG1, outF, List.append_nil]
theorem lawWays_get (h : List Str) (fs : List Fact) (as : List Atom) (k : Nk) : aGet (lawWays h fs as) k = if (colG (meansF h fs as [] []) k).isEmpty then none else some (sortN (colG (meansF h fs as [] []) k)) := by
  have e := aGet_map (f := fun k : Nk => k) (fun _ _ e => e) sortN k (grpL h (meansP fs as []))
  rw [lawWays, e, grpL_G, grpG_get, meansF]
  cases colG ((meansP fs as []).map (outF h [])) k with
  | nil => rfl
  | cons x xs => rfl
theorem lawWays_getD (h : List Str) (fs : List Fact) (as : List Atom) (k : Nk) : (aGet (lawWays h fs as) k).getD [] = sortN (colG (meansF h fs as [] []) k) := by
  rw [lawWays_get]
  cases colG (meansF h fs as [] []) k with
  | nil => simp [sortN]
  | cons x xs => rfl
theorem lawWays_nodup (h : List Str) (fs : List Fact) (as : List Atom) : ((lawWays h fs as).map (·.1)).Nodup := by
  rw [lawWays, List.map_map]
  exact grpL_nodup h (meansP fs as [])
theorem meansF_idx {h : List Str} {fs : List Fact} {as : List Atom} {m : List (Str × Nk)} {is : List Nat} {p : Nk × Nk} (hp : p ∈ meansF h fs as m is) : ∃ e ∈ meansP fs as m, p.1 = headRow h e.1 ∧ p.2 = srtIdx (e.2 ++ is) := by
  obtain ⟨e, he, rfl⟩ := List.mem_map.mp hp
  exact ⟨e, he, rfl, rfl⟩
theorem srtIdx_alike (is js : List Nat) : PySem.W.alike (toPy (srtIdx is)) (toPy (srtIdx js)) = true := by
  obtain ⟨js1, _, e1⟩ := srtIdx_map is
  obtain ⟨js2, _, e2⟩ := srtIdx_map js
  rw [e1, e2, toPy, toPy, PySem.W.alike]
  exact alike_nums js1 js2
/-- two rules whose ways are the same heap have the same dict of ways -/
theorem lawWays_same {h1 h2 : List Str} {fs : List Fact} {as bs : List Atom} (hp : (meansF h1 fs as [] []).Perm (meansF h2 fs bs [] [])) (k : Nk) : aGet (lawWays h1 fs as) k = aGet (lawWays h2 fs bs) k := by
  have hc := colG_perm hp k
  rw [lawWays_get, lawWays_get, hc.isEmpty_eq, sortN_perm hc fun a ha b hb => ?_]
  obtain ⟨p, hp, rfl⟩ := List.mem_map.mp ha
  obtain ⟨q, hq, rfl⟩ := List.mem_map.mp hb
  obtain ⟨e, _, _, h3⟩ := meansF_idx (List.mem_filter.mp hp).1
  obtain ⟨e', _, _, h4⟩ := meansF_idx (List.mem_filter.mp hq).1
  rw [h3, h4]
  exact srtIdx_alike _ _
end Ew
set_option Elab.async false
set_option linter.all false
set_option maxRecDepth 100000
set_option maxHeartbeats 4000000
namespace Ew
open PySem PySem.Spec PyProof.Rows L2
open Evl (Ex)
/-! ### fits, by what they must agree with -/
section
variable {β : Type} [DecidableEq β]
def EqE (m n : List (Str × β)) : Prop := ∀ x, aGet m x = aGet n x
def OEq : Option (List (Str × β)) → Option (List (Str × β)) → Prop
  | none, none => True
  | some m, some n => EqE m n
  | _, _ => False
theorem fit1_cpl {emb : Nk → β} {m n : List (Str × β)} {t : Tm} {u : β} (h : ∀ x v, aGet m x = some v → aGet n x = some v) (ht : tval emb n t = some u) : ∃ m', fit1 emb m t u = some m' ∧ ∀ x v, aGet m' x = some v → aGet n x = some v := by
  cases t with
  | val c =>
    have e : emb c = u := Option.some.inj ht
    exact ⟨m, by simp only [fit1]; rw [if_pos e], h⟩
  | var y =>
    have ht : aGet n y = some u := ht
    cases g : aGet m y with
    | some w =>
      have := h y w g
      rw [ht] at this
      cases this
      exact ⟨m, by rw [fit1_old g, if_pos rfl], h⟩
    | none =>
      refine ⟨_, fit1_new g, fun x v hx => ?_⟩
      rw [aGet_put] at hx
      split at hx
      · rename_i e
        cases hx
        rw [e]
        exact ht
      · exact h x v hx
theorem fitL_cpl {emb : Nk → β} {n : List (Str × β)} : ∀ {zs : List (Tm × β)} {m : List (Str × β)}, (∀ x v, aGet m x = some v → aGet n x = some v) → (∀ z ∈ zs, tval emb n z.1 = some z.2) → ∃ m', fitL emb zs m = some m' ∧ ∀ x v, aGet m' x = some v → aGet n x = some v
  | [], m, h, _ => ⟨m, rfl, h⟩
  | z :: zs, m, h, hz => by
    obtain ⟨m1, h1, h2⟩ := fit1_cpl h (hz z List.mem_cons_self)
    obtain ⟨m2, h3, h4⟩ := fitL_cpl (zs := zs) h2 fun y hy => hz y (List.mem_cons_of_mem _ hy)
    refine ⟨m2, ?_, h4⟩
    show (fit1 emb m z.1 z.2).bind (fitL emb zs) = some m2
    rw [h1]
    exact h3
theorem fitL_half {emb : Nk → β} {zs zs' : List (Tm × β)} {m n m' : List (Str × β)} (hs : ∀ z, z ∈ zs' → z ∈ zs) (he : EqE m n) (h : fitL emb zs m = some m') : ∃ n', fitL emb zs' n = some n' ∧ ∀ x v, aGet n' x = some v → aGet m' x = some v :=
  have b := fitL_spec h
  fitL_cpl (fun x v hx => b.1 x v (by rw [he x]; exact hx)) fun z hz => b.2.1 z (hs z hz)
theorem fitL_eqv {emb : Nk → β} {zs zs' : List (Tm × β)} {m n : List (Str × β)} (hs : ∀ z, z ∈ zs ↔ z ∈ zs') (he : EqE m n) : OEq (fitL emb zs m) (fitL emb zs' n) := by
  cases h : fitL emb zs m with
  | none =>
    cases h' : fitL emb zs' n with
    | none => trivial
    | some n' =>
      obtain ⟨m', e, _⟩ := fitL_half (fun z => (hs z).mp) (fun x => (he x).symm) h'
      rw [h] at e
      cases e
  | some m' =>
    obtain ⟨n', e, f⟩ := fitL_half (fun z => (hs z).mpr) he h
    rw [e]
    obtain ⟨m'', e2, f2⟩ := fitL_half (fun z => (hs z).mp) (fun x => (he x).symm) e
    rw [h] at e2
    cases e2
    intro x
    cases g : aGet m' x with
    | some v => exact (f2 x v g).symm
    | none =>
      cases g' : aGet n' x with
      | none => rfl
      | some v =>
        have := f x v g'
        rw [g] at this
        cases this
theorem fitL_app {emb : Nk → β} : ∀ (xs ys : List (Tm × β)) (m : List (Str × β)), fitL emb (xs ++ ys) m = (fitL emb xs m).bind (fitL emb ys)
  | [], ys, m => rfl
  | x :: xs, ys, m => by
    show (fit1 emb m x.1 x.2).bind (fitL emb (xs ++ ys)) = ((fit1 emb m x.1 x.2).bind (fitL emb xs)).bind (fitL emb ys)
    cases fit1 emb m x.1 x.2 with
    | none => rfl
    | some m1 => exact fitL_app xs ys m1
end
/-! ### the ways, under another order of the atoms -/
def stepF (h : List Str) (fs : List Fact) (a : Atom) (as : List Atom) (m : List (Str × Nk)) (is : List Nat) (r : Nat × List Nk) : List (Nk × Nk) := match fitL nkId (a.2.zip r.2) m with
  | none => []
  | some m' => meansF h fs as m' (r.1 :: is)
theorem meansF_cons (h : List Str) (fs : List Fact) (a : Atom) (as : List Atom) (m : List (Str × Nk)) (is : List Nat) : meansF h fs (a :: as) m is = (rowsOf fs a.1).flatMap (stepF h fs a as m is) := by
  rw [meansF, meansP_cons, List.map_flatMap]
  congr 1
  funext r
  unfold rowW stepF
  cases fitL nkId (a.2.zip r.2) m with
  | none => rfl
  | some m' =>
    show List.map (outF h is) (List.map _ _) = meansF h fs as m' (r.1 :: is)
    rw [List.map_map, meansF]
    refine List.map_congr_left fun e _ => ?_
    show (headRow h e.1, srtIdx ((e.2 ++ [r.1]) ++ is)) = (headRow h e.1, srtIdx (e.2 ++ (r.1 :: is)))
    rw [List.append_assoc]
    rfl
theorem headRow_eq {h : List Str} {m n : List (Str × Nk)} (e : EqE m n) : headRow h m = headRow h n := by
  rw [headRow, headRow]
  congr 1
  exact List.map_congr_left fun x _ => by rw [e x]
theorem meansF_congr (h : List Str) (fs : List Fact) : ∀ (as : List Atom) {m n : List (Str × Nk)} {is js : List Nat}, EqE m n → is.Perm js → meansF h fs as m is = meansF h fs as n js
  | [], m, n, is, js, e, p => by
    show [(headRow h m, srtIdx ([] ++ is))] = [(headRow h n, srtIdx ([] ++ js))]
    rw [List.nil_append, List.nil_append, headRow_eq e, srtIdx_perm p]
  | a :: as, m, n, is, js, e, p => by
    rw [meansF_cons, meansF_cons]
    congr 1
    funext r
    unfold stepF
    have h := fitL_eqv (emb := nkId) (zs := a.2.zip r.2) (zs' := a.2.zip r.2) (fun z => Iff.rfl) e
    cases h1 : fitL nkId (a.2.zip r.2) m with
    | none =>
      cases h2 : fitL nkId (a.2.zip r.2) n with
      | none => rfl
      | some n' => rw [h1, h2] at h; exact h.elim
    | some m' =>
      cases h2 : fitL nkId (a.2.zip r.2) n with
      | none => rw [h1, h2] at h; exact h.elim
      | some n' =>
        rw [h1, h2] at h
        exact meansF_congr _ fs as h (p.cons r.1)
def step2 (h : List Str) (fs : List Fact) (a b : Atom) (as : List Atom) (m : List (Str × Nk)) (is : List Nat) (r s : Nat × List Nk) : List (Nk × Nk) := match fitL nkId (a.2.zip r.2) m with
  | none => []
  | some m' => stepF h fs b as m' (r.1 :: is) s
theorem step2_eq (h : List Str) (fs : List Fact) (a b : Atom) (as : List Atom) (m : List (Str × Nk)) (is : List Nat) (r s : Nat × List Nk) : step2 h fs a b as m is r s = match fitL nkId (a.2.zip r.2 ++ b.2.zip s.2) m with
  | none => []
  | some m' => meansF h fs as m' (s.1 :: r.1 :: is) := by
  rw [fitL_app]
  unfold step2 stepF
  cases fitL nkId (a.2.zip r.2) m with
  | none => rfl
  | some m' => rfl
theorem step2_comm (h : List Str) (fs : List Fact) (a b : Atom) (as : List Atom) (m : List (Str × Nk)) (is : List Nat) (r s : Nat × List Nk) : step2 h fs a b as m is r s = step2 h fs b a as m is s r := by
  rw [step2_eq, step2_eq]
  have e := fitL_eqv (emb := nkId) (zs := a.2.zip r.2 ++ b.2.zip s.2) (zs' := b.2.zip s.2 ++ a.2.zip r.2) (m := m) (n := m) (fun z => by rw [List.mem_append, List.mem_append, or_comm]) (fun x => rfl)
  cases h1 : fitL nkId (a.2.zip r.2 ++ b.2.zip s.2) m with
  | none =>
    cases h2 : fitL nkId (b.2.zip s.2 ++ a.2.zip r.2) m with
    | none => rfl
    | some n' => rw [h1, h2] at e; exact e.elim
  | some m' =>
    cases h2 : fitL nkId (b.2.zip s.2 ++ a.2.zip r.2) m with
    | none => rw [h1, h2] at e; exact e.elim
    | some n' =>
      rw [h1, h2] at e
      exact meansF_congr h fs as e (List.Perm.swap _ _ _)
theorem meansF_two (h : List Str) (fs : List Fact) (a b : Atom) (as : List Atom) (m : List (Str × Nk)) (is : List Nat) : meansF h fs (a :: b :: as) m is = (rowsOf fs a.1).flatMap fun r => (rowsOf fs b.1).flatMap (step2 h fs a b as m is r) := by
  rw [meansF_cons]
  congr 1
  funext r
  unfold stepF step2
  cases fitL nkId (a.2.zip r.2) m with
  | none => exact (List.flatMap_eq_nil_iff.mpr fun _ _ => rfl).symm
  | some m' => exact meansF_cons h fs b as m' (r.1 :: is)
theorem meansF_perm (h : List Str) (fs : List Fact) {as bs : List Atom} (p : as.Perm bs) : ∀ (m : List (Str × Nk)) (is : List Nat), (meansF h fs as m is).Perm (meansF h fs bs m is) := by
  induction p with
  | nil => exact fun m is => .refl _
  | cons a p ih =>
    intro m is
    rw [meansF_cons, meansF_cons]
    refine perm_fm _ fun r _ => ?_
    unfold stepF
    cases fitL nkId (a.2.zip r.2) m with
    | none => exact .refl _
    | some m' => exact ih m' (r.1 :: is)
  | swap a b l =>
    intro m is
    rw [meansF_two, meansF_two]
    have e : (fun r => (rowsOf fs a.1).flatMap (step2 h fs b a l m is r)) = fun r => (rowsOf fs a.1).flatMap fun s => step2 h fs a b l m is s r := by
      funext r
      congr 1
      funext s
      exact step2_comm h fs b a l m is r s
    rw [e]
    exact (perm_fm_comm (fun s r => step2 h fs a b l m is s r) (rowsOf fs b.1) (rowsOf fs a.1)).symm
  | trans _ _ ih1 ih2 => exact fun m is => (ih1 m is).trans (ih2 m is)
/-! ### the ways, under other names -/
def renT (τ : Str → Str) : Tm → Tm
  | .var x => .var (τ x)
  | .val c => .val c
def renA (τ : Str → Str) (a : Atom) : Atom := (a.1, a.2.map (renT τ))
def RenE (τ : Str → Str) (S : List Str) (m n : List (Str × Nk)) : Prop := ∀ x ∈ S, aGet n (τ x) = aGet m x
section
variable {τ : Str → Str} {S : List Str}
theorem fit1_ren (hi : ∀ x ∈ S, ∀ y ∈ S, τ x = τ y → x = y) {m n : List (Str × Nk)} (e : RenE τ S m n) {t : Tm} (ht : ∀ x, t = .var x → x ∈ S) (u : Nk) :
    (fit1 nkId m t u = none ∧ fit1 nkId n (renT τ t) u = none) ∨ ∃ m' n', fit1 nkId m t u = some m' ∧ fit1 nkId n (renT τ t) u = some n' ∧ RenE τ S m' n' := by
  cases t with
  | val c =>
    simp only [renT, fit1]
    by_cases hc : nkId c = u
    · rw [if_pos hc, if_pos hc]
      exact .inr ⟨m, n, rfl, rfl, e⟩
    · rw [if_neg hc, if_neg hc]
      exact .inl ⟨rfl, rfl⟩
  | var x =>
    have hx := ht x rfl
    have ex := e x hx
    show (fit1 nkId m (.var x) u = none ∧ fit1 nkId n (.var (τ x)) u = none) ∨ ∃ m' n', fit1 nkId m (.var x) u = some m' ∧ fit1 nkId n (.var (τ x)) u = some n' ∧ RenE τ S m' n'
    cases g : aGet m x with
    | some w =>
      rw [g] at ex
      rw [fit1_old g, fit1_old ex]
      by_cases hc : w = u
      · rw [if_pos hc, if_pos hc]
        exact .inr ⟨m, n, rfl, rfl, e⟩
      · rw [if_neg hc, if_neg hc]
        exact .inl ⟨rfl, rfl⟩
    | none =>
      rw [g] at ex
      refine .inr ⟨_, _, fit1_new g, fit1_new ex, fun y hy => ?_⟩
      rw [aGet_put, aGet_put]
      by_cases hyx : y = x
      · rw [if_pos hyx, if_pos (by rw [hyx])]
      · rw [if_neg hyx, if_neg (fun z => hyx (hi y hy x hx z))]
        exact e y hy
theorem fitL_ren (hi : ∀ x ∈ S, ∀ y ∈ S, τ x = τ y → x = y) : ∀ (ts : List Tm) (us : List Nk) {m n : List (Str × Nk)}, RenE τ S m n → (∀ x, Tm.var x ∈ ts → x ∈ S) →
    (fitL nkId (ts.zip us) m = none ∧ fitL nkId ((ts.map (renT τ)).zip us) n = none) ∨ ∃ m' n', fitL nkId (ts.zip us) m = some m' ∧ fitL nkId ((ts.map (renT τ)).zip us) n = some n' ∧ RenE τ S m' n'
  | [], us, m, n, e, _ => .inr ⟨m, n, rfl, rfl, e⟩
  | t :: ts, [], m, n, e, _ => .inr ⟨m, n, rfl, rfl, e⟩
  | t :: ts, u :: us, m, n, e, h => by
    rw [List.map_cons, List.zip_cons_cons, List.zip_cons_cons]
    show ((fit1 nkId m t u).bind (fitL nkId (ts.zip us)) = none ∧ (fit1 nkId n (renT τ t) u).bind (fitL nkId ((ts.map (renT τ)).zip us)) = none) ∨ ∃ m' n', (fit1 nkId m t u).bind (fitL nkId (ts.zip us)) = some m' ∧ (fit1 nkId n (renT τ t) u).bind (fitL nkId ((ts.map (renT τ)).zip us)) = some n' ∧ RenE τ S m' n'
    rcases fit1_ren hi e (t := t) (fun x hx => h x (by rw [hx]; exact List.mem_cons_self)) u with ⟨h1, h2⟩ | ⟨m1, n1, h1, h2, e1⟩
    · rw [h1, h2]
      exact .inl ⟨rfl, rfl⟩
    · rw [h1, h2]
      exact fitL_ren hi ts us e1 fun x hx => h x (List.mem_cons_of_mem _ hx)
theorem meansF_ren (hi : ∀ x ∈ S, ∀ y ∈ S, τ x = τ y → x = y) {h : List Str} (hh : ∀ x ∈ h, x ∈ S) (fs : List Fact) : ∀ (as : List Atom) {m n : List (Str × Nk)} (is : List Nat), RenE τ S m n → (∀ x, Tm.var x ∈ tmsOf as → x ∈ S) → meansF h fs as m is = meansF (h.map τ) fs (as.map (renA τ)) n is
  | [], m, n, is, e, _ => by
    show [(headRow h m, srtIdx ([] ++ is))] = [(headRow (h.map τ) n, srtIdx ([] ++ is))]
    have : headRow h m = headRow (h.map τ) n := by
      rw [headRow, headRow, List.map_map]
      congr 1
      exact List.map_congr_left fun x hx => by
        show (aGet m x).getD .none = (aGet n (τ x)).getD .none
        rw [e x (hh x hx)]
    rw [this]
  | a :: as, m, n, is, e, hv => by
    rw [List.map_cons, meansF_cons, meansF_cons]
    have e1 : (renA τ a).1 = a.1 := rfl
    rw [e1]
    congr 1
    funext r
    unfold stepF
    have e2 : (renA τ a).2 = a.2.map (renT τ) := rfl
    rw [e2]
    rcases fitL_ren hi a.2 r.2 e (fun x hx => hv x (List.mem_flatMap.mpr ⟨a, List.mem_cons_self, hx⟩)) with ⟨h1, h2⟩ | ⟨m1, n1, h1, h2, e3⟩
    · rw [h1, h2]
    · rw [h1, h2]
      refine meansF_ren hi hh fs as (r.1 :: is) e3 fun x hx => hv x ?_
      obtain ⟨b, hb, hx⟩ := List.mem_flatMap.mp hx
      exact List.mem_flatMap.mpr ⟨b, List.mem_cons_of_mem _ hb, hx⟩
end
/-- rules that are alike by a renaming have the same ways -/
theorem ways_ren {r1 r2 : Rule} {τ : Str → Str} (w1 : WfR r1) (hi : ∀ x ∈ varsOf r1.2, ∀ y ∈ varsOf r1.2, τ x = τ y → x = y) (hh : r2.1 = r1.1.map τ) (hp : (r1.2.map (renA τ)).Perm r2.2) (fs : List Fact) (k : Nk) : aGet (lawWays r1.1 fs r1.2) k = aGet (lawWays r2.1 fs r2.2) k := by
  refine lawWays_same ?_ k
  rw [meansF_ren (τ := τ) (S := varsOf r1.2) hi (fun x hx => mem_varsOf.mpr (w1.safe x hx)) fs r1.2 (m := []) (n := []) [] (fun x _ => rfl) (fun x hx => mem_varsOf.mpr hx), hh]
  exact meansF_perm _ fs hp [] []
end Ew
set_option Elab.async false
set_option linter.all false
set_option maxRecDepth 100000
set_option maxHeartbeats 4000000
namespace Ew
open PySem PySem.Spec PyProof.Rows L2
open Evl (Ex)
/-! ### association lists, by what they answer -/
section
variable {κ β : Type} [DecidableEq κ]
theorem aGet_of_mem : ∀ {m : List (κ × β)} {k : κ} {v : β}, (m.map (·.1)).Nodup → (k, v) ∈ m → aGet m k = some v := fun {m k v} hn h => by
  have hs : (aGet m k).isSome = true := aGet_isSome.mpr (List.mem_map.mpr ⟨_, h, rfl⟩)
  obtain ⟨w, hw⟩ := Option.isSome_iff_exists.mp hs
  rw [hw, nodup_fst hn (aGet_mem hw) h]
theorem nodup_of_keys {m : List (κ × β)} (h : (m.map (·.1)).Nodup) : m.Nodup := by
  have h : (m.map (·.1)).Pairwise (· ≠ ·) := h
  have h := List.pairwise_map.mp h
  exact h.imp fun z e => z (by rw [e])
theorem assoc_perm [DecidableEq β] {m n : List (κ × β)} (hm : (m.map (·.1)).Nodup) (hn : (n.map (·.1)).Nodup) (h : ∀ k, aGet m k = aGet n k) : m.Perm n :=
  (List.perm_ext_iff_of_nodup (nodup_of_keys hm) (nodup_of_keys hn)).mpr fun p => by
    obtain ⟨k, v⟩ := p
    exact ⟨fun z => aGet_mem (by rw [← h]; exact aGet_of_mem hm z), fun z => aGet_mem (by rw [h]; exact aGet_of_mem hn z)⟩
theorem perm_get {m n : List (κ × β)} (hm : (m.map (·.1)).Nodup) (h : m.Perm n) (k : κ) : aGet m k = aGet n k := by
  have hn : (n.map (·.1)).Nodup := (h.map _).nodup_iff.mp hm
  cases e : aGet m k with
  | some v => exact (aGet_of_mem hn (h.mem_iff.mp (aGet_mem e))).symm
  | none =>
    cases e2 : aGet n k with
    | none => rfl
    | some v =>
      have := aGet_of_mem hm (h.mem_iff.mpr (aGet_mem e2))
      rw [e] at this
      cases this
end
/-! ### monomials of lists of numbers -/
def moL (is : List Nat) : Mo := is.foldr (fun i M => mulMo M (i : Nat)) []
theorem moL_nodup : ∀ is : List Nat, ((moL is).map (·.1)).Nodup
  | [] => List.nodup_nil
  | i :: is => mulMo_nodup (moL_nodup is)
theorem moL_get (i : Nat) (is : List Nat) (k : Int) : aGet (moL (i :: is)) k = if k = (i : Int) then some ((aGet (moL is) (i : Int)).getD 0 + 1) else aGet (moL is) k := by
  have hb : ((bump (moL is) (i : Nat) 1).map (·.1)).Nodup := aPut_nodup (moL_nodup is)
  have hp : (moL (i :: is)).Perm (bump (moL is) (i : Nat) 1) := List.mergeSort_perm _ _
  rw [perm_get (moL_nodup _) hp k, bump, aGet_put]
theorem moL_same {is js : List Nat} (p : is.Perm js) : ∀ k, aGet (moL is) k = aGet (moL js) k := by
  induction p with
  | nil => exact fun k => rfl
  | cons i p ih => exact fun k => by rw [moL_get, moL_get, ih, ih]
  | swap i j l =>
    intro k
    rw [moL_get, moL_get, moL_get, moL_get]
    rw [moL_get, moL_get]
    by_cases h1 : k = (i : Int)
    · by_cases h2 : k = (j : Int)
      · have h3 : (i : Int) = (j : Int) := h1.symm.trans h2
        have h3 : i = j := Int.ofNat.inj h3
        subst h3
        rfl
      · have h3 : ¬ (i : Int) = (j : Int) := fun e => h2 (h1.trans e)
        simp only [if_pos h1, if_neg h2, if_neg h3]
    · by_cases h2 : k = (j : Int)
      · have h3 : ¬ (j : Int) = (i : Int) := fun e => h1 (h2.trans e)
        simp only [if_neg h1, if_pos h2, if_neg h3]
      · simp only [if_neg h1, if_neg h2]
  | trans _ _ ih1 ih2 => exact fun k => (ih1 k).trans (ih2 k)
theorem moL_perm {is js : List Nat} (p : is.Perm js) : moL is = moL js := by
  cases is with
  | nil => rw [p.nil_eq]
  | cons i is =>
    cases js with
    | nil => exact absurd p.eq_nil (by simp)
    | cons j js =>
      have h := assoc_perm (moL_nodup (i :: is)) (moL_nodup (j :: js)) (moL_same p)
      have p1 : (moL (i :: is)).Perm (bump (moL is) (i : Nat) 1) := List.mergeSort_perm _ _
      have p2 : (moL (j :: js)).Perm (bump (moL js) (j : Nat) 1) := List.mergeSort_perm _ _
      exact dleM_perm encII_inj ((p1.symm.trans h).trans p2) fun a _ b _ => alike_II a b
theorem moL_count : ∀ (is : List Nat) (k : Nat), (aGet (moL is) (k : Int)).getD 0 = (is.count k : Nat)
  | [], k => rfl
  | i :: is, k => by
    rw [moL_get]
    by_cases h : k = i
    · subst h
      rw [if_pos rfl, List.count_cons_self]
      show (aGet (moL is) (k : Int)).getD 0 + 1 = _
      rw [moL_count is k]
      omega
    · have h2 : ¬ (k : Int) = (i : Int) := fun e => h (Int.ofNat.inj e)
      rw [if_neg h2, List.count_cons_of_ne (fun e => h e.symm), moL_count is k]
theorem perm_moL {is js : List Nat} (h : moL is = moL js) : is.Perm js := List.perm_iff_count.mpr fun k => by
  have h1 := moL_count is k
  have h2 := moL_count js k
  rw [h, h2] at h1
  exact Int.ofNat.inj h1.symm
/-! ### sums of monomials -/
theorem sumPo_app (Ms : List Mo) (M : Mo) : sumPo (Ms ++ [M]) = sortPo (addPo (sumPo Ms) M 1) := by
  cases Ms with
  | nil =>
    show [(M, 1)] = sortPo [(M, 0 + 1)]
    simp [sortPo]
  | cons A Ms => exact sumPo_snoc (A :: Ms) M (by simp)
theorem sumPo_get (Ms : List Mo) (M N : Mo) : aGet (sumPo (Ms ++ [M])) N = if N = M then some ((aGet (sumPo Ms) M).getD 0 + 1) else aGet (sumPo Ms) N := by
  have hp : (sumPo (Ms ++ [M])).Perm (addPo (sumPo Ms) M 1) := by rw [sumPo_app]; exact List.mergeSort_perm _ _
  rw [perm_get (sumPo_nodup _) hp N, addPo, aGet_put]
theorem sumPo_cnt (Ms : List Mo) (N : Mo) : aGet (sumPo Ms) N = if N ∈ Ms then some (Ms.count N : Int) else none := by
  have : ∀ (n : Nat) (Ms : List Mo), Ms.length = n → aGet (sumPo Ms) N = if N ∈ Ms then some (Ms.count N : Int) else none := by
    intro n
    induction n with
    | zero =>
      intro Ms h
      rw [List.eq_nil_of_length_eq_zero h]
      rfl
    | succ n ih =>
      intro Ms h
      have hne : Ms ≠ [] := fun e => by rw [e] at h; cases h
      have e := List.dropLast_concat_getLast hne
      generalize Ms.dropLast = L at e
      generalize Ms.getLast hne = M at e
      subst e
      rw [List.length_append, List.length_singleton] at h
      have h1 := ih L (by omega)
      rw [sumPo_get, List.count_append]
      by_cases hN : N = M
      · subst hN
        have hm' : N ∈ L ++ [N] := List.mem_append_right _ (List.mem_singleton.mpr rfl)
        rw [if_pos rfl, if_pos hm', h1, List.count_singleton_self]
        by_cases hm : N ∈ L
        · rw [if_pos hm]; rfl
        · rw [if_neg hm, List.count_eq_zero.mpr hm]; rfl
      · have h0 : List.count N [M] = 0 := List.count_eq_zero.mpr (by simpa using hN)
        rw [if_neg hN, h1, h0, Nat.add_zero]
        by_cases hm : N ∈ L
        · rw [if_pos hm, if_pos (List.mem_append_left _ hm)]
        · have hm' : N ∉ L ++ [M] := fun z => (List.mem_append.mp z).elim hm (fun z => hN (List.mem_singleton.mp z))
          rw [if_neg hm, if_neg hm']
  exact this _ Ms rfl
theorem sumPo_perm {Ms Ns : List Mo} (p : Ms.Perm Ns) : sumPo Ms = sumPo Ns := by
  have hs : (sumPo Ms).Perm (sumPo Ns) := assoc_perm (sumPo_nodup _) (sumPo_nodup _) fun N => by
    rw [sumPo_cnt, sumPo_cnt, p.count_eq]
    by_cases h : N ∈ Ms
    · rw [if_pos h, if_pos (p.mem_iff.mp h)]
    · rw [if_neg h, if_neg (fun z => h (p.mem_iff.mpr z))]
  by_cases hne : Ms = []
  · subst hne
    rw [p.nil_eq]
  · have hne2 : Ns ≠ [] := fun e => hne (by rw [e] at p; exact p.eq_nil)
    have e1 := List.dropLast_concat_getLast hne
    have e2 := List.dropLast_concat_getLast hne2
    generalize Ms.dropLast = L at e1
    generalize Ms.getLast hne = M at e1
    generalize Ns.dropLast = L2 at e2
    generalize Ns.getLast hne2 = N at e2
    subst e1
    subst e2
    rw [sumPo_app, sumPo_app] at hs ⊢
    have p1 : (sortPo (addPo (sumPo L) M 1)).Perm (addPo (sumPo L) M 1) := List.mergeSort_perm _ _
    have p2 : (sortPo (addPo (sumPo L2) N 1)).Perm (addPo (sumPo L2) N 1) := List.mergeSort_perm _ _
    exact dleM_perm encMP_inj ((p1.symm.trans hs).trans p2) fun a _ b _ => alike_MP a b
theorem sumPo_mem {Ms : List Mo} {N : Mo} : N ∈ Ms ↔ (aGet (sumPo Ms) N).isSome = true := by
  rw [sumPo_cnt]
  by_cases h : N ∈ Ms
  · rw [if_pos h]; exact ⟨fun _ => rfl, fun _ => h⟩
  · rw [if_neg h]; exact ⟨fun z => absurd z h, fun z => by cases z⟩
/-! ### the program's ways and the law's -/
def mapW (M : Mo) (e : Wy) : Way := (e.1, e.2.foldr (fun i M => mulMo M (i : Nat)) M)
theorem stepW_cons (fs : List Fact) (a : Atom) (as : List Atom) (e : Way) : (stepR fs a e).flatMap (fun e' => (meansP fs as e'.1).map (mapW e'.2)) = (meansP fs (a :: as) e.1).map (mapW e.2) := by
  rw [meansP_cons, List.map_flatMap, stepR]
  generalize rowsOf fs a.1 = rows
  induction rows with
  | nil => rfl
  | cons r rows ih =>
    rw [List.filterMap_cons, List.flatMap_cons]
    unfold rowW at ih ⊢
    cases hf : fitL nkId (a.2.zip r.2) e.1 with
    | none => exact ih
    | some m' =>
      show List.flatMap _ (_ :: _) = _
      rw [List.flatMap_cons]
      have e1 : (meansP fs as m').map (mapW (mulMo e.2 (r.1 : Nat))) = ((meansP fs as m').map fun e' => (e'.1, e'.2 ++ [r.1])).map (mapW e.2) := by
        rw [List.map_map]
        refine List.map_congr_left fun e' _ => ?_
        show (e'.1, _) = (e'.1, List.foldr _ _ (e'.2 ++ [r.1]))
        rw [List.foldr_append]
        rfl
      exact congr (congrArg HAppend.hAppend e1) ih
theorem ways_means (fs : List Fact) : ∀ (as : List Atom) (W : List Way), as.foldl (stepW fs) W = W.flatMap fun e => (meansP fs as e.1).map (mapW e.2)
  | [], W => by
    show W = W.flatMap fun e => [(e.1, e.2)]
    induction W with
    | nil => rfl
    | cons e W ih => rw [List.flatMap_cons, ← ih]; rfl
  | a :: as, W => by
    rw [List.foldl_cons, ways_means fs as, stepW, List.flatMap_assoc]
    congr 1
    funext e
    exact stepW_cons fs a as e
theorem waysP_means (fs : List Fact) (as : List Atom) : waysP fs as = (meansP fs as []).map fun e => (e.1, moL e.2) := by
  rw [waysP, ways_means]
  show (meansP fs as []).map (mapW []) ++ [] = _
  rw [List.append_nil]
  rfl
theorem grpP_G (h : List Str) (W : List Way) : grpP h W = grpG (W.map fun e => (headRow h e.1, e.2)) := by
  rw [grpP, grpG, List.foldl_map]
  rfl
/-- the monomials of a rule's ways at a row -/
def mosAt (r : Rule) (fs : List Fact) (row : Nk) : List Mo := colG ((meansP fs r.2 []).map fun e => (headRow r.1 e.1, moL e.2)) row
theorem polyRow_eq (r : Rule) (fs : List Fact) (row : Nk) : polyRow r fs row = encPo (sumPo (mosAt r fs row)) := by
  have e := aGet_map (f := fun k : Nk => k) (fun _ _ e => e) (fun l : List Mo => encPo (sumPo l)) row (grpP r.1 (waysP fs r.2))
  rw [polyRow, polyOf, e, grpP_G, waysP_means, List.map_map, mosAt]
  have e2 : ((fun e : Way => (headRow r.1 e.1, e.2)) ∘ fun e : Wy => (e.1, moL e.2)) = fun e => (headRow r.1 e.1, moL e.2) := rfl
  rw [e2]
  generalize (meansP fs r.2 []).map (fun e => (headRow r.1 e.1, moL e.2)) = L
  rw [grpG_get]
  cases colG L row with
  | nil => rfl
  | cons x xs => rfl
/-- sorted numbers tell the monomial -/
def numOf : Nk → Option Nat
  | .num i => some i.toNat
  | _ => none
theorem numOf_nums (is : List Nat) : (is.map fun i => NestedKey.num (i : Nat)).filterMap numOf = is := by
  rw [List.filterMap_map]
  have e : (numOf ∘ fun i : Nat => NestedKey.num (i : Nat)) = some := by funext i; simp [numOf]
  rw [e, List.filterMap_some]
def moOf : Nk → Mo
  | .tup l => moL (l.filterMap numOf)
  | _ => []
theorem moOf_srt (is : List Nat) : moOf (srtIdx is) = moL is := by
  rw [srtIdx, moOf]
  refine moL_perm ?_
  have h := (List.mergeSort_perm (is.map fun i => NestedKey.num (i : Nat)) (PySem.W.dataLe false toPy)).filterMap numOf
  rw [numOf_nums] at h
  exact h
theorem colG_map {β γ : Type} (f : β → γ) (L : List (Nk × β)) (k : Nk) : colG (L.map fun p => (p.1, f p.2)) k = (colG L k).map f := by
  rw [colG, colG, List.filter_map, List.map_map, List.map_map]
  rfl
theorem mosAt_col (r : Rule) (fs : List Fact) (row : Nk) : mosAt r fs row = (colG (meansF r.1 fs r.2 [] []) row).map moOf := by
  rw [← colG_map, mosAt, meansF, List.map_map]
  congr 1
  refine List.map_congr_left fun e _ => ?_
  show (headRow r.1 e.1, moL e.2) = (headRow r.1 e.1, moOf (srtIdx (e.2 ++ [])))
  rw [List.append_nil, moOf_srt]
/-- the same ways have the same polynomial -/
theorem poly_of_ways {r1 r2 : Rule} {fs : List Fact} {row : Nk} (h : (aGet (lawWays r1.1 fs r1.2) row).getD [] = (aGet (lawWays r2.1 fs r2.2) row).getD []) : polyRow r1 fs row = polyRow r2 fs row := by
  rw [lawWays_getD, lawWays_getD] at h
  rw [polyRow_eq, polyRow_eq, mosAt_col, mosAt_col, sumPo_perm ((perm_sortN h).map moOf)]
end Ew
set_option Elab.async false
set_option linter.all false
set_option maxRecDepth 100000
set_option maxHeartbeats 4000000
namespace Ew
open PySem PySem.Spec PyProof.Rows L2
open Evl (Ex)
/-! ### the law's ways are the ways to make the atoms facts -/
def instV (ρ : Str → Nk) : Tm → Nk
  | .var x => ρ x
  | .val c => c
def instE (ρ : Str → Nk) (a : Atom) : Fact := (a.1, a.2.map (instV ρ))
def envF (m : List (Str × Nk)) : Str → Nk := fun x => (aGet m x).getD .none
theorem inst_env {m : List (Str × Nk)} {t : Tm} {u : Nk} (h : tval nkId m t = some u) : instV (envF m) t = u := by
  cases t with
  | val c => exact Option.some.inj h
  | var x =>
    have h : aGet m x = some u := h
    show (aGet m x).getD .none = u
    rw [h]
    rfl
theorem zip_inst {m : List (Str × Nk)} : ∀ (ts : List Tm) (us : List Nk), ts.length = us.length → (∀ z ∈ ts.zip us, tval nkId m z.1 = some z.2) → ts.map (instV (envF m)) = us
  | [], [], _, _ => rfl
  | [], _ :: _, h, _ => by cases h
  | _ :: _, [], h, _ => by cases h
  | t :: ts, u :: us, h, hz => by
    rw [List.map_cons, inst_env (hz (t, u) List.mem_cons_self), zip_inst ts us (by simpa using h) fun z hz' => hz z (List.mem_cons_of_mem _ hz')]
theorem tval_ext {m n : List (Str × Nk)} (h : ∀ x v, aGet m x = some v → aGet n x = some v) {t : Tm} {u : Nk} (ht : tval nkId m t = some u) : tval nkId n t = some u := by
  cases t with
  | val c => exact ht
  | var x => exact h x u ht
theorem rowsOf_has {fs : List Fact} {i : Nat} {x : Str} {us : List Nk} (h : fs[i]? = some (x, us)) : (i, us) ∈ rowsOf fs x := by
  refine List.mem_filterMap.mpr ⟨((x, us), i), ?_, if_pos rfl⟩
  refine List.mem_of_getElem? (i := i) ?_
  rw [plIx_get, h, Nat.zero_add]
  rfl
theorem meansP_sound {fs : List Fact} (hfs : WfFs fs) : ∀ {as : List Atom} {m : List (Str × Nk)} {e : Wy}, (∀ a ∈ as, WfA a) → e ∈ meansP fs as m →
    (∀ x v, aGet m x = some v → aGet e.1 x = some v) ∧ e.2.reverse.map (fun i => fs[i]?) = as.map (fun a => some (instE (envF e.1) a)) ∧ ∀ x, Tm.var x ∈ tmsOf as → (aGet e.1 x).isSome = true
  | [], m, e, _, he => by
    rw [List.mem_singleton.mp he]
    exact ⟨fun x v h => h, rfl, fun x h => (nomatch h)⟩
  | a :: as, m, e, hw, he => by
    rw [meansP_cons] at he
    obtain ⟨r, hr, h1⟩ := List.mem_flatMap.mp he
    unfold rowW at h1
    cases hf : fitL nkId (a.2.zip r.2) m with
    | none => rw [hf] at h1; exact (nomatch h1)
    | some m' =>
      rw [hf] at h1
      obtain ⟨e', h2, rfl⟩ := List.mem_map.mp h1
      obtain ⟨b1, b2, _⟩ := fitL_spec hf
      obtain ⟨c1, c2, c3⟩ := meansP_sound hfs (fun b hb => hw b (List.mem_cons_of_mem _ hb)) h2
      have hfr := rowsOf_mem hr
      have hwa := hw a List.mem_cons_self
      have hlen : a.2.length = r.2.length := by rw [hwa.len, (hfs _ (List.mem_of_getElem? hfr)).2.1]
      have hz : ∀ z ∈ a.2.zip r.2, tval nkId e'.1 z.1 = some z.2 := fun z hz => tval_ext c1 (b2 z hz)
      refine ⟨fun x v h => c1 x v (b1 x v h), ?_, fun x hx => ?_⟩
      · show (e'.2 ++ [r.1]).reverse.map (fun i => fs[i]?) = _
        rw [List.reverse_append, List.reverse_singleton, List.singleton_append, List.map_cons, c2, List.map_cons, hfr]
        show some (a.1, r.2) :: _ = some (a.1, a.2.map (instV (envF e'.1))) :: _
        rw [zip_inst a.2 r.2 hlen hz]
      · obtain ⟨b, hb, hx3⟩ := List.mem_flatMap.mp hx
        rcases List.mem_cons.mp hb with rfl | hb
        · have hx2 : Tm.var x ∈ (b.2.zip r.2).map (·.1) := by rw [List.map_fst_zip (by omega)]; exact hx3
          obtain ⟨z, hz1, hz2⟩ := List.mem_map.mp hx2
          have := hz z hz1
          rw [hz2] at this
          have this : aGet e'.1 x = some z.2 := this
          show (aGet e'.1 x).isSome = true
          rw [this]
          rfl
        · exact c3 x (List.mem_flatMap.mpr ⟨b, hb, hx3⟩)
section
variable {β : Type} [DecidableEq β]
def tvF (emb : Nk → β) (ρ : Str → β) : Tm → β
  | .var x => ρ x
  | .val c => emb c
theorem fit1_cpf {emb : Nk → β} {ρ : Str → β} {m : List (Str × β)} {t : Tm} {u : β} (h : ∀ x v, aGet m x = some v → ρ x = v) (ht : tvF emb ρ t = u) : ∃ m', fit1 emb m t u = some m' ∧ ∀ x v, aGet m' x = some v → ρ x = v := by
  cases t with
  | val c =>
    have e : emb c = u := ht
    exact ⟨m, by simp only [fit1]; rw [if_pos e], h⟩
  | var y =>
    have ht : ρ y = u := ht
    cases g : aGet m y with
    | some w => exact ⟨m, by rw [fit1_old g, if_pos ((h y w g).symm.trans ht)], h⟩
    | none =>
      refine ⟨_, fit1_new g, fun x v hx => ?_⟩
      rw [aGet_put] at hx
      split at hx
      · rename_i e
        cases hx
        rw [e]
        exact ht
      · exact h x v hx
theorem fitL_cpf {emb : Nk → β} {ρ : Str → β} : ∀ {zs : List (Tm × β)} {m : List (Str × β)}, (∀ x v, aGet m x = some v → ρ x = v) → (∀ z ∈ zs, tvF emb ρ z.1 = z.2) → ∃ m', fitL emb zs m = some m' ∧ ∀ x v, aGet m' x = some v → ρ x = v
  | [], m, h, _ => ⟨m, rfl, h⟩
  | z :: zs, m, h, hz => by
    obtain ⟨m1, h1, h2⟩ := fit1_cpf h (hz z List.mem_cons_self)
    obtain ⟨m2, h3, h4⟩ := fitL_cpf (zs := zs) h2 fun y hy => hz y (List.mem_cons_of_mem _ hy)
    refine ⟨m2, ?_, h4⟩
    show (fit1 emb m z.1 z.2).bind (fitL emb zs) = some m2
    rw [h1]
    exact h3
theorem zip_map_mem {α γ : Type} (f : α → γ) : ∀ (l : List α) (z : α × γ), z ∈ l.zip (l.map f) → f z.1 = z.2
  | [], z, h => by cases h
  | a :: l, z, h => by
    rw [List.map_cons, List.zip_cons_cons] at h
    rcases List.mem_cons.mp h with rfl | h
    · rfl
    · exact zip_map_mem f l z h
end
theorem meansP_cpl {fs : List Fact} {ρ : Str → Nk} : ∀ {as : List Atom} {m : List (Str × Nk)} {idx : List Nat}, (∀ x v, aGet m x = some v → ρ x = v) → idx.map (fun i => fs[i]?) = as.map (fun a => some (instE ρ a)) →
    ∃ e ∈ meansP fs as m, e.2.reverse = idx ∧ ∀ x v, aGet e.1 x = some v → ρ x = v
  | [], m, idx, h, hi => ⟨(m, []), List.mem_singleton.mpr rfl, by rw [List.map_eq_nil_iff.mp hi]; rfl, h⟩
  | a :: as, m, [], h, hi => by cases hi
  | a :: as, m, i :: idx, h, hi => by
    rw [List.map_cons, List.map_cons, List.cons.injEq] at hi
    have hr : (i, a.2.map (instV ρ)) ∈ rowsOf fs a.1 := rowsOf_has hi.1
    obtain ⟨m', h1, h2⟩ := fitL_cpf (emb := nkId) (ρ := ρ) (zs := a.2.zip (a.2.map (instV ρ))) h fun z hz => by
      have := zip_map_mem _ _ z hz
      cases ht : z.1 with
      | var x => rw [ht] at this; exact this
      | val c => rw [ht] at this; exact this
    obtain ⟨e, he, h3, h4⟩ := meansP_cpl h2 hi.2
    refine ⟨(e.1, e.2 ++ [i]), ?_, ?_, h4⟩
    · rw [meansP_cons]
      refine List.mem_flatMap.mpr ⟨_, hr, ?_⟩
      unfold rowW
      rw [h1]
      exact List.mem_map.mpr ⟨e, he, rfl⟩
    · show (e.2 ++ [i]).reverse = _
      rw [List.reverse_append, h3]
      rfl
theorem exists_idx {α γ : Type} {fs : List γ} {F : α → γ} : ∀ {as : List α}, (∀ a ∈ as, F a ∈ fs) → ∃ idx : List Nat, idx.map (fun i => fs[i]?) = as.map (fun a => some (F a))
  | [], _ => ⟨[], rfl⟩
  | a :: as, h => by
    obtain ⟨i, hi⟩ := List.getElem?_of_mem (h a List.mem_cons_self)
    obtain ⟨idx, h2⟩ := exists_idx fun b hb => h b (List.mem_cons_of_mem _ hb)
    exact ⟨i :: idx, by rw [List.map_cons, List.map_cons, hi, h2]⟩
/-! ### at most 126 monomials -/
def mss : Nat → Nat → List (List Nat)
  | 0, 0 => [[]]
  | 0, _ + 1 => []
  | n + 1, k => (List.range (k + 1)).flatMap fun c => (mss n (k - c)).map fun l => List.replicate c n ++ l
theorem mss_has : ∀ (n : Nat) (is : List Nat), (∀ i ∈ is, i < n) → ∃ l ∈ mss n is.length, l.Perm is
  | 0, [], _ => ⟨[], List.mem_singleton.mpr rfl, .refl _⟩
  | 0, i :: is, h => absurd (h i List.mem_cons_self) (Nat.not_lt_zero i)
  | n + 1, is, h => by
    have hp := List.filter_append_perm (· == n) is
    rw [List.filter_beq] at hp
    have hl := hp.length_eq
    rw [List.length_append, List.length_replicate] at hl
    obtain ⟨l, h1, h2⟩ := mss_has n (is.filter fun x => !(x == n)) fun i hi => by
      have h3 := List.mem_filter.mp hi
      have h4 := h i h3.1
      have h5 : i ≠ n := by simpa using h3.2
      omega
    refine ⟨List.replicate (is.count n) n ++ l, List.mem_flatMap.mpr ⟨is.count n, List.mem_range.mpr (by omega), List.mem_map.mpr ⟨l, ?_, rfl⟩⟩, (h2.append_left _).trans hp⟩
    have e : is.length - is.count n = (is.filter fun x => !(x == n)).length := by omega
    rw [e]
    exact h1
theorem mss_len : ∀ k, k ≤ 5 → (mss 5 k).length ≤ 400 := by decide +kernel
theorem meansP_lt {fs : List Fact} (hfs : WfFs fs) {as : List Atom} (hw : ∀ a ∈ as, WfA a) {m : List (Str × Nk)} {e : Wy} (he : e ∈ meansP fs as m) : ∀ i ∈ e.2, i < fs.length := fun i hi => by
  have h := (meansP_sound hfs hw he).2.1
  have h1 : fs[i]? ∈ e.2.reverse.map (fun i => fs[i]?) := List.mem_map.mpr ⟨i, List.mem_reverse.mpr hi, rfl⟩
  rw [h] at h1
  obtain ⟨a, _, h2⟩ := List.mem_map.mp h1
  exact (List.getElem?_eq_some_iff.mp h2.symm).1
theorem grpG_nodup {β : Type} (L : List (Nk × β)) : ((grpG L).map (·.1)).Nodup := by
  have : ∀ (L : List (Nk × β)) (g : List (Nk × List β)), (g.map (·.1)).Nodup → ((L.foldl grpG1 g).map (·.1)).Nodup := by
    intro L
    induction L with
    | nil => exact fun g h => h
    | cons p L ih => exact fun g h => ih _ (aPut_nodup h)
  exact this L [] List.nodup_nil
theorem grpG_in {β : Type} {L : List (Nk × β)} {p : Nk × List β} (hp : p ∈ grpG L) : ∀ b ∈ p.2, b ∈ L.map (·.2) := fun b hb => by
  have h1 := aGet_of_mem (grpG_nodup L) (show (p.1, p.2) ∈ grpG L from hp)
  rw [grpG_get] at h1
  split at h1
  · cases h1
  · rw [← Option.some.inj h1] at hb
    obtain ⟨q, hq, rfl⟩ := List.mem_map.mp hb
    exact List.mem_map.mpr ⟨q, (List.mem_filter.mp hq).1, rfl⟩
theorem cap_ok {r : Rule} {fs : List Fact} (w : WfR r) (hfs : WfFs fs) (h5 : fs.length ≤ 5) : CapOk r fs := fun p hp j => by
  rw [grpP_G, waysP_means, List.map_map] at hp
  have hin := grpG_in hp
  have hm : ∀ M ∈ p.2.take j, M ∈ (mss 5 r.2.length).map moL := fun M hM => by
    obtain ⟨q, hq, rfl⟩ := List.mem_map.mp (hin M (List.mem_of_mem_take hM))
    obtain ⟨e, he, rfl⟩ := List.mem_map.mp hq
    obtain ⟨l, h1, h2⟩ := mss_has 5 e.2 fun i hi => Nat.lt_of_lt_of_le (meansP_lt hfs w.atoms he i hi) h5
    rw [meansP_idx e he] at h1
    exact List.mem_map.mpr ⟨l, h1, moL_perm h2⟩
  have h1 := nodup_len (sumPo_nodup (p.2.take j)) (m := (mss 5 r.2.length).map moL) fun N hN => hm N (sumPo_mem.mpr (aGet_isSome.mpr hN))
  rw [List.length_map, List.length_map] at h1
  exact Nat.le_trans h1 (mss_len _ w.most)
/-! ### frozen facts -/
theorem frz_wf {n : Int} {r : Rule} (w : WfR r) : WfFs (frzF n r) := factsOf_wf w.atoms
theorem frz_len {n : Int} {r : Rule} (w : WfR r) : (frzF n r).length ≤ 5 := Nat.le_trans (factsOf_len _ _ _) w.most
theorem ixS_lt : ∀ {vs : List Str} {x : Str}, x ∈ vs → ixS vs x < vs.length
  | y :: ys, x, h => by
    rw [ixS, List.length_cons]
    by_cases e : y = x
    · rw [if_pos e]; omega
    · rw [if_neg e]
      have := ixS_lt (vs := ys) ((List.mem_cons.mp h).resolve_left fun z => e z.symm)
      omega
theorem ixS_inj : ∀ {vs : List Str} {x y : Str}, x ∈ vs → y ∈ vs → ixS vs x = ixS vs y → x = y
  | z :: zs, x, y, hx, hy, e => by
    rw [ixS, ixS] at e
    by_cases h1 : z = x
    · by_cases h2 : z = y
      · exact h1.symm.trans h2
      · rw [if_pos h1, if_neg h2] at e; omega
    · by_cases h2 : z = y
      · rw [if_neg h1, if_pos h2] at e; omega
      · rw [if_neg h1, if_neg h2] at e
        exact ixS_inj ((List.mem_cons.mp hx).resolve_left fun z => h1 z.symm) ((List.mem_cons.mp hy).resolve_left fun z => h2 z.symm) (by omega)
theorem frz_fsok {n : Int} {r : Rule} (w : WfR r) (hn : n = 1 ∨ n = 2) : FsOk (frzF n r) := fun f hf => by
  obtain ⟨a, ha, rfl⟩ := factsOf_mem.mp hf
  have hw := w.atoms a ha
  refine ⟨hw.tab, by rw [instA, List.length_map]; exact hw.len, fun d hd => ?_⟩
  obtain ⟨t, ht, rfl⟩ := List.mem_map.mp hd
  cases t with
  | val c => exact vals3_L (hw.tms _ ht)
  | var x =>
    have h1 := ixS_lt (mem_varsOf.mpr (List.mem_flatMap.mpr ⟨a, ha, ht⟩))
    have h2 := varsOf_len w.atoms
    show NestedKey.num (n + (ixS (varsOf r.2) x : Nat)) ∈ valsL
    have h3 : ixS (varsOf r.2) x < 4 := by omega
    generalize ixS (varsOf r.2) x = i at h3
    have h4 : ∀ i, i < 4 → NestedKey.num (1 + (i : Nat)) ∈ valsL ∧ NestedKey.num (2 + (i : Nat)) ∈ valsL := by decide
    rcases hn with rfl | rfl
    · exact (h4 i h3).1
    · exact (h4 i h3).2
/-- the frozen rule's own values -/
def rhoF (n : Int) (r : Rule) : Str → Nk := fun x => instT n (varsOf r.2) (.var x)
theorem rhoF_inst (n : Int) (r : Rule) (a : Atom) : instE (rhoF n r) a = instA n (varsOf r.2) a := by
  rw [instE, instA]
  have : ∀ t ∈ a.2, instV (rhoF n r) t = instT n (varsOf r.2) t := fun t _ => by cases t <;> rfl
  rw [List.map_congr_left this]
/-- the rule's own way into its frozen facts -/
theorem own_way {n : Int} {r : Rule} (w : WfR r) : ∃ e ∈ meansP (frzF n r) r.2 [], headRow r.1 e.1 = frzRow n r ∧ e.2.reverse.map (fun i => (frzF n r)[i]?) = r.2.map (fun a => some (instA n (varsOf r.2) a)) := by
  obtain ⟨idx, hi⟩ := exists_idx (fs := frzF n r) (F := instE (rhoF n r)) (as := r.2) fun a ha => by
    rw [rhoF_inst]
    exact factsOf_mem.mpr ⟨a, ha, rfl⟩
  obtain ⟨e, he, h1, h2⟩ := meansP_cpl (ρ := rhoF n r) (m := []) (fun x v h => by cases h) hi
  refine ⟨e, he, ?_, ?_⟩
  · rw [headRow, frzRow]
    congr 1
    refine List.map_congr_left fun x hx => ?_
    have hb := (meansP_sound (frz_wf w) w.atoms he).2.2 x (w.safe x hx)
    obtain ⟨v, hv⟩ := Option.isSome_iff_exists.mp hb
    rw [hv]
    exact (h2 x v hv).symm
  · rw [h1, hi]
    refine List.map_congr_left fun a _ => ?_
    rw [rhoF_inst]
/-- what a way of r into the frozen facts of r' with the own way's facts tells -/
structure Hom (n : Int) (r r' : Rule) (ρ : Str → Nk) : Prop where
  atoms : (r.2.map (instE ρ)).Perm (r'.2.map (instA n (varsOf r'.2)))
  head : r.1.map ρ = r'.1.map (fun x => instT n (varsOf r'.2) (.var x))
theorem perm_some {α : Type} {l m : List α} (h : (l.map some).Perm (m.map some)) : l.Perm m := by
  have h2 := h.filterMap id
  rw [List.filterMap_map, List.filterMap_map] at h2
  simpa using h2
theorem hom_of {n : Int} {r r' : Rule} (w : WfR r) (w' : WfR r') {e e0 : Wy} (he : e ∈ meansP (frzF n r') r.2 []) (hh : headRow r.1 e.1 = frzRow n r') (hp : e.2.Perm e0.2) (h0 : e0.2.reverse.map (fun i => (frzF n r')[i]?) = r'.2.map (fun a => some (instA n (varsOf r'.2) a))) : Hom n r r' (envF e.1) := by
  obtain ⟨_, h2, _⟩ := meansP_sound (frz_wf w') w.atoms he
  refine ⟨perm_some ?_, NestedKey.tup.inj hh⟩
  have h3 : (e.2.reverse.map (fun i => (frzF n r')[i]?)).Perm (e0.2.reverse.map (fun i => (frzF n r')[i]?)) := (((List.reverse_perm _).trans hp).trans (List.reverse_perm _).symm).map _
  rw [h2, h0] at h3
  rw [List.map_map, List.map_map]
  exact h3
theorem mem_colG {β : Type} {L : List (Nk × β)} {k : Nk} {b : β} : b ∈ colG L k ↔ (k, b) ∈ L := by
  rw [colG]
  constructor
  · intro h
    obtain ⟨p, hp, rfl⟩ := List.mem_map.mp h
    have h2 := List.mem_filter.mp hp
    have e : p.1 = k := of_decide_eq_true h2.2
    rw [← e]
    exact h2.1
  · exact fun h => List.mem_map.mpr ⟨_, List.mem_filter.mpr ⟨h, decide_eq_true rfl⟩, rfl⟩
/-- the same polynomial on the first rule's frozen facts -/
theorem hom_of_poly {n : Int} {r r' : Rule} (w : WfR r) (w' : WfR r') (h : polyRow r' (frzF n r') (frzRow n r') = polyRow r (frzF n r') (frzRow n r')) : ∃ ρ, Hom n r r' ρ := by
  rw [polyRow_eq, polyRow_eq] at h
  have h := encPo_inj _ _ h
  obtain ⟨e0, he0, hh0, hi0⟩ := own_way (n := n) w'
  have h1 : moL e0.2 ∈ mosAt r' (frzF n r') (frzRow n r') := mem_colG.mpr (List.mem_map.mpr ⟨e0, he0, by rw [hh0]⟩)
  rw [sumPo_mem, h, ← sumPo_mem, mosAt, mem_colG] at h1
  obtain ⟨e, he, h2⟩ := List.mem_map.mp h1
  have h2 := Prod.mk.inj h2
  exact ⟨_, hom_of w w' he h2.1 (perm_moL h2.2) hi0⟩
/-- the same ways on the rule's frozen facts -/
theorem hom_of_ways {n : Int} {r r' : Rule} (w : WfR r) (w' : WfR r') (h : (aGet (lawWays r'.1 (frzF n r') r'.2) (frzRow n r')).getD [] = (aGet (lawWays r.1 (frzF n r') r.2) (frzRow n r')).getD []) : ∃ ρ, Hom n r r' ρ := hom_of_poly w w' (poly_of_ways h)
end Ew
set_option Elab.async false
set_option linter.all false
set_option maxRecDepth 100000
set_option maxHeartbeats 4000000
namespace Ew
open PySem PySem.Spec PyProof.Rows L2
open Evl (Ex)
theorem map_inj_on {α β : Type} {f : α → β} : ∀ {l m : List α}, (∀ a ∈ l, ∀ b ∈ m, f a = f b → a = b) → l.map f = m.map f → l = m
  | [], [], _, _ => rfl
  | [], _ :: _, _, e => by cases e
  | _ :: _, [], _, e => by cases e
  | a :: l, b :: m, h, e => by
    rw [List.map_cons, List.map_cons, List.cons.injEq] at e
    rw [h a List.mem_cons_self b List.mem_cons_self e.1, map_inj_on (fun x hx y hy => h x (List.mem_cons_of_mem _ hx) y (List.mem_cons_of_mem _ hy)) e.2]
theorem nodup_map_inj {α β : Type} {f : α → β} : ∀ {l : List α}, (l.map f).Nodup → ∀ a ∈ l, ∀ b ∈ l, f a = f b → a = b
  | c :: l, hn, a, ha, b, hb, e => by
    rw [List.map_cons, List.nodup_cons] at hn
    rcases List.mem_cons.mp ha with ha | ha
    · rcases List.mem_cons.mp hb with hb | hb
      · rw [ha, hb]
      · exact absurd (List.mem_map.mpr ⟨b, hb, by rw [← e, ha]⟩) hn.1
    · rcases List.mem_cons.mp hb with hb | hb
      · exact absurd (List.mem_map.mpr ⟨a, ha, by rw [e, hb]⟩) hn.1
      · exact nodup_map_inj hn.2 a ha b hb e
theorem nodup_map_on {α β : Type} {f : α → β} : ∀ {l : List α}, l.Nodup → (∀ a ∈ l, ∀ b ∈ l, f a = f b → a = b) → (l.map f).Nodup
  | [], _, _ => List.nodup_nil
  | a :: l, hn, h => by
    rw [List.map_cons, List.nodup_cons]
    rw [List.nodup_cons] at hn
    refine ⟨fun z => ?_, nodup_map_on hn.2 fun x hx y hy => h x (List.mem_cons_of_mem _ hx) y (List.mem_cons_of_mem _ hy)⟩
    obtain ⟨b, hb, e⟩ := List.mem_map.mp z
    rw [h b (List.mem_cons_of_mem _ hb) a List.mem_cons_self e] at hb
    exact hn.1 hb
/-! ### two rules that map onto one another's frozen facts -/
def Below (n : Int) (as : List Atom) : Prop := ∀ c, Tm.val (.num c) ∈ tmsOf as → c < n
theorem hom_onto {n : Int} {r r' : Rule} {ρ : Str → Nk} (h : Hom n r r' ρ) (hb : Below n r.2) : ∀ y ∈ varsOf r'.2, ∃ x ∈ varsOf r.2, ρ x = rhoF n r' y := fun y hy => by
  obtain ⟨a, ha, hya⟩ := List.mem_flatMap.mp (mem_varsOf.mp hy)
  have h1 : instA n (varsOf r'.2) a ∈ r.2.map (instE ρ) := h.atoms.mem_iff.mpr (List.mem_map.mpr ⟨a, ha, rfl⟩)
  obtain ⟨b, hbm, e⟩ := List.mem_map.mp h1
  have e2 : b.2.map (instV ρ) = a.2.map (instT n (varsOf r'.2)) := congrArg Prod.snd e
  have h2 : instT n (varsOf r'.2) (.var y) ∈ b.2.map (instV ρ) := by rw [e2]; exact List.mem_map.mpr ⟨_, hya, rfl⟩
  obtain ⟨t, ht, e3⟩ := List.mem_map.mp h2
  have htm : t ∈ tmsOf r.2 := List.mem_flatMap.mpr ⟨b, hbm, ht⟩
  cases t with
  | var x => exact ⟨x, mem_varsOf.mpr htm, e3⟩
  | val c =>
    have e3 : c = .num (n + (ixS (varsOf r'.2) y : Nat)) := e3
    rw [e3] at htm
    have := hb _ htm
    omega
theorem rhoF_inj {n : Int} {r : Rule} : ∀ x ∈ varsOf r.2, ∀ y ∈ varsOf r.2, rhoF n r x = rhoF n r y → x = y := fun x hx y hy e => by
  have e : NestedKey.num (n + (ixS (varsOf r.2) x : Nat)) = .num (n + (ixS (varsOf r.2) y : Nat)) := e
  injection e with e
  exact ixS_inj hx hy (by omega)
theorem varsOf_nodup (as : List Atom) : (varsOf as).Nodup := nodup_dedupS _
theorem rhoF_nodup (n : Int) (r : Rule) : ((varsOf r.2).map (rhoF n r)).Nodup := nodup_map_on (varsOf_nodup _) rhoF_inj
theorem hom_len {n : Int} {r r' : Rule} {ρ : Str → Nk} (h : Hom n r r' ρ) (hb : Below n r.2) : (varsOf r'.2).length ≤ (varsOf r.2).length := by
  have h1 := nodup_len (rhoF_nodup n r') (m := (varsOf r.2).map ρ) fun v hv => by
    obtain ⟨y, hy, rfl⟩ := List.mem_map.mp hv
    obtain ⟨x, hx, e⟩ := hom_onto h hb y hy
    exact List.mem_map.mpr ⟨x, hx, e⟩
  rw [List.length_map, List.length_map] at h1
  exact h1
theorem instT_inj {n : Int} {r : Rule} {t u : Tm} (ht : ∀ x, t = .var x → x ∈ varsOf r.2) (hu : ∀ x, u = .var x → x ∈ varsOf r.2) (ct : ∀ c, t = .val (.num c) → c < n) (cu : ∀ c, u = .val (.num c) → c < n) (e : instT n (varsOf r.2) t = instT n (varsOf r.2) u) : t = u := by
  cases t with
  | var x =>
    cases u with
    | var y => rw [rhoF_inj x (ht x rfl) y (hu y rfl) e]
    | val c =>
      have e : NestedKey.num (n + (ixS (varsOf r.2) x : Nat)) = c := e
      have := cu _ (by rw [← e])
      omega
  | val c =>
    cases u with
    | var y =>
      have e : c = NestedKey.num (n + (ixS (varsOf r.2) y : Nat)) := e
      have := ct _ (by rw [e])
      omega
    | val d =>
      have e : c = d := e
      rw [e]
theorem no_core {n1 n2 : Int} {r1 r2 : Rule} {g h : Str → Nk} (w1 : WfR r1) (w2 : WfR r2) (hg : Hom n2 r1 r2 g) (hh : Hom n1 r2 r1 h) (b21 : Below n2 r1.2) (b22 : Below n2 r2.2) (b12 : Below n1 r2.2) :
    ∃ σ : Str → Str, (∀ x ∈ varsOf r1.2, ∀ y ∈ varsOf r1.2, σ x = σ y → x = y) ∧ r1.1.map σ = r2.1 ∧ (r1.2.map (renA σ)).Perm r2.2 := by
  have l1 := hom_len hg b21
  have l2 := hom_len hh b12
  have hp : ((varsOf r1.2).map g).Perm ((varsOf r2.2).map (rhoF n2 r2)) := perm_of_sub (rhoF_nodup n2 r2) (fun v hv => by
    obtain ⟨y, hy, rfl⟩ := List.mem_map.mp hv
    obtain ⟨x, hx, e⟩ := hom_onto hg b21 y hy
    exact List.mem_map.mpr ⟨x, hx, e⟩) (by rw [List.length_map, List.length_map]; exact l2)
  have hgn : ((varsOf r1.2).map g).Nodup := hp.nodup_iff.mpr (rhoF_nodup n2 r2)
  let σ : Str → Str := fun x => ((varsOf r2.2).find? fun y => decide (rhoF n2 r2 y = g x)).getD x
  have hσ : ∀ x ∈ varsOf r1.2, σ x ∈ varsOf r2.2 ∧ rhoF n2 r2 (σ x) = g x := fun x hx => by
    obtain ⟨y, hy, e⟩ := List.mem_map.mp (hp.mem_iff.mp (List.mem_map.mpr ⟨x, hx, rfl⟩))
    cases f : (varsOf r2.2).find? fun y => decide (rhoF n2 r2 y = g x) with
    | none => exact absurd (decide_eq_true e) (List.find?_eq_none.mp f y hy)
    | some z =>
      have e2 : σ x = z := by show Option.getD _ _ = _; rw [f]; rfl
      rw [e2]
      exact ⟨List.mem_of_find?_eq_some f, of_decide_eq_true (List.find?_some (p := fun y => decide (rhoF n2 r2 y = g x)) f)⟩
  clear_value σ
  have hi : ∀ x ∈ varsOf r1.2, ∀ y ∈ varsOf r1.2, σ x = σ y → x = y := fun x hx y hy e => nodup_map_inj hgn x hx y hy (by rw [← (hσ x hx).2, ← (hσ y hy).2, e])
  refine ⟨σ, hi, ?_, ?_⟩
  · refine map_inj_on (f := rhoF n2 r2) (fun a ha b hb e => ?_) ?_
    · obtain ⟨x, hx, rfl⟩ := List.mem_map.mp ha
      exact rhoF_inj _ (hσ x (mem_varsOf.mpr (w1.safe x hx))).1 b (mem_varsOf.mpr (w2.safe b hb)) e
    · rw [List.map_map]
      have h1 : r1.1.map (rhoF n2 r2 ∘ σ) = r1.1.map g := List.map_congr_left fun x hx => (hσ x (mem_varsOf.mpr (w1.safe x hx))).2
      rw [h1, hg.head]
      rfl
  · have tm1 : ∀ a ∈ r1.2, ∀ t ∈ (renA σ a).2, (∀ x, t = .var x → x ∈ varsOf r2.2) ∧ ∀ c, t = .val (.num c) → c < n2 := fun a ha t ht => by
      obtain ⟨u, hu, rfl⟩ := List.mem_map.mp ht
      have hum : u ∈ tmsOf r1.2 := List.mem_flatMap.mpr ⟨a, ha, hu⟩
      cases u with
      | var x =>
        refine ⟨fun y e => ?_, fun c e => (nomatch e)⟩
        cases e
        exact (hσ x (mem_varsOf.mpr hum)).1
      | val c =>
        refine ⟨fun y e => (nomatch e), fun d e => ?_⟩
        cases e
        exact b21 d hum
    have tm2 : ∀ a ∈ r2.2, ∀ t ∈ a.2, (∀ x, t = .var x → x ∈ varsOf r2.2) ∧ ∀ c, t = .val (.num c) → c < n2 := fun a ha t ht => by
      have htm : t ∈ tmsOf r2.2 := List.mem_flatMap.mpr ⟨a, ha, ht⟩
      exact ⟨fun x e => mem_varsOf.mpr (by rw [← e]; exact htm), fun c e => b22 c (by rw [← e]; exact htm)⟩
    have tmA : ∀ a ∈ r1.2.map (renA σ) ++ r2.2, ∀ t ∈ a.2, (∀ x, t = .var x → x ∈ varsOf r2.2) ∧ ∀ c, t = .val (.num c) → c < n2 := fun a ha => by
      rcases List.mem_append.mp ha with ha | ha
      · obtain ⟨b, hb, rfl⟩ := List.mem_map.mp ha
        exact tm1 b hb
      · exact tm2 a ha
    refine perm_unmap (f := instA n2 (varsOf r2.2)) (fun a ha b hb e => ?_) ?_
    · have e1 : a.1 = b.1 := (Prod.mk.inj e).1
      have e2 : a.2.map (instT n2 (varsOf r2.2)) = b.2.map (instT n2 (varsOf r2.2)) := (Prod.mk.inj e).2
      exact Prod.ext e1 (map_inj_on (fun t ht u hu e => instT_inj (tmA a ha t ht).1 (tmA b hb u hu).1 (tmA a ha t ht).2 (tmA b hb u hu).2 e) e2)
    · rw [List.map_map]
      have h1 : r1.2.map (instA n2 (varsOf r2.2) ∘ renA σ) = r1.2.map (instE g) := List.map_congr_left fun a ha => by
        show (a.1, (a.2.map (renT σ)).map (instT n2 (varsOf r2.2))) = (a.1, a.2.map (instV g))
        rw [List.map_map]
        have : a.2.map (instT n2 (varsOf r2.2) ∘ renT σ) = a.2.map (instV g) := List.map_congr_left fun t ht => by
          cases t with
          | val c => rfl
          | var x => exact (hσ x (mem_varsOf.mpr (List.mem_flatMap.mpr ⟨a, ha, ht⟩))).2
        rw [this]
      rw [h1]
      exact hg.atoms
/-! ### every map is among all maps -/
def AgT (m : EnvT) (ρ : Str → Tm) : Prop := ∀ x v, aGet m x = some v → ρ x = v
theorem encT_inj : ∀ p q : Str × Nk, encT p = encT q → p = q
  | (a, b), (c, d), e => by
    injection e with e
    injection e with e1 e
    injection e1 with e1
    injection e with e2 _
    exact Prod.ext e1 e2
theorem keyM_eq {m n : EnvT} (hm : (m.map (·.1)).Nodup) (h : keyM m = keyM n) (x : Str) : aGet m x = aGet n x := by
  have h := (List.map_inj_right encT_inj).mp (NestedKey.tup.inj h)
  have p1 : (sortT (itemsT m)).Perm (itemsT m) := List.mergeSort_perm _ _
  have p2 : (sortT (itemsT n)).Perm (itemsT n) := List.mergeSort_perm _ _
  rw [h] at p1
  have p3 : (m.map fun p => (p.1, p.2.enc)).Perm (n.map fun p => (p.1, p.2.enc)) := p1.symm.trans p2
  have p4 : m.Perm n := perm_unmap (f := fun p : Str × Tm => (p.1, p.2.enc)) (fun a _ b _ e => Prod.ext (Prod.mk.inj e).1 (Tm.enc_inj _ _ (Prod.mk.inj e).2)) p3
  exact perm_get hm p4 x
theorem maps_cpl {r1 r2 : Rule} {ρ : Str → Tm} (w2 : ∀ b ∈ r2.2, WfA b) : ∀ (bs as : List Atom), (∀ a ∈ as ++ bs, WfA a) → (∀ a ∈ bs, (a.1, a.2.map (tvF Tm.val ρ)) ∈ r2.2) → (∀ m ∈ mapsFrom r1 r2 as, MapOk r1.1 r2.1 as m) → (∃ m ∈ mapsFrom r1 r2 as, AgT m ρ) → ∃ m ∈ mapsFrom r1 r2 (as ++ bs), AgT m ρ
  | [], as, _, _, _, h => by rw [List.append_nil]; exact h
  | a :: bs, as, hw, hb, hok, ⟨m, hm, ag⟩ => by
    have e : as ++ a :: bs = (as ++ [a]) ++ bs := by simp
    have hwa := hw a (by simp)
    have step : ∀ m' ∈ candsM r2.2 a (mapsFrom r1 r2 as), MapOk r1.1 r2.1 (as ++ [a]) m' := fun m' hm' => by
      obtain ⟨m0, hm0, h2⟩ := List.mem_flatMap.mp hm'
      obtain ⟨c, hc, h3⟩ := List.mem_filterMap.mp h2
      exact candM_ok (hok m0 hm0) hwa (w2 c hc) h3
    rw [e] at hw ⊢
    refine maps_cpl w2 bs (as ++ [a]) hw (fun b h => hb b (List.mem_cons_of_mem _ h)) (fun m' hm' => ?_) ?_
    · rw [mapsFrom_snoc] at hm'
      obtain ⟨p, hp, rfl⟩ := List.mem_map.mp hm'
      exact step _ (putAll_sub _ p hp).1
    · have hba := hb a List.mem_cons_self
      obtain ⟨m', h1, h2⟩ := fitL_cpf (emb := Tm.val) (ρ := ρ) (zs := a.2.zip (a.2.map (tvF Tm.val ρ))) ag fun z hz => zip_map_mem _ _ z hz
      have hc : m' ∈ candsM r2.2 a (mapsFrom r1 r2 as) := List.mem_flatMap.mpr ⟨m, hm, List.mem_filterMap.mpr ⟨_, hba, by unfold candM; rw [if_pos rfl]; exact h1⟩⟩
      obtain ⟨p, hp, hk⟩ := putAll_has _ m' hc
      obtain ⟨q1, q2⟩ := putAll_sub _ p hp
      have hx := keyM_eq (step _ q1).nodup (q2.symm.trans hk)
      exact ⟨p.2, by rw [mapsFrom_snoc]; exact List.mem_map.mpr ⟨p, hp, rfl⟩, fun x v h => h2 x v (by rw [← hx]; exact h)⟩
theorem all_maps_cpl {r1 r2 : Rule} {ρ : Str → Tm} (hl : r1.1.length = r2.1.length) (w1 : WfR r1) (w2 : WfR r2) (hh : r1.1.map ρ = r2.1.map Tm.var) (hb : ∀ a ∈ r1.2, (a.1, a.2.map (tvF Tm.val ρ)) ∈ r2.2) : ∃ m ∈ allMaps r1 r2, AgT m ρ := by
  have h := maps_cpl (r1 := r1) (r2 := r2) (ρ := ρ) w2.atoms r1.2 [] (fun a ha => w1.atoms a (by simpa using ha)) hb (startM_ok r1 r2 hl w2) (by
    obtain ⟨m', h1, h2⟩ := fitL_cpf (emb := Tm.val) (ρ := ρ) (zs := (headT r1.1).zip ((headT r1.1).map (tvF Tm.val ρ))) (m := []) (fun x v h => by cases h) fun z hz => zip_map_mem _ _ z hz
    have e : (headT r1.1).map (tvF Tm.val ρ) = headT r2.1 := by
      rw [headT, List.map_map, headT, ← hh]
      rfl
    rw [e] at h1
    exact ⟨m', Option.mem_toList.mpr h1, h2⟩)
  rw [List.nil_append] at h
  exact h
theorem maps_all_ok {r1 r2 : Rule} (hl : r1.1.length = r2.1.length) (w1 : WfR r1) (w2 : WfR r2) : ∀ m ∈ allMaps r1 r2, MapOk r1.1 r2.1 r1.2 m := by
  have h := maps_ok hl w1.atoms w2 r1.2.length
  rw [List.take_length] at h
  exact h
theorem sortR_perm {as bs : List Atom} (h : as.Perm bs) : sortR as = sortR bs := sortN_perm (h.map _) fun a ha b hb => by
  obtain ⟨x, _, rfl⟩ := List.mem_map.mp ha
  obtain ⟨y, _, rfl⟩ := List.mem_map.mp hb
  simp [toPy, PySem.W.alike]
theorem perm_sortR {as bs : List Atom} (ha : ∀ a ∈ as, WfA a) (hb : ∀ b ∈ bs, WfA b) (h : sortR as = sortR bs) : as.Perm bs := by
  have hw : ∀ a ∈ as ++ bs, WfA a := fun a h => (List.mem_append.mp h).elim (ha a) (hb a)
  exact perm_unmap (f := fun a => NestedKey.text (rpA a)) (fun a h1 b h2 e => rpA_inj (hw a h1) (hw b h2) (by injection e)) (perm_sortN h)
theorem map_dom {r1 r2 : Rule} (w1 : WfR r1) {m : EnvT} (h : MapOk r1.1 r2.1 r1.2 m) (x : Str) : x ∈ m.map (·.1) ↔ Tm.var x ∈ tmsOf r1.2 := by
  rw [← aGet_isSome]
  exact ⟨fun z => (h.only x z).elim (w1.safe x) id, fun z => h.bound x (.inr z)⟩
theorem isRen_of {r1 r2 : Rule} {m : EnvT} {σ : Str → Str} (w1 : WfR r1) (ok : MapOk r1.1 r2.1 r1.2 m) (ag : AgT m fun x => .var (σ x)) (hi : ∀ x ∈ varsOf r1.2, ∀ y ∈ varsOf r1.2, σ x = σ y → x = y) (hp : (r1.2.map (renA σ)).Perm r2.2) : isRen r1 r2 m = true := by
  have hv : ∀ p ∈ m, p.2 = .var (σ p.1) := fun p h => (ag p.1 p.2 (aGet_of_mem ok.nodup h)).symm
  have hd : ∀ p ∈ m, p.1 ∈ varsOf r1.2 := fun p h => mem_varsOf.mpr ((map_dom w1 ok p.1).mp (List.mem_map.mpr ⟨p, h, rfl⟩))
  have h1 : (m.all fun p => p.2.isVar) = true := List.all_eq_true.mpr fun p h => by rw [hv p h]; rfl
  have h2 : (dedG (m.map fun p => p.2.enc)).length = m.length := by
    have hn : (m.map fun p => p.2.enc).Nodup := nodup_map_on (nodup_of_keys ok.nodup) fun p hp q hq e => by
      have e := Tm.enc_inj _ _ e
      have e0 := e
      rw [hv p hp, hv q hq] at e
      injection e with e
      exact Prod.ext (hi _ (hd p hp) _ (hd q hq) e) e0
    rw [dedG_nodup.mpr hn, List.length_map]
  have h3 : r1.2.map (putA m) = r1.2.map (renA σ) := List.map_congr_left fun a ha => by
    show (a.1, putT m a.2) = (a.1, a.2.map (renT σ))
    have : putT m a.2 = a.2.map (renT σ) := List.map_congr_left fun t ht => by
      cases t with
      | val c => rfl
      | var x =>
        obtain ⟨v, hx⟩ := Option.isSome_iff_exists.mp (ok.bound x (.inr (List.mem_flatMap.mpr ⟨a, ha, ht⟩)))
        show (aGet m x).getD (.var x) = .var (σ x)
        rw [hx, ← ag x v hx]
        rfl
    rw [this]
  rw [isRen, h1, h2, h3, sortR_perm hp, decide_eq_true rfl, decide_eq_true rfl]
  rfl
/-- with 'no' come facts and a row for which the ways differ -/
theorem no_case {r1 r2 : Rule} (hl : r1.1.length = r2.1.length) (w1 : WfR r1) (w2 : WfR r2) (hno : ∀ m ∈ allMaps r1 r2, isRen r1 r2 m = false) {fs : List Fact} {row : Nk} (h : NoCase r1 r2 fs row) :
    FsOk fs ∧ fs.length ≤ 8 ∧ (aGet (lawWays r1.1 fs r1.2) row).getD [] ≠ (aGet (lawWays r2.1 fs r2.2) row).getD [] := by
  obtain ⟨n, hn, ⟨h1, rfl, rfl⟩ | ⟨h1, n2, hn2, rfl, rfl⟩⟩ := h
  · exact ⟨frz_fsok w1 hn.1, Nat.le_trans (frz_len w1) (by decide), fun e => h1 (poly_of_ways e)⟩
  · refine ⟨frz_fsok w2 hn2.1, Nat.le_trans (frz_len w2) (by decide), fun e => ?_⟩
    obtain ⟨h, hh⟩ := hom_of_poly w2 w1 h1
    obtain ⟨g, hg⟩ := hom_of_ways w1 w2 e.symm
    obtain ⟨σ, s1, s2, s3⟩ := no_core w1 w2 hg hh (fun c hc => hn2.2 c (.inr hc)) (fun c hc => hn2.2 c (.inl hc)) (fun c hc => hn.2 c (.inr hc))
    obtain ⟨m, hm, ag⟩ := all_maps_cpl (ρ := fun x => .var (σ x)) hl w1 w2 (by rw [← s2, List.map_map]; rfl) fun a ha => by
      have h1 : renA σ a ∈ r2.2 := s3.mem_iff.mp (List.mem_map.mpr ⟨a, ha, rfl⟩)
      have h2 : (a.1, a.2.map (tvF Tm.val fun x => .var (σ x))) = renA σ a := by
        have h3 : ∀ t ∈ a.2, tvF Tm.val (fun x => Tm.var (σ x)) t = renT σ t := fun t _ => by cases t <;> rfl
        rw [renA, List.map_congr_left h3]
      rw [h2]
      exact h1
    have := isRen_of w1 (maps_all_ok hl w1 w2 m hm) ag s1 s3
    rw [hno m hm] at this
    cases this
/-! ### with 'yes' -/
def nameT : Tm → Str
  | .var x => x
  | .val _ => "x"
def tauM (m : EnvT) : List (Str × Str) := m.map fun p => (p.1, nameT p.2)
structure YesOk (r1 r2 : Rule) (τ : List (Str × Str)) : Prop where
  nodup : (τ.map (·.1)).Nodup
  dom : ∀ x, x ∈ τ.map (·.1) ↔ Tm.var x ∈ tmsOf r1.2
  inj : (τ.map (·.2)).Nodup
  names : ∀ p ∈ τ, p.2 ∈ names4
  head : r1.1.map (fun x => (aGet τ x).getD x) = r2.1
  atoms : sortR (r1.2.map (putAN τ)) = sortR r2.2
  ways : ∀ fs k, aGet (lawWays r1.1 fs r1.2) k = aGet (lawWays r2.1 fs r2.2) k
theorem yes_case {r1 r2 : Rule} (hl : r1.1.length = r2.1.length) (w1 : WfR r1) (w2 : WfR r2) {m : EnvT} (ok : MapOk r1.1 r2.1 r1.2 m) (hr : isRen r1 r2 m = true) : (∀ p ∈ m, p.2.isVar = true) ∧ YesOk r1 r2 (tauM m) := by
  rw [isRen, Bool.and_eq_true, Bool.and_eq_true, decide_eq_true_eq, decide_eq_true_eq] at hr
  obtain ⟨h1, h2, h3⟩ := hr
  have h1 : ∀ p ∈ m, p.2.isVar = true := List.all_eq_true.mp h1
  have hv : ∀ p ∈ m, p.2 = .var (nameT p.2) := fun p hp => by
    have := h1 p hp
    cases e : p.2 with
    | var x => rfl
    | val c => rw [e] at this; cases this
  have hk : (tauM m).map (·.1) = m.map (·.1) := by rw [tauM, List.map_map]; rfl
  have hg : ∀ x, aGet (tauM m) x = (aGet m x).map nameT := fun x => aGet_map (f := fun x : Str => x) (fun _ _ e => e) nameT x m
  have hgm : ∀ x v, aGet m x = some v → v = .var ((aGet (tauM m) x).getD x) := fun x v h => by
    rw [hg, h]
    exact hv _ (aGet_mem h)
  have hin : ((tauM m).map (·.2)).Nodup := by
    rw [← List.length_map (f := fun p : Str × Tm => p.2.enc)] at h2
    have hn := dedG_nodup.mp h2
    rw [tauM, List.map_map]
    refine nodup_map_on (nodup_of_keys ok.nodup) fun p hp q hq e => nodup_map_inj hn p hp q hq ?_
    have e : nameT p.2 = nameT q.2 := e
    show p.2.enc = q.2.enc
    rw [hv p hp, hv q hq, e]
  have hpa : ∀ a ∈ r1.2, putA m a = putAN (tauM m) a := fun a ha => by
    show (a.1, putT m a.2) = (a.1, a.2.map (putN (tauM m)))
    have : putT m a.2 = a.2.map (putN (tauM m)) := List.map_congr_left fun t ht => by
      cases t with
      | val c => rfl
      | var x =>
        obtain ⟨v, hx⟩ := Option.isSome_iff_exists.mp (ok.bound x (.inr (List.mem_flatMap.mpr ⟨a, ha, ht⟩)))
        have e := hgm x v hx
        show (aGet m x).getD (.var x) = putN (tauM m) (.var x)
        rw [hx]
        exact e
    rw [this]
  have hhd : r1.1.map (fun x => (aGet (tauM m) x).getD x) = r2.1 := by
    have key : ∀ (l l' : List Str), l.length = l'.length → (∀ z ∈ (headT l).zip (headT l'), tval Tm.val m z.1 = some z.2) → l.map (fun x => (aGet (tauM m) x).getD x) = l' := by
      intro l
      induction l with
      | nil =>
        intro l' h _
        rw [List.eq_nil_of_length_eq_zero h.symm]
        rfl
      | cons x l ih =>
        intro l' h hz
        cases l' with
        | nil => cases h
        | cons y l' =>
          rw [List.map_cons, ih l' (by simpa using h) fun z hz' => hz z (List.mem_cons_of_mem _ hz')]
          have h0 : aGet m x = some (.var y) := hz (.var x, .var y) List.mem_cons_self
          have e := hgm x _ h0
          injection e with e
          rw [← e]
    exact key _ _ hl ok.head
  have hat : sortR (r1.2.map (putAN (tauM m))) = sortR r2.2 := by rw [← h3, List.map_congr_left hpa]
  refine ⟨h1, by rw [hk]; exact ok.nodup, fun x => by rw [hk]; exact map_dom w1 ok x, hin, fun p hp => ?_, hhd, hat, fun fs k => ?_⟩
  · obtain ⟨q, hq, rfl⟩ := List.mem_map.mp hp
    have := ok.wf q hq
    rw [hv q hq] at this
    exact this
  · refine ways_ren (τ := fun x => (aGet (tauM m) x).getD x) w1 (fun x hx y hy e => ?_) hhd.symm ?_ fs k
    · have get : ∀ x ∈ varsOf r1.2, (x, (aGet (tauM m) x).getD x) ∈ tauM m := fun x hx => by
        have hs : (aGet (tauM m) x).isSome = true := aGet_isSome.mpr (by rw [hk]; exact (map_dom w1 ok x).mpr (mem_varsOf.mp hx))
        obtain ⟨v, hv⟩ := Option.isSome_iff_exists.mp hs
        have := aGet_mem hv
        rw [hv]
        exact this
      have h4 := nodup_map_inj hin _ (get x hx) _ (get y hy) e
      exact congrArg Prod.fst h4
    · have e : r1.2.map (renA fun x => (aGet (tauM m) x).getD x) = r1.2.map (putA m) := List.map_congr_left fun a ha => by
        have h5 : ∀ t ∈ a.2, renT (fun x => (aGet (tauM m) x).getD x) t = putN (tauM m) t := fun t _ => by cases t <;> rfl
        rw [hpa a ha, renA, putAN, List.map_congr_left h5]
      rw [e]
      refine perm_sortR (fun a ha => ?_) w2.atoms h3
      obtain ⟨b, hb, rfl⟩ := List.mem_map.mp ha
      exact putA_wf (w1.atoms b hb) ok.wf
end Ew
set_option Elab.async false
set_option linter.all false
set_option maxRecDepth 100000
set_option maxHeartbeats 4000000
namespace Ew
open PySem PySem.Spec PyProof.Rows L2
open Evl (Ex)
/-! ### the law itself -/
abbrev N_law : List Str := ["_law_script", "_law_pot_here", "_law_first", "_law_second_here", "_law_tables", "_law_found", "_law_one", "_law_facts", "_law_values_here", "_law_k", "_law_table", "_law_arity", "_law_row", "_law_j"]
theorem sc_law : FnScope N_law ["_law_script"] (defScope s_law) := ⟨rfl, rfl, rfl, by decide +kernel, rfl, by decide +kernel, by decide +kernel⟩
def sp_law (K : PySem.W.Frag) : Sp := fun vs H Q _ => ∃ (a : Addr) (ns : List Int), vs = [.ref a] ∧ SqL K H a (ns.map V.int) ∧ ns.length ≤ 100 ∧ ∀ H', Q (.bl true) H'
section
variable {K : PySem.W.Frag} {pot l : Addr}
theorem gp_but {B Hc H' : Hp} {d1 d2 d3 : Addr} (R : (gp K pot l).R B Hc) (h1 : B d1 = none) (h2 : B d2 = none) (h3 : B d3 = none) (hk : ∀ b z, b ≠ d1 → b ≠ d2 → b ≠ d3 → Hc b = some z → H' b = some z) : (gp K pot l).R B H' := by
  obtain ⟨p0, p1, k⟩ := R
  obtain ⟨_, ⟨ns0, hl0, _⟩, i0, b0, c0, hp0, _⟩ := id p0
  obtain ⟨ne, ⟨ns, hl, hn⟩, i, b, c, hp, hr⟩ := p1
  have kk : ∀ a o z, B a = some o → Hc a = some z → H' a = some z := fun a o z ha hz => hk a z (ne_of_none ha h1) (ne_of_none ha h2) (ne_of_none ha h3) hz
  exact ⟨p0, ⟨ne, ⟨ns, kk _ _ _ hl0 hl, hn⟩, i, b, c, kk _ _ _ hp0 hp, hr⟩, fun a o na ha => kk a o o ha (k a o na ha)⟩
theorem FactsAt.gp {P : Program} {w : World} {CF : Addr} {B H1 H2 : Hp} {o a fl t d : Addr} {fs : List Fact} (h : FactsAt P w K CF H1 o a fl t d fs) (e0 : (gp K pot l).R B H1) (ho : B o = none) (ha : B a = none) (hl : B fl = none) (ht : B t = none) (hd : B d = none) (e : (gp K pot l).R H1 H2) : FactsAt P w K CF H2 o a fl t d fs := by
  obtain ⟨h0, ⟨dx, h1⟩, h2, ⟨xs, h3, h4⟩, h5, h6⟩ := h
  exact ⟨h0, ⟨dx, (Ew.gp K pot l).loc e0 ho e h1⟩, (Ew.gp K pot l).loc e0 ha e h2, ⟨xs, (Ew.gp K pot l).loc e0 hl e h3, h4.t ((Ew.gp K pot l).tx e)⟩, (Ew.gp K pot l).loc e0 ht e h5, h6.mono ((Ew.gp K pot l).tx e) fun o' ho' => (Ew.gp K pot l).loc e0 hd e ho'⟩
theorem ev_ixPT {G : Gw K} {σ : L2.St} {H : Hp} {j : Nat} {tp : Addr} {xs : List V} {n : Int} {v : V} (h : σ[j]? = some (some (.ref tp))) (hp : PT H tp xs) (hx : atI xs n = some v) : EvP G (tOp (rIxT K) (tVar j) (tC (.int n))) σ H (fun u _ => u = v) := fun H1 e Q q =>
  ⟨.ref tp, h, tp, xs, n, v, rfl, rfl, ((G.tx e).2 _ _ hp).sq, hx, q _ H1 (G.rf (G.ok2 e)) rfl⟩
theorem con_tab {H : Hp} : ∀ {m : EnvT} {kvs : List (Key × V)}, (∀ p ∈ m, p.2.isVar = true) → MRel (NV K H) kvs (conM m) → kvs = tabV (tauM m)
  | [], kvs, _, h => by cases h; rfl
  | p :: m, kvs, hv, h => by
    cases h with
    | @cons q _ ps _ h1 h2 =>
      rw [con_tab (fun x hx => hv x (List.mem_cons_of_mem _ hx)) h2]
      have hp := hv p List.mem_cons_self
      obtain ⟨x, t⟩ := p
      obtain ⟨k, v⟩ := q
      obtain ⟨e1, e2⟩ := h1
      have e1 : k = Sum.inr x := e1
      subst e1
      cases t with
      | val c => cases hp
      | var y =>
        have e2 : NV K H v (.text y) := e2
        cases e2
        rfl
theorem ways_depth (h : List Str) (fs : List Fact) (as : List Atom) (row : Nk) : ∀ d ∈ (aGet (lawWays h fs as) row).getD [], d.depth ≤ 50 := fun d hd => by
  rw [lawWays_getD] at hd
  have hd := (List.mergeSort_perm _ _).mem_iff.mp hd
  obtain ⟨e, _, _, h2⟩ := meansF_idx (mem_colG.mp hd)
  have h2 : d = srtIdx (e.2 ++ []) := h2
  obtain ⟨js, _, e1⟩ := srtIdx_map (e.2 ++ [])
  rw [h2, e1]
  exact Nat.le_trans (depth_tupL (fun i : Nat => NestedKey.num (i : Nat)) 0 js fun _ _ => Nat.le_refl _) (by decide)
theorem ways_depth2 {h : List Str} {fs : List Fact} {as : List Atom} {p : Nk × List Nk} (hp : p ∈ lawWays h fs as) : ∀ d ∈ p.2, d.depth ≤ 50 := fun d hd => by
  have h1 := aGet_of_mem (lawWays_nodup h fs as) (show (p.1, p.2) ∈ lawWays h fs as from hp)
  have h2 := ways_depth h fs as p.1 d
  rw [h1] at h2
  exact h2 hd
theorem WaysAt.ex {P : Program} {w : World} {H H' : Hp} {D : Addr} {g : List (Nk × List Nk)} (h : WaysAt P w K H D g) (e : Ex H H') : WaysAt P w K H' D g := by
  obtain ⟨kvs, h1, h2⟩ := h
  exact ⟨kvs, h1.ex' e, h2.imp fun _ _ z => z.ex e⟩
/-- ways(rule, found[1]).get(found[2], []) -/
theorem ev_wget {P : Program} {w : World} {CF : Addr} {σ : L2.St} {H : Hp} {i : Nat} {v rv : V} {r : Rule} {tp o a fl t d : Addr} {fs : List Fact} {row : List Nk} (hi : σ[i]? = some (some v)) (h5 : σ[5]? = some (some (.ref tp))) (hPT : PT H tp [.str "no", .ref o, rv]) (hv : NV K H v (encR r)) (hw : WfR r) (hF : FactsAt P w K CF H o a fl t d fs) (hfs : FsOk fs) (h8 : fs.length ≤ 8) (hrv : NV K H rv (.tup row)) (hrd : (NestedKey.tup row).depth ≤ 8) :
    EvP (gx K) (tNM P w K (rNGet P w K) (tCall (sp_ways P w K CF) [] E0 (tCons (tVar i) (tCons (tOp (rIxT K) (tVar 5) (tC (.int 1))) tNil))) (tCons (tOp (rIxT K) (tVar 5) (tC (.int 2))) (tCons (tLst tNil) tNil))) σ H (fun u H2 => LNs K H2 u ((aGet (lawWays r.1 fs r.2) (.tup row)).getD [])) := fun H1 e1 Q q => by
  have hq1 : SqT K H1 tp [.str "no", .ref o, rv] := (hPT.ex e1).sq
  refine ⟨v, hi, .ref tp, h5, tp, _, 1, .ref o, rfl, rfl, hq1, rfl, v, o, a, fl, t, d, r, fs, rfl, hv.ex e1, hw, hF.ex e1, hfs, h8, fun H2 D e2 hD hW => ?_⟩
  obtain ⟨kvs, hDN, hM⟩ := hW
  have e12 := e1.trans e2
  refine ⟨⟨D, kvs, rfl, hDN⟩, .ref tp, h5, tp, _, 2, rv, rfl, rfl, (hPT.ex e12).sq, rfl, ?_⟩
  refine ⟨(by rw [sizeLine_eq]; exact Nat.zero_le _), fun l0 hl0 => ?_⟩
  have e3 : Ex H2 (upd H2 l0 (.lst [])) := Ex.new hl0
  have nk := (hrv.ex e12).ex e3
  have nk0 := nk
  cases nk with
  | @tup kb ks _ k1 k2 =>
  refine ⟨D, .ref kb, valV kvs (.tup row), rfl, ⟨kvs, .tup row, kb, hDN.ex' e3, rfl, nk0, hrd, rfl⟩, .inr ⟨.ref l0, rfl, ?_⟩⟩
  refine q _ _ (e2.trans e3) ?_
  cases hvv : valV kvs (.tup row) with
  | none =>
    rw [mrel_none hM hvv]
    exact ⟨l0, [], rfl, upd_same, .nil⟩
  | some z =>
    obtain ⟨ds, h1, h2⟩ := mrel_val hM hvv
    rw [h1]
    exact h2.ex e3
/-- the two dicts of ways are equal -/
theorem ways_eqDN {P : Program} {w : World} {H : Hp} {D1 D2 : Addr} {h1 h2 : List Str} {fs : List Fact} {as bs : List Atom} {Q : VK} (a1 : WaysAt P w K H D1 (lawWays h1 fs as)) (a2 : WaysAt P w K H D2 (lawWays h2 fs bs)) (he : ∀ k, aGet (lawWays h1 fs as) k = aGet (lawWays h2 fs bs) k) (q : Q (.bl true) H) : rEqDN P w K (.ref D1) (.ref D2) H Q := by
  obtain ⟨ks, d1, m1⟩ := a1
  obtain ⟨ls, d2, m2⟩ := a2
  have hlg := (assoc_perm (lawWays_nodup h1 fs as) (lawWays_nodup h2 fs bs) he).length_eq
  refine ⟨D1, D2, ks, ls, rfl, rfl, d1, d2, by rw [m1.len, m2.len, hlg], fun p hp => ?_, q⟩
  obtain ⟨i, hi⟩ := List.getElem?_of_mem hp
  obtain ⟨gq, hgq, hgk, hL⟩ := prd_get m1 hi
  have hgm := List.mem_of_getElem? hgq
  have hg1 := aGet_of_mem (lawWays_nodup h1 fs as) (show (gq.1, gq.2) ∈ lawWays h1 fs as from hgm)
  rw [he] at hg1
  obtain ⟨v', hv', hL'⟩ := m2.some hg1
  obtain ⟨l, xs, b1, b2, b3⟩ := hL
  obtain ⟨m, ys, c1, c2, c3⟩ := hL'
  exact ⟨l, m, xs, ys, gq.2, b1, by rw [hgk, hv', c1], SqL.of b2, SqL.of c2, b3, c3, ways_depth2 hgm⟩
end
section
variable {P : Program} {w : World} {K : PySem.W.Frag} {mg : Str → Option Value} {base : Heap} {CF : Addr}
theorem ok_law (C : FCls K CF) {k n : Nat} {f : Addr} {fd : FuncData} (F : FnP K "law" "law" s_law f fd) (T : Txt mg)
    (c__law_pot : Callee P w K mg base "_law_pot" (k + 1) ["_law_script"] (sp_pot K)) (c__law_next : Callee P w K mg base "_law_next" (k + 1) ["_law_pot_here", "_law_limit"] (sp_next K))
    (c__law_rule : Callee P w K mg base "_law_rule" (k + 1) ["_law_pot_here", "_law_many", "_law_width"] (sp_rule K)) (c__law_second : Callee P w K mg base "_law_second" (k + 1) ["_law_pot_here", "_law_first"] (sp_second K))
    (c_alike : CalleeG P w K mg base "alike" (k + 1) ["first", "second", "tables"] (sp_alike P w K CF)) (c__law_ways : CalleeG P w K mg base "_law_ways" (k + 1) ["_law_rule_here", "_law_facts"] (sp_ways P w K CF))
    (c__law_is_renaming : CalleeG P w K mg base "_law_is_renaming" (k + 1) ["_law_first", "_law_second_here", "_law_table"] (sp_lawren K)) (m_Facts : Maker P w K mg base "Facts" CF k ["self", "tables"] (sp_Finit P w K CF))
    (c_find : MCallee P w K mg base CF "find" (k + 1) ["self", "table", "row"] (sp_find P w K CF)) (c_add : MCallee P w K mg base CF "add" (k + 1) ["self", "table", "row"] (sp_add P w K CF)) :
    FnG P w K mg base (k + 2) f fd ["_law_script"] (sp_law K) := by
  refine mk_okG F sc_law (fun vs H Q E h => ?_) (fun cdv A outer s H vs Q E hgu hr h => ?_)
  · obtain ⟨a, ns, rfl, _⟩ := h
    rfl
  · obtain ⟨a, ns, rfl, ha, hns, q⟩ := h
    have nd := sc_law.nd
    refine ⟨_, (pss_cons (ps_set (i := 1) nd rfl (by first | exact Or.inl rfl | exact Or.inr rfl) (pe_cal c__law_pot hr (pa_cons (pv 0) pa_nil))) (pss_cons (ps_set (i := 2) nd rfl (by first | exact Or.inl rfl | exact Or.inr rfl) (pe_cal c__law_rule hr (pa_cons (pv 1) (pa_cons pe_int (pa_cons (pe_cal c__law_next hr (pa_cons (pv 1) (pa_cons pe_int pa_nil))) pa_nil))))) (pss_cons (ps_set (i := 3) nd rfl (by first | exact Or.inl rfl | exact Or.inr rfl) (pe_cal c__law_second hr (pa_cons (pv 1) (pa_cons (pv 2) pa_nil)))) (pss_cons (ps_set (i := 4) nd rfl (by first | exact Or.inl rfl | exact Or.inr rfl) (pe_lst (pa_cons (pe_tupF (pa_cons pe_str (pa_cons pe_int pa_nil))) (pa_cons (pe_tupF (pa_cons pe_str (pa_cons pe_int pa_nil))) pa_nil)))) (pss_cons (ps_set (i := 5) nd rfl (by first | exact Or.inl rfl | exact Or.inr rfl) (pe_calG c_alike hgu hr (pa_cons (pv 2) (pa_cons (pv 3) (pa_cons (k_cty T.f_list (k_listS (K := K)) (pa_cons (pv 4) pa_nil)) pa_nil))))) (pss_cons (ps_if (pt_cmpR (k_eq (K := K) hr.units) (k_ixT (K := K) (pv 5) pe_int) pe_str (nomark _)) (pss_cons (ps_set (i := 6) nd rfl (by first | exact Or.inl rfl | exact Or.inr rfl) (pe_nm PySem.F.slot_dict_get PySem.F.type_dict_get (mt_nget hr.units) (pe_calG c__law_ways hgu hr (pa_cons (pv 2) (pa_cons (k_ixT (K := K) (pv 5) pe_int) pa_nil))) (pa_cons (k_ixT (K := K) (pv 5) pe_int) (pa_cons (pe_lst pa_nil) pa_nil)))) (pss_one (ps_ret (pe_and (pe_cmpR (k_eq (K := K) hr.units) (k_cb T.f_len (k_len (K := K)) (pa_cons (pv 5) pa_nil)) pe_int (nomark _)) (pe_one (pe_cmpR (k_neL (K := K) hr.units) (pv 6) (pe_nm PySem.F.slot_dict_get PySem.F.type_dict_get (mt_nget hr.units) (pe_calG c__law_ways hgu hr (pa_cons (pv 3) (pa_cons (k_ixT (K := K) (pv 5) pe_int) pa_nil))) (pa_cons (k_ixT (K := K) (pv 5) pe_int) (pa_cons (pe_lst pa_nil) pa_nil))) (nomark _))))))) pss_nil) (pss_cons (ps_if (PW.pt (pw_or (pt_cmpR (k_ne (K := K) hr.units) (k_cb T.f_len (k_len (K := K)) (pa_cons (pv 5) pa_nil)) pe_int (nomark _)) (pw_or1 (pt_not (pt_val (pe_calG c__law_is_renaming hgu hr (pa_cons (pv 2) (pa_cons (pv 3) (pa_cons (k_ixT (K := K) (pv 5) pe_int) pa_nil))))))))) (pss_one (ps_ret pe_bl)) pss_nil) (pss_cons (ps_set (i := 7) nd rfl (by first | exact Or.inl rfl | exact Or.inr rfl) (pe_mkC m_Facts hr (pa_cons (pv 4) pa_nil))) (pss_cons (ps_set (i := 8) nd rfl (by first | exact Or.inl rfl | exact Or.inr rfl) (pe_lst (pa_cons pe_int (pa_cons pe_int (pa_cons pe_str pa_nil))))) (pss_cons (ps_for PassesOwn.never rfl (k_range T (pa_cons (pe_cal c__law_next hr (pa_cons (pv 1) (pa_cons pe_int pa_nil))) pa_nil)) (pg_name (i := 9) nd rfl (by first | exact Or.inl rfl | exact Or.inr rfl)) (pss_cons (ps_asg (k_ixL (K := K) (pv 4) (pe_cal c__law_next hr (pa_cons (pv 1) (pa_cons pe_int pa_nil)))) (k_pgt (K := K) (n := 2) (pgs_cons (pg_name (i := 10) nd rfl (by first | exact Or.inl rfl | exact Or.inr rfl)) (pgs_cons (pg_name (i := 11) nd rfl (by first | exact Or.inl rfl | exact Or.inr rfl)) pgs_nil)))) (pss_cons (ps_set (i := 12) nd rfl (by first | exact Or.inl rfl | exact Or.inr rfl) (k_tuple (K := K) T (pe_lc (own := [("_law_j", 13)]) rfl nd (k_range T (pa_cons (pv 11) pa_nil)) (blkOk_by (N := N_law) (sc := defScope s_law) (by decide +kernel)) (fun _ _ _ _ _ => (pg_name (i := 13) nd rfl (by first | exact Or.inl rfl | exact Or.inr rfl))) (fun _ _ _ _ _ => pts_nil) (fun _ _ _ _ _ => (k_ixL (K := K) (pv 8) (pe_cal c__law_next hr (pa_cons (pv 1) (pa_cons pe_int pa_nil)))))))) (pss_one (ps_if (pt_cmp (pc_isN (pe_mcal (pv 7) c_find hr (pa_cons (pv 10) (pa_cons (pv 12) pa_nil))))) (pss_one (ps_expr (pe_mcal (pv 7) c_add hr (pa_cons (pv 10) (pa_cons (pv 12) pa_nil))))) pss_nil))))) (pss_one (ps_ret (pe_cmpR (k_eqDN (P := P) (w := w) (K := K) (hu80 hr)) (pe_calG c__law_ways hgu hr (pa_cons (pv 2) (pa_cons (pv 7) pa_nil))) (pe_calG c__law_ways hgu hr (pa_cons (pv 3) (pa_cons (pv 7) pa_nil))) (nomark _)))))))))))))), ?_⟩
    -- the pot
    refine seqI (asgI (call1 rfl ⟨a, ns, rfl, ha, hns, fun H1 pot l _ hp => ?_⟩))
    dsimp only
    clear ha hns
    -- first
    refine q_asg (G := gp K pot l) (P := fun v H2 => ∃ r : Rule, WfR r ∧ r.2.length ≤ 4 ∧ NV K H2 v (encR r)) hp (fun H2 e2 Q q => ?_) fun v1 H2 e2 ⟨r1, hw1, h14, n1⟩ => ?_
    · refine ⟨.ref pot, rfl, ?_⟩
      refine (ev_next (K := K) (l := l) (lim := 3) rfl (by decide) (by decide) ev_int) H2 ((gp K pot l).rf e2.2.1) _ fun u H3 e3 ⟨r, hr, hlt⟩ => ?_
      subst hr
      exact ⟨pot, l, 4, r, rfl, e3.2.1, by decide, by decide, by omega, by omega, fun r1 v H4 hw hl hm e4 nv => q v H4 ((gp K pot l).tr e3 e4) ⟨r1, hw, by omega, nv⟩⟩
    -- second
    refine q_asg (G := gp K pot l) (P := fun v H3 => ∃ r : Rule, WfR r ∧ r1.1.length = r.1.length ∧ NV K H3 v (encR r)) e2.2.1 (fun H3 e3 Q q => ?_) fun v2 H3 e3 ⟨r2, hw2, hlen, n2⟩ => ?_
    · exact call2 rfl rfl ⟨pot, l, v1, r1, rfl, e3.2.1, n1.t ((gp K pot l).tx e3), hw1, h14, fun r' v H4 hw hl e4 nv => q v H4 e4 ⟨r', hw, hl.symm, nv⟩⟩
    have R13 := (gp K pot l).tr e2 e3
    have n1 := n1.t ((gp K pot l).tx e3)
    -- tables
    refine q_asg (G := gp K pot l) (P := fun v H4 => ∃ p, v = .ref p ∧ NL K H3 H4 p tabsD) e3.2.1 (el_lst (eds_cons (ed_tup (eds_cons ed_str (eds_cons ed_int eds_nil))) (eds_cons (ed_tup (eds_cons ed_str (eds_cons ed_int eds_nil))) eds_nil))) fun v H4 e4 ⟨tb, hv, htb, txs, htx, ntx⟩ => ?_
    subst hv
    have R14 := (gp K pot l).tr R13 e4
    have n1 := n1.t ((gp K pot l).tx e4)
    have n2 := n2.t ((gp K pot l).tx e4)
    have htb1 : H1 tb = none := (gp K pot l).back R13 htb
    -- found
    refine q_asg (G := gp K pot l) (P := fun v H5 => ∃ tp, v = .ref tp ∧ ((∃ D m, PT H5 tp [.str "yes", .ref D] ∧ DKA K H5 D (conM m) ∧ MapOk r1.1 r2.1 r1.2 m ∧ isRen r1 r2 m = true) ∨
      (∃ o fa fl t d fs row rv, PT H5 tp [.str "no", .ref o, rv] ∧ FactsAt P w K CF H5 o fa fl t d fs ∧ NV K H5 rv row ∧ NoCase r1 r2 fs row ∧ ∀ m ∈ allMaps r1 r2, isRen r1 r2 m = false))) e4.2.1 (fun H5 e5 Q q => ?_) fun v H5 e5 hfd => ?_
    · have R15 := (gp K pot l).tr R14 e5
      have htx5 := (gp K pot l).loc R14 htb1 e5 htx
      have ntx5 := ntx.t ((gp K pot l).tx e5)
      refine ⟨v1, rfl, v2, rfl, .ref tb, rfl, tb, txs, rfl, .inl (SqL.of htx5), fun tl htl => ?_⟩
      have e6 : Ex H5 (upd H5 tl (.lst txs)) := Ex.new htl
      have hcap : ∀ n, CapOk r1 (frzF n r1) ∧ CapOk r2 (frzF n r1) := fun n => ⟨cap_ok hw1 (frz_wf hw1) (frz_len hw1), cap_ok hw2 (frz_wf hw1) (frz_len hw1)⟩
      refine ⟨v1, v2, tl, txs, r1, r2, rfl, (n1.t ((gp K pot l).tx e5)).ex e6, (n2.t ((gp K pot l).tx e5)).ex e6, SqL.of upd_same, ntx5.ex e6, hw1, hw2, hlen, hcap, fun m _ hr ok H' tp D e hPT hD => ?_, fun hno H' tp o fa fl t d fs row rv e hPT hF hrv hN => ?_⟩
      · exact q _ H' ((gp K pot l).exr e5.2.1 (e6.trans e)) ⟨tp, rfl, .inl ⟨D, m, hPT, hD, ok, hr⟩⟩
      · exact q _ H' ((gp K pot l).exr e5.2.1 (e6.trans e)) ⟨tp, rfl, .inr ⟨o, fa, fl, t, d, fs, row, rv, hPT, hF, hrv, hN, hno⟩⟩
    obtain ⟨tp, hv, hfd⟩ := hfd
    subst hv
    have R15 := (gp K pot l).tr R14 e5
    have n1 := n1.t ((gp K pot l).tx e5)
    have n2 := n2.t ((gp K pot l).tx e5)
    have htx5 := (gp K pot l).loc R14 htb1 e5 htx
    have ntx5 := ntx.t ((gp K pot l).tx e5)
    rcases hfd with ⟨D, m, hPT, hD, ok, hr⟩ | ⟨o, fa, fl, t, d, fs, row, rv, hPT, hF, hrv, hN, hno⟩
    rotate_left
    · -- no
      obtain ⟨hfs, h8, hne⟩ := no_case hlen hw1 hw2 hno hN
      obtain ⟨rs, hrow, hrd⟩ : ∃ rs, row = .tup rs ∧ (NestedKey.tup rs).depth ≤ 8 := by
        have hd : ∀ (n : Int) (r : Rule), (frzRow n r).depth ≤ 8 := fun n r => Nat.le_trans (depth_tupL (fun x => instT n (varsOf r.2) (.var x)) 0 r.1 fun x _ => Nat.le_refl _) (by decide)
        obtain ⟨n, _, ⟨_, _, e⟩ | ⟨_, n2, _, _, e⟩⟩ := hN
        · exact ⟨_, e, hd n r1⟩
        · exact ⟨_, e, hd n2 r2⟩
      subst hrow
      have t1 : EvT (gx K) (tTest (tOp (rEqN K) (tOp (rIxT K) (tVar 5) (tC (.int 0))) (tC (.str "no")))) [some (.ref a), some (.ref pot), some v1, some v2, some (.ref tb), some (.ref tp), none, none, none, none, none, none, none, none] H5 true :=
        et_test (eb_eqN (d := .text "no") (e := .text "no") ((ev_ixPT rfl hPT rfl).imp fun v H6 _ e => by rw [e]; exact .str "no") ed_str)
      refine q_when (G := gx K) (b := true) trivial t1 (fun _ H6 e6 => ?_) (fun hb => (nomatch hb))
      refine q_asg (G := gx K) trivial (ev_wget (P := P) (w := w) (σ := [some (.ref a), some (.ref pot), some v1, some v2, some (.ref tb), some (.ref tp), none, none, none, none, none, none, none, none]) (i := 2) (r := r1) rfl rfl (hPT.ex e6) (n1.ex e6) hw1 (hF.ex e6) hfs h8 (hrv.ex e6) hrd) fun ov H7 e7 hov => ?_
      have e67 := e6.trans e7
      have b1 : EB (gx K) (tOp (rEqN K) (tCB (rLenS K) (tCons (tVar 5) tNil)) (tC (.int 3))) [some (.ref a), some (.ref pot), some v1, some v2, some (.ref tb), some (.ref tp), some ov, none, none, none, none, none, none, none] H7 (decide (NestedKey.num 3 = .num 3)) :=
        eb_eqN (fun H8 e8 Q q => ⟨.ref tp, rfl, tp, _, rfl, .inr (hPT.ex (e67.trans e8)).sq, q _ H8 (Ex.refl _) (.int 3)⟩) ed_int
      refine b1 H7 (Ex.refl _) _ fun c H8 e8 hc => ⟨true, hc.trans rfl, ?_⟩
      refine (ev_wget (P := P) (w := w) (σ := [some (.ref a), some (.ref pot), some v1, some v2, some (.ref tb), some (.ref tp), some ov, none, none, none, none, none, none, none]) (i := 3) (r := r2) (v := v2) rfl rfl (hPT.ex (e67.trans e8)) (n2.ex (e67.trans e8)) hw2 (hF.ex (e67.trans e8)) hfs h8 (hrv.ex (e67.trans e8)) hrd) H8 (Ex.refl _) |> fun ev => ?_
      obtain ⟨l1, xs1, rfl, a1, a2⟩ := hov.ex e8
      refine ⟨.ref l1, rfl, ev _ fun y H9 e9 hy => ?_⟩
      obtain ⟨l2, xs2, rfl, c1, c2⟩ := hy
      refine ⟨l1, l2, xs1, xs2, _, _, rfl, rfl, SqL.of (e9 _ _ a1), SqL.of c1, a2.ex e9, c2, ways_depth _ _ _ _, ?_⟩
      rw [decide_eq_false hne]
      exact q H9
    · -- yes
      obtain ⟨hvar, yes⟩ := yes_case hlen hw1 hw2 ok hr
      obtain ⟨kvs, hD1, hD2⟩ := hD
      have hDt : H5 D = some (.dK (tabV (tauM m))) := by rw [hD1, con_tab hvar hD2]
      have t1 : EvT (gx K) (tTest (tOp (rEqN K) (tOp (rIxT K) (tVar 5) (tC (.int 0))) (tC (.str "no")))) [some (.ref a), some (.ref pot), some v1, some v2, some (.ref tb), some (.ref tp), none, none, none, none, none, none, none, none] H5 false :=
        et_test (eb_eq (eb_eqN (d := .text "yes") (e := .text "no") ((ev_ixPT rfl hPT rfl).imp fun v H6 _ e => by rw [e]; exact .str "yes") ed_str) (decide_eq_false fun e => by injection e with e; exact absurd e (by decide)))
      refine q_when (G := gx K) (b := false) trivial t1 (fun hb => (nomatch hb)) fun _ H6 e6 => ?_
      have t2 : EvT (gx K) (tOr (tTest (tOp (rNeN K) (tCB (rLenS K) (tCons (tVar 5) tNil)) (tC (.int 2)))) (tNot (tB (tCall (sp_lawren K) [] E0 (tCons (tVar 2) (tCons (tVar 3) (tCons (tOp (rIxT K) (tVar 5) (tC (.int 1))) tNil))))))) [some (.ref a), some (.ref pot), some v1, some v2, some (.ref tb), some (.ref tp), none, none, none, none, none, none, none, none] H6 (false || !true) := by
        refine et_or (a := false) (b := !true) (et_test (eb_eq (eb_neN (d := .num 2) (e := .num 2) (fun H7 e7 Q q => ⟨.ref tp, rfl, tp, _, rfl, .inr (hPT.ex (e6.trans e7)).sq, q _ H7 (Ex.refl _) (.int 2)⟩) ed_int ?_) ?_)) fun _ => et_not (et_B fun H7 e7 Q q => ?_)
        · simp [NestedKey.depth]
        · rw [decide_eq_true rfl]; rfl
        · have e67 := e6.trans e7
          exact ⟨v1, rfl, v2, rfl, .ref tp, rfl, tp, _, 1, .ref D, rfl, rfl, (hPT.ex e67).sq, rfl, v1, v2, D, r1, r2, tauM m, rfl, n1.ex e67, n2.ex e67, hw1, hw2, e67 _ _ hDt, yes.nodup, yes.dom, yes.inj, yes.names, yes.head, yes.atoms, fun H8 e8 => q _ H8 e8 rfl⟩
      refine q_when (G := gx K) (b := false || !true) trivial t2 (fun hb => (nomatch hb)) fun _ H7 e7 => ?_
      have e57 := e6.trans e7
      have R17 := (gp K pot l).tr R15 ((gp K pot l).exr e5.2.1 e57)
      have hways := yes.ways
      clear t1 t2 hPT hD1 hD2 hDt yes hvar
      have n1 := n1.ex e57
      have n2 := n2.ex e57
      have ntx7 := ntx5.ex e57
      have htx7 := e57 _ _ htx5
      -- facts
      refine q_mkFacts (P := P) (w := w) (K := K) (i := 4) (j := 7) (tl := tb) (xs := txs) rfl (SqL.of htx7) ntx7 fun H8 o fa fl t d e8 ho hfa hfl ht hd hF => ?_
      have r8 := (gp K pot l).exr R17.2.1 e8
      -- values
      refine seqI (asgI ⟨(by rw [sizeLine_eq]; exact Nat.le_of_ble_eq_true rfl), fun vl hvl => ?_⟩)
      have r9 := (gp K pot l).new (o := .lst [.int 0, .int 1, .str "a"]) r8.2.1 hvl
      have R79 := (gp K pot l).tr r8 r9
      have hvl7 : H7 vl = none := (gp K pot l).back r8 hvl
      have hvlo : upd H8 vl (.lst [.int 0, .int 1, .str "a"]) vl = some (.lst [.int 0, .int 1, .str "a"]) := upd_same
      have hF9 := hF.ex (Ex.new (o := .lst [.int 0, .int 1, .str "a"]) hvl)
      dsimp only
      obtain ⟨nv1, nv2, nv3⟩ : vl ≠ fl ∧ vl ≠ t ∧ vl ≠ d := by
        obtain ⟨_, _, _, ⟨_, h3, _⟩, h5, h6⟩ := hF
        refine ⟨fun z => ?_, fun z => ?_, fun z => ?_⟩
        · rw [z, h3] at hvl; cases hvl
        · rw [z, h5] at hvl; cases hvl
        · obtain ⟨_, _, _, h⟩ := h6.ex
          rw [z, h] at hvl; cases hvl
      generalize upd H8 vl (.lst [.int 0, .int 1, .str "a"]) = H9 at r9 R79 hvlo hF9 ⊢
      have src : EvI (gp K pot l) (iRng1 (tCons (tCall (sp_next K) [] E0 (tCons (tVar 1) (tCons (tC (.int 9)) tNil))) tNil)) [some (.ref a), some (.ref pot), some v1, some v2, some (.ref tb), some (.ref tp), none, some (.ref o), some (.ref vl), none, none, none, none, none] H9 (fun J _ => ∃ n : Nat, J = Itr 0 n ∧ n ≤ 8) := fun HA eA Q q => by
        refine (ev_next (K := K) (l := l) (lim := 9) rfl (by decide) (by decide) ev_int) HA ((gp K pot l).rf eA.2.1) _ fun v H2 e2 ⟨r, hr, hlt⟩ => ?_
        subst hr
        exact ⟨r, rfl, by omega, by omega, q _ H2 e2 ⟨r, rfl, by omega⟩⟩
      refine q_for (G := gp K pot l) r9.2.1 src fun J HA eA hs => ?_
      obtain ⟨n, rfl, hn8⟩ := hs
      refine ⟨n, _, _, fun j σ' H' => ∃ s9 s10 s11 s12 fs, σ' = [some (.ref a), some (.ref pot), some v1, some v2, some (.ref tb), some (.ref tp), none, some (.ref o), some (.ref vl), s9, s10, s11, s12, none] ∧ (gp K pot l).R H7 H' ∧ H' vl = some (.lst [.int 0, .int 1, .str "a"]) ∧ FactsAt P w K CF H' o fa fl t d fs ∧ FsOk fs ∧ fs.length ≤ j, walk_range (lo := 0) (n := n),
        ⟨none, none, none, none, [], rfl, (gp K pot l).tr R79 eA, (gp K pot l).loc R79 hvl7 eA hvlo, hF9.gp R79 ho hfa hfl ht hd eA, fun f hf => (nomatch hf), Nat.le_refl _⟩, fun _ _ _ _ _ => trivial, fun j x σ' Ha Hb hj hp y => ?_, fun σ' H' hp => ?_⟩
      · obtain ⟨s9, s10, s11, s12, fs, rfl, R, hvc, hFc, hfs, hfn⟩ := hp
        obtain ⟨rfl, _⟩ := y
        refine nmI ?_
        -- table, arity
        refine seqI ?_
        refine ⟨.ref tb, rfl, ?_⟩
        refine (ev_next (K := K) (l := l) (lim := 2) rfl (by decide) (by decide) ev_int) Hb ((gp K pot l).rf R.2.1) _ fun u H2 e2 ⟨r, hr, hlt⟩ => ?_
        subst hr
        have R2 := (gp K pot l).tr R e2
        have htx2 := (gp K pot l).loc R17 htb1 R2 htx7
        have ntx2 := ntx7.t ((gp K pot l).tx R2)
        have hv2 := (gp K pot l).loc R hvl7 e2 hvc
        have hF2 := hFc.gp R ho hfa hfl ht hd e2
        obtain ⟨tab, htab, hget⟩ : ∃ tab, Tab tab ∧ tabsD[r]? = some (.tup [.text tab, .num (arN tab : Nat)]) := by
          have : r = 0 ∨ r = 1 := by omega
          rcases this with rfl | rfl
          · exact ⟨"e", .inl rfl, rfl⟩
          · exact ⟨"p", .inr rfl, rfl⟩
        obtain ⟨z, hz, nz⟩ := ntx2.get hget
        cases nz with
        | @tup zp zs _ z1 z2 =>
        cases z2 with
        | @cons u1 us1 _ _ c1 c2 =>
        cases c2 with
        | @cons u2 us2 _ _ c3 c4 =>
        cases c4
        cases c1
        cases c3
        refine ⟨tb, txs, r, .ref zp, rfl, rfl, SqL.of htx2, atI_nat hz, ?_⟩
        refine st_pair (G := gp K pot l) z1.sq _ ((gp K pot l).rf R2.2.1) _ ?_
        dsimp only
        -- row
        have har := arN_le tab
        have lc : EvP (gp K pot l) (tLc (iRng1 (tCons (tVar 11) tNil)) (gName 13) tYes (tOp (rIxL K) (tVar 8) (tCall (sp_next K) [] E0 (tCons (tVar 1) (tCons (tC (.int 3)) tNil)))) [13]) [some (.ref a), some (.ref pot), some v1, some v2, some (.ref tb), some (.ref tp), none, some (.ref o), some (.ref vl), some x, some (.str tab), some (.int (arN tab : Nat)), s12, none] H2
            (fun v H3 => ∃ p xs, v = .ref p ∧ H2 p = none ∧ H3 p = some (.lst xs) ∧ ∃ ts, (ts.length = arN tab ∧ ∀ u ∈ ts, u ∈ vals3) ∧ NVs K H3 xs ts) := by
          refine ev_lc (G := gp K pot l) (n := arN tab) (fun i acc H' => ∃ ts, (ts.length = i ∧ ∀ u ∈ ts, u ∈ vals3) ∧ NVs K H' acc ts) (ei_range (n := (arN tab : Nat)) (fun H3 e3 Q q => ⟨.int (arN tab : Nat), rfl, q _ H3 ((gp K pot l).rf e3.2.1) rfl⟩) ⟨by omega, by omega⟩) (by omega) (fun _ => ⟨[], ⟨rfl, fun u hu => (nomatch hu)⟩, .nil⟩) (fun i acc Ha Hb e ⟨ts, h1, h2⟩ => ⟨ts, h1, h2.t e⟩)
            (fun i acc Ha ⟨ts, ⟨h1, _⟩, h2⟩ => by rw [h2.len, h1]; exact Nat.le_refl _) fun J H3 e3 hs => ?_
          subst hs
          refine ⟨_, (walk_range (lo := 0) (n := arN tab)).mono (fun _ _ => trivial) (fun i H4 x H5 _ _ y => y), fun i H4 x' H5 hi e4 y => ?_⟩
          obtain ⟨rfl, _⟩ := y
          refine ⟨(gp K pot l).rf e4.2.1, _, true, st_name, rfl, et_yes, fun _ => ⟨fun v H6 => ∃ c ∈ vals3, NV K H6 v c, fun H6 e6 Q q => ?_, fun v H6 acc e6 ⟨c, hc, nc⟩ ⟨ts, ⟨h1, h2⟩, h4⟩ => ?_⟩, fun e => by cases e⟩
          · refine ⟨.ref vl, rfl, ?_⟩
            refine (ev_next (K := K) (l := l) (lim := 3) rfl (by decide) (by decide) ev_int) H6 ((gp K pot l).rf e6.2.1) _ fun u H8 e8 ⟨r', hr', hlt'⟩ => ?_
            subst hr'
            have hv8 := (gp K pot l).loc R2 hvl7 ((gp K pot l).tr ((gp K pot l).tr e3 e4) ((gp K pot l).tr e6 e8)) hv2
            have : r' = 0 ∨ r' = 1 ∨ r' = 2 := by omega
            rcases this with rfl | rfl | rfl
            · exact ⟨vl, _, (0 : Nat), .int 0, rfl, rfl, SqL.of hv8, atI_nat rfl, q _ H8 e8 ⟨.num 0, by simp [vals3], .int 0⟩⟩
            · exact ⟨vl, _, (1 : Nat), .int 1, rfl, rfl, SqL.of hv8, atI_nat rfl, q _ H8 e8 ⟨.num 1, by simp [vals3], .int 1⟩⟩
            · exact ⟨vl, _, (2 : Nat), .str "a", rfl, rfl, SqL.of hv8, atI_nat rfl, q _ H8 e8 ⟨.text "a", by simp [vals3], .str "a"⟩⟩
          · refine ⟨ts ++ [c], ⟨by rw [List.length_append, h1]; rfl, fun u hu => ?_⟩, h4.snoc nc⟩
            rcases List.mem_append.mp hu with hu | hu
            · exact h2 u hu
            · rw [List.mem_singleton.mp hu]
              exact hc
        refine q_asg (G := gp K pot l) R2.2.1 (ev_tupN lc) fun rv H3 e3 ⟨us, ⟨hul, hus⟩, nrv⟩ => ?_
        have R3 := (gp K pot l).tr R2 e3
        have hv3 := (gp K pot l).loc R2 hvl7 e3 hv2
        have hF3 := hF2.gp R2 ho hfa hfl ht hd e3
        have hdu : ∀ d ∈ us, d.depth ≤ 4 := fun d hd => by rw [val_depth (hus d hd)]; omega
        obtain ⟨dx3, ho3⟩ := hF3.ins
        -- find, add
        refine ifI ?_
        refine ⟨.ref o, rfl, o, dx3, _, rfl, ho3, rfl, .str tab, rfl, rv, rfl, ?_⟩
        refine ⟨o, fa, fl, t, d, fs, tab, rv, us, rfl, hF3, htab, nrv, hdu, fun H4 e4 => ?_⟩
        have hF4 := hF3.ex e4
        have R4 := (gp K pot l).tr R3 ((gp K pot l).exr R3.2.1 e4)
        have hv4 := e4 _ _ hv3
        obtain ⟨dx4, ho4⟩ := hF4.ins
        by_cases hin : (tab, us) ∈ fs
        · obtain ⟨pn, hpn⟩ := plN_some hin
          rw [hpn]
          refine ⟨false, rfl, ?_⟩
          refine ifF ?_
          refine nextI ?_
          exact ⟨_, _, _, _, fs, rfl, R4, hv4, hF4, hfs, by omega⟩
        · rw [plN_none hin]
          refine ⟨true, rfl, ?_⟩
          refine ifT ?_
          refine ⟨.ref o, rfl, o, dx4, _, rfl, ho4, rfl, .str tab, rfl, rv, rfl, ?_⟩
          refine ⟨o, fa, fl, t, d, fs, tab, rv, us, rfl, hF4, htab, nrv.ex e4, hdu, ?_, hin, by omega, fun H5' hk5 tx5 hF5 => ?_⟩
          · rw [hul, arN_eq]
          · refine ⟨_, _, _, _, fs ++ [(tab, us)], rfl, gp_but R4 hd hfl ht hk5, hk5 _ _ nv3 nv1 nv2 hv4, hF5, fun f hf => ?_, by rw [List.length_append, List.length_singleton]; omega⟩
            rcases List.mem_append.mp hf with hf | hf
            · exact hfs f hf
            · rw [List.mem_singleton.mp hf]
              exact ⟨htab, hul, fun d hd => vals3_L (hus d hd)⟩
      · obtain ⟨s9, s10, s11, s12, fs, rfl, R, hvc, hFc, hfs, hfn⟩ := hp
        have tx := (gp K pot l).tx R
        refine call2 rfl rfl ⟨v1, o, fa, fl, t, d, r1, fs, rfl, n1.t tx, hw1, hFc, hfs, by omega, fun HB D1 eb _ hW1 => ?_⟩
        refine call2 rfl rfl ⟨v2, o, fa, fl, t, d, r2, fs, rfl, (n2.t tx).ex eb, hw2, hFc.ex eb, hfs, by omega, fun HC D2 ec _ hW2 => ?_⟩
        exact ways_eqDN (hW1.ex ec) hW2 (hways fs) (q HC)
end
end Ew
set_option Elab.async false
set_option linter.all false
set_option maxRecDepth 100000
set_option maxHeartbeats 4000000
namespace Ew
open PySem PySem.Spec PyProof.Rows L2
/-! ### the defs together -/
theorem exP_ok {K : PySem.W.Frag} (h : exP K = true) : Mk0 K (He.ga K "Polynomials") := by
  obtain ⟨h1, h⟩ := He.ba h
  obtain ⟨h2, h⟩ := He.ba h
  obtain ⟨h3, h4⟩ := He.ba h
  exact ⟨h1, He.eqO_ok h2, of_decide_eq_true h3, h4⟩
theorem joined {P : Program} {w : World} {K : PySem.W.Frag} {h : Heap} {mg : Str → Option Value} {f : Addr} (X : K.In h) (G : h.Ns mainGlobals mg) (hfa : mg ("law" : Str) = some (.ref f)) (c : He.SaysD jfa jfn K) (cx : exP K = true) :
    ∃ fd : FuncData, (∀ (s : Shared) (v : Value), BindsTo s fd ⟨[v], []⟩ [("_law_script", v)]) ∧ ∀ base : Heap, K.In base → base.Ns mainGlobals mg → FnG P w K mg base 8 f fd ["_law_script"] (sp_law K) := by
  obtain ⟨D_is_name, F_is_name⟩ := c.def_ 0 (d := d_is_name) rfl
  obtain ⟨D_is_number, F_is_number⟩ := c.def_ 1 (d := d_is_number) rfl
  obtain ⟨D_variable, F_variable⟩ := c.def_ 2 (d := d_variable) rfl
  obtain ⟨D_packed, F_packed⟩ := c.def_ 3 (d := d_packed) rfl
  obtain ⟨D_united, F_united⟩ := c.def_ 4 (d := d_united) rfl
  obtain ⟨D_variables_of, F_variables_of⟩ := c.def_ 5 (d := d_variables_of) rfl
  obtain ⟨D_fitted, F_fitted⟩ := c.def_ 6 (d := d_fitted) rfl
  obtain ⟨D_rule_meaning, F_rule_meaning⟩ := c.def_ 7 (d := d_rule_meaning) rfl
  obtain ⟨D_put_terms, F_put_terms⟩ := c.def_ 8 (d := d_put_terms) rfl
  obtain ⟨D_matched, F_matched⟩ := c.def_ 9 (d := d_matched) rfl
  obtain ⟨D_head_map, F_head_map⟩ := c.def_ 10 (d := d_head_map) rfl
  obtain ⟨D_all_maps, F_all_maps⟩ := c.def_ 11 (d := d_all_maps) rfl
  obtain ⟨D_numbers_in, F_numbers_in⟩ := c.def_ 12 (d := d_numbers_in) rfl
  obtain ⟨D_frozen, F_frozen⟩ := c.def_ 13 (d := d_frozen) rfl
  obtain ⟨D_check_heads, F_check_heads⟩ := c.def_ 14 (d := d_check_heads) rfl
  obtain ⟨D_is_renaming, F_is_renaming⟩ := c.def_ 15 (d := d_is_renaming) rfl
  obtain ⟨D_alike, F_alike⟩ := c.def_ 16 (d := d_alike) rfl
  obtain ⟨D__law_pot, F__law_pot⟩ := c.def_ 17 (d := d__law_pot) rfl
  obtain ⟨D__law_next, F__law_next⟩ := c.def_ 18 (d := d__law_next) rfl
  obtain ⟨D__law_term, F__law_term⟩ := c.def_ 19 (d := d__law_term) rfl
  obtain ⟨D__law_atoms, F__law_atoms⟩ := c.def_ 20 (d := d__law_atoms) rfl
  obtain ⟨D__law_variables, F__law_variables⟩ := c.def_ 21 (d := d__law_variables) rfl
  obtain ⟨D__law_rule, F__law_rule⟩ := c.def_ 22 (d := d__law_rule) rfl
  obtain ⟨D__law_means, F__law_means⟩ := c.def_ 23 (d := d__law_means) rfl
  obtain ⟨D__law_ways, F__law_ways⟩ := c.def_ 24 (d := d__law_ways) rfl
  obtain ⟨D__law_put_in, F__law_put_in⟩ := c.def_ 25 (d := d__law_put_in) rfl
  obtain ⟨D__law_second, F__law_second⟩ := c.def_ 26 (d := d__law_second) rfl
  obtain ⟨D__law_is_renaming, F__law_is_renaming⟩ := c.def_ 27 (d := d__law_is_renaming) rfl
  obtain ⟨D_law, F_law⟩ := c.def_ 28 (d := d_law) rfl
  obtain ⟨D_Facts___init__, F_Facts___init__⟩ := c.def_ 29 (d := d_Facts___init__) rfl
  obtain ⟨D_Facts_arity, F_Facts_arity⟩ := c.def_ 30 (d := d_Facts_arity) rfl
  obtain ⟨D_Facts_add, F_Facts_add⟩ := c.def_ 31 (d := d_Facts_add) rfl
  obtain ⟨D_Facts_find, F_Facts_find⟩ := c.def_ 32 (d := d_Facts_find) rfl
  obtain ⟨D_Facts_rows, F_Facts_rows⟩ := c.def_ 33 (d := d_Facts_rows) rfl
  obtain ⟨D_Facts_count, F_Facts_count⟩ := c.def_ 34 (d := d_Facts_count) rfl
  obtain ⟨D_InSemiring___init__, F_InSemiring___init__⟩ := c.def_ 35 (d := d_InSemiring___init__) rfl
  obtain ⟨D_InSemiring_sum_of, F_InSemiring_sum_of⟩ := c.def_ 36 (d := d_InSemiring_sum_of) rfl
  obtain ⟨D_Polynomials_one, F_Polynomials_one⟩ := c.def_ 37 (d := d_Polynomials_one) rfl
  obtain ⟨D_Polynomials_plus, F_Polynomials_plus⟩ := c.def_ 38 (d := d_Polynomials_plus) rfl
  obtain ⟨D_Polynomials_times, F_Polynomials_times⟩ := c.def_ 39 (d := d_Polynomials_times) rfl
  have b_is_name : Binds K D_is_name ["thing"] [] := FunD.bindsN F_is_name fun _ _ _ _ _ _ us hl => match us, hl with | [_], _ => rfl
  have b_is_number : Binds K D_is_number ["thing"] [] := FunD.bindsN F_is_number fun _ _ _ _ _ _ us hl => match us, hl with | [_], _ => rfl
  have b_variable : Binds K D_variable ["fact"] [] := FunD.bindsN F_variable fun _ _ _ _ _ _ us hl => match us, hl with | [_], _ => rfl
  have b_packed : Binds K D_packed ["table"] [] := FunD.bindsN F_packed fun _ _ _ _ _ _ us hl => match us, hl with | [_], _ => rfl
  have b_united : Binds K D_united ["one", "other"] [] := FunD.bindsN F_united fun _ _ _ _ _ _ us hl => match us, hl with | [_, _], _ => rfl
  have b_variables_of : Binds K D_variables_of ["rule"] [] := FunD.bindsN F_variables_of fun _ _ _ _ _ _ us hl => match us, hl with | [_], _ => rfl
  have b_fitted : Binds K D_fitted ["terms", "row", "known"] [] := FunD.bindsN F_fitted fun _ _ _ _ _ _ us hl => match us, hl with | [_, _, _], _ => rfl
  have b_rule_meaning : Binds K D_rule_meaning ["rule", "facts", "semiring", "worths"] [] := FunD.bindsN F_rule_meaning fun _ _ _ _ _ _ us hl => match us, hl with | [_, _, _, _], _ => rfl
  have b_put_terms : Binds K D_put_terms ["terms", "table"] [] := FunD.bindsN F_put_terms fun _ _ _ _ _ _ us hl => match us, hl with | [_, _], _ => rfl
  have b_matched : Binds K D_matched ["terms", "other", "known"] [] := FunD.bindsN F_matched fun _ _ _ _ _ _ us hl => match us, hl with | [_, _, _], _ => rfl
  have b_head_map : Binds K D_head_map ["first", "second"] [] := FunD.bindsN F_head_map fun _ _ _ _ _ _ us hl => match us, hl with | [_, _], _ => rfl
  have b_all_maps : Binds K D_all_maps ["first", "second"] [] := FunD.bindsN F_all_maps fun _ _ _ _ _ _ us hl => match us, hl with | [_, _], _ => rfl
  have b_numbers_in : Binds K D_numbers_in ["rule"] [] := FunD.bindsN F_numbers_in fun _ _ _ _ _ _ us hl => match us, hl with | [_], _ => rfl
  have b_frozen : Binds K D_frozen ["rule", "other", "tables"] [] := FunD.bindsN F_frozen fun _ _ _ _ _ _ us hl => match us, hl with | [_, _, _], _ => rfl
  have b_check_heads : Binds K D_check_heads ["first", "second"] [] := FunD.bindsN F_check_heads fun _ _ _ _ _ _ us hl => match us, hl with | [_, _], _ => rfl
  have b_is_renaming : Binds K D_is_renaming ["first", "second", "table"] [] := FunD.bindsN F_is_renaming fun _ _ _ _ _ _ us hl => match us, hl with | [_, _, _], _ => rfl
  have b_alike : Binds K D_alike ["first", "second", "tables"] [] := FunD.bindsN F_alike fun _ _ _ _ _ _ us hl => match us, hl with | [_, _, _], _ => rfl
  have b__law_pot : Binds K D__law_pot ["_law_script"] [] := FunD.bindsN F__law_pot fun _ _ _ _ _ _ us hl => match us, hl with | [_], _ => rfl
  have b__law_next : Binds K D__law_next ["_law_pot_here", "_law_limit"] [] := FunD.bindsN F__law_next fun _ _ _ _ _ _ us hl => match us, hl with | [_, _], _ => rfl
  have b__law_term : Binds K D__law_term ["_law_pot_here"] [] := FunD.bindsN F__law_term fun _ _ _ _ _ _ us hl => match us, hl with | [_], _ => rfl
  have b__law_atoms : Binds K D__law_atoms ["_law_pot_here", "_law_many"] [] := FunD.bindsN F__law_atoms fun _ _ _ _ _ _ us hl => match us, hl with | [_, _], _ => rfl
  have b__law_variables : Binds K D__law_variables ["_law_atoms_here"] [] := FunD.bindsN F__law_variables fun _ _ _ _ _ _ us hl => match us, hl with | [_], _ => rfl
  have b__law_rule : Binds K D__law_rule ["_law_pot_here", "_law_many", "_law_width"] [] := FunD.bindsN F__law_rule fun _ _ _ _ _ _ us hl => match us, hl with | [_, _, _], _ => rfl
  have b__law_means : Binds K D__law_means ["_law_rule_here", "_law_rows", "_law_known_here"] [] := FunD.bindsN F__law_means fun _ _ _ _ _ _ us hl => match us, hl with | [_, _, _], _ => rfl
  have b__law_ways : Binds K D__law_ways ["_law_rule_here", "_law_facts"] [] := FunD.bindsN F__law_ways fun _ _ _ _ _ _ us hl => match us, hl with | [_, _], _ => rfl
  have b__law_put_in : Binds K D__law_put_in ["_law_terms", "_law_table"] [] := FunD.bindsN F__law_put_in fun _ _ _ _ _ _ us hl => match us, hl with | [_, _], _ => rfl
  have b__law_second : Binds K D__law_second ["_law_pot_here", "_law_first"] [] := FunD.bindsN F__law_second fun _ _ _ _ _ _ us hl => match us, hl with | [_, _], _ => rfl
  have b__law_is_renaming : Binds K D__law_is_renaming ["_law_first", "_law_second_here", "_law_table"] [] := FunD.bindsN F__law_is_renaming fun _ _ _ _ _ _ us hl => match us, hl with | [_, _, _], _ => rfl
  have b_law : Binds K D_law ["_law_script"] [] := FunD.bindsN F_law fun _ _ _ _ _ _ us hl => match us, hl with | [_], _ => rfl
  have b_Facts___init__ : Binds K D_Facts___init__ ["self", "tables"] [] := FunD.bindsN F_Facts___init__ fun _ _ _ _ _ _ us hl => match us, hl with | [_, _], _ => rfl
  have b_Facts_arity : Binds K D_Facts_arity ["self", "table"] [] := FunD.bindsN F_Facts_arity fun _ _ _ _ _ _ us hl => match us, hl with | [_, _], _ => rfl
  have b_Facts_add : Binds K D_Facts_add ["self", "table", "row"] [] := FunD.bindsN F_Facts_add fun _ _ _ _ _ _ us hl => match us, hl with | [_, _, _], _ => rfl
  have b_Facts_find : Binds K D_Facts_find ["self", "table", "row"] [] := FunD.bindsN F_Facts_find fun _ _ _ _ _ _ us hl => match us, hl with | [_, _, _], _ => rfl
  have b_Facts_rows : Binds K D_Facts_rows ["self", "table"] [] := FunD.bindsN F_Facts_rows fun _ _ _ _ _ _ us hl => match us, hl with | [_, _], _ => rfl
  have b_Facts_count : Binds K D_Facts_count ["self"] [] := FunD.bindsN F_Facts_count fun _ _ _ _ _ _ us hl => match us, hl with | [_], _ => rfl
  have b_InSemiring___init__ : Binds K D_InSemiring___init__ ["self", "semiring"] [] := FunD.bindsN F_InSemiring___init__ fun _ _ _ _ _ _ us hl => match us, hl with | [_, _], _ => rfl
  have b_InSemiring_sum_of : Binds K D_InSemiring_sum_of ["self", "worths"] [] := FunD.bindsN F_InSemiring_sum_of fun _ _ _ _ _ _ us hl => match us, hl with | [_, _], _ => rfl
  have b_Polynomials_one : Binds K D_Polynomials_one ["self"] [] := FunD.bindsN F_Polynomials_one fun _ _ _ _ _ _ us hl => match us, hl with | [_], _ => rfl
  have b_Polynomials_plus : Binds K D_Polynomials_plus ["self", "a", "b"] [] := FunD.bindsN F_Polynomials_plus fun _ _ _ _ _ _ us hl => match us, hl with | [_, _, _], _ => rfl
  have b_Polynomials_times : Binds K D_Polynomials_times ["self", "a", "b"] [] := FunD.bindsN F_Polynomials_times fun _ _ _ _ _ _ us hl => match us, hl with | [_, _, _], _ => rfl
  have g_is_name := He.glo_ok X G (c.fact 0 (f := .glo "is_name") rfl)
  have g_is_number := He.glo_ok X G (c.fact 1 (f := .glo "is_number") rfl)
  have g_variable := He.glo_ok X G (c.fact 2 (f := .glo "variable") rfl)
  have g_packed := He.glo_ok X G (c.fact 3 (f := .glo "packed") rfl)
  have g_united := He.glo_ok X G (c.fact 4 (f := .glo "united") rfl)
  have g_variables_of := He.glo_ok X G (c.fact 5 (f := .glo "variables_of") rfl)
  have g_fitted := He.glo_ok X G (c.fact 6 (f := .glo "fitted") rfl)
  have g_rule_meaning := He.glo_ok X G (c.fact 7 (f := .glo "rule_meaning") rfl)
  have g_put_terms := He.glo_ok X G (c.fact 8 (f := .glo "put_terms") rfl)
  have g_matched := He.glo_ok X G (c.fact 9 (f := .glo "matched") rfl)
  have g_head_map := He.glo_ok X G (c.fact 10 (f := .glo "head_map") rfl)
  have g_all_maps := He.glo_ok X G (c.fact 11 (f := .glo "all_maps") rfl)
  have g_numbers_in := He.glo_ok X G (c.fact 12 (f := .glo "numbers_in") rfl)
  have g_frozen := He.glo_ok X G (c.fact 13 (f := .glo "frozen") rfl)
  have g_check_heads := He.glo_ok X G (c.fact 14 (f := .glo "check_heads") rfl)
  have g_is_renaming := He.glo_ok X G (c.fact 15 (f := .glo "is_renaming") rfl)
  have g_alike := He.glo_ok X G (c.fact 16 (f := .glo "alike") rfl)
  have g__law_pot := He.glo_ok X G (c.fact 17 (f := .glo "_law_pot") rfl)
  have g__law_next := He.glo_ok X G (c.fact 18 (f := .glo "_law_next") rfl)
  have g__law_term := He.glo_ok X G (c.fact 19 (f := .glo "_law_term") rfl)
  have g__law_atoms := He.glo_ok X G (c.fact 20 (f := .glo "_law_atoms") rfl)
  have g__law_variables := He.glo_ok X G (c.fact 21 (f := .glo "_law_variables") rfl)
  have g__law_rule := He.glo_ok X G (c.fact 22 (f := .glo "_law_rule") rfl)
  have g__law_means := He.glo_ok X G (c.fact 23 (f := .glo "_law_means") rfl)
  have g__law_ways := He.glo_ok X G (c.fact 24 (f := .glo "_law_ways") rfl)
  have g__law_put_in := He.glo_ok X G (c.fact 25 (f := .glo "_law_put_in") rfl)
  have g__law_second := He.glo_ok X G (c.fact 26 (f := .glo "_law_second") rfl)
  have g__law_is_renaming := He.glo_ok X G (c.fact 27 (f := .glo "_law_is_renaming") rfl)
  have g_law := He.glo_ok X G (c.fact 28 (f := .glo "law") rfl)
  have g_Facts := He.glo_ok X G (c.fact 29 (f := .glo "Facts") rfl)
  have g_InSemiring := He.glo_ok X G (c.fact 30 (f := .glo "InSemiring") rfl)
  have g_Polynomials := He.glo_ok X G (c.fact 31 (f := .glo "Polynomials") rfl)
  have T : Txt mg := ⟨He.free_ok X G (c.fact 32 (f := .free "list") rfl), He.free_ok X G (c.fact 33 (f := .free "len") rfl), He.free_ok X G (c.fact 34 (f := .free "isinstance") rfl), He.free_ok X G (c.fact 35 (f := .free "all") rfl), He.free_ok X G (c.fact 36 (f := .free "tuple") rfl), He.free_ok X G (c.fact 37 (f := .free "sorted") rfl), He.free_ok X G (c.fact 38 (f := .free "dict") rfl), He.free_ok X G (c.fact 39 (f := .free "zip") rfl), He.free_ok X G (c.fact 40 (f := .free "max") rfl), He.free_ok X G (c.fact 41 (f := .free "range") rfl), He.free_ok X G (c.fact 42 (f := .free "repr") rfl), He.free_ok X G (c.fact 43 (f := .free "enumerate") rfl), He.free_ok X G (c.fact 44 (f := .free "abs") rfl), He.free_ok X G (c.fact 45 (f := .free "int") rfl), He.free_ok X G (c.fact 46 (f := .free "str") rfl), He.free_ok X G (c.fact 47 (f := .free "bool") rfl)⟩
  obtain ⟨t_MOST_NAME_SIGNS, h_MOST_NAME_SIGNS⟩ := He.int_ok X G (c.fact 48 (f := .int "MOST_NAME_SIGNS" 12) rfl)
  obtain ⟨t_WIDEST_TABLE, h_WIDEST_TABLE⟩ := He.int_ok X G (c.fact 49 (f := .int "WIDEST_TABLE" 4) rfl)
  obtain ⟨t_MOST_MONOMIALS, h_MOST_MONOMIALS⟩ := He.int_ok X G (c.fact 50 (f := .int "MOST_MONOMIALS" 400) rfl)
  obtain ⟨t_SL, h_SL⟩ := He.str_ok X G (c.fact 51 (f := .str "SMALL_LETTERS" "abcdefghijklmnopqrstuvwxyz") rfl)
  have k_Facts := He.cls_ok (c.fact 52 (f := .cls "Facts") rfl)
  have k_InSemiring := He.cls_ok (c.fact 53 (f := .cls "InSemiring") rfl)
  have k_Polynomials := He.cls_ok (c.fact 54 (f := .cls "Polynomials") rfl)
  have C : FCls K (He.ga K "Facts") := ⟨k_Facts, He.noat_ok (c.fact 55 (f := .noat "Facts" "arities") rfl), He.noat_ok (c.fact 56 (f := .noat "Facts" "known") rfl), He.noat_ok (c.fact 57 (f := .noat "Facts" "there") rfl), He.noat_ok (c.fact 58 (f := .noat "Facts" "places") rfl)⟩
  have nS := He.noat_ok (c.fact 59 (f := .noat "InSemiring" "semiring") rfl)
  have m_Facts_arity := He.meth_ok (c.fact 60 (f := .meth "Facts" "arity") rfl)
  have m_Facts_add := He.meth_ok (c.fact 61 (f := .meth "Facts" "add") rfl)
  have m_Facts_find := He.meth_ok (c.fact 62 (f := .meth "Facts" "find") rfl)
  have m_Facts_rows := He.meth_ok (c.fact 63 (f := .meth "Facts" "rows") rfl)
  have m_Facts_count := He.meth_ok (c.fact 64 (f := .meth "Facts" "count") rfl)
  have m_InSemiring_sum_of := He.meth_ok (c.fact 65 (f := .meth "InSemiring" "sum_of") rfl)
  have m_Polynomials_one := He.meth_ok (c.fact 66 (f := .meth "Polynomials" "one") rfl)
  have m_Polynomials_plus := He.meth_ok (c.fact 67 (f := .meth "Polynomials" "plus") rfl)
  have m_Polynomials_times := He.meth_ok (c.fact 68 (f := .meth "Polynomials" "times") rfl)
  have mk_Facts := He.mkr_ok (c.fact 69 (f := .mkr "Facts") rfl)
  have mk_InSemiring := He.mkr_ok (c.fact 70 (f := .mkr "InSemiring") rfl)
  have e := hfa.symm.trans g_law
  cases e
  refine ⟨D_law, fun s v => (FunD.bindsA (ps := ["_law_script"]) F_law fun _ _ _ _ _ _ us hl => match us, hl with | [_], _ => rfl) s [v] rfl, fun base _ _ => ?_⟩
  have c_put_terms : Callee P w K mg base "put_terms" 1 ["terms", "table"] _ := ⟨_, D_put_terms, ok_put_terms (k := 0) F_put_terms T, g_put_terms, F_put_terms.kp, b_put_terms⟩
  have c_fitted : Callee P w K mg base "fitted" 1 ["terms", "row", "known"] _ := ⟨_, D_fitted, ok_fitted (k := 0) F_fitted T, g_fitted, F_fitted.kp, b_fitted⟩
  have c_matched : Callee P w K mg base "matched" 1 ["terms", "other", "known"] _ := ⟨_, D_matched, ok_matched (k := 0) F_matched T, g_matched, F_matched.kp, b_matched⟩
  have c_variable : Callee P w K mg base "variable" 1 ["fact"] _ := ⟨_, D_variable, ok_variable (k := 0) F_variable T, g_variable, F_variable.kp, b_variable⟩
  have c_united : Callee P w K mg base "united" 1 ["one", "other"] _ := ⟨_, D_united, ok_united (k := 0) F_united T, g_united, F_united.kp, b_united⟩
  have c_packed : Callee P w K mg base "packed" 1 ["table"] _ := ⟨_, D_packed, ok_packed (k := 0) F_packed T h_MOST_MONOMIALS, g_packed, F_packed.kp, b_packed⟩
  have c_Polynomials_one : MCallee P w K mg base (He.ga K "Polynomials") "one" 1 ["self"] _ := ⟨⟨_, D_Polynomials_one, ok_one (k := 0) F_Polynomials_one T, m_Polynomials_one, b_Polynomials_one⟩, k_Polynomials⟩
  have c_Polynomials_plus : MCallee P w K mg base (He.ga K "Polynomials") "plus" 2 ["self", "a", "b"] _ := ⟨⟨_, D_Polynomials_plus, ok_plus (k := 1) F_Polynomials_plus T c_packed, m_Polynomials_plus, b_Polynomials_plus⟩, k_Polynomials⟩
  have c_Polynomials_times : MCallee P w K mg base (He.ga K "Polynomials") "times" 2 ["self", "a", "b"] _ := ⟨⟨_, D_Polynomials_times, ok_times (k := 1) F_Polynomials_times T c_packed c_united, m_Polynomials_times, b_Polynomials_times⟩, k_Polynomials⟩
  have m_InSemiring : Maker P w K mg base "InSemiring" (He.ga K "InSemiring") 2 ["self", "semiring"] _ := ⟨⟨_, D_InSemiring___init__, (ok_init (k := 1) k_InSemiring nS F_InSemiring___init__ T), mk_InSemiring, b_InSemiring___init__⟩, g_InSemiring⟩
  have c_InSemiring_sum_of : MCallee P w K mg base (He.ga K "InSemiring") "sum_of" 3 ["self", "worths"] _ := ⟨⟨_, D_InSemiring_sum_of, ok_sum_of (CP := He.ga K "Polynomials") (k := 2) k_InSemiring nS F_InSemiring_sum_of T c_Polynomials_plus, m_InSemiring_sum_of, b_InSemiring_sum_of⟩, k_InSemiring⟩
  have c_is_number : Callee P w K mg base "is_number" 1 ["thing"] _ := ⟨_, D_is_number, ok_is_number (k := 0) F_is_number T, g_is_number, F_is_number.kp, b_is_number⟩
  have c_is_name : Callee P w K mg base "is_name" 1 ["thing"] _ := ⟨_, D_is_name, ok_is_name (k := 0) F_is_name T h_MOST_NAME_SIGNS h_SL, g_is_name, F_is_name.kp, b_is_name⟩
  have c_Facts_arity : MCallee P w K mg base (He.ga K "Facts") "arity" 1 ["self", "table"] _ := ⟨⟨_, D_Facts_arity, ok_arity (k := 0) C F_Facts_arity T, m_Facts_arity, b_Facts_arity⟩, k_Facts⟩
  have c_Facts_count : MCallee P w K mg base (He.ga K "Facts") "count" 1 ["self"] _ := ⟨⟨_, D_Facts_count, ok_count (k := 0) C F_Facts_count T, m_Facts_count, b_Facts_count⟩, k_Facts⟩
  have c_Facts_find : MCallee P w K mg base (He.ga K "Facts") "find" 2 ["self", "table", "row"] _ := ⟨⟨_, D_Facts_find, ok_find (k := 1) C F_Facts_find T c_Facts_arity, m_Facts_find, b_Facts_find⟩, k_Facts⟩
  have c_Facts_add : MCallee P w K mg base (He.ga K "Facts") "add" 2 ["self", "table", "row"] _ := ⟨⟨_, D_Facts_add, ok_add (k := 1) C F_Facts_add T c_Facts_arity, m_Facts_add, b_Facts_add⟩, k_Facts⟩
  have c_Facts_rows : MCallee P w K mg base (He.ga K "Facts") "rows" 2 ["self", "table"] _ := ⟨⟨_, D_Facts_rows, ok_rows (k := 1) C F_Facts_rows T c_Facts_arity, m_Facts_rows, b_Facts_rows⟩, k_Facts⟩
  have m_Facts : Maker P w K mg base "Facts" (He.ga K "Facts") 2 ["self", "tables"] _ := ⟨⟨_, D_Facts___init__, (ok_Finit (k := 1) C F_Facts___init__ T h_WIDEST_TABLE c_is_name), mk_Facts, b_Facts___init__⟩, g_Facts⟩
  have c_variables_of : Callee P w K mg base "variables_of" 1 ["rule"] _ := ⟨_, D_variables_of, ok_variables_of (k := 0) F_variables_of T, g_variables_of, F_variables_of.kp, b_variables_of⟩
  have c_numbers_in : Callee P w K mg base "numbers_in" 2 ["rule"] _ := ⟨_, D_numbers_in, ok_numbers_in (k := 1) F_numbers_in T c_is_number, g_numbers_in, F_numbers_in.kp, b_numbers_in⟩
  have c_check_heads : Callee P w K mg base "check_heads" 1 ["first", "second"] _ := ⟨_, D_check_heads, ok_check_heads (k := 0) F_check_heads T, g_check_heads, F_check_heads.kp, b_check_heads⟩
  have c_head_map : Callee P w K mg base "head_map" 2 ["first", "second"] _ := ⟨_, D_head_map, ok_head_map (k := 1) F_head_map T c_matched, g_head_map, F_head_map.kp, b_head_map⟩
  have c_frozen : Callee P w K mg base "frozen" 4 ["rule", "other", "tables"] _ := ⟨_, D_frozen, ok_frozen (k := 2) C F_frozen T (c_numbers_in.mono (by decide)) (c_variables_of.mono (by decide)) m_Facts (c_Facts_find.mono (by decide)) (c_Facts_add.mono (by decide)), g_frozen, F_frozen.kp, b_frozen⟩
  have c_rule_meaning : Callee P w K mg base "rule_meaning" 4 ["rule", "facts", "semiring", "worths"] _ := ⟨_, D_rule_meaning, ok_rule_meaning (CP := He.ga K "Polynomials") (k := 2) C F_rule_meaning T (c_fitted.mono (by decide)) m_InSemiring (c_Polynomials_one.mono (by decide)) (c_Polynomials_times.mono (by decide)) (c_Facts_rows.mono (by decide)) c_InSemiring_sum_of, g_rule_meaning, F_rule_meaning.kp, b_rule_meaning⟩
  have c_all_maps : Callee P w K mg base "all_maps" 3 ["first", "second"] _ := ⟨_, D_all_maps, ok_all_maps (k := 2) F_all_maps T c_head_map (c_matched.mono (by decide)), g_all_maps, F_all_maps.kp, b_all_maps⟩
  have c_is_renaming : CalleeG P w K mg base "is_renaming" 2 ["first", "second", "table"] _ := ⟨_, D_is_renaming, ok_is_renaming (k := 1) F_is_renaming T c_put_terms, g_is_renaming, F_is_renaming.kp, b_is_renaming⟩
  have c_alike : CalleeG P w K mg base "alike" 5 ["first", "second", "tables"] _ := ⟨_, D_alike, ok_alike (k := 4) C F_alike T (c_check_heads.mono (by decide)) (c_all_maps.mono (by decide)) (c_is_renaming.mono (by decide)) c_frozen (c_Facts_count.mono (by decide)) (c_variable.mono (by decide)) c_rule_meaning (exP_ok cx) g_Polynomials, g_alike, F_alike.kp, b_alike⟩
  have c__law_pot : Callee P w K mg base "_law_pot" 1 ["_law_script"] _ := ⟨_, D__law_pot, ok_pot (k := 0) F__law_pot T, g__law_pot, F__law_pot.kp, b__law_pot⟩
  have c__law_next : Callee P w K mg base "_law_next" 1 ["_law_pot_here", "_law_limit"] _ := ⟨_, D__law_next, ok_next (k := 0) F__law_next T, g__law_next, F__law_next.kp, b__law_next⟩
  have c__law_term : Callee P w K mg base "_law_term" 2 ["_law_pot_here"] _ := ⟨_, D__law_term, ok_term (k := 1) F__law_term T c__law_next, g__law_term, F__law_term.kp, b__law_term⟩
  have c__law_atoms : Callee P w K mg base "_law_atoms" 3 ["_law_pot_here", "_law_many"] _ := ⟨_, D__law_atoms, ok_atoms (k := 2) F__law_atoms T (c__law_next.mono (by decide)) c__law_term, g__law_atoms, F__law_atoms.kp, b__law_atoms⟩
  have c__law_variables : Callee P w K mg base "_law_variables" 1 ["_law_atoms_here"] _ := ⟨_, D__law_variables, ok_variables (k := 0) F__law_variables T, g__law_variables, F__law_variables.kp, b__law_variables⟩
  have c__law_put_in : Callee P w K mg base "_law_put_in" 1 ["_law_terms", "_law_table"] _ := ⟨_, D__law_put_in, ok_put_in (k := 0) F__law_put_in T, g__law_put_in, F__law_put_in.kp, b__law_put_in⟩
  have c__law_rule : Callee P w K mg base "_law_rule" 4 ["_law_pot_here", "_law_many", "_law_width"] _ := ⟨_, D__law_rule, ok_rule (k := 3) F__law_rule T (c__law_next.mono (by decide)) c__law_atoms (c__law_variables.mono (by decide)), g__law_rule, F__law_rule.kp, b__law_rule⟩
  have c__law_second : Callee P w K mg base "_law_second" 5 ["_law_pot_here", "_law_first"] _ := ⟨_, D__law_second, ok_second (k := 4) F__law_second T (c__law_next.mono (by decide)) (c__law_put_in.mono (by decide)) (c__law_variables.mono (by decide)) c__law_rule, g__law_second, F__law_second.kp, b__law_second⟩
  have c__law_means : CalleeG P w K mg base "_law_means" 6 ["_law_rule_here", "_law_rows", "_law_known_here"] _ := ⟨_, D__law_means, ok_means (k := 0) (n := 6) F__law_means T g__law_means F__law_means.kp b__law_means, g__law_means, F__law_means.kp, b__law_means⟩
  have c__law_ways : CalleeG P w K mg base "_law_ways" 7 ["_law_rule_here", "_law_facts"] _ := ⟨_, D__law_ways, ok_ways (k := 6) (n := 6) (hn6 := Nat.le_refl 6) C F__law_ways T (c_Facts_rows.mono (by decide)) c__law_means, g__law_ways, F__law_ways.kp, b__law_ways⟩
  have c__law_is_renaming : CalleeG P w K mg base "_law_is_renaming" 2 ["_law_first", "_law_second_here", "_law_table"] _ := ⟨_, D__law_is_renaming, ok_lawren (k := 1) F__law_is_renaming T c__law_variables c__law_put_in, g__law_is_renaming, F__law_is_renaming.kp, b__law_is_renaming⟩
  exact ok_law C (k := 6) (n := 0) F_law T (c__law_pot.mono (by decide)) (c__law_next.mono (by decide)) (c__law_rule.mono (by decide)) (c__law_second.mono (by decide)) (c_alike.mono (by decide)) c__law_ways (c__law_is_renaming.mono (by decide)) (m_Facts.mono (by decide)) (c_Facts_find.mono (by decide)) (c_Facts_add.mono (by decide))
end Ew
open PySem PySem.W PySem.Calls PyProof.Rows
set_option maxHeartbeats 0 in
theorem PySem.Challenge.cw_everyworth_k39_whole_rules_alike_everywh_holds : PySem.Challenge.rw_everyworth_k39_whole_rules_alike_everywh.Holds := by
  w_on; o_law
  refine HandSHeadRun.head_any (r := OpenLaw.row PySem.Challenge.rw_everyworth_k39_whole_rules_alike_everywh) (q := view (OpenLaw.row PySem.Challenge.rw_everyworth_k39_whole_rules_alike_everywh).prog [68]) (H := Ew.hookX) (ob := Ew.obX) (M := 40000) (loose := Ew.jloose) (d := HandSHeadRun.topDef (OpenLaw.row PySem.Challenge.rw_everyworth_k39_whole_rules_alike_everywh).prog 68) (kwd := []) Ew.obX_eq
    (by kernel_rfl) (fun s => by kernel_rfl) Ew.jrun (by kernel_rfl) (by kernel_rfl) (by kernel_rfl) (by rfl) (by first | assumption | decide +kernel) (by decide +kernel) ⟨rfl, rfl, rfl, rfl, rfl, by decide +kernel⟩ ?hw ?hc
  case hw => w_witness2
  case hc =>
    refine Ew.walk_ofG (l := PySem.Challenge.rw_everyworth_k39_whole_rules_alike_everywh) (n := 63) (k := 8) (x := "_law_script") rfl (by decide) (by kernel_rfl) ⟨rfl, by decide, by decide⟩ ?F
    intro w mg fa h Y G hmg0
    obtain ⟨K, KX, c, cx⟩ := Y
    have hmg : mg ("law" : PySem.Str) = some (.ref fa) := by
      have e : (HandSHeadRun.topDef (OpenLaw.row PySem.Challenge.rw_everyworth_k39_whole_rules_alike_everywh).prog 68).name = ("law" : PySem.Str) := by kernel_rfl
      rw [← e]
      exact hmg0
    obtain ⟨fd, hb, hF⟩ := Ew.joined (P := (PySem.Challenge.rw_everyworth_k39_whole_rules_alike_everywh).prog) (w := w) KX G hmg c cx
    exact ⟨K, fd, Ew.sp_law K, KX, hb, fun H a ns hl _ hS => ⟨a, ns, rfl, hS, by omega, fun _ => rfl⟩, hF⟩
