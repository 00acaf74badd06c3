import PyProof.Rows.All
import Wide.All
import OpenK.AllK
import Wide.FinOn
import KE.KStateDown
import Lean
import HandS.ForMost
import HandS.Exc
import HandS.TryOnly
import HandS.ExcOwn
import HandS.WordsExc
import HandS.Defaults
import HandS.Codes
import HandS.DictComp
import HandS.SetKeys
import HandS.TupAny
import HandS.Deep
import HandS.Conv
import HandS.Zip
import HandS.Style
import HandS.Flow
import HandS.IsInst
import HandS.ExcIs
import HandS.RaiseMore
import HandS.SortInts
import HandS.DictTup
import HandS.TupSets
import HandS.Head0
import HandS.Head1
import HandS.Head2
import HandS.HeadEnd
import HandS.HeadHook1
import HandS.HeadHook2
import HandS.HeadHook3
import HandS.HeadHook4
import KE.KDictKeyed
import PySem.Challenge.RW_everyworth_k38_whole_rules_within_one_an
import KE.KSortTupG
import HandS.Walk
set_option Elab.async false
set_option linter.all false
set_option maxRecDepth 100000
/-! the text by places -/
namespace Ew
open PySem L2
def top (i : Nat) : Stmt := PySem.Challenge.pw_everyworth_k38_whole_rules_within_one_an.main.body.getD i (.Pass ⟨0, 0, 0, 0⟩)
abbrev sIsName : Stmt := top 11
abbrev sIsNumber : Stmt := top 12
abbrev sIsValue : Stmt := top 13
abbrev sIsTerm : Stmt := top 18
abbrev sVariablesOf : Stmt := top 19
abbrev sPutTerms : Stmt := top 20
abbrev sMatched : Stmt := top 21
abbrev sHeadMap : Stmt := top 22
abbrev sAllMaps : Stmt := top 23
abbrev sMapsTo : Stmt := top 24
abbrev sIsMap : Stmt := top 25
abbrev sNumbersIn : Stmt := top 26
abbrev sFrozen : Stmt := top 27
abbrev sCheckHeads : Stmt := top 28
abbrev sContained : Stmt := top 29
abbrev sLawPot : Stmt := top 31
abbrev sLawNext : Stmt := top 32
abbrev sLawTerm : Stmt := top 52
abbrev sLawAtoms : Stmt := top 53
abbrev sLawVariables : Stmt := top 54
abbrev sLawRule : Stmt := top 55
abbrev sLawMeans : Stmt := top 56
abbrev sLawWays : Stmt := top 57
abbrev sLawPutIn : Stmt := top 58
abbrev sLawIsMap : Stmt := top 59
abbrev sLawSecond : Stmt := top 60
abbrev sLawRefused : Stmt := top 61
abbrev sLaw : Stmt := top 62
abbrev sFInit : Stmt := inClass (top 16) 0
abbrev sFArity : Stmt := inClass (top 16) 2
abbrev sFAdd : Stmt := inClass (top 16) 3
abbrev sFFind : Stmt := inClass (top 16) 10
abbrev sFRows : Stmt := inClass (top 16) 11
end Ew
set_option Elab.async false
set_option linter.all false
set_option maxRecDepth 100000
set_option maxHeartbeats 0
/-! the head: facts by names, the run -/
namespace Ew
open PySem PySem.Spec PyProof.Rows L2
def dIsName : He.DefD := ⟨("is_name", none), "is_name", "is_name", defArgs sIsName, defBody sIsName, defScope sIsName, [], []⟩
def dIsNumber : He.DefD := ⟨("is_number", none), "is_number", "is_number", defArgs sIsNumber, defBody sIsNumber, defScope sIsNumber, [], []⟩
def dIsValue : He.DefD := ⟨("is_value", none), "is_value", "is_value", defArgs sIsValue, defBody sIsValue, defScope sIsValue, [], []⟩
def dIsTerm : He.DefD := ⟨("is_term", none), "is_term", "is_term", defArgs sIsTerm, defBody sIsTerm, defScope sIsTerm, [], []⟩
def dVariablesOf : He.DefD := ⟨("variables_of", none), "variables_of", "variables_of", defArgs sVariablesOf, defBody sVariablesOf, defScope sVariablesOf, [], []⟩
def dPutTerms : He.DefD := ⟨("put_terms", none), "put_terms", "put_terms", defArgs sPutTerms, defBody sPutTerms, defScope sPutTerms, [], []⟩
def dMatched : He.DefD := ⟨("matched", none), "matched", "matched", defArgs sMatched, defBody sMatched, defScope sMatched, [], []⟩
def dHeadMap : He.DefD := ⟨("head_map", none), "head_map", "head_map", defArgs sHeadMap, defBody sHeadMap, defScope sHeadMap, [], []⟩
def dAllMaps : He.DefD := ⟨("all_maps", none), "all_maps", "all_maps", defArgs sAllMaps, defBody sAllMaps, defScope sAllMaps, [], []⟩
def dMapsTo : He.DefD := ⟨("maps_to", none), "maps_to", "maps_to", defArgs sMapsTo, defBody sMapsTo, defScope sMapsTo, [], []⟩
def dIsMap : He.DefD := ⟨("is_map", none), "is_map", "is_map", defArgs sIsMap, defBody sIsMap, defScope sIsMap, [], []⟩
def dNumbersIn : He.DefD := ⟨("numbers_in", none), "numbers_in", "numbers_in", defArgs sNumbersIn, defBody sNumbersIn, defScope sNumbersIn, [], []⟩
def dFrozen : He.DefD := ⟨("frozen", none), "frozen", "frozen", defArgs sFrozen, defBody sFrozen, defScope sFrozen, [], []⟩
def dCheckHeads : He.DefD := ⟨("check_heads", none), "check_heads", "check_heads", defArgs sCheckHeads, defBody sCheckHeads, defScope sCheckHeads, [], []⟩
def dContained : He.DefD := ⟨("contained", none), "contained", "contained", defArgs sContained, defBody sContained, defScope sContained, [], []⟩
def dLawPot : He.DefD := ⟨("_law_pot", none), "_law_pot", "_law_pot", defArgs sLawPot, defBody sLawPot, defScope sLawPot, [], []⟩
def dLawNext : He.DefD := ⟨("_law_next", none), "_law_next", "_law_next", defArgs sLawNext, defBody sLawNext, defScope sLawNext, [], []⟩
def dLawTerm : He.DefD := ⟨("_law_term", none), "_law_term", "_law_term", defArgs sLawTerm, defBody sLawTerm, defScope sLawTerm, [], []⟩
def dLawAtoms : He.DefD := ⟨("_law_atoms", none), "_law_atoms", "_law_atoms", defArgs sLawAtoms, defBody sLawAtoms, defScope sLawAtoms, [], []⟩
def dLawVariables : He.DefD := ⟨("_law_variables", none), "_law_variables", "_law_variables", defArgs sLawVariables, defBody sLawVariables, defScope sLawVariables, [], []⟩
def dLawRule : He.DefD := ⟨("_law_rule", none), "_law_rule", "_law_rule", defArgs sLawRule, defBody sLawRule, defScope sLawRule, [], []⟩
def dLawMeans : He.DefD := ⟨("_law_means", none), "_law_means", "_law_means", defArgs sLawMeans, defBody sLawMeans, defScope sLawMeans, [], []⟩
def dLawWays : He.DefD := ⟨("_law_ways", none), "_law_ways", "_law_ways", defArgs sLawWays, defBody sLawWays, defScope sLawWays, [], []⟩
def dLawPutIn : He.DefD := ⟨("_law_put_in", none), "_law_put_in", "_law_put_in", defArgs sLawPutIn, defBody sLawPutIn, defScope sLawPutIn, [], []⟩
def dLawIsMap : He.DefD := ⟨("_law_is_map", none), "_law_is_map", "_law_is_map", defArgs sLawIsMap, defBody sLawIsMap, defScope sLawIsMap, [], []⟩
def dLawSecond : He.DefD := ⟨("_law_second", none), "_law_second", "_law_second", defArgs sLawSecond, defBody sLawSecond, defScope sLawSecond, [], []⟩
def dLawRefused : He.DefD := ⟨("_law_refused", none), "_law_refused", "_law_refused", defArgs sLawRefused, defBody sLawRefused, defScope sLawRefused, [], []⟩
def dLaw : He.DefD := ⟨("law", none), "law", "law", defArgs sLaw, defBody sLaw, defScope sLaw, [], []⟩
def dFInit : He.DefD := ⟨("Facts", some "__init__"), "__init__", "Facts.__init__", defArgs sFInit, defBody sFInit, defScope sFInit, [], []⟩
def dFArity : He.DefD := ⟨("Facts", some "arity"), "arity", "Facts.arity", defArgs sFArity, defBody sFArity, defScope sFArity, [], []⟩
def dFAdd : He.DefD := ⟨("Facts", some "add"), "add", "Facts.add", defArgs sFAdd, defBody sFAdd, defScope sFAdd, [], []⟩
def dFFind : He.DefD := ⟨("Facts", some "find"), "find", "Facts.find", defArgs sFFind, defBody sFFind, defScope sFFind, [], []⟩
def dFRows : He.DefD := ⟨("Facts", some "rows"), "rows", "Facts.rows", defArgs sFRows, defBody sFRows, defScope sFRows, [], []⟩
def fn : List He.DefD := [dIsName, dIsNumber, dIsValue, dIsTerm, dVariablesOf, dPutTerms, dMatched, dHeadMap, dAllMaps, dMapsTo, dIsMap, dNumbersIn, dFrozen, dCheckHeads, dContained, dLawPot, dLawNext, dLawTerm, dLawAtoms, dLawVariables, dLawRule, dLawMeans, dLawWays, dLawPutIn, dLawIsMap, dLawSecond, dLawRefused, dLaw, dFInit, dFArity, dFAdd, dFFind, dFRows]
def fa1 : List He.Fa := [.glo "is_name", .glo "is_number", .glo "is_value", .glo "is_term", .glo "variables_of", .glo "put_terms", .glo "matched", .glo "head_map", .glo "all_maps", .glo "maps_to", .glo "is_map", .glo "numbers_in", .glo "frozen", .glo "check_heads", .glo "contained", .glo "_law_pot", .glo "_law_next", .glo "_law_term", .glo "_law_atoms", .glo "_law_variables", .glo "_law_rule", .glo "_law_means", .glo "_law_ways", .glo "_law_put_in", .glo "_law_is_map", .glo "_law_second", .glo "_law_refused", .glo "law", .glo "Facts", .glo "WorthError", .glo "InvalidArgument", .glo "UnknownTable"]
def fa2 : List He.Fa := [.glo "DuplicateFact", .free "isinstance", .free "len", .free "all", .free "list", .free "tuple", .free "dict", .free "zip", .free "sorted", .free "max", .free "enumerate", .free "range", .free "int", .free "abs", .free "repr", .free "str", .free "bool", .str "SMALL_LETTERS" "abcdefghijklmnopqrstuvwxyz", .int "MOST_NAME_SIGNS" 12, .int "MOST_VALUE_SIGNS" 20, .int "WIDEST_TABLE" 4, .cls "Facts", .noat "Facts" "arities", .noat "Facts" "known", .noat "Facts" "there", .noat "Facts" "places", .meth "Facts" "arity", .meth "Facts" "add", .meth "Facts" "find", .meth "Facts" "rows", .mkr "Facts", .exc "InvalidArgument", .exm "InvalidArgument" "WorthError" true]
def fa : List He.Fa := fa1 ++ fa2
def names1 : List PySem.Str := ["_wall", "WorthError", "InvalidArgument", "UnknownTable", "UnknownFact", "DuplicateFact", "SMALL_LETTERS", "MOST_NAME_SIGNS", "MOST_VALUE_SIGNS", "is_name", "is_number", "is_value", "WIDEST_TABLE", "Facts", "is_term", "variables_of", "put_terms", "matched", "head_map", "all_maps", "maps_to", "is_map", "numbers_in", "frozen", "check_heads", "contained", "_law_pot", "_law_next"]
def names2 : List PySem.Str := ["_law_values", "_law_fitted", "_law_leaf", "_law_over", "_law_query", "_law_known", "_law_lesser", "_law_ordered", "_law_put", "_law_joined", "_law_paths", "_law_repeat", "_law_plain", "_law_boolean", "_law_all", "_law_used", "_law_there", "_law_fits", "_law_new_fact", "_law_term", "_law_atoms", "_law_variables", "_law_rule", "_law_means", "_law_ways", "_law_put_in", "_law_is_map", "_law_second", "_law_refused"]
def names : List PySem.Str := names1 ++ names2
abbrev R : PySem.W.OpenRow := PySem.W.OpenLaw.row PySem.Challenge.rw_everyworth_k38_whole_rules_within_one_an
def exF (K : PySem.W.Frag) : Bool :=
  He.eqO (PySem.W.findIn K (.ref (He.ga K "InvalidArgument")) "__getattribute__") (some (some (.builtin "BaseException.__getattribute__"))) &&
  (He.eqO (PySem.W.findIn K (.ref (He.ga K "InvalidArgument")) "__getattr__") (some none) &&
  (decide (PySem.W.subIn K (.ref (He.ga K "InvalidArgument")) (.type "BaseException") = some true) &&
  (PySem.W.hasDictIn K (He.ga K "InvalidArgument") &&
  (He.eqO (PySem.W.findIn K (.ref (He.ga K "InvalidArgument")) "__class__") (some (some (.builtin "object.__class__"))) &&
  (He.eqO (PySem.W.specialIn K (.builtin "object.__class__") "__get__") (some (some (.builtin "getset_descriptor.__get__"))) &&
  (decide (PySem.W.takesIn K (.builtin "object.__class__") = some true) &&
  (decide (PySem.W.mroIn K (He.ga K "InvalidArgument") (.type "object") = some true) &&
  decide (PySem.W.kitOne K (.ref (He.ga K "InvalidArgument")) (.ref (He.ga K "InvalidArgument")) = some true))))))))
abbrev hk : PySem.W.Hook := He.hookX 6 fa fn [] [] exF
def ob (s : PySem.W.SharedT) : He.AlX := He.obsX 6 fa fn [] [] exF (HandSHeadRun.getT s)
theorem ob_eq (s : PySem.W.SharedT) : ob s = hk.obs s.abs := He.obsX_eq (HandSHeadRun.getT_eq s)
theorem run (w : World) : HandSHeadRun.RunEq R (PySem.W.view R.prog [62]) hk ob 4000 names w := by
  intro os
  kernel_rfl
end Ew
set_option Elab.async false
set_option linter.all false
set_option maxRecDepth 100000
set_option maxHeartbeats 2000000
/-! data that is made of tuples, texts and ints, told by NestedKey; rules over it -/
namespace Ew
open PySem PySem.Spec PyProof.Rows L2 PySem.SeqAt
abbrev NK := NestedKey
mutual
/-- v is the data x in H -/
def At (H : Hp) : NK → V → Prop
  | .none, v => v = .non
  | .num i, v => v = .int i
  | .text x, v => v = .str x
  | .tup ks, v => ∃ a xs, v = .ref a ∧ H a = some (.tup xs) ∧ Ats H ks xs
def Ats (H : Hp) : List NK → List V → Prop
  | [], xs => xs = []
  | k :: ks, xs => ∃ v r, xs = v :: r ∧ At H k v ∧ Ats H ks r
end
/-- the tuples stay -/
def TK (H H' : Hp) : Prop := ∀ b xs, H b = some (.tup xs) → H' b = some (.tup xs)
/-- all that is tracked stays -/
def Ex (H H' : Hp) : Prop := ∀ b o, H b = some o → H' b = some o
/-- .. but what stands at p -/
def ExB (p : Addr) (H H' : Hp) : Prop := ∀ b o, b ≠ p → H b = some o → H' b = some o
theorem Ex.refl {H : Hp} : Ex H H := fun _ _ h => h
theorem Ex.trans {H H1 H2 : Hp} (a : Ex H H1) (b : Ex H1 H2) : Ex H H2 := fun c o h => b c o (a c o h)
theorem Ex.tk {H H' : Hp} (h : Ex H H') : TK H H' := fun b xs e => h b _ e
theorem Ex.but {H H' : Hp} {p : Addr} (h : Ex H H') : ExB p H H' := fun b o _ e => h b o e
theorem ExB.trans {p : Addr} {H H1 H2 : Hp} (a : ExB p H H1) (b : ExB p H1 H2) : ExB p H H2 := fun c o n h => b c o n (a c o n h)
theorem TK.trans {H H1 H2 : Hp} (a : TK H H1) (b : TK H1 H2) : TK H H2 := fun c o h => b c o (a c o h)
theorem TK.refl {H : Hp} : TK H H := fun _ _ h => h
theorem Ex.new {H : Hp} {p : Addr} {o : HO} (n : H p = none) : Ex H (upd H p o) := fun b u e => by rw [upd_ne (ne_of_none e n)]; exact e
theorem Ex.free {H H' : Hp} {a : Addr} (h : Ex H H') (n : H' a = none) : H a = none := by
  cases e : H a with
  | none => rfl
  | some o => rw [h a o e] at n; cases n
/-- what is told afterwards of a write at p -/
theorem ExB.upd {H : Hp} {p : Addr} {o : HO} : ExB p H (upd H p o) := fun b u n e => by rw [upd_ne n]; exact e
theorem ExB.tk {H H' : Hp} {p : Addr} (h : ExB p H H') (n : ∀ xs, H p ≠ some (.tup xs)) : TK H H' := fun b xs e => h b _ (fun z => n xs (by rw [← z]; exact e)) e
mutual
theorem At.mono {H H' : Hp} (k : TK H H') : ∀ (x : NK) (v : V), At H x v → At H' x v
  | .none, _, h => h
  | .num _, _, h => h
  | .text _, _, h => h
  | .tup ks, _, h => by
    obtain ⟨a, xs, rfl, ha, r⟩ := h
    exact ⟨a, xs, rfl, k _ _ ha, Ats.mono k ks xs r⟩
theorem Ats.mono {H H' : Hp} (k : TK H H') : ∀ (ks : List NK) (xs : List V), Ats H ks xs → Ats H' ks xs
  | [], _, h => h
  | x :: ks, _, h => by
    obtain ⟨v, r, rfl, h1, h2⟩ := h
    exact ⟨v, r, rfl, At.mono k x v h1, Ats.mono k ks r h2⟩
end
mutual
theorem At.is {P : Program} {w : World} {H : Hp} {h : Heap} (ok : HOk P w H h) : ∀ (x : NK) (v : V) (u : Value), At H x v → RelV v u → NestedIs h x u
  | .none, _, _, e, r => by cases e; cases r; exact .none
  | .num i, _, _, e, r => by cases e; obtain ⟨t, rfl⟩ := r; exact .int i t
  | .text x, _, _, e, r => by cases e; obtain ⟨t, rfl⟩ := r; exact .text x t
  | .tup ks, _, _, e, r => by
    obtain ⟨a, xs, rfl, ha, q⟩ := e
    cases r
    obtain ⟨_, its, rv, o, h1, h2, n, h3⟩ := (show ObjOk P w H h a (.tup xs) from ok a _ ha)
    exact .tup h1 h2 h3 (by simpa using Ats.is ok ks xs its q rv)
theorem Ats.is {P : Program} {w : World} {H : Hp} {h : Heap} (ok : HOk P w H h) : ∀ (ks : List NK) (xs : List V) (us : List Value), Ats H ks xs → Vals xs us → NestedAll h ks us
  | [], _, _, e, r => by cases e; cases r; exact .nil
  | x :: ks, _, _, e, r => by
    obtain ⟨v, rs, rfl, h1, h2⟩ := e
    cases r with
    | cons r1 r2 => exact .cons (At.is ok x v _ h1 r1) (Ats.is ok ks rs _ h2 r2)
end
theorem Ats.length {H : Hp} : ∀ {ks : List NK} {xs : List V}, Ats H ks xs → xs.length = ks.length
  | [], _, h => by cases h; rfl
  | _ :: ks, _, h => by
    obtain ⟨v, r, rfl, _, h2⟩ := h
    rw [List.length_cons, List.length_cons, Ats.length h2]
theorem Ats.get {H : Hp} : ∀ {ks : List NK} {xs : List V} {i : Nat} {k : NK}, Ats H ks xs → ks[i]? = some k → ∃ v, xs[i]? = some v ∧ At H k v
  | [], _, i, k, _, e => by simp at e
  | x :: ks, _, 0, k, h, e => by
    obtain ⟨v, r, rfl, h1, _⟩ := h
    simp at e
    subst e
    exact ⟨v, rfl, h1⟩
  | x :: ks, _, i + 1, k, h, e => by
    obtain ⟨v, r, rfl, _, h2⟩ := h
    obtain ⟨u, e1, e2⟩ := Ats.get (i := i) (k := k) h2 (by simpa using e)
    exact ⟨u, by simpa using e1, e2⟩
theorem Ats.get' {H : Hp} {ks : List NK} {xs : List V} {i : Nat} {v : V} (h : Ats H ks xs) (e : xs[i]? = some v) : ∃ k, ks[i]? = some k ∧ At H k v := by
  have hl := h.length
  have hi := (List.getElem?_eq_some_iff.mp e).1
  have hk : ks[i]? = some ks[i] := List.getElem?_eq_getElem (by omega)
  obtain ⟨u, e1, e2⟩ := h.get hk
  rw [e] at e1
  cases e1
  exact ⟨_, hk, e2⟩
theorem Ats.append {H : Hp} : ∀ {ks ls : List NK} {xs ys : List V}, Ats H ks xs → Ats H ls ys → Ats H (ks ++ ls) (xs ++ ys)
  | [], _, _, _, h, g => by cases h; exact g
  | x :: ks, _, _, _, h, g => by
    obtain ⟨v, r, rfl, h1, h2⟩ := h
    exact ⟨v, _, rfl, h1, Ats.append h2 g⟩
theorem Ats.one {H : Hp} {k : NK} {v : V} (h : At H k v) : Ats H [k] [v] := ⟨v, [], rfl, h, rfl⟩
theorem Ats.drop {H : Hp} : ∀ {ks : List NK} {xs : List V} (n : Nat), Ats H ks xs → Ats H (ks.drop n) (xs.drop n)
  | _, _, 0, h => h
  | [], _, n + 1, h => by cases h; exact rfl
  | x :: ks, _, n + 1, h => by
    obtain ⟨v, r, rfl, _, h2⟩ := h
    exact Ats.drop n h2
theorem Ats.take {H : Hp} : ∀ {ks : List NK} {xs : List V} (n : Nat), Ats H ks xs → Ats H (ks.take n) (xs.take n)
  | _, _, 0, h => rfl
  | [], _, n + 1, h => by cases h; exact rfl
  | x :: ks, _, n + 1, h => by
    obtain ⟨v, r, rfl, h1, h2⟩ := h
    exact ⟨v, _, rfl, h1, Ats.take n h2⟩
theorem Ats.strs {H : Hp} : ∀ (ns : List Str), Ats H (ns.map .text) (ns.map .str)
  | [] => rfl
  | n :: ns => ⟨_, _, rfl, rfl, Ats.strs ns⟩

section
variable {X : Cx} {pins : List (Addr × Obj)} {σ : L2.St} {H : Hp} {s : Shared}
/-- a != b of tuples -/
def rNeK : R2 := fun x y H Q => ∃ k l, At H k x ∧ At H l y ∧ (∃ ks, k = .tup ks) ∧ (∃ ls, l = .tup ls) ∧ k.depth ≤ 8 ∧ Q (.bl (!decide (k = l))) H
theorem op_neK (hu : X.A.units + 64 < cLine) : OpR X (compareOp .NotEq) rNeK := by
  intro pins s σ H x y v u Q I rx ry h
  obtain ⟨_, _, hx, hy, ⟨ks, rfl⟩, ⟨ls, rfl⟩, hd, q⟩ := h
  have nx := At.is I.hok _ _ _ hx rx
  have ny := At.is I.hok _ _ _ hy ry
  cases nx with
  | @tup l o vs n _ h1 h2 h3 h4 =>
    cases ny with
    | @tup l' o' vs' n' _ k1 k2 k3 k4 =>
      have hl : s.heap.IsTuple l vs := ⟨_, h1, h2, _, h3⟩
      have hl' : s.heap.IsTuple l' vs' := ⟨_, k1, k2, _, k3⟩
      have n1 : vs.size = ks.length := by simpa using NestedAll.length _ _ h4
      have n2 : vs'.size = ls.length := by simpa using NestedAll.length _ _ k4
      have hd' : NestedKey.depthAll ks + 1 ≤ 8 := by simpa [NestedKey.depth] using hd
      refine RcNeAt.tuples (e := keyEqAt ks ls) hl hl' (by omega) (fun j j1 j2 => ?_) _ _ _ _ ?_
      · have := eqAt_keys ks ls X.A.in1 s vs.toList vs'.toList h4 k4 (by rw [Around.in1_units]; omega) j (by simpa using j1) (by simpa using j2)
        simpa using this
      · rw [n1, n2, beqAll_eq ks ls]
        have e : NestedKey.beqAll ks ls = decide (NestedKey.tup ks = NestedKey.tup ls) := by
          rw [NestedKey.decide_eq]
          first | rfl | simp [NestedKey.beq]
        rw [e]
        exact ⟨.bl _, H, I, rfl, q⟩
/-- x in t, t a tuple of data -/
def rInK : R2 := fun x y H Q => ∃ k ks, At H k x ∧ At H (.tup ks) y ∧ k.depth ≤ 8 ∧ Q (.bl (decide (k ∈ ks))) H
theorem mem_nested {h : Heap} : ∀ {ks : List NK} {vs : List Value} {v : Value}, NestedAll h ks vs → v ∈ vs → ∃ k, k ∈ ks ∧ NestedIs h k v
  | [], _, v, r, hv => by cases r; simp at hv
  | k :: ks, _, v, r, hv => by
    cases r with
    | cons r1 r2 =>
      rcases List.mem_cons.mp hv with rfl | hv
      · exact ⟨k, List.mem_cons_self, r1⟩
      · obtain ⟨k', a, b⟩ := mem_nested r2 hv
        exact ⟨k', List.mem_cons_of_mem _ a, b⟩
theorem any_nested {h : Heap} (k : NK) (e : Value → Bool) (he : ∀ l v, NestedIs h l v → e v = decide (l = k)) : ∀ {ks : List NK} {vs : List Value}, NestedAll h ks vs → vs.any e = decide (k ∈ ks)
  | [], _, r => by cases r; simp
  | l :: ks, _, r => by
    cases r with
    | cons r1 r2 =>
      rw [List.any_cons, he l _ r1, any_nested k e he r2]
      by_cases q : l = k
      · subst q; simp
      · have q' : ¬ k = l := fun z => q z.symm
        simp [q, q']
open Classical in
theorem op_inK (hu : X.A.units + 64 < cLine) : OpR X (compareOp .In) rInK := by
  intro pins s σ H x y v u Q I rx ry h
  obtain ⟨k, ks, hx, hy, hd, q⟩ := h
  have nx := At.is I.hok _ _ _ hx rx
  have ny := At.is I.hok _ _ _ hy ry
  cases ny with
  | @tup l o vs n _ h1 h2 h3 h4 =>
    have hl : s.heap.IsTuple l vs := ⟨_, h1, h2, _, h3⟩
    have he : ∀ l v, NestedIs s.heap l v → (fun v => decide (NestedIs s.heap k v)) v = decide (l = k) := fun l v r => by
      by_cases e : l = k
      · subst e; simp [r]
      · have : ¬ NestedIs s.heap k v := fun z => e (NestedIs.inj _ _ _ r z)
        simp [e, this]
    refine in_tupleAt (fun v => decide (NestedIs s.heap k v)) hl (fun y hy => ?_) ?_
    · obtain ⟨m, hm, r⟩ := mem_nested h4 (by simpa using hy)
      show EqAt _ _ _ _ (decide (NestedIs s.heap k y))
      have e0 : decide (NestedIs s.heap k y) = decide (m = k) := he m y r
      rw [e0, NestedKey.decide_eq]
      refine eqAt_key m k X.A.in1 s _ _ r nx ?_
      have : min m.depth k.depth ≤ k.depth := Nat.min_le_right _ _
      rw [Around.in1_units]
      omega
    · have e := any_nested k _ he h4
      rw [← Array.any_toList, e]
      exact ⟨.bl _, H, I, rfl, q⟩
end
end Ew
set_option Elab.async false
set_option linter.all false
set_option maxRecDepth 100000
set_option maxHeartbeats 2000000
/-! dicts whose keys are nested tuples -/
namespace Ew
open PySem PySem.Spec PyProof.Rows L2 PySem.SeqAt
abbrev EN : Type := NK × Addr × V
abbrev EV : Type := NK × Addr × Value
def RN (p : EN) (q : EV) : Prop := p.1 = q.1 ∧ p.2.1 = q.2.1 ∧ RelV p.2.2 q.2.2
def rawN (P : Program) (w : World) (a : Addr) (xs : List EN) (h : Heap) : Prop :=
  xs.length ≤ sizeLine ∧ (a == sysModules) = false ∧ ∃ ys : List EV, Paired RN xs ys ∧ ∃ o es ep, h.get? a = some o ∧ o.ExactDict ∧ o.data = .dict es ep ∧ es.toList = ys.map (entryOfKey (nestedKind P w)) ∧ (ys.map (·.1)).Nodup
/-- a dict with keys that are nested tuples, at a: each entry's key, the key's address, the value -/
def dNO (P : Program) (w : World) (a : Addr) (xs : List EN) : HO := .ext (rawN P w a xs)
theorem rawN_at {P : Program} {w : World} {a : Addr} {xs : List EN} {h h' : Heap} (x : rawN P w a xs h) (k : ∀ o, h.get? a = some o → h'.get? a = some o) : rawN P w a xs h' := by
  obtain ⟨z, y, ys, r, o, es, ep, e, c⟩ := x
  exact ⟨z, y, ys, r, o, es, ep, k _ e, c⟩
theorem dNO_ok {P : Program} {w : World} {H : Hp} {a : Addr} {xs : List EN} {h : Heap} (x : rawN P w a xs h) : ObjOk P w H h a (dNO P w a xs) := by
  have ⟨_, _, _, _, o, _, _, e, _⟩ := x
  exact ⟨x, ⟨o, e⟩, fun h1 h2 p k => rawN_at p k⟩
structure DN (P : Program) (w : World) (H : Hp) (a : Addr) (xs : List EN) : Prop where
  at_ : H a = some (dNO P w a xs)
  keys : ∀ x ∈ xs, At H x.1 (.ref x.2.1) ∧ x.1.depth ≤ 8
theorem DN.mono {P : Program} {w : World} {H H' : Hp} {a : Addr} {xs : List EN} (d : DN P w H a xs) (k : TK H H') (e : H' a = some (dNO P w a xs)) : DN P w H' a xs :=
  ⟨e, fun x hx => ⟨At.mono k _ _ (d.keys x hx).1, (d.keys x hx).2⟩⟩
theorem DN.ex {P : Program} {w : World} {H H' : Hp} {a : Addr} {xs : List EN} (d : DN P w H a xs) (k : Ex H H') : DN P w H' a xs := d.mono k.tk (k _ _ d.at_)
theorem paired_mem {α β : Type} {F : α → β → Prop} : ∀ {xs : List α} {ys : List β}, Paired F xs ys → ∀ y ∈ ys, ∃ x ∈ xs, F x y
  | _, _, .nil, y, h => by simp at h
  | _, _, .cons r t, y, h => by
    rcases List.mem_cons.mp h with rfl | h
    · exact ⟨_, List.mem_cons_self, r⟩
    · obtain ⟨x, hx, f⟩ := paired_mem t y h
      exact ⟨x, List.mem_cons_of_mem _ hx, f⟩
theorem DN.raw {P : Program} {w : World} {H : Hp} {h : Heap} {a : Addr} {xs : List EN} (d : DN P w H a xs) (ok : HOk P w H h) :
    xs.length ≤ sizeLine ∧ (a == sysModules) = false ∧ ∃ ys : List EV, Paired RN xs ys ∧ h.DictOfH (nestedKind P w) a ys := by
  obtain ⟨⟨z, y, ys, r, o, es, ep, e1, e2, e3, e4, e5⟩, _⟩ := (show ObjOk P w H h a (dNO P w a xs) from ok a _ d.at_)
  refine ⟨z, y, ys, r, o, es, ep, e1, e2, e3, e4, fun q hq => ?_, e5⟩
  obtain ⟨p, hp, f1, f2, f3⟩ := paired_mem r q hq
  obtain ⟨k1, k2⟩ := d.keys p hp
  rw [← f1, ← f2]
  exact ⟨At.is ok _ _ _ k1 rfl, k2⟩
def atN (xs : List EN) (k : NK) : Option V := (xs.find? fun x => decide (x.1 = k)).map (·.2.2)
def putN (xs : List EN) (k : NK) (b : Addr) (v : V) : List EN := if (atN xs k).isSome then xs.map (fun x => if x.1 = k then (x.1, x.2.1, v) else x) else xs ++ [(k, b, v)]
theorem atN_rel (k : NK) : ∀ {xs : List EN} {ys : List EV}, Paired RN xs ys → RelO (atN xs k) ((atKey ys k).map (·.2))
  | _, _, .nil => trivial
  | x :: xs, y :: ys, .cons r t => by
    have ih := atN_rel k t
    obtain ⟨r1, r2, r3⟩ := r
    unfold atN atKey
    by_cases e : x.1 = k
    · have e' : y.1 = k := by rw [← r1]; exact e
      simp [e, e']
      exact r3
    · have e' : ¬ y.1 = k := by rw [← r1]; exact e
      simp [e, e']
      unfold atN atKey at ih
      simpa using ih
theorem relO_isSome {a : Option V} {b : Option Value} (r : RelO a b) : a.isSome = b.isSome := by
  cases a <;> cases b <;> first | rfl | exact (show False from r).elim
theorem paired_map {α β α' β' : Type} {F : α → β → Prop} {G : α' → β' → Prop} {f : α → α'} {g : β → β'} (h : ∀ a b, F a b → G (f a) (g b)) : ∀ {xs : List α} {ys : List β}, Paired F xs ys → Paired G (xs.map f) (ys.map g)
  | _, _, .nil => .nil
  | _, _, .cons r t => .cons (h _ _ r) (paired_map h t)
theorem paired_app {α β : Type} {F : α → β → Prop} : ∀ {xs xs' : List α} {ys ys' : List β}, Paired F xs ys → Paired F xs' ys' → Paired F (xs ++ xs') (ys ++ ys')
  | _, _, _, _, .nil, s => s
  | _, _, _, _, .cons r t, s => .cons r (paired_app t s)
theorem putN_rel {k : NK} {b : Addr} {v : V} {u : Value} (rv : RelV v u) {xs : List EN} {ys : List EV} (r : Paired RN xs ys) : Paired RN (putN xs k b v) (storedH ys k b u) := by
  have e := relO_isSome (atN_rel k r)
  rw [Option.isSome_map] at e
  unfold putN storedH
  rw [e]
  split
  · refine paired_map (fun p q h => ?_) r
    obtain ⟨r1, r2, r3⟩ := h
    unfold putAt
    by_cases z : p.1 = k
    · have z' : q.1 = k := by rw [← r1]; exact z
      rw [if_pos z, if_pos z']
      exact ⟨r1, r2, rv⟩
    · have z' : ¬ q.1 = k := by rw [← r1]; exact z
      rw [if_neg z, if_neg z']
      exact ⟨r1, r2, r3⟩
  · exact paired_app r (.cons ⟨rfl, rfl, rv⟩ .nil)
theorem length_putN (xs : List EN) (k : NK) (b : Addr) (v : V) : (putN xs k b v).length ≤ xs.length + 1 := by
  unfold putN
  split <;> simp
theorem mem_putN {xs : List EN} {k : NK} {b : Addr} {v : V} {x : EN} (h : x ∈ putN xs k b v) : (∃ y ∈ xs, y.1 = x.1 ∧ y.2.1 = x.2.1 ∧ (x.1 = k → x.2.2 = v) ∧ (x.1 ≠ k → y = x)) ∨ x = (k, b, v) := by
  unfold putN at h
  split at h
  rename_i c0
  · obtain ⟨y, hy, e⟩ := List.mem_map.mp h
    refine .inl ⟨y, hy, ?_⟩
    split at e
    · rename_i q
      subst e
      exact ⟨rfl, rfl, fun _ => rfl, fun n => absurd q n⟩
    · rename_i q
      subst e
      exact ⟨rfl, rfl, fun z => absurd z q, fun _ => rfl⟩
  rename_i c0
  · rcases List.mem_append.mp h with h | h
    · by_cases q : x.1 = k
      · exfalso
        apply c0
        unfold atN
        rw [Option.isSome_map, List.find?_isSome]
        exact ⟨x, h, by simpa using q⟩
      · exact .inl ⟨x, h, rfl, rfl, fun z => absurd z q, fun _ => rfl⟩
    · exact .inr (by simpa using h)
theorem mem_of_putN {xs : List EN} {k : NK} {b : Addr} {v : V} : (∃ b', (k, b', v) ∈ putN xs k b v) ∧ ∀ y ∈ xs, y.1 ≠ k → y ∈ putN xs k b v := by
  unfold putN
  split
  · rename_i h
    unfold atN at h
    rw [Option.isSome_map, List.find?_isSome] at h
    obtain ⟨x, hx, e⟩ := h
    have e' : x.1 = k := by simpa using e
    refine ⟨⟨x.2.1, List.mem_map.mpr ⟨x, hx, by rw [if_pos e', e']⟩⟩, fun y hy n => List.mem_map.mpr ⟨y, hy, by rw [if_neg n]⟩⟩
  · exact ⟨⟨b, by simp⟩, fun y hy _ => by simp [hy]⟩
theorem DN.put {P : Program} {w : World} {H : Hp} {a b : Addr} {k : NK} {v : V} {xs : List EN} (d : DN P w H a xs) (hk : At H k (.ref b)) (hd : k.depth ≤ 8) : DN P w (upd H a (dNO P w a (putN xs k b v))) a (putN xs k b v) := by
  have tk : TK H (upd H a (dNO P w a (putN xs k b v))) := ExB.upd.tk fun xs z => by rw [d.at_] at z; cases z
  refine ⟨upd_same, fun x hx => ?_⟩
  rcases mem_putN hx with ⟨y, hy, e1, e2, _⟩ | rfl
  · rw [← e1, ← e2]
    exact ⟨At.mono tk _ _ (d.keys y hy).1, (d.keys y hy).2⟩
  · exact ⟨At.mono tk _ _ hk, hd⟩
section
variable {X : Cx} {pins : List (Addr × Obj)} {σ : L2.St} {H : Hp} {s : Shared}
def tDNewN (P : Program) (w : World) : TE := fun _ H Q => ∀ p, H p = none → Q (.ref p) (upd H p (dNO P w p []))
theorem pe_dnewN {pos : Pos} : PE X (.Dict [] [] pos) (tDNewN X.prog X.w) := ⟨fun pins s σ H Q I h => by
  refine wpAny_Dict_empty ?_
  have raw : rawN X.prog X.w s.heap.objs.size [] (s.heap.push { cls := .type "dict", data := .dict #[] }) := by
    have z := dt_empty (P := X.prog) (w := X.w) (H := upd H s.heap.objs.size (.dT [])) s.heap I.big
    obtain ⟨_, hd, _⟩ := z
    exact ⟨Nat.zero_le _, hd, [], .nil, _, #[], 0, Heap.get?_push_size _ rfl, ⟨rfl, rfl, rfl⟩, rfl, rfl, List.nodup_nil⟩
  exact ⟨.ref s.heap.objs.size, _, I.laid (a := s.heap.objs.size) (o := dNO X.prog X.w s.heap.objs.size []) (t' := s.toks) (fun _ _ q => Heap.get?_push_of_some _ q) (Nat.le_refl _) (dNO_ok raw), rfl, h _ (I.hok.fresh (Nat.le_refl _))⟩⟩
/-- k in d -/
def rInN (P : Program) (w : World) : R2 := fun x y H Q => ∃ a k b xs, x = .ref b ∧ y = .ref a ∧ DN P w H a xs ∧ At H k (.ref b) ∧ k.depth ≤ 8 ∧ Q (.bl (atN xs k).isSome) H
theorem room_nk {P : Program} {w : World} {A : Around} (hu : A.units + 64 < cLine) : (nestedKind P w).room A.in1 := by
  show A.in1.units + 8 < cLine
  rw [Around.in1_units]
  omega
theorem op_inN (hu : X.A.units + 64 < cLine) : OpR X (compareOp .In) (rInN X.prog X.w) := by
  intro pins s σ H x y v u Q I rx ry h
  obtain ⟨a, k, b, xs, rfl, rfl, d, hk, hd, q⟩ := h
  cases rx
  cases ry
  obtain ⟨z, hs, ys, r, dd⟩ := d.raw I.hok
  refine wpAny_in_heap (room_nk hu) ⟨At.is I.hok _ _ _ hk rfl, hd⟩ hs dd ?_
  have e := relO_isSome (atN_rel k r)
  rw [Option.isSome_map] at e
  rw [← e]
  exact ⟨.bl _, H, I.tok _, rfl, q⟩
/-- d[k] = v -/
def sDPutN (P : Program) (w : World) (td ty tv : TE) : TS := fun D σ H => tv σ H fun v H1 => td σ H1 fun x H2 => ty σ H2 fun y H3 => ∃ a k b xs, x = .ref a ∧ y = .ref b ∧ DN P w H3 a xs ∧ At H3 k (.ref b) ∧ k.depth ≤ 8 ∧ xs.length < sizeLine ∧
  D.nx σ (upd H3 a (dNO P w a (putN xs k b v)))
theorem ps_dputN {o i value : Expr} {td ty tv : TE} {pos pos' : Pos} (hu : X.A.units + 64 < cLine) (ho : PE X o td) (hi : PE X i ty) (hv : PE X value tv) (hs : swapsWith value (some (.Subscript o i pos')) pos.line X.env = pure false) :
    PS X (.Assign [.Subscript o i pos'] value pos) (sDPutN X.prog X.w td ty tv) := by
  refine ⟨fun pins s σ H D I h => ?_⟩
  refine wpAny_Assign_Subscript (thn (hv.run pins s σ H _ I h) fun r s1 ⟨v, H1, I1, rv, q1⟩ => thn (ho.run pins s1 σ H1 _ I1 q1) fun u s2 ⟨x, H2, I2, rx, q2⟩ => thn (hi.run pins s2 σ H2 _ I2 q2) fun iv s3 ⟨y, H3, I3, ry, a, k, b, xs, ex, ey, d, hk, hd, hl, q3⟩ => ?_) hs
  subst ex ey
  cases rx
  cases ry
  obtain ⟨z, hsm, ys, rel, dd⟩ := d.raw I3.hok
  have hz : ys.length ≤ sizeLine := by rw [← Paired.length rel]; exact z
  refine wpAny_setItem_heap (hsz := hz) (room_nk hu) ⟨At.is I3.hok _ _ _ hk rfl, hd⟩ dd fun h' dd' hsb => ?_
  obtain ⟨q, es, ep, hq, h2, h3, h4, _, h5⟩ := dd'
  have hl2 : (putN xs k b v).length ≤ sizeLine := by
    have := length_putN xs k b v
    omega
  exact ⟨σ, _, d_write I3 (by rw [d.at_]; exact True.intro) hsb ⟨q, hq⟩ (dNO_ok ⟨hl2, hsm, _, putN_rel rv rel, q, es, ep, hq, h2, h3, h4, h5⟩), q3⟩
/-- d.get(k) -/
def tGetN (P : Program) (w : World) (td ty : TE) : TE := fun σ H Q => td σ H fun x H1 => ∃ a, x = .ref a ∧ (∃ xs, DN P w H1 a xs) ∧ ty σ H1 fun y H2 => ∃ k b xs, y = .ref b ∧ DN P w H2 a xs ∧ At H2 k (.ref b) ∧ k.depth ≤ 8 ∧ Q ((atN xs k).getD .non) H2
theorem pe_getN {o e : Expr} {td ty : TE} {apos cpos : Pos} (hu : X.A.units + 64 < cLine) (ho : PE X o td) (he : PE X e ty) (m : M1 X o "get" apos e cpos) : PE X (.Call (.Attribute o "get" apos) [e] [] cpos) (tGetN X.prog X.w td ty) := by
  refine ⟨fun pins s σ H Q I h => ?_⟩
  refine wpAny_Call_method m.base m.few m.line PySem.F.plainAttrs_dict PySem.F.slot_dict_get PySem.F.type_dict_get (thn (ho.run pins s σ H _ I h) fun u s1 ⟨x, H1, I1, rx, a, ex, ⟨xs0, d0⟩, q1⟩ => ?_)
  subst ex
  obtain rfl : u = Value.ref a := rx
  obtain ⟨_, _, ys0, _, dd0⟩ := d0.raw I1.hok
  refine ⟨dd0.typeIs, fun b e => ?_, ?_⟩
  · cases e
    obtain ⟨ob, _, _, h1, h2, _⟩ := dd0
    exact ⟨ob, h1, h2.2.1⟩
  rw [m.trees]
  refine Calls.callWith_builtin rfl (Calls.evalArgs_plain (Calls.spliced_cons (thn (he.run pins s1 σ H1 _ I1 q1) fun iv s2 ⟨y, H2, I2, ry, k, b, xs, ey, d, hk, hd, q2⟩ => Calls.spliced_nil ?_)))
  subst ey
  cases ry
  obtain ⟨z, hs, ys, r, dd⟩ := d.raw I2.hok
  refine call_meetsIn PySem.F.slot_dict_get dd.typeIs PySem.F.entry_dict_get (PySem.F.args_dict_get_2 _ _) (meetsH_dict_get (nestedKind X.prog X.w) a b hs) ⟨room_nk hu, k, ys, ⟨At.is I2.hok _ _ _ hk rfl, hd⟩, dd, ?_⟩
  have rr := atN_rel k r
  refine ⟨(atN xs k).getD .non, H2, I2.tok _, ?_, q2⟩
  cases e1 : atN xs k with
  | none =>
    rw [e1] at rr
    cases e2 : (atKey ys k).map (·.2) with
    | none => rfl
    | some o => rw [e2] at rr; exact (show False from rr).elim
  | some v =>
    rw [e1] at rr
    cases e2 : (atKey ys k).map (·.2) with
    | none => rw [e2] at rr; exact (show False from rr).elim
    | some o => rw [e2] at rr; exact rr
/-- d.values(), and list of it -/
def valsO (p d : Addr) : HO := .ext fun h => h.IsValuesView p d
theorem valsO_ok {P : Program} {w : World} {H : Hp} {h : Heap} {p d : Addr} (e : h.get? p = some { cls := .type "dict_values", data := .fields #[.ref d] }) : ObjOk P w H h p (valsO p d) :=
  ⟨⟨_, e, rfl, rfl⟩, ⟨_, e⟩, fun h1 h2 x k => let ⟨o, ho, r⟩ := x; ⟨o, k o ho, r⟩⟩
end
end Ew
set_option Elab.async false
set_option linter.all false
set_option maxRecDepth 100000
set_option maxHeartbeats 2000000
/-! d.values() and list of it (nested keys); sorted(d.items()) of a dict with text keys -/
namespace Ew
open PySem PySem.W PySem.Calls PyProof.Rows PySem.SeqAt DT
section
variable {prog : Program} {w : World} {A : Around} {E : Value → Shared → Prop} {s : Shared}
/-- v is a pair: the text y, and the object at b -/
def PairS (h : Heap) (v : Value) (y : Str) (b : Addr) : Prop := ∃ (a : Addr) (t : Tok), v = .ref a ∧ IsTup h a #[.str y t, .ref b]
def keyS (h : Heap) (v : Value) : Str := txOf (seqAt0 h (refOf (some v)))
theorem PairS.tx {h : Heap} {v : Value} {y : Str} {b : Addr} (x : PairS h v y b) : keyS h v = y := by
  obtain ⟨a, t, rfl, h1⟩ := x
  show txOf (seqAt0 h a) = y
  rw [seqAt0_of h1]
  all_goals rfl
theorem firsts_s {h : Heap} {M : Str → Addr} : ∀ vs : List Value, (∀ v ∈ vs, ∃ y, PairS h v y (M y)) → ∃ fs : List Value, KatTups h vs fs ∧ fs.length = vs.length ∧ ∀ f ∈ fs, ∃ (y : Str) (t : Tok), f = Value.str y t
  | [], _ => ⟨[], KatTups.nil, rfl, fun f hf => by simp at hf⟩
  | v :: vs, x => by
    obtain ⟨fs, k, hl, hi⟩ := firsts_s vs fun u hu => x u (List.mem_cons_of_mem _ hu)
    obtain ⟨y, a, t, rfl, ⟨o, ho, hc, n, hd⟩⟩ := x v (List.mem_cons_self ..)
    refine ⟨.str y t :: fs, KatTups.cons ho hc hd rfl k, by rw [List.length_cons, List.length_cons, hl], fun f hf => ?_⟩
    rcases List.mem_cons.mp hf with rfl | hf
    · exact ⟨y, t, rfl⟩
    · exact hi f hf
theorem kind_ps {vs : List Value} {ρ : Str → Int} {M : Str → Addr} (h2 : 2 ≤ vs.length) (x : ∀ v ∈ vs, ∃ y, PairS s.heap v y (M y))
    (hρ : ∀ v ∈ vs, ∀ u ∈ vs, decide ((keyS s.heap v).cps.toList < (keyS s.heap u).cps.toList) = decide (ρ (keyS s.heap v) < ρ (keyS s.heap u))) (Q : SortKind → Shared → Prop)
    (h : ∀ κ, TS.Cmp prog w A s κ (pairsOf vs) (fun v => ρ (keyS s.heap v)) → Q κ s) : wpAny (model prog w) A (keyKind' vs.toArray) Q E s := by
  obtain ⟨fs, k, hl, hi⟩ := firsts_s vs x
  refine kat_kind (T := Value.type "str") k (by omega) (fun f hf => ?_) rfl (h _ ?_)
  · obtain ⟨y, t, rfl⟩ := hi f hf
    exact Looks.of_pure rfl
  · have hb : (Value.type "str" != Value.type "tuple") = true := by first | rfl | decide | simp
    rw [hb]
    intro p q hp hq Q' E' hQ
    rw [pairsOf_toList] at hp hq
    have mp := (mem_zip_self hp).2
    have mq := (mem_zip_self hq).2
    obtain ⟨y, py⟩ := x _ mp
    obtain ⟨z, pz⟩ := x _ mq
    have hQ' : Q' (decide (y.cps.toList < z.cps.toList)) s := by
      have e := hρ _ mp _ mq
      rw [py.tx, pz.tx] at e
      have e2 : Q' (decide (ρ (keyS s.heap p.1) < ρ (keyS s.heap q.1))) s := hQ
      rw [py.tx, pz.tx, ← e] at e2
      exact e2
    obtain ⟨a, t, e1, ⟨o, ho, hc, n, hd⟩⟩ := py
    obtain ⟨a', t', e2, ⟨o', ho', hc', n', hd'⟩⟩ := pz
    rw [e1, e2]
    refine kat_lt ho hd ho' hd' ?_
    show KatLex prog w A true false Q' [(Value.str y t, Value.str z t'), (Value.ref (M y), Value.ref (M z))] 0 s
    by_cases e : y = z
    · subst e
      have irr : decide (y.cps.toList < y.cps.toList) = false := by
        first | exact decide_eq_false (List.lt_irrefl _) | simp
      rw [irr] at hQ'
      refine kat_cons (EqAt.str_str y t y t' prog w _ _ ?_)
      refine kat_go (fun _ => ?_) (fun e0 => by simp at e0)
      refine kat_yes (kat_cons (EqAt.same _ prog w _ _ ?_))
      exact kat_go (fun _ => kat_yes (kat_nil hQ')) (fun e0 => by simp at e0)
    · refine kat_cons (EqAt.str_str y t z t' prog w _ _ ?_)
      refine kat_go (fun e0 => absurd (by simpa using e0) e) (fun _ => ?_)
      refine kat_no ?_
      exact oneLt_str hQ'
end
end Ew
namespace Ew
open PySem PySem.Spec PyProof.Rows L2 PySem.SeqAt L2.DX
section
variable {X : Cx} {pins : List (Addr × Obj)} {σ : L2.St} {H : Hp} {s : Shared}
/-- d.values() of a dict with nested keys -/
def tValuesN (P : Program) (w : World) (to : TE) : TE := fun σ H Q => to σ H fun x H1 => ∃ a xs, x = .ref a ∧ DN P w H1 a xs ∧ ∀ p, H1 p = none → Q (.ref p) (upd H1 p (valsO p a))
theorem pe_valuesN {o : Expr} {to : TE} {apos cpos : Pos} (ho : PE X o to) (hbase : attributeBase o "values" X.env (eval o X.env) = eval o X.env := by rfl) (hline : (apos.endLine == cpos.line) = true := by rfl) :
    PE X (.Call (.Attribute o "values" apos) [] [] cpos) (tValuesN X.prog X.w to) := by
  refine ⟨fun pins s σ H Q I h => ?_⟩
  refine wpAny_Call_method0_late hbase hline (thn (ho.run pins s σ H _ I h) fun v s1 ⟨x, H1, I1, r1, a, xs, ex, d, q⟩ => ?_)
  subst ex
  cases r1
  obtain ⟨z, hs, ys, r, dd⟩ := d.raw I1.hok
  have nd : ∀ b, Value.ref a = .ref b → ∃ ob, s1.heap.get? b = some ob ∧ ob.dict = none := fun b e => by
    cases e
    obtain ⟨ob, _, _, h1, h2, _⟩ := dd
    exact ⟨ob, h1, h2.2.1⟩
  refine ⟨"dict", "dict.values", PySem.F.plainAttrs_dict, PySem.F.slot_dict_values, PySem.F.type_dict_values, dd.typeIs, nd, Calls.callWith_builtin rfl (PySem.evalArgs_none ?_)⟩
  obtain ⟨ob, es, ep, h1, h2, h3, _⟩ := id dd
  refine call_meetsIn PySem.F.slot_dict_values dd.typeIs PySem.F.entry_dict_values (PySem.F.args_dict_values_1 _) (meets_dict_values_raw a hs) ⟨⟨es, ep, ob, h1, h2, h3⟩, ?_⟩
  exact ⟨.ref s1.heap.objs.size, upd H1 s1.heap.objs.size (valsO s1.heap.objs.size a), I1.laid (t' := s1.toks) (fun b u e => Heap.get?_push_of_some _ e) (Nat.le_refl _) (valsO_ok (Heap.get?_push_size _ rfl)), rfl, q _ (I1.hok.fresh (Nat.le_refl _))⟩
theorem paired_ix' {α β : Type} {F : α → β → Prop} : ∀ {xs : List α} {ys : List β} {i : Nat} {x : α} {y : β}, Paired F xs ys → xs[i]? = some x → ys[i]? = some y → F x y
  | _, _, i, x, y, .nil, h, _ => by simp at h
  | _, _, 0, x, y, .cons r _, h, g => by
    simp at h g
    subst h g
    exact r
  | _, _, i + 1, x, y, .cons _ t, h, g => paired_ix' (i := i) t (by simpa using h) (by simpa using g)
def rListVals (P : Program) (w : World) : List V → Hp → VK → Prop := fun xs H Q => ∃ p a es, xs = [.ref p] ∧ H p = some (valsO p a) ∧ DN P w H a es ∧ ∀ q, H q = none → Q (.ref q) (upd H q (.lst (es.map (·.2.2))))
theorem cr_listVals (hc : X.calm = true) : CallR X (.type "list") (rListVals X.prog X.w) := by
  intro pins s σ H xs us Q I r h
  obtain ⟨p, a, es, rfl, hp, d, q⟩ := h
  obtain ⟨u, rfl, rx⟩ := vals1 r
  cases rx
  have view : s.heap.IsValuesView p a := (show ObjOk X.prog X.w H s.heap p (valsO p a) from I.hok p _ hp).1
  obtain ⟨z, hs, ys, rel, ob, ees, ep, h1, h2, h3, h4, _⟩ := d.raw I.hok
  have hn : ees.size = ys.length := size_of_entries h4
  have hl : es.length = ys.length := Paired.length rel
  refine PySem.W.kdl_call (PySem.KdlSrc.rawValues (es := ees) (ep := ep)) (I.ok.hd hc) ⟨view, ob, h1, h2, h3⟩ (by omega) fun h' tk acc' c' hk hS hacc => ?_
  refine ⟨.ref s.heap.objs.size, upd H s.heap.objs.size (.lst (es.map (·.2.2))), I.laid (t' := tk) hk (Nat.le_refl _) (show ObjOk X.prog X.w _ _ _ (.lst (es.map (·.2.2))) from ⟨by rw [List.length_map]; exact z, acc'.toList, c', ?_, by rw [Array.toArray_toList]; exact hS⟩), rfl, q _ (I.hok.fresh (Nat.le_refl _))⟩
  have el : acc'.toList.length = acc'.size := by simp
  refine vals_of_at (by rw [List.length_map, el, hacc.1, hn, hl]) fun j x u e1 e2 => ?_
  obtain ⟨hi, e3⟩ := hacc.2 j u (by rw [← Array.getElem?_toList]; exact e2)
  have e4 := entry_at h4 j
  rw [Array.getElem?_eq_getElem hi] at e4
  rw [List.getElem?_map] at e1
  cases hx : es[j]? with
  | none => rw [hx] at e1; cases e1
  | some x0 =>
    rw [hx] at e1
    cases e1
    cases hy : ys[j]? with
    | none => rw [hy] at e4; cases e4
    | some y0 =>
      rw [hy] at e4
      have e5 : ees[j] = entryOfKey (nestedKind X.prog X.w) y0 := Option.some.inj e4
      rw [e3, e5]
      exact (paired_ix' rel hx hy).2.2
/-- d.items() of a dict with text keys -/
def rItemsK : V → List V → Hp → VK → Prop := fun x xs H Q => ∃ (a : Addr) (kvs : List (L2.Key × V)), x = .ref a ∧ xs = [] ∧ H a = some (.dK kvs) ∧ ∀ p, H p = none → Q (.ref p) (upd H p (itemsO p a))
theorem mt_itemsK : MtR X "dict.items" rItemsK := by
  intro pins s σ H x xs v us Q I rx rxs h
  obtain ⟨a, kvs, rfl, rfl, ha, q⟩ := h
  cases rx
  cases rxs
  obtain ⟨z, hd, vs, rel, o, es, ep, ho, hx, hdat, _⟩ := dk_of I.hok ha
  refine DT.callItems (es := es) (ep := ep) hd ⟨o, ho, hx, hdat⟩ ?_
  exact ⟨.ref s.heap.objs.size, upd H s.heap.objs.size (itemsO s.heap.objs.size a), I.laid (t' := s.toks) (fun b u e => Heap.get?_push_of_some _ e) (Nat.le_refl _) (itemsO_ok (Heap.get?_push_size _ rfl)), rfl, q _ (I.hok.fresh (Nat.le_refl _))⟩
/-- the entries of a map: names, and where their terms stand -/
abbrev entK (e : Str × Addr) : L2.Key × V := (Sum.inr e.1, V.ref e.2)
def rSortK : List V → Hp → VK → Prop := fun vs H Q => ∃ (p a : Addr) (ks : List (Str × Addr)) (ρ : Str → Int), vs = [.ref p] ∧ H p = some (itemsO p a) ∧ H a = some (.dK (ks.map entK)) ∧ ks.length < 64 ∧ (ks.map (·.1)).Nodup ∧
  (∀ e ∈ ks, ∀ f ∈ ks, decide (e.1.cps.toList < f.1.cps.toList) = decide (ρ e.1 < ρ f.1)) ∧
  ∀ (H' : Hp) (l : Addr) (ps : List (Addr × Str × Addr)), Ex H H' → H l = none → (ps.map (·.2)).Perm ks → H' l = some (.lst (ps.map fun z => V.ref z.1)) → (∀ z ∈ ps, H' z.1 = some (.tup [.str z.2.1, .ref z.2.2])) → Q (.ref l) H'
theorem fst_inj {ks : List (Str × Addr)} (nd : (ks.map (·.1)).Nodup) {e f : Str × Addr} (he : e ∈ ks) (hf : f ∈ ks) (h : e.1 = f.1) : e = f := by
  induction ks with
  | nil => simp at he
  | cons x ks ih =>
    rw [List.map_cons, List.nodup_cons] at nd
    rcases List.mem_cons.mp he with e1 | he2
    · rcases List.mem_cons.mp hf with f1 | hf2
      · rw [e1, f1]
      · exact absurd (List.mem_map.mpr ⟨f, hf2, by rw [← h, e1]⟩) nd.1
    · rcases List.mem_cons.mp hf with f1 | hf2
      · exact absurd (List.mem_map.mpr ⟨e, he2, by rw [h, f1]⟩) nd.1
      · exact ih nd.2 he2 hf2
open Classical in
theorem cr_sortK (hc : X.calm = true) : CallR X (.builtin "sorted") rSortK := by
  intro pins s σ H xs us Q I r h
  obtain ⟨p, a, ks, ρ, rfl, hp, ha, h64, nk, hρ, q⟩ := h
  obtain ⟨u0, rfl, rx0⟩ := vals1 r
  cases rx0
  have view : s.heap.IsItemsView p a := (show ObjOk X.prog X.w H s.heap p (itemsO p a) from I.hok p _ hp).1
  obtain ⟨z, hd, vs', rel, dd⟩ := dk_of I.hok ha
  obtain ⟨es, ep, ⟨o, ho, hx, hdat⟩, l2, hes⟩ := Heap.DictOf.raw dd
  have l1 : (ks.map entK).length = vs'.length := Paired.length rel
  rw [List.length_map] at l1
  have hh : X.A.handled = none := I.ok.hd hc
  refine DT.sortedI (es := es) (ep := ep) hh view ⟨o, ho, hx, hdat⟩ (by rw [sizeLine_eq]; omega) fun h' tk as hk hlt hl hG => ?_
  have lak : as.length = ks.length := by omega
  have nd : as.Nodup := List.Pairwise.imp (fun h => Nat.ne_of_lt h) hG.rise
  have pr : ∀ (j : Nat) (b : Addr), as[j]? = some b → ∃ (e : Str × Addr) (t : Tok), ks[j]? = some e ∧ h'.get? b = some { cls := .type "tuple", data := .seq #[Value.str e.1 t, Value.ref e.2] } := by
    intro j b hj
    obtain ⟨en, he, hg⟩ := hG.pairs j b hj
    obtain ⟨hi, een⟩ := Array.getElem?_eq_some_iff.mp he
    have hjk : j < ks.length := by omega
    have hjv : j < vs'.length := by omega
    have e1 : vs'[j]? = some vs'[j] := List.getElem?_eq_getElem hjv
    have e2 : (ks.map entK)[j]? = some (entK ks[j]) := by rw [List.getElem?_map, List.getElem?_eq_getElem hjk] <;> rfl
    obtain ⟨r1, r2⟩ := paired_ix' rel e2 e1
    obtain ⟨k1, k2⟩ := hes j hi vs'[j].1 vs'[j].2 e1
    rw [← r1] at k1
    obtain ⟨t, k3⟩ := Value.isStrOf_shape (x := ks[j].1) (v := es[j].key) (show keyIs (Sum.inr ks[j].1) es[j].key = true from k1)
    have r2' : vs'[j].2 = Value.ref ks[j].2 := r2
    refine ⟨ks[j], t, List.getElem?_eq_getElem hjk, ?_⟩
    rw [hg, ← een, k3, k2, r2']
  have hob : (h'.push { cls := .type "list", data := .seq (as.map Value.ref).toArray }).get? h'.objs.size = some (seqObj "list" (as.map Value.ref).toArray 0) := Heap.get?_push_size _ rfl
  have kb : ∀ b o, s.heap.get? b = some o → (h'.push { cls := .type "list", data := .seq (as.map Value.ref).toArray }).get? b = some o := fun b o e => Heap.get?_push_of_some _ (hk b o e)
  have ne0 : ∀ b o, h'.get? b = some o → b ≠ h'.objs.size := fun b o e => Nat.ne_of_lt (Heap.lt_size e)
  have ka : ∀ b o, h'.get? b = some o → (h'.push { cls := .type "list", data := .seq (as.map Value.ref).toArray }).get? b = some o := fun b o e => Heap.get?_push_of_some _ e
  generalize hh2 : h'.push { cls := .type "list", data := .seq (as.map Value.ref).toArray } = h2 at hob kb ka ⊢
  -- the map from names to addresses
  let M : Str → Addr := fun y => if g : ∃ e ∈ ks, e.1 = y then (Classical.choose g).2 else 0
  have hM : ∀ e ∈ ks, M e.1 = e.2 := fun e he => by
    have g : ∃ f ∈ ks, f.1 = e.1 := ⟨e, he, rfl⟩
    show (if g : ∃ f ∈ ks, f.1 = e.1 then (Classical.choose g).2 else 0) = e.2
    rw [dif_pos g]
    have c := Classical.choose_spec g
    rw [fst_inj nk c.1 he c.2]
  have pin : ∀ (j : Nat) (b : Addr), as[j]? = some b → ∃ e : Str × Addr, ks[j]? = some e ∧ PairS (TS.midHeap h2 h'.objs.size (as.map Value.ref)) (.ref b) e.1 (M e.1) := by
    intro j b hj
    obtain ⟨e, t, he, hg⟩ := pr j b hj
    refine ⟨e, he, b, t, rfl, ?_⟩
    rw [hM e (List.mem_of_getElem? he)]
    exact ⟨_, TS.midHeap_old (ne0 _ _ hg) (ka _ _ hg), rfl, 0, rfl⟩
  have tx : ∀ (j : Nat) (b : Addr) (e : Str × Addr), as[j]? = some b → ks[j]? = some e → keyS (TS.midHeap h2 h'.objs.size (as.map Value.ref)) (.ref b) = e.1 := by
    intro j b e hj he
    obtain ⟨e', he', hp'⟩ := pin j b hj
    have ee : e' = e := Option.some.inj (he'.symm.trans he)
    rw [← ee]
    exact hp'.tx
  have at_ : ∀ v ∈ as.map Value.ref, ∃ (j : Nat) (b : Addr) (e : Str × Addr), v = .ref b ∧ as[j]? = some b ∧ ks[j]? = some e := by
    intro v hv'
    obtain ⟨b, hb, rfl⟩ := List.mem_map.mp hv'
    obtain ⟨j, hj⟩ := List.mem_iff_getElem?.mp hb
    obtain ⟨e, _, he, _⟩ := pr j b hj
    exact ⟨j, b, e, rfl, hj, he⟩
  refine wpAny_call_entry PyProof.Rows.slot_list_sort ⟨_, hob, rfl⟩ PyProof.Rows.entry_list_sort
    (SK.plain_sort (s := { s with heap := h2, toks := tk }) (r := fun v => ρ (keyS (TS.midHeap h2 h'.objs.size (as.map Value.ref)) v)) hob (by rw [List.length_map]; omega) (fun h2' Qk hQk => ?_) fun ps out o1 o2 o3 => ⟨.none, rfl, ?_⟩) (PyProof.Rows.args_list_sort _)
  · refine kind_ps (s := { s with heap := TS.midHeap h2 h'.objs.size (as.map Value.ref), toks := tk }) (ρ := ρ) (M := M) h2' (fun v hv' => ?_) (fun v hv' u hu' => ?_) Qk hQk
    · obtain ⟨j, b, e, rfl, hj, he⟩ := at_ v hv'
      obtain ⟨e', _, hp'⟩ := pin j b hj
      exact ⟨e'.1, hp'⟩
    · obtain ⟨j, b, e, rfl, hj, he⟩ := at_ v hv'
      obtain ⟨j2, b2, e2, rfl, hj2, he2⟩ := at_ u hu'
      show decide ((keyS (TS.midHeap h2 h'.objs.size (as.map Value.ref)) (.ref b)).cps.toList < (keyS (TS.midHeap h2 h'.objs.size (as.map Value.ref)) (.ref b2)).cps.toList) = decide (ρ (keyS (TS.midHeap h2 h'.objs.size (as.map Value.ref)) (.ref b)) < ρ (keyS (TS.midHeap h2 h'.objs.size (as.map Value.ref)) (.ref b2)))
      rw [tx j b e hj he, tx j2 b2 e2 hj2 he2]
      exact hρ e (List.mem_of_getElem? he) e2 (List.mem_of_getElem? he2)
  · show EP X pins σ Q (.ref h'.objs.size) { s with heap := sortedHeap h2 h'.objs.size (as.map Value.ref) out, toks := tk }
    obtain ⟨zs, pz, ez⟩ := perm_lift (fun z : Addr × Str × Addr => (Value.ref z.1, Value.ref z.1)) o2 (as.zip ks) (zip_self Value.ref as ks lak)
    have idx : ∀ z ∈ zs, ∃ j : Nat, as[j]? = some z.1 ∧ ks[j]? = some z.2 := by
      intro z' hz'
      obtain ⟨j, hj⟩ := List.mem_iff_getElem?.mp (pz.mem_iff.mp hz')
      exact ⟨j, List.getElem?_zip_eq_some.mp hj⟩
    have hout : out.toList = zs.map fun z => Value.ref z.1 := by
      rw [o1, ← ez, List.map_map]
      all_goals rfl
    have hperm : (zs.map (·.2)).Perm ks := by
      have e := pz.map (·.2)
      have m2 : (as.zip ks).map (·.2) = ks := List.map_snd_zip (by rw [lak]; exact Nat.le_refl _)
      rw [m2] at e
      exact e
    have kF : ∀ b o, b ≠ h'.objs.size → h2.get? b = some o → (sortedHeap h2 h'.objs.size (as.map Value.ref) out).get? b = some o := fun b o hb e => (PyProof.Rows.sortedHeap_old hb (Heap.lt_size e)).trans e
    have kS : ∀ b o, s.heap.get? b = some o → (sortedHeap h2 h'.objs.size (as.map Value.ref) out).get? b = some o := fun b o e => kF b o (ne0 _ _ (hk b o e)) (kb b o e)
    obtain ⟨eF, heF⟩ := PyProof.Rows.sortedHeap_at (vs := as.map Value.ref) (out := out) hob
    have I1 : Inv X pins σ H { s with heap := sortedHeap h2 h'.objs.size (as.map Value.ref) out, toks := tk } := I.kept (t' := tk) kS
    have hn0 : H h'.objs.size = none := I.hok.fresh (Nat.le_of_lt hlt)
    have hlen : (zs.map fun z => V.ref z.1).length ≤ sizeLine := by
      have e := hperm.length_eq
      rw [List.length_map] at e
      rw [List.length_map, sizeLine_eq]
      omega
    have rv : Vals (zs.map fun z => V.ref z.1) out.toList := by
      rw [hout]
      exact vals_maps (fun z : Addr × Str × Addr => V.ref z.1) (fun z => Value.ref z.1) zs fun _ _ => rfl
    have I2 : Inv X pins σ (upd H h'.objs.size (.lst (zs.map fun z => V.ref z.1))) { s with heap := sortedHeap h2 h'.objs.size (as.map Value.ref) out, toks := tk } :=
      I1.take (h' := sortedHeap h2 h'.objs.size (as.map Value.ref) out) (t' := tk) (fun b ob _ e => e) (I.fpOk (Nat.le_of_lt hlt) hn0) ⟨hlen, out.toList, eF, rv, heF⟩
    obtain ⟨H2, I3, g, qt⟩ := takeT (P := fun b vs => ∃ (j : Nat) (e : Str × Addr), as[j]? = some b ∧ ks[j]? = some e ∧ vs = [.str e.1, .ref e.2]) I as _ I2 nd fun b hb => by
      obtain ⟨j, hj⟩ := List.mem_iff_getElem?.mp hb
      obtain ⟨e, t, he, hg⟩ := pr j b hj
      have hbl : s.heap.objs.size ≤ b := Nat.le_of_lt (hG.above b hb)
      refine ⟨hbl, ?_, [.str e.1, .ref e.2], ⟨j, e, hj, he, rfl⟩, fun H3 => ⟨(by rw [sizeLine_eq]; show 2 ≤ 16777216; omega), [Value.str e.1 t, Value.ref e.2], .cons ⟨t, rfl⟩ (.cons rfl .nil), ⟨_, kF _ _ (ne0 _ _ hg) (ka _ _ hg), rfl, 0, rfl⟩⟩⟩
      rw [upd_ne (ne0 _ _ hg)]
      exact I.hok.fresh hbl
    have gr : ∀ b o, H b = some o → H2 b = some o := fun b o e => g b o (by rw [upd_ne (ne_of_none e hn0)]; exact e)
    refine ⟨.ref h'.objs.size, H2, I3, rfl, q H2 h'.objs.size zs gr hn0 hperm (g _ _ upd_same) fun z' hz' => ?_⟩
    obtain ⟨i, i1, i2⟩ := idx z' hz'
    obtain ⟨vs, ⟨j, e, j1, j2, ev⟩, hH⟩ := qt z'.1 (List.mem_of_getElem? i1)
    have eij : i = j := (List.getElem?_inj (List.getElem?_eq_some_iff.mp i1).1 nd).mp (i1.trans j1.symm)
    subst eij
    have ee : e = z'.2 := Option.some.inj (j2.symm.trans i2)
    rw [ev, ee] at hH
    exact hH
end
end Ew
set_option Elab.async false
set_option linter.all false
set_option maxRecDepth 100000
set_option maxHeartbeats 2000000
/-! repr, sorted of a tuple of ints, sorted of tuples of ints, dict of pairs with rows as keys -/
namespace Ew
open PySem PySem.W PySem.Calls PyProof.Rows
section
variable {prog : Program} {w : World} {A : Around} {E : Value → Shared → Prop} {s : Shared}
theorem collect_tup {l : Addr} {vs : List Value} {Q : List Value → Shared → Prop} (hl : s.heap.IsTuple l vs.toArray)
    (hq : Q vs { s with heap := (s.heap.push (seqObj "list" #[] 0)).update s.heap.objs.size (Obj.mapSeq (· ++ vs.toArray)) }) (hsz : vs.length ≤ sizeLine) :
    wpAny (model prog w) A (collect (.ref l)) Q E s := by
  obtain ⟨o, ho, hc, n, hd⟩ := id hl
  unfold collect
  refine wpAny_bind (wpAny_runValue (codeAny_builtin entry_proto_collect' ?_))
  show wpAny _ _ (do again (.builtin "list.__iadd__" ⟨[← newList [], .ref l], []⟩)) _ _ s
  refine wpAny_bind (wpAny_newList (wpAny_pure ⟨Code.quiet_builtin _ (by decide +kernel), codeAny_builtin entry_list_iadd' ?_⟩))
  show wpAny _ _ (Builtin.List.listExtendWith (.ref s.heap.objs.size) (.ref l) (.ref s.heap.objs.size)) _ _ { s with heap := s.heap.push (seqObj "list" #[] 0) }
  unfold Builtin.List.listExtendWith
  have hot : (s.heap.push (seqObj "list" #[] 0)).get? l = some o := Heap.get?_push_of_some _ ho
  refine wpAny_bind (wpAny_typeOf (T := "tuple") ⟨o, hot, hc⟩ ?_)
  have ht : (Value.type "tuple" == Value.type "tuple") = true := by rfl
  rw [if_pos (by rw [ht]; simp)]
  refine wpAny_bind (listItems_at hot hd ?_)
  refine wpAny_bind (listItems_at (xs := #[]) (n := 0) (Heap.get?_push_size _ rfl) rfl ?_)
  rw [if_neg (by simp)]
  refine wpAny_bind (listUpdate_at (xs := #[]) (n := 0) (Heap.get?_push_size _ rfl) rfl ?_ (Nat.zero_le _) (by show (#[] ++ vs.toArray).size ≤ sizeLine + 1; simp only [Array.size_append, List.size_toArray, List.length_nil]; omega))
  refine wpAny_pure ?_
  show wpAny (model prog w) A (do
      let o ← load s.heap.objs.size
      match o.data with
      | .seq xs _ => pure xs.toList
      | _ => unsupported "internal:collect") Q E { s with heap := (s.heap.push (seqObj "list" #[] 0)).update s.heap.objs.size (Obj.mapSeq (· ++ vs.toArray)) }
  refine wpAny_bind (wpAny_load (get?_update_seq (Heap.get?_push_size _ rfl) _) ?_)
  show wpAny _ _ (pure ((#[] : Array Value) ++ vs.toArray).toList) Q E _
  have ee : ((#[] : Array Value) ++ vs.toArray).toList = vs := by simp
  rw [ee]
  exact wpAny_pure hq
theorem sorted_tupInts {l : Addr} {vs : List Value} {ns : List Int} {Q : Value → Shared → Prop} (hl : s.heap.IsTuple l vs.toArray) (hI : IntsAre vs ns) (h64 : vs.length < 64)
    (hq : ∀ (out : Array Value) (ns' : List Int), IntsAre out.toList ns' → ns'.Perm ns → Q (.ref (s.heap.objs.size + 1)) { s with heap := sortedAll s.heap vs out }) :
    wpAny (model prog w) A (call (.builtin "sorted") [.ref l]) Q E s := by
  have hz : vs.length ≤ sizeLine := by rw [sizeLine_eq]; omega
  refine Calls.call_function_entry kind_sorted plain_sorted entry_sorted (args_sorted1 _) ?_
  unfold Builtin.«sorted»
  refine wpAny_bind (m := checkCount "sorted" 1 1 _) (wpAny_pure ?_)
  refine wpAny_bind (collect_tup hl ?_ hz)
  refine wpAny_bind (wpAny_newList ?_ hz)
  have hsz : ((s.heap.push (seqObj "list" #[] 0)).update s.heap.objs.size (Obj.mapSeq (· ++ vs.toArray))).objs.size = s.heap.objs.size + 1 := by
    rw [Heap.size_update, size_push']
  have hoL : (((s.heap.push (seqObj "list" #[] 0)).update s.heap.objs.size (Obj.mapSeq (· ++ vs.toArray))).push (seqObj "list" vs.toArray 0)).get? (s.heap.objs.size + 1) = some (seqObj "list" vs.toArray 0) := by
    rw [← hsz]; exact Heap.get?_push_size _ rfl
  show wpAny _ _ _ _ _ { s with heap := ((s.heap.push (seqObj "list" #[] 0)).update s.heap.objs.size (Obj.mapSeq (· ++ vs.toArray))).push (seqObj "list" vs.toArray 0) }
  rw [hsz]
  refine wpAny_bind (wpAny_holding (wpAny_call_entry slot_list_sort ⟨_, hoL, rfl⟩ entry_list_sort (list_sort_tree hoL hI h64 fun out ns' a1 a2 _ => ⟨_, rfl, ?_⟩) (args_list_sort _)))
  exact wpAny_pure ⟨_, rfl, hq out ns' a1 a2⟩
end
end Ew
namespace Ew
open PySem PySem.Spec PyProof.Rows L2 PySem.SeqAt
/-- repr of a value -/
def rpr : L2.Key → Str
  | .inl i => toString i
  | .inr x => reprText x
section
variable {X : Cx} {pins : List (Addr × Obj)} {σ : L2.St} {H : Hp} {s : Shared}
theorem cr_repr : CallR X (.builtin "repr") (fun xs H Q => ∃ k : L2.Key, xs = [kV k] ∧ (∀ i, k = Sum.inl i → i.natAbs.log2 < 1920) ∧ (rpr k).length ≤ sizeLine ∧ Q (.str (rpr k)) H) := by
  intro pins s σ H xs us Q I r h
  obtain ⟨k, rfl, h1, h2, q⟩ := h
  obtain ⟨u, rfl, rx⟩ := vals1 r
  cases k with
  | inl i =>
    obtain ⟨t, rfl⟩ := rx
    exact P.repr_of_int (h1 i rfl) ⟨.str (toString i), H, I.tok _, ⟨_, rfl⟩, q⟩
  | inr x =>
    obtain ⟨t, rfl⟩ := rx
    exact P.repr_of_str ⟨.str (reprText x), H, I.tok _, ⟨_, rfl⟩, q⟩ h2
/-- sorted of a tuple of ints -/
def rSortT (K : PySem.W.Frag) : List V → Hp → VK → Prop := fun vs H Q => ∃ (a : Addr) (ns : List Int), vs = [V.ref a] ∧ SqT K H a (ns.map V.int) ∧ ns.length < 64 ∧ ∀ (ns' : List Int) (p : Addr), ns'.Perm ns → H p = none → Q (.ref p) (upd H p (.lst (ns'.map V.int)))
theorem cr_sortTi : CallR X (.builtin "sorted") (rSortT X.K) := by
  intro pins s σ H vs us Q I r h
  obtain ⟨a, ns, rfl, hs, h64, q⟩ := h
  obtain ⟨its, rv, hl, hz⟩ := I.tuple hs
  rw [Vals.ref1 r]
  have hi := rv.ints
  have hle : its.length = ns.length := by rw [← rv.length, List.length_map]
  refine sorted_tupInts (show s.heap.IsTuple a its.toArray from hl) hi (by omega) fun out ns' k1 k2 => ?_
  obtain ⟨ep, he'⟩ := PyProof.Rows.sortedAll_at s.heap its out
  have hlen : (ns'.map V.int).length ≤ sizeLine := by
    rw [List.length_map, k2.length_eq, sizeLine_eq]
    omega
  exact ⟨.ref _, upd H (s.heap.objs.size + 1) (.lst (ns'.map V.int)), I.laid (t' := s.toks) (fun _ _ => PyProof.Rows.sortedAll_old) (Nat.le_succ _) ⟨hlen, out.toList, ep, vals_of_ints k1, by simpa using he'⟩, rfl, q _ _ k2 (I.hok.fresh (Nat.le_succ _))⟩
theorem tupItems_ints : ∀ {us : List Value} {ns : List Int} (i : Nat), IntsAre us ns → ∃ l, tupItems (fun _ => false) i us = some l
  | _, _, _, .nil => ⟨[], rfl⟩
  | _, _, i, .cons n t r => by
    obtain ⟨l, e⟩ := tupItems_ints (i + 1) r
    refine ⟨Sum.inl n :: l, ?_⟩
    show (if false = true then none else (tupItems (fun _ => false) (i + 1) _).map (Sum.inl n :: ·)) = _
    rw [if_neg Bool.false_ne_true, e]
    rfl
/-- sorted of a list of tuples of ints, none of them empty -/
def rSortTs (K : PySem.W.Frag) : List V → Hp → VK → Prop := fun vs H Q => ∃ (a : Addr) (ts : List Addr), vs = [V.ref a] ∧ SqL K H a (ts.map V.ref) ∧ (∀ t ∈ ts, ∃ ns : List Int, ns ≠ [] ∧ H t = some (.tup (ns.map V.int))) ∧
  ∀ (ys : List V) (p : Addr), H p = none → Q (.ref p) (upd H p (.lst ys))
theorem tups_of (ok : HOk X.prog X.w H s.heap) : ∀ (ts : List Addr), (∀ t ∈ ts, ∃ ns : List Int, ns ≠ [] ∧ H t = some (.tup (ns.map V.int))) → (∃ fs, TupsOf s.heap (fun _ => false) (ts.map Value.ref) fs) ∧ ∀ v ∈ ts.map Value.ref, ∃ l, G.tupKeyC s.heap (fun _ => false) v = some l
  | [], _ => ⟨⟨[], .nil⟩, fun v h => by simp at h⟩
  | t :: ts, h => by
    obtain ⟨⟨fs, k⟩, kk⟩ := tups_of ok ts fun t h' => h t (List.mem_cons_of_mem _ h')
    obtain ⟨ns, hne, ht⟩ := h t List.mem_cons_self
    obtain ⟨_, its, rv, o, ho, hc, n, hd⟩ := (show ObjOk X.prog X.w H s.heap t (.tup (ns.map V.int)) from ok t _ ht)
    have hi := rv.ints
    obtain ⟨f, its', rfl⟩ : ∃ f its', its = f :: its' := by
      cases its with
      | nil =>
        have := rv.length
        simp at this
        exact absurd this hne
      | cons f r => exact ⟨f, r, rfl⟩
    have hf : ∃ k t, f = Value.int k t := by
      cases hi with
      | cons n t r => exact ⟨n, t, rfl⟩
    refine ⟨⟨f :: fs, .cons ⟨t, o, _, n, rfl, ho, hc, hd, rfl, fun _ => hf, fun z => by simp at z⟩ k⟩, fun v hv => ?_⟩
    rcases List.mem_cons.mp hv with rfl | hv
    · obtain ⟨l, e⟩ := tupItems_ints 0 hi
      refine ⟨l, ?_⟩
      unfold G.tupKeyC
      have h1 : G.isTupObj s.heap (.ref t) = true := by
        unfold G.isTupObj
        simp only [ho, hc]
        rfl
      rw [if_pos h1]
      unfold tupKey
      simp only [ho, hd]
      exact e
    · exact kk v hv
theorem refs_eq : ∀ {ts : List Addr} {us : List Value}, Vals (ts.map V.ref) us → us = ts.map Value.ref
  | [], _, r => by cases r; rfl
  | t :: ts, _, r => by
    cases r with
    | cons r1 r2 => cases r1; rw [refs_eq r2]; rfl
theorem rel_refs : ∀ {vs : List Value}, (∀ v ∈ vs, ∃ a, v = Value.ref a) → ∃ ys : List V, Vals ys vs
  | [], _ => ⟨[], .nil⟩
  | v :: vs, h => by
    obtain ⟨ys, r⟩ := rel_refs fun u hu => h u (List.mem_cons_of_mem _ hu)
    obtain ⟨a, rfl⟩ := h v List.mem_cons_self
    exact ⟨.ref a :: ys, .cons rfl r⟩
theorem cr_sortTs : CallR X (.builtin "sorted") (rSortTs X.K) := by
  intro pins s σ H vs us Q I r h
  obtain ⟨a, ts, rfl, hs, ht, q⟩ := h
  obtain ⟨its, rv, hl, hz⟩ := I.list hs
  rw [Vals.ref1 r]
  have e := refs_eq rv
  subst e
  obtain ⟨⟨fs, k⟩, kk⟩ := tups_of I.hok ts ht
  have hz' : (ts.map Value.ref).length ≤ sizeLine := by
    rw [List.length_map] at hz ⊢
    exact hz
  refine G.sorted_tups hl.isList k kk hz' fun st' hp _ _ => ?_
  obtain ⟨ep, he'⟩ := PyProof.Rows.sortedAll_at s.heap (ts.map Value.ref) ((arrOf st').map (·.2))
  have hperm : ((arrOf st').map (·.2)).toList.Perm (ts.map Value.ref) := by
    have e1 : (arrOf st').toList.Perm (pairsOf (ts.map Value.ref)).toList := Array.perm_iff_toList_perm.mp hp
    have e2 := e1.map (·.2)
    rw [pairsOf_toList] at e2
    rw [Array.toList_map]
    refine e2.trans ?_
    have e3 : ((ts.map Value.ref).zip (ts.map Value.ref)).map (·.2) = ts.map Value.ref := List.map_snd_zip (Nat.le_refl _)
    rw [e3]
  obtain ⟨ys, ry⟩ := rel_refs (vs := ((arrOf st').map (·.2)).toList) fun v hv => by
    obtain ⟨b, _, e⟩ := List.mem_map.mp (hperm.mem_iff.mp hv)
    exact ⟨b, e.symm⟩
  have hlen : ys.length ≤ sizeLine := by
    rw [ry.length, hperm.length_eq]
    exact hz'
  exact ⟨.ref _, upd H (s.heap.objs.size + 1) (.lst ys), I.laid (t' := s.toks) (fun _ _ => PyProof.Rows.sortedAll_old) (Nat.le_succ _) ⟨hlen, ((arrOf st').map (·.2)).toList, ep, ry, by rw [Array.toArray_toList]; exact he'⟩, rfl, q _ _ (I.hok.fresh (Nat.le_succ _))⟩
/-- dict of a list of pairs (row, value), no row twice: e = (pair's address, row, row's address, value) -/
abbrev ER : Type := Addr × List L2.Key × Addr × V
def rDictT (K : PySem.W.Frag) : List V → Hp → VK → Prop := fun xs H Q => ∃ (a : Addr) (es : List ER), xs = [.ref a] ∧ H a = some (.lst (es.map fun e => V.ref e.1)) ∧
  (∀ e ∈ es, H e.1 = some (.tup [.ref e.2.2.1, e.2.2.2]) ∧ H e.2.2.1 = some (.tup (e.2.1.map kV))) ∧ (es.map (·.2.1)).Nodup ∧ ∀ p, H p = none → Q (.ref p) (upd H p (.dT (es.map fun e => (e.2.1, e.2.2.2))))
theorem pairsT {P : Program} {w : World} {h : Heap} (ok : HOk P w H h) : ∀ (es : List ER), (∀ e ∈ es, H e.1 = some (.tup [.ref e.2.2.1, e.2.2.2]) ∧ H e.2.2.1 = some (.tup (e.2.1.map kV))) →
    ∃ ps : List (List L2.Key × Addr × Value), Paired (fun (e : ER) (p : List L2.Key × Addr × Value) => p.1 = e.2.1 ∧ p.2.1 = e.2.2.1 ∧ RelV e.2.2.2 p.2.2 ∧ h.IsTuple e.1 #[.ref p.2.1, p.2.2]) es ps
  | [], _ => ⟨[], .nil⟩
  | e :: es, q => by
    obtain ⟨ps, r⟩ := pairsT ok es fun e' h' => q e' (List.mem_cons_of_mem _ h')
    obtain ⟨h1, h2⟩ := q e List.mem_cons_self
    obtain ⟨_, its, rv, hp⟩ := (show ObjOk P w H h e.1 (.tup [.ref e.2.2.1, e.2.2.2]) from ok _ _ h1)
    cases rv with
    | cons r1 r2 =>
      cases r2 with
      | cons r3 r4 =>
        cases r4
        cases r1
        exact ⟨(e.2.1, e.2.2.1, _) :: ps, .cons ⟨rfl, rfl, r3, hp⟩ r⟩
abbrev PR (h : Heap) : ER → List L2.Key × Addr × Value → Prop := fun e p => p.1 = e.2.1 ∧ p.2.1 = e.2.2.1 ∧ RelV e.2.2.2 p.2.2 ∧ h.IsTuple e.1 #[.ref p.2.1, p.2.2]
theorem keysT {h : Heap} : ∀ {es : List ER} {ps : List (List L2.Key × Addr × Value)}, Paired (PR h) es ps → ps.map (·.1) = es.map (·.2.1)
  | _, _, .nil => rfl
  | _, _, .cons r t => by rw [List.map_cons, List.map_cons, keysT t, r.1]
theorem laidT {h : Heap} {H : Hp} : ∀ {es : List ER} {ps : List (List L2.Key × Addr × Value)}, Paired (PR h) es ps → (∀ e ∈ es, H e.2.2.1 = some (.tup (e.2.1.map kV))) →
    Paired (fun (p : List L2.Key × V) (q : List L2.Key × Addr × Value) => p.1 = q.1 ∧ H q.2.1 = some (.tup (p.1.map kV)) ∧ RelV p.2 q.2.2) (es.map fun e => (e.2.1, e.2.2.2)) ps
  | _, _, .nil, _ => .nil
  | _, _, .cons r t, k => .cons ⟨r.1.symm, by rw [r.2.1]; exact k _ List.mem_cons_self, r.2.2.1⟩ (laidT t fun e he => k e (List.mem_cons_of_mem _ he))
theorem cr_dictT (hc : X.calm = true) (hu : X.A.units + 64 < cLine) : CallR X (.type "dict") (rDictT X.K) := by
  intro pins s σ H xs us Q I r h
  obtain ⟨a, es, rfl, ha, hk, nd, q⟩ := h
  rw [Vals.ref1 r]
  obtain ⟨hz, its, n, rv, ho⟩ := (show ObjOk X.prog X.w H s.heap a (.lst (es.map fun e => V.ref e.1)) from I.hok a _ ha)
  obtain ⟨ps, rel⟩ := pairsT I.hok es hk
  have hlp : ps.length = es.length := (Paired.length rel).symm
  have ei : its = es.map fun e => Value.ref e.1 := by
    have z := refs_eq (ts := es.map (·.1)) (us := its) (by rw [List.map_map]; exact rv)
    rw [z, List.map_map]
    rfl
  have e1 : ps.map (·.1) = es.map (·.2.1) := keysT rel
  have ndp : (ps.map (·.1)).Nodup := by rw [e1]; exact nd
  rw [List.length_map] at hz
  refine call_dict_pairsH (knd := tupleKind (mixKind X.prog X.w)) (ps := ps) (PairArg.list a its.toArray (fun j => (es.map (·.1)).getD j 0) (ps.map fun p => (Value.ref p.2.1, p.2.2))) (I.ok.hd hc) (by show X.A.in1.in1.units < cLine; rw [Around.in1_units, Around.in1_units]; omega) ⟨⟨_, n, ho, rfl, rfl, rfl⟩, by simp [ei, hlp], fun j k v hj => ?_⟩ ⟨by simp, fun i key v hr => ?_⟩ (fun h' hk' x hx => ?_) (by simp; omega) fun h' tk hd' hkp => ?_
  · rw [List.getElem?_map] at hj
    cases hpj : ps[j]? with
    | none => rw [hpj] at hj; cases hj
    | some p =>
      rw [hpj] at hj
      cases hj
      have hje : j < es.length := by
        have := (List.getElem?_eq_some_iff.mp hpj).1
        omega
      obtain ⟨g1, g2, g3, g4⟩ := paired_ix' rel (List.getElem?_eq_getElem hje) hpj
      have eT : (es.map (·.1)).getD j 0 = es[j].1 := by
        rw [List.getD_eq_getElem?_getD, List.getElem?_map, List.getElem?_eq_getElem hje] <;> rfl
      refine ⟨?_, ?_⟩
      · show its.toArray[j]? = some (Value.ref ((es.map (·.1)).getD j 0))
        rw [ei, eT]
        simp [List.getElem?_map, List.getElem?_eq_getElem hje]
      · show PairAt s.heap ((es.map (·.1)).getD j 0) (Value.ref p.2.1) p.2.2
        rw [eT]
        exact .inl g4
  · have hr' : (ps.map fun p => (Value.ref p.2.1, p.2.2))[i]? = some (key, v) := hr
    rw [List.getElem?_map] at hr'
    cases hpj : ps[i]? with
    | none => rw [hpj] at hr'; cases hr'
    | some p =>
      rw [hpj] at hr'
      cases hr'
      exact ⟨p.1, p.2.1, rfl, rfl⟩
  · obtain ⟨e, he, g1, g2, g3, g4⟩ := paired_mem rel x hx
    have key := key_of I.hok (hk e he).2
    rw [g1, g2]
    obtain ⟨o, items, m, ho2, hc2, hd2, hi2⟩ := key
    exact ⟨o, items, m, hk' _ _ (Nat.ne_of_lt (Heap.lt_size ho2)) (fun z => by simp at z) ho2, hc2, hd2, hi2⟩
  · rw [storedAllH_nil_of_nodup ps ndp] at hd'
    have hm : (s.heap.objs.size == sysModules) = false := beq_eq_false_iff_ne.mpr (Nat.ne_of_gt I.big)
    obtain ⟨o, ess, ep, d1, d2, d3, d4, _, d5⟩ := hd'
    have hkeep : ∀ b o, s.heap.get? b = some o → h'.get? b = some o := fun b o e => hkp b o (fun z => by simp at z) e
    refine ⟨.ref s.heap.objs.size, upd H s.heap.objs.size (.dT (es.map fun e => (e.2.1, e.2.2.2))), I.laid (t' := tk) hkeep (Nat.le_refl _) (show ObjOk X.prog X.w _ _ _ (.dT (es.map fun e => (e.2.1, e.2.2.2))) from ⟨by rw [List.length_map]; exact hz, hm, ps, ?_, o, ess, ep, d1, d2, d3, d4, d5⟩), rfl, q _ (I.hok.fresh (Nat.le_refl _))⟩
    have fresh := I.hok.fresh (Nat.le_refl s.heap.objs.size)
    refine laidT rel fun e he => ?_
    have z := (hk e he).2
    rw [upd_ne (ne_of_none z fresh)]
    exact z
end
end Ew
set_option Elab.async false
set_option linter.all false
set_option maxRecDepth 100000
/-! what the top has left, by names; a def's promise from its body -/
namespace Ew
open PySem PySem.Spec PyProof.Rows L2
def Fn1 (K : PySem.W.Frag) (mg : Str → Option Value) (x : Str) (st : Stmt) : Prop := ∃ f fd, FunD K x x (defArgs st) (defBody st) (defScope st) [] [] f fd ∧ mg x = some (.ref f)
def Me1 (K : PySem.W.Frag) (C : Addr) (m q : Str) (st : Stmt) : Prop := ∃ f fd, FunD K m q (defArgs st) (defBody st) (defScope st) [] [] f fd ∧ Meth K C m f
def Mi1 (K : PySem.W.Frag) (C : Addr) (st : Stmt) : Prop := ∃ f fd, FunD K "__init__" "Facts.__init__" (defArgs st) (defBody st) (defScope st) [] [] f fd ∧ Mk K C f
structure Txt (K : PySem.W.Frag) (mg : Str → Option Value) (C D : Addr) : Prop where
  fIsName : Fn1 K mg "is_name" sIsName
  fIsNumber : Fn1 K mg "is_number" sIsNumber
  fIsValue : Fn1 K mg "is_value" sIsValue
  fIsTerm : Fn1 K mg "is_term" sIsTerm
  fVariablesOf : Fn1 K mg "variables_of" sVariablesOf
  fPutTerms : Fn1 K mg "put_terms" sPutTerms
  fMatched : Fn1 K mg "matched" sMatched
  fHeadMap : Fn1 K mg "head_map" sHeadMap
  fAllMaps : Fn1 K mg "all_maps" sAllMaps
  fMapsTo : Fn1 K mg "maps_to" sMapsTo
  fIsMap : Fn1 K mg "is_map" sIsMap
  fNumbersIn : Fn1 K mg "numbers_in" sNumbersIn
  fFrozen : Fn1 K mg "frozen" sFrozen
  fCheckHeads : Fn1 K mg "check_heads" sCheckHeads
  fContained : Fn1 K mg "contained" sContained
  fLawPot : Fn1 K mg "_law_pot" sLawPot
  fLawNext : Fn1 K mg "_law_next" sLawNext
  fLawTerm : Fn1 K mg "_law_term" sLawTerm
  fLawAtoms : Fn1 K mg "_law_atoms" sLawAtoms
  fLawVariables : Fn1 K mg "_law_variables" sLawVariables
  fLawRule : Fn1 K mg "_law_rule" sLawRule
  fLawMeans : Fn1 K mg "_law_means" sLawMeans
  fLawWays : Fn1 K mg "_law_ways" sLawWays
  fLawPutIn : Fn1 K mg "_law_put_in" sLawPutIn
  fLawIsMap : Fn1 K mg "_law_is_map" sLawIsMap
  fLawSecond : Fn1 K mg "_law_second" sLawSecond
  fLawRefused : Fn1 K mg "_law_refused" sLawRefused
  mArity : Me1 K C "arity" "Facts.arity" sFArity
  mAdd : Me1 K C "add" "Facts.add" sFAdd
  mFind : Me1 K C "find" "Facts.find" sFFind
  mRows : Me1 K C "rows" "Facts.rows" sFRows
  mInit : Mi1 K C sFInit
  gC : mg "Facts" = some (.ref C)
  cl : Cls K C
  naArities : NoAttr K C "arities"
  naKnown : NoAttr K C "known"
  naThere : NoAttr K C "there"
  naPlaces : NoAttr K C "places"
  n_isinstance : mg "isinstance" = none
  n_len : mg "len" = none
  n_all : mg "all" = none
  n_list : mg "list" = none
  n_tuple : mg "tuple" = none
  n_dict : mg "dict" = none
  n_zip : mg "zip" = none
  n_sorted : mg "sorted" = none
  n_max : mg "max" = none
  n_enumerate : mg "enumerate" = none
  n_range : mg "range" = none
  n_int : mg "int" = none
  n_abs : mg "abs" = none
  n_repr : mg "repr" = none
  n_str : mg "str" = none
  n_bool : mg "bool" = none
  cLet : ∃ t, mg "SMALL_LETTERS" = some (.str "abcdefghijklmnopqrstuvwxyz" t)
  cNam : ∃ t, mg "MOST_NAME_SIGNS" = some (.int 12 t)
  cVal : ∃ t, mg "MOST_VALUE_SIGNS" = some (.int 20 t)
  cWid : ∃ t, mg "WIDEST_TABLE" = some (.int 4 t)
  gD : mg "InvalidArgument" = some (.ref D)
  gW : ∃ W, mg "WorthError" = some (.ref W) ∧ PySem.W.exmOne K (.ref D) (.ref W) = some true
  xD : PySem.W.excIn K D He.veBase "ValueError.__new__" = true
  kD : PySem.W.keepIn K (.ref D) = true
  bD : PySem.W.subIn K (.ref D) (.type "BaseException") = some true
  tD : PySem.W.typeIn K (.ref D) = some (.type "type")
  eD : ExcC K D
  iD : PySem.W.kitOne K (.ref D) (.ref D) = some true
/-- a def that may be called by its name, with its promise -/
structure Cal (P : Program) (w : World) (K : PySem.W.Frag) (mg : Str → Option Value) (base : Heap) (k : Nat) (x : Str) (sp : Sp) : Prop where
  ex : ∃ (f : Addr) (fd : FuncData) (ps : List Str), FnOk P w K mg base CX0 k f fd ps sp ∧ mg x = some (.ref f) ∧ PySem.W.keepIn K (.ref f) = true ∧ Binds K fd ps []
/-- .. that may raise -/
structure CalX (P : Program) (w : World) (K : PySem.W.Frag) (mg : Str → Option Value) (base : Heap) (k : Nat) (x : Str) (sp : Sp) : Prop where
  ex : ∃ (f : Addr) (fd : FuncData) (ps : List Str), FnOk P w K mg base (L2.CX P w) k f fd ps sp ∧ mg x = some (.ref f) ∧ PySem.W.keepIn K (.ref f) = true ∧ Binds K fd ps []
/-- a method of the class at C -/
structure Met (P : Program) (w : World) (K : PySem.W.Frag) (mg : Str → Option Value) (base : Heap) (k : Nat) (C : Addr) (m : Str) (sp : Sp) : Prop where
  ex : ∃ (f : Addr) (fd : FuncData) (ps : List Str), Cls K C ∧ Meth K C m f ∧ FnOk P w K mg base CX0 k f fd ps sp ∧ Binds K fd ps []
/-- the class Facts, made -/
structure Mak (P : Program) (w : World) (K : PySem.W.Frag) (mg : Str → Option Value) (base : Heap) (k : Nat) (x : Str) (C : Addr) (sp : Sp) : Prop where
  ex : ∃ (f : Addr) (fd : FuncData) (ps : List Str), Mk K C f ∧ FnOk P w K mg base CX0 k f fd ps sp ∧ mg x = some (.ref C) ∧ Binds K fd ps []
section
variable {X : Cx} {k j : Nat} {C : Addr} {x m : Str} {sp : Sp} {p pos apos : Pos} {e o : Expr} {es : List Expr} {ta : TE} {t : TA}
theorem pe_c (c : Cal X.prog X.w X.K X.mg X.base k x sp) (hr : Room j X.A) (hk : k ≤ j) (hg : Gl X x) (ha : PA X (e :: es) t)
    (hdb : (x == ("__debug__" : Str)) = false := by decide) (he : starEach (e :: es) X.env = (false, eval e X.env) :: starEach es X.env := by rfl) (hpl : (backTo pos (starEach es X.env)).any (·.1) = false := by rfl) :
    PE X (.Call (.Name x p) (e :: es) [] pos) (tCall sp [] E0 t) := by
  obtain ⟨f, fd, ps, F, hm, kp, b⟩ := c.ex
  exact pe_call F (hr.mono hk) hg hm kp b .nil pass0 ha hdb he hpl
theorem pe_cx (c : CalX X.prog X.w X.K X.mg X.base k x sp) (hr : Room j X.A) (hk : k ≤ j) (hg : Gl X x) (ha : PA X (e :: es) t)
    (hdb : (x == ("__debug__" : Str)) = false := by decide) (he : starEach (e :: es) X.env = (false, eval e X.env) :: starEach es X.env := by rfl) (hpl : (backTo pos (starEach es X.env)).any (·.1) = false := by rfl) :
    PE X (.Call (.Name x p) (e :: es) [] pos) (tCall sp [] E0 t) := by
  obtain ⟨f, fd, ps, F, hm, kp, b⟩ := c.ex
  exact pe_call F (hr.mono hk) hg hm kp b .nil passL ha hdb he hpl
theorem pe_mk (c : Mak X.prog X.w X.K X.mg X.base k x C sp) (hr : Room j X.A) (hk : k + 1 ≤ j) (hg : Gl X x) (ha : PA X (e :: es) t)
    (hdb : (x == ("__debug__" : Str)) = false := by decide) (he : starEach (e :: es) X.env = (false, eval e X.env) :: starEach es X.env := by rfl) (hpl : (backTo pos (starEach es X.env)).any (·.1) = false := by rfl) :
    PE X (.Call (.Name x p) (e :: es) [] pos) (tMake C sp [] E0 t) := by
  obtain ⟨f, fd, ps, M, F, hm, b⟩ := c.ex
  exact pe_make M F (hr.mono hk) hg hm b .nil pass0 ha hdb he hpl
theorem pe_mt {pl : Sem Bool} (c : Met X.prog X.w X.K X.mg X.base k C m sp) (hr : Room j X.A) (hk : k ≤ j) (he : PE X o ta) (ha : PA X (e :: es) t)
    (h1 : starEach (e :: es) X.env = (false, eval e X.env) :: starEach es X.env := by rfl) (h2 : (backTo pos (starEach es X.env)).any (·.1) = false := by rfl)
    (h3 : eval (.Call (.Attribute o m apos) (e :: es) [] pos) X.env = (do
      let ov ← eval o X.env
      standAt apos.atName
      let (f, first) ← holding [ov] (getMethod ov m pl)
      callWith pos f first (backTo pos (starEach (e :: es) X.env)) (backToKw pos (keywordEach [] X.env))) := by rfl) : PE X (.Call (.Attribute o m apos) (e :: es) [] pos) (tMeth C m sp [] E0 ta t) := by
  obtain ⟨f, fd, ps, hc, hm, F, b⟩ := c.ex
  exact pe_meth (pl := pl) he hc hm F (hr.mono hk) b .nil pass0 ha h1 h2 h3
end
section
variable {P : Program} {w : World} {K : PySem.W.Frag} {mg : Str → Option Value} {base : Heap}
/-- how the arguments of such a def bind -/
abbrev BindsBy (x q : Str) (st : Stmt) (ps : List Str) : Prop := ∀ (kV doc pm : Value) (an : Option Addr) (cdv ct : Value) (us : List Value), us.length = ps.length →
  bindArgs (PySem.W.fnOf x q (defArgs st) (defBody st) (defScope st) .none kV doc pm an cdv ct) ⟨us, []⟩ = pure (ps.zip us)
/-- a def's body keeps its promise -/
abbrev Body (P : Program) (w : World) (K : PySem.W.Frag) (mg : Str → Option Value) (base : Heap) (q : Str) (st : Stmt) (N : List Str) (k : Nat) (sp : Sp) : Prop :=
  ∀ (f : Addr) (cdv : Value) (A : Around) (outer : List Env) (s : Shared) (H : Hp) (vs : List V) (Q : VK) (E : XK), Room k (A.deeper (envOfC q (defScope st) s.heap.objs.size f cdv)) → sp vs H Q E →
    ∃ t, PSs (cxOf CX0 P w K mg base N q (defScope st) f cdv A outer s H E).nox (defBody st) t ∧ t { nx := fun _ H' => Q .non H', rt := Q } (start N vs) H
theorem cal_of {x : Str} {st : Stmt} {N ps : List Str} {k : Nat} {sp : Sp} (F : Fn1 K mg x st) (b : BindsBy x x st ps) (S : FnScope N ps (defScope st)) (len : ∀ vs H Q E, sp vs H Q E → vs.length = ps.length)
    (hb : Body P w K mg base x st N k sp) : Cal P w K mg base (k + 1) x sp := by
  obtain ⟨f, fd, D, hm⟩ := F
  exact ⟨f, fd, ps, FunD.ok (CX := CX0) D S len fun cdv A outer s H vs Q E hr h => (let ⟨t, h1, h2⟩ := hb f cdv A outer s H vs Q E hr h; ⟨t, h1.nox, h2⟩), hm, D.kp, D.bindsN b⟩
theorem met_of {m q : Str} {C : Addr} {st : Stmt} {N ps : List Str} {k : Nat} {sp : Sp} (c : Cls K C) (F : Me1 K C m q st) (b : BindsBy m q st ps) (S : FnScope N ps (defScope st)) (len : ∀ vs H Q E, sp vs H Q E → vs.length = ps.length)
    (hb : Body P w K mg base q st N k sp) : Met P w K mg base (k + 1) C m sp := by
  obtain ⟨f, fd, D, hm⟩ := F
  exact ⟨f, fd, ps, c, hm, FunD.ok (CX := CX0) D S len fun cdv A outer s H vs Q E hr h => (let ⟨t, h1, h2⟩ := hb f cdv A outer s H vs Q E hr h; ⟨t, h1.nox, h2⟩), D.bindsN b⟩
theorem mak_of {C : Addr} {st : Stmt} {N ps : List Str} {k : Nat} {sp : Sp} (F : Mi1 K C st) (hm : mg "Facts" = some (.ref C)) (b : BindsBy "__init__" "Facts.__init__" st ps) (S : FnScope N ps (defScope st)) (len : ∀ vs H Q E, sp vs H Q E → vs.length = ps.length)
    (hb : Body P w K mg base "Facts.__init__" st N k sp) : Mak P w K mg base (k + 1) "Facts" C sp := by
  obtain ⟨f, fd, D, hk⟩ := F
  exact ⟨f, fd, ps, hk, FunD.ok (CX := CX0) D S len fun cdv A outer s H vs Q E hr h => (let ⟨t, h1, h2⟩ := hb f cdv A outer s H vs Q E hr h; ⟨t, h1.nox, h2⟩), hm, D.bindsN b⟩
end
end Ew
set_option Elab.async false
set_option maxRecDepth 100000
namespace Ew
open PySem PySem.Spec PyProof.Rows L2
theorem txt_of {w : World} {K : PySem.W.Frag} {h : Heap} {mg : Str → Option Value} (KX : K.In h) (G : h.Ns mainGlobals mg) (c : He.SaysX fa fn [] [] exF w h K) : Txt K mg (He.ga K "Facts") (He.ga K "InvalidArgument") := by
  have hex : exF K = true := c.more
  unfold exF at hex
  obtain ⟨x1, hex⟩ := He.ba hex
  obtain ⟨x2, hex⟩ := He.ba hex
  obtain ⟨x3, hex⟩ := He.ba hex
  obtain ⟨x4, hex⟩ := He.ba hex
  obtain ⟨x5, hex⟩ := He.ba hex
  obtain ⟨x6, hex⟩ := He.ba hex
  obtain ⟨x7, hex⟩ := He.ba hex
  obtain ⟨x8, hex⟩ := He.ba hex
  have eXc := He.exc_ok (K := K) (c.t.d.fact 63 (f := .exc "InvalidArgument") rfl)
  obtain ⟨fd0, F0⟩ := c.t.d.def_ 0 (d := dIsName) rfl
  obtain ⟨fd1, F1⟩ := c.t.d.def_ 1 (d := dIsNumber) rfl
  obtain ⟨fd2, F2⟩ := c.t.d.def_ 2 (d := dIsValue) rfl
  obtain ⟨fd3, F3⟩ := c.t.d.def_ 3 (d := dIsTerm) rfl
  obtain ⟨fd4, F4⟩ := c.t.d.def_ 4 (d := dVariablesOf) rfl
  obtain ⟨fd5, F5⟩ := c.t.d.def_ 5 (d := dPutTerms) rfl
  obtain ⟨fd6, F6⟩ := c.t.d.def_ 6 (d := dMatched) rfl
  obtain ⟨fd7, F7⟩ := c.t.d.def_ 7 (d := dHeadMap) rfl
  obtain ⟨fd8, F8⟩ := c.t.d.def_ 8 (d := dAllMaps) rfl
  obtain ⟨fd9, F9⟩ := c.t.d.def_ 9 (d := dMapsTo) rfl
  obtain ⟨fd10, F10⟩ := c.t.d.def_ 10 (d := dIsMap) rfl
  obtain ⟨fd11, F11⟩ := c.t.d.def_ 11 (d := dNumbersIn) rfl
  obtain ⟨fd12, F12⟩ := c.t.d.def_ 12 (d := dFrozen) rfl
  obtain ⟨fd13, F13⟩ := c.t.d.def_ 13 (d := dCheckHeads) rfl
  obtain ⟨fd14, F14⟩ := c.t.d.def_ 14 (d := dContained) rfl
  obtain ⟨fd15, F15⟩ := c.t.d.def_ 15 (d := dLawPot) rfl
  obtain ⟨fd16, F16⟩ := c.t.d.def_ 16 (d := dLawNext) rfl
  obtain ⟨fd17, F17⟩ := c.t.d.def_ 17 (d := dLawTerm) rfl
  obtain ⟨fd18, F18⟩ := c.t.d.def_ 18 (d := dLawAtoms) rfl
  obtain ⟨fd19, F19⟩ := c.t.d.def_ 19 (d := dLawVariables) rfl
  obtain ⟨fd20, F20⟩ := c.t.d.def_ 20 (d := dLawRule) rfl
  obtain ⟨fd21, F21⟩ := c.t.d.def_ 21 (d := dLawMeans) rfl
  obtain ⟨fd22, F22⟩ := c.t.d.def_ 22 (d := dLawWays) rfl
  obtain ⟨fd23, F23⟩ := c.t.d.def_ 23 (d := dLawPutIn) rfl
  obtain ⟨fd24, F24⟩ := c.t.d.def_ 24 (d := dLawIsMap) rfl
  obtain ⟨fd25, F25⟩ := c.t.d.def_ 25 (d := dLawSecond) rfl
  obtain ⟨fd26, F26⟩ := c.t.d.def_ 26 (d := dLawRefused) rfl
  obtain ⟨fd28, F28⟩ := c.t.d.def_ 28 (d := dFInit) rfl
  obtain ⟨fd29, F29⟩ := c.t.d.def_ 29 (d := dFArity) rfl
  obtain ⟨fd30, F30⟩ := c.t.d.def_ 30 (d := dFAdd) rfl
  obtain ⟨fd31, F31⟩ := c.t.d.def_ 31 (d := dFFind) rfl
  obtain ⟨fd32, F32⟩ := c.t.d.def_ 32 (d := dFRows) rfl
  exact {
    fIsName := ⟨_, fd0, F0, He.glo_ok KX G (c.t.d.fact 0 (f := .glo "is_name") rfl)⟩
    fIsNumber := ⟨_, fd1, F1, He.glo_ok KX G (c.t.d.fact 1 (f := .glo "is_number") rfl)⟩
    fIsValue := ⟨_, fd2, F2, He.glo_ok KX G (c.t.d.fact 2 (f := .glo "is_value") rfl)⟩
    fIsTerm := ⟨_, fd3, F3, He.glo_ok KX G (c.t.d.fact 3 (f := .glo "is_term") rfl)⟩
    fVariablesOf := ⟨_, fd4, F4, He.glo_ok KX G (c.t.d.fact 4 (f := .glo "variables_of") rfl)⟩
    fPutTerms := ⟨_, fd5, F5, He.glo_ok KX G (c.t.d.fact 5 (f := .glo "put_terms") rfl)⟩
    fMatched := ⟨_, fd6, F6, He.glo_ok KX G (c.t.d.fact 6 (f := .glo "matched") rfl)⟩
    fHeadMap := ⟨_, fd7, F7, He.glo_ok KX G (c.t.d.fact 7 (f := .glo "head_map") rfl)⟩
    fAllMaps := ⟨_, fd8, F8, He.glo_ok KX G (c.t.d.fact 8 (f := .glo "all_maps") rfl)⟩
    fMapsTo := ⟨_, fd9, F9, He.glo_ok KX G (c.t.d.fact 9 (f := .glo "maps_to") rfl)⟩
    fIsMap := ⟨_, fd10, F10, He.glo_ok KX G (c.t.d.fact 10 (f := .glo "is_map") rfl)⟩
    fNumbersIn := ⟨_, fd11, F11, He.glo_ok KX G (c.t.d.fact 11 (f := .glo "numbers_in") rfl)⟩
    fFrozen := ⟨_, fd12, F12, He.glo_ok KX G (c.t.d.fact 12 (f := .glo "frozen") rfl)⟩
    fCheckHeads := ⟨_, fd13, F13, He.glo_ok KX G (c.t.d.fact 13 (f := .glo "check_heads") rfl)⟩
    fContained := ⟨_, fd14, F14, He.glo_ok KX G (c.t.d.fact 14 (f := .glo "contained") rfl)⟩
    fLawPot := ⟨_, fd15, F15, He.glo_ok KX G (c.t.d.fact 15 (f := .glo "_law_pot") rfl)⟩
    fLawNext := ⟨_, fd16, F16, He.glo_ok KX G (c.t.d.fact 16 (f := .glo "_law_next") rfl)⟩
    fLawTerm := ⟨_, fd17, F17, He.glo_ok KX G (c.t.d.fact 17 (f := .glo "_law_term") rfl)⟩
    fLawAtoms := ⟨_, fd18, F18, He.glo_ok KX G (c.t.d.fact 18 (f := .glo "_law_atoms") rfl)⟩
    fLawVariables := ⟨_, fd19, F19, He.glo_ok KX G (c.t.d.fact 19 (f := .glo "_law_variables") rfl)⟩
    fLawRule := ⟨_, fd20, F20, He.glo_ok KX G (c.t.d.fact 20 (f := .glo "_law_rule") rfl)⟩
    fLawMeans := ⟨_, fd21, F21, He.glo_ok KX G (c.t.d.fact 21 (f := .glo "_law_means") rfl)⟩
    fLawWays := ⟨_, fd22, F22, He.glo_ok KX G (c.t.d.fact 22 (f := .glo "_law_ways") rfl)⟩
    fLawPutIn := ⟨_, fd23, F23, He.glo_ok KX G (c.t.d.fact 23 (f := .glo "_law_put_in") rfl)⟩
    fLawIsMap := ⟨_, fd24, F24, He.glo_ok KX G (c.t.d.fact 24 (f := .glo "_law_is_map") rfl)⟩
    fLawSecond := ⟨_, fd25, F25, He.glo_ok KX G (c.t.d.fact 25 (f := .glo "_law_second") rfl)⟩
    fLawRefused := ⟨_, fd26, F26, He.glo_ok KX G (c.t.d.fact 26 (f := .glo "_law_refused") rfl)⟩
    mInit := ⟨_, fd28, F28, He.mkr_ok (c.t.d.fact 62 (f := .mkr "Facts") rfl)⟩
    mArity := ⟨_, fd29, F29, He.meth_ok (c.t.d.fact 58 (f := .meth "Facts" "arity") rfl)⟩
    mAdd := ⟨_, fd30, F30, He.meth_ok (c.t.d.fact 59 (f := .meth "Facts" "add") rfl)⟩
    mFind := ⟨_, fd31, F31, He.meth_ok (c.t.d.fact 60 (f := .meth "Facts" "find") rfl)⟩
    mRows := ⟨_, fd32, F32, He.meth_ok (c.t.d.fact 61 (f := .meth "Facts" "rows") rfl)⟩
    gC := He.glo_ok KX G (c.t.d.fact 28 (f := .glo "Facts") rfl)
    cl := He.cls_ok (c.t.d.fact 53 (f := .cls "Facts") rfl)
    naArities := He.noat_ok (c.t.d.fact 54 (f := .noat "Facts" "arities") rfl)
    naKnown := He.noat_ok (c.t.d.fact 55 (f := .noat "Facts" "known") rfl)
    naThere := He.noat_ok (c.t.d.fact 56 (f := .noat "Facts" "there") rfl)
    naPlaces := He.noat_ok (c.t.d.fact 57 (f := .noat "Facts" "places") rfl)
    n_isinstance := He.free_ok KX G (c.t.d.fact 33 (f := .free "isinstance") rfl)
    n_len := He.free_ok KX G (c.t.d.fact 34 (f := .free "len") rfl)
    n_all := He.free_ok KX G (c.t.d.fact 35 (f := .free "all") rfl)
    n_list := He.free_ok KX G (c.t.d.fact 36 (f := .free "list") rfl)
    n_tuple := He.free_ok KX G (c.t.d.fact 37 (f := .free "tuple") rfl)
    n_dict := He.free_ok KX G (c.t.d.fact 38 (f := .free "dict") rfl)
    n_zip := He.free_ok KX G (c.t.d.fact 39 (f := .free "zip") rfl)
    n_sorted := He.free_ok KX G (c.t.d.fact 40 (f := .free "sorted") rfl)
    n_max := He.free_ok KX G (c.t.d.fact 41 (f := .free "max") rfl)
    n_enumerate := He.free_ok KX G (c.t.d.fact 42 (f := .free "enumerate") rfl)
    n_range := He.free_ok KX G (c.t.d.fact 43 (f := .free "range") rfl)
    n_int := He.free_ok KX G (c.t.d.fact 44 (f := .free "int") rfl)
    n_abs := He.free_ok KX G (c.t.d.fact 45 (f := .free "abs") rfl)
    n_repr := He.free_ok KX G (c.t.d.fact 46 (f := .free "repr") rfl)
    n_str := He.free_ok KX G (c.t.d.fact 47 (f := .free "str") rfl)
    n_bool := He.free_ok KX G (c.t.d.fact 48 (f := .free "bool") rfl)
    cLet := He.str_ok KX G (c.t.d.fact 49 (f := .str "SMALL_LETTERS" "abcdefghijklmnopqrstuvwxyz") rfl)
    cNam := He.int_ok KX G (c.t.d.fact 50 (f := .int "MOST_NAME_SIGNS" 12) rfl)
    cVal := He.int_ok KX G (c.t.d.fact 51 (f := .int "MOST_VALUE_SIGNS" 20) rfl)
    cWid := He.int_ok KX G (c.t.d.fact 52 (f := .int "WIDEST_TABLE" 4) rfl)
    gD := He.glo_ok KX G (c.t.d.fact 30 (f := .glo "InvalidArgument") rfl)
    gW := ⟨_, He.glo_ok KX G (c.t.d.fact 29 (f := .glo "WorthError") rfl), He.exm_ok (c.t.d.fact 64 (f := .exm "InvalidArgument" "WorthError" true) rfl)⟩
    xD := eXc.1
    kD := eXc.2.1
    bD := eXc.2.2.1
    tD := eXc.2.2.2
    eD := ⟨He.eqO_ok x1, He.eqO_ok x2, of_decide_eq_true x3, x4, He.eqO_ok x5, He.eqO_ok x6, of_decide_eq_true x7, of_decide_eq_true x8⟩
    iD := of_decide_eq_true hex }
end Ew
set_option Elab.async false
set_option linter.all false
set_option maxRecDepth 100000
/-! the data of the law: terms, atoms, rules, facts, as plain data and as it stands in the heap -/
namespace Ew
open PySem PySem.Spec PyProof.Rows L2
inductive Tm where
  | var (x : Str)
  | val (k : L2.Key)
  deriving DecidableEq
abbrev Atom : Type := Str × List Tm
abbrev Rule : Type := List Str × List Atom
abbrev Fact : Type := Str × List L2.Key
def kK : L2.Key → NK
  | .inl i => .num i
  | .inr x => .text x
def tmK : Tm → NK
  | .var x => .tup [.text "var", .text x]
  | .val k => .tup [.text "value", kK k]
def atomK (a : Atom) : NK := .tup [.text a.1, .tup (a.2.map tmK)]
def atomsK (as : List Atom) : NK := .tup (as.map atomK)
def headK (h : List Str) : NK := .tup (h.map .text)
def ruleK (r : Rule) : NK := .tup [headK r.1, atomsK r.2]
def rowK (r : List L2.Key) : NK := .tup (r.map kK)
def factK (f : Fact) : NK := .tup [.text f.1, rowK f.2]
theorem kK_inj {a b : L2.Key} (h : kK a = kK b) : a = b := by
  cases a <;> cases b <;> simp_all [kK]
theorem var_ne : ¬ (("var" : Str) = "value") := by decide +kernel
theorem tmK_inj {a b : Tm} (h : tmK a = tmK b) : a = b := by
  cases a with
  | var x => cases b with
    | var y => simp [tmK] at h; rw [h]
    | val k => simp [tmK] at h; exact absurd h.1 var_ne
  | val k => cases b with
    | var y => simp [tmK] at h; exact absurd h.1.symm var_ne
    | val l => simp [tmK] at h; rw [kK_inj h]
theorem map_inj {α β : Type} {f : α → β} (hf : ∀ a b, f a = f b → a = b) : ∀ {xs ys : List α}, xs.map f = ys.map f → xs = ys
  | [], [], _ => rfl
  | [], _ :: _, h => by simp at h
  | _ :: _, [], h => by simp at h
  | x :: xs, y :: ys, h => by
    rw [List.map_cons, List.map_cons] at h
    injection h with h1 h2
    rw [hf _ _ h1, map_inj hf h2]
theorem atomK_inj {a b : Atom} (h : atomK a = atomK b) : a = b := by
  obtain ⟨a1, a2⟩ := a
  obtain ⟨b1, b2⟩ := b
  simp only [atomK, NestedKey.tup.injEq, List.cons.injEq, NestedKey.text.injEq, and_true] at h
  rw [h.1, map_inj (fun _ _ => tmK_inj) h.2]
theorem rowK_inj {a b : List L2.Key} (h : rowK a = rowK b) : a = b := by
  simp only [rowK, NestedKey.tup.injEq] at h
  exact map_inj (fun _ _ => kK_inj) h
theorem factK_inj {a b : Fact} (h : factK a = factK b) : a = b := by
  obtain ⟨a1, a2⟩ := a
  obtain ⟨b1, b2⟩ := b
  simp only [factK, NestedKey.tup.injEq, List.cons.injEq, NestedKey.text.injEq, and_true] at h
  rw [h.1, rowK_inj h.2]
theorem mem_map_inj {α β : Type} {f : α → β} (hf : ∀ a b, f a = f b → a = b) {x : α} {xs : List α} : f x ∈ xs.map f ↔ x ∈ xs := by
  constructor
  · intro h
    obtain ⟨y, hy, e⟩ := List.mem_map.mp h
    rw [← hf _ _ e]
    exact hy
  · exact fun h => List.mem_map.mpr ⟨x, h, rfl⟩
theorem depth_kK (k : L2.Key) : (kK k).depth = 0 := by cases k <;> rfl
theorem depthAll_le {n : Nat} : ∀ {ks : List NK}, (∀ k ∈ ks, k.depth ≤ n) → NestedKey.depthAll ks ≤ n
  | [], _ => Nat.zero_le _
  | k :: ks, h => Nat.max_le.mpr ⟨h k List.mem_cons_self, depthAll_le fun x hx => h x (List.mem_cons_of_mem _ hx)⟩
theorem depth_tup {n : Nat} {ks : List NK} (h : ∀ k ∈ ks, k.depth ≤ n) : (NestedKey.tup ks).depth ≤ n + 1 := Nat.succ_le_succ (depthAll_le h)
theorem depth_tmK (t : Tm) : (tmK t).depth ≤ 1 := by
  cases t with
  | var x => exact depth_tup fun k hk => by simp at hk; rcases hk with rfl | rfl <;> exact Nat.le_refl _
  | val k => exact depth_tup fun l hl => by simp at hl; rcases hl with rfl | rfl; exact Nat.le_refl _; rw [depth_kK]; exact Nat.le_refl _
theorem depth_terms (ts : List Tm) : (NestedKey.tup (ts.map tmK)).depth ≤ 2 := depth_tup fun k hk => by
  obtain ⟨t, _, rfl⟩ := List.mem_map.mp hk
  exact depth_tmK t
theorem depth_atomK (a : Atom) : (atomK a).depth ≤ 3 := depth_tup fun k hk => by
  simp at hk
  rcases hk with rfl | rfl
  · exact Nat.zero_le _
  · exact depth_terms _
theorem depth_rowK (r : List L2.Key) : (rowK r).depth ≤ 1 := depth_tup fun k hk => by
  obtain ⟨t, _, rfl⟩ := List.mem_map.mp hk
  rw [depth_kK]
  exact Nat.le_refl _
theorem depth_factK (f : Fact) : (factK f).depth ≤ 2 := depth_tup fun k hk => by
  simp at hk
  rcases hk with rfl | rfl
  · exact Nat.zero_le _
  · exact depth_rowK _
/-! ### in the heap -/
/-- a value as it is read -/
theorem At.kV {H : Hp} {k : L2.Key} {v : V} : At H (kK k) v ↔ v = kV k := by
  cases k <;> exact Iff.rfl
theorem Ats.row {H : Hp} : ∀ {r : List L2.Key} {xs : List V}, Ats H (r.map kK) xs ↔ xs = r.map L2.kV
  | [], _ => Iff.rfl
  | k :: r, xs => by
    constructor
    · rintro ⟨v, ys, rfl, h1, h2⟩
      rw [At.kV.mp h1, Ats.row.mp h2, List.map_cons]
    · rintro rfl
      exact ⟨_, _, rfl, At.kV.mpr rfl, Ats.row.mpr rfl⟩
theorem Ats.names {H : Hp} : ∀ {r : List Str} {xs : List V}, Ats H (r.map .text) xs ↔ xs = r.map V.str
  | [], _ => Iff.rfl
  | k :: r, xs => by
    constructor
    · rintro ⟨v, ys, rfl, h1, h2⟩
      rw [Ats.names.mp h2, List.map_cons]
      cases h1
      rfl
    · rintro rfl
      exact ⟨_, _, rfl, rfl, Ats.names.mpr rfl⟩
theorem at_row {H : Hp} {r : List L2.Key} {v : V} : At H (rowK r) v ↔ ∃ a, v = .ref a ∧ H a = some (.tup (r.map L2.kV)) := by
  constructor
  · rintro ⟨a, xs, rfl, ha, h⟩
    exact ⟨a, rfl, by rw [ha, Ats.row.mp h]⟩
  · rintro ⟨a, rfl, ha⟩
    exact ⟨a, _, rfl, ha, Ats.row.mpr rfl⟩
theorem at_head {H : Hp} {r : List Str} {v : V} : At H (headK r) v ↔ ∃ a, v = .ref a ∧ H a = some (.tup (r.map V.str)) := by
  constructor
  · rintro ⟨a, xs, rfl, ha, h⟩
    exact ⟨a, rfl, by rw [ha, Ats.names.mp h]⟩
  · rintro ⟨a, rfl, ha⟩
    exact ⟨a, _, rfl, ha, Ats.names.mpr rfl⟩
theorem at_var {H : Hp} {x : Str} {v : V} : At H (tmK (.var x)) v ↔ ∃ a, v = .ref a ∧ H a = some (.tup [.str "var", .str x]) := by
  constructor
  · rintro ⟨a, xs, rfl, ha, v, r, rfl, h1, u, r2, rfl, h2, h3⟩
    cases h1
    cases h2
    cases h3
    exact ⟨a, rfl, ha⟩
  · rintro ⟨a, rfl, ha⟩
    exact ⟨a, _, rfl, ha, _, _, rfl, rfl, _, _, rfl, rfl, rfl⟩
theorem at_val {H : Hp} {k : L2.Key} {v : V} : At H (tmK (.val k)) v ↔ ∃ a, v = .ref a ∧ H a = some (.tup [.str "value", L2.kV k]) := by
  constructor
  · rintro ⟨a, xs, rfl, ha, v, r, rfl, h1, u, r2, rfl, h2, h3⟩
    cases h1
    rw [At.kV.mp h2] at ha
    cases h3
    exact ⟨a, rfl, ha⟩
  · rintro ⟨a, rfl, ha⟩
    exact ⟨a, _, rfl, ha, _, _, rfl, rfl, _, _, rfl, At.kV.mpr rfl, rfl⟩
/-- how a term reads -/
def tag : Tm → Str
  | .var _ => "var"
  | .val _ => "value"
def arg : Tm → V
  | .var x => .str x
  | .val k => L2.kV k
theorem at_tm {H : Hp} {t : Tm} {v : V} : At H (tmK t) v ↔ ∃ a, v = .ref a ∧ H a = some (.tup [.str (tag t), arg t]) := by
  cases t with
  | var x => exact at_var
  | val k => exact at_val
theorem at_pair {H : Hp} {k l : NK} {v : V} : At H (.tup [k, l]) v ↔ ∃ a x y, v = .ref a ∧ H a = some (.tup [x, y]) ∧ At H k x ∧ At H l y := by
  constructor
  · rintro ⟨a, xs, rfl, ha, v, r, rfl, h1, u, r2, rfl, h2, h3⟩
    cases h3
    exact ⟨a, v, u, rfl, ha, h1, h2⟩
  · rintro ⟨a, x, y, rfl, ha, h1, h2⟩
    exact ⟨a, _, rfl, ha, _, _, rfl, h1, _, _, rfl, h2, rfl⟩
theorem at_tup {H : Hp} {ks : List NK} {v : V} : At H (.tup ks) v ↔ ∃ a xs, v = .ref a ∧ H a = some (.tup xs) ∧ Ats H ks xs := Iff.rfl
/-! ### what is drawn -/
def Nms : List Str := ["x", "y", "z", "u"]
def Vls : List L2.Key := [.inl 0, .inl 1, .inr "a"]
def TmOk : Tm → Prop
  | .var x => x ∈ Nms
  | .val k => k ∈ Vls
def AtomOk (a : Atom) : Prop := (a.1 = "e" ∧ a.2.length = 2 ∨ a.1 = "p" ∧ a.2.length = 1) ∧ ∀ t ∈ a.2, TmOk t
def varOf : Tm → Option Str
  | .var x => some x
  | .val _ => none
def varsA (as : List Atom) : List Str := as.flatMap fun a => a.2.filterMap varOf
structure RuleOk (r : Rule) : Prop where
  atoms : ∀ a ∈ r.2, AtomOk a
  low : 1 ≤ r.2.length
  high : r.2.length ≤ 5
  head : ∀ x ∈ r.1, x ∈ varsA r.2
  h1 : 1 ≤ r.1.length
  h2 : r.1.length ≤ 2
end Ew
set_option Elab.async false
set_option linter.all false
set_option maxRecDepth 100000
set_option maxHeartbeats 1000000
/-! comprehensions that make an item a turn -/
namespace Ew
open PySem PySem.Spec PyProof.Rows L2
/-- all stays but what S tells -/
def ExS (S : Addr → Prop) (H H' : Hp) : Prop := ∀ b o, ¬ S b → H b = some o → H' b = some o
abbrev S0 : Addr → Prop := fun _ => False
abbrev S1 (p : Addr) : Addr → Prop := fun b => b = p
theorem ExS.refl {S : Addr → Prop} {H : Hp} : ExS S H H := fun _ _ _ e => e
theorem ExS.trans {S : Addr → Prop} {H H1 H2 : Hp} (a : ExS S H H1) (b : ExS S H1 H2) : ExS S H H2 := fun c o n e => b c o n (a c o n e)
theorem ExS.ex {H H' : Hp} (h : ExS S0 H H') : Ex H H' := fun b o e => h b o (fun z => z) e
theorem ExS.exB {p : Addr} {H H' : Hp} (h : ExS (S1 p) H H') : ExB p H H' := fun b o n e => h b o n e
theorem Ex.exS {S : Addr → Prop} {H H' : Hp} (h : Ex H H') : ExS S H H' := fun b o _ e => h b o e
theorem ExB.exS {p : Addr} {H H' : Hp} (h : ExB p H H') : ExS (S1 p) H H' := fun b o n e => h b o n e
theorem ExS.tk {S : Addr → Prop} {H H' : Hp} (h : ExS S H H') (n : ∀ b xs, S b → H b ≠ some (.tup xs)) : TK H H' := fun b xs e => h b _ (fun z => n b xs z e) e
theorem ExS.newD {S : Addr → Prop} {H H' : Hp} {D : Addr} {o : HO} (n : H D = none) (h : ExS S (upd H D o) H') : ExS S H H' := fun b u nb e => h b u nb (by rw [upd_ne (ne_of_none e n)]; exact e)
theorem tk_new {H : Hp} {p : Addr} {o : HO} (n : H p = none) : TK H (upd H p o) := (Ex.new n).tk
theorem tk_lst {H : Hp} {p : Addr} {xs ys : List V} (h : H p = some (.lst xs)) : TK H (upd H p (.lst ys)) := ExB.upd.tk fun zs e => by rw [h] at e; cases e
theorem lc_map {J : It} {n : Nat} {G : Hp → Prop} {Y : Nat → Hp → V → Hp → Prop} (w : Walk J n G Y) (S : Addr → Prop) (I : Hp → Prop) (R : Hp → Nat → V → Prop)
    {g : TG} {te : TE} {vs : List Nat} {σ : L2.St} {H1 : Hp} {D : Addr} {Qd : Hp → Prop} (nD : H1 D = none) (hn : n ≤ sizeLine) (sD : ¬ S D)
    (i0 : I (upd H1 D (.lst []))) (hI : ∀ H zs ys, I H → H D = some (.lst zs) → I (upd H D (.lst ys))) (hG : ∀ H, I H → ExS S H1 H → TK H1 H → G H)
    (rk : ∀ H H' i y, TK H H' → R H i y → R H' i y)
    (turn : ∀ i x H H', i < n → I H → ExS S H1 H → TK H1 H → Y i H x H' → ∀ Q : V → Hp → Prop, (∀ y H4, ExS S H H4 → TK H H4 → I H4 → R H4 i y → Q y H4) → g x (wipe σ vs) H' fun σ2 H2 => wipe σ2 vs = wipe σ vs ∧ te σ2 H2 Q)
    (done : ∀ H ys, I H → ExS S H1 H → TK H1 H → H D = some (.lst ys) → ys.length = n → (∀ i y, ys[i]? = some y → R H i y) → Qd H) :
    ∃ W : Nat → Nat → Hp → Prop, (∃ m, W 0 m (upd H1 D (.lst []))) ∧ ∀ i m H, W i m H →
      (J.stop i H ∧ Qd H) ∨ (J.go i H ∧ ∃ Nx : Hp → Prop, (∀ H', Nx H' → ∃ m', m' < m ∧ W (i + 1) m' H') ∧ ∀ x H', J.yld i H x H' → g x (wipe σ vs) H' fun σ2 H2 => wipe σ2 vs = wipe σ vs ∧ tYes σ2 H2 fun b H3 =>
        if b = true then te σ2 H3 fun y H4 => ∃ acc, H4 D = some (.lst acc) ∧ acc.length < sizeLine ∧ Nx (upd H4 D (.lst (acc ++ [y]))) else Nx H3) := by
  refine lc_it w (fun i H => I H ∧ ExS S H1 H ∧ TK H1 H ∧ ∃ ys, H D = some (.lst ys) ∧ ys.length = i ∧ ∀ j y, ys[j]? = some y → R H j y) ⟨i0, (Ex.new nD).exS, tk_new nD, [], upd_same, rfl, fun j y e => by simp at e⟩ (fun i H _ p => hG H p.1 p.2.1 p.2.2.1) ?_ (fun H p => ?_)
  · rintro i x H H' hi ⟨pI, pE, pT, ys, hD, hl, hR⟩ hy
    have t := turn i x H H' hi pI pE pT hy (fun y H4 => ∃ acc, H4 D = some (.lst acc) ∧ acc.length < sizeLine ∧ (I (upd H4 D (.lst (acc ++ [y]))) ∧ ExS S H1 (upd H4 D (.lst (acc ++ [y]))) ∧ TK H1 (upd H4 D (.lst (acc ++ [y]))) ∧ ∃ ys, (upd H4 D (.lst (acc ++ [y]))) D = some (.lst ys) ∧ ys.length = i + 1 ∧ ∀ j z, ys[j]? = some z → R (upd H4 D (.lst (acc ++ [y]))) j z)) fun y H4 hE hT hI4 hR4 => ?_
    · exact t
    · have hD4 : H4 D = some (.lst ys) := hE D _ sD hD
      have tk2 : TK H4 (upd H4 D (.lst (ys ++ [y]))) := tk_lst hD4
      refine ⟨ys, hD4, by omega, hI _ _ _ hI4 hD4, ?_, (pT.trans hT).trans tk2, ys ++ [y], upd_same, by simp [hl], fun j z e => ?_⟩
      · intro b o nb e
        have ne : b ≠ D := ne_of_none e nD
        rw [upd_ne ne]
        exact hE b o nb (pE b o nb e)
      · by_cases hj : j < ys.length
        · rw [List.getElem?_append_left hj] at e
          exact rk _ _ _ _ (hT.trans tk2) (hR j z e)
        · have hj2 : j = i := by
            have := (List.getElem?_eq_some_iff.mp e).1
            simp at this
            omega
          subst hj2
          rw [← hl, List.getElem?_append_right (Nat.le_refl _)] at e
          simp at e
          subst e
          exact rk _ _ _ _ tk2 hR4
  · obtain ⟨pI, pE, pT, ys, hD, hl, hR⟩ := p
    exact done H ys pI pE pT hD hl hR
/-! rules whose reading names the written part: for blocks, K said -/
section
variable {X : Cx}
theorem ixT (K : PySem.W.Frag) (h : X.K = K := by rfl) : IxR X (rIxT K) := by subst h; exact ix_tup
theorem ixL (K : PySem.W.Frag) (h : X.K = K := by rfl) : IxR X (rIxL K) := by subst h; exact ix_list
theorem slA (K : PySem.W.Frag) (h : X.K = K := by rfl) : SlR X (rSlA K) := by subst h; exact sl_tupA
theorem piT (K : PySem.W.Frag) {tg l : Expr} {tl : TE} (hl : PE X l tl) (h : X.K = K := by rfl) : PI X tg l (iTup K tl) := by subst h; exact pi_tup hl
theorem piL (K : PySem.W.Frag) {tg l : Expr} {tl : TE} (hl : PE X l tl) (h : X.K = K := by rfl) : PI X tg l (iList K tl) := by subst h; exact pi_list hl
theorem pgT (K : PySem.W.Frag) {es : List Expr} {k : Nat} {t : TGs} {n : Nat} {pos : Pos} (hc : X.calm = true) (hg : PGs X es t) (hn : (assignEach es X.env).length = n := by rfl) (hst : (assignEach es X.env).findIdx? (·.1) = none := by rfl) (h : X.K = K := by rfl) :
    PG X (.Tuple es k pos) (gTup K n t) := by subst h; exact pg_tup hc hg hn hst
theorem crIsi (K : PySem.W.Frag) (h : X.K = K := by rfl) : CallR X (.builtin "isinstance") (rIsi K) := by subst h; exact call_isi
theorem crLen (K : PySem.W.Frag) (h : X.K = K := by rfl) : CallR X (.builtin "len") (fun xs H Q => ∃ p ys, xs = [.ref p] ∧ (SqL K H p ys ∨ SqT K H p ys) ∧ Q (.int ys.length) H) := by subst h; exact call_len_seq
theorem crTup (K : PySem.W.Frag) (h : X.K = K := by rfl) : CallR X (.type "tuple") (fun xs H Q => ∃ p ys, xs = [.ref p] ∧ ((SqL K H p ys ∧ ∀ l, H l = none → Q (.ref l) (upd H l (.tup ys))) ∨ (SqT K H p ys ∧ Q (.ref p) H))) := by subst h; exact call_tuple_of
theorem opInL (K : PySem.W.Frag) (h : X.K = K := by rfl) : OpR X (compareOp .In) (rIn K false) := by subst h; exact op_in_seq
theorem opNotInL (K : PySem.W.Frag) (h : X.K = K := by rfl) : OpR X (compareOp .NotIn) (rIn K true) := by subst h; exact op_notIn_seq
end
end Ew
set_option Elab.async false
set_option linter.all false
set_option maxRecDepth 100000
set_option maxHeartbeats 1000000
/-! is_name, is_number, is_value, is_term -/
namespace Ew
open PySem PySem.Spec PyProof.Rows L2
/-- a name of one small letter -/
def NmOk (x : Str) : Prop := ∃ c, x = ⟨#[c]⟩ ∧ c ∈ ("abcdefghijklmnopqrstuvwxyz" : Str).cps.toList
theorem nms_ok {x : Str} (h : x ∈ Nms) : NmOk x := by
  simp only [Nms, List.mem_cons, List.not_mem_nil, or_false] at h
  rcases h with rfl | rfl | rfl | rfl
  · exact ⟨120, rfl, by decide +kernel⟩
  · exact ⟨121, rfl, by decide +kernel⟩
  · exact ⟨122, rfl, by decide +kernel⟩
  · exact ⟨117, rfl, by decide +kernel⟩
theorem e_ok : NmOk "e" := ⟨101, rfl, by decide +kernel⟩
theorem p_ok : NmOk "p" := ⟨112, rfl, by decide +kernel⟩
section
variable {P : Program} {w : World} {K : PySem.W.Frag} {mg : Str → Option Value} {base : Heap} {C D : Addr}
def spIsName : Sp := fun vs H Q _ => ∃ x : Str, vs = [.str x] ∧ NmOk x ∧ ∀ H', Ex H H' → Q (.bl true) H'
theorem sc_isName : FnScope ["thing", "sign"] ["thing"] (defScope sIsName) := ⟨rfl, rfl, rfl, by decide +kernel, rfl, by decide +kernel, by decide +kernel⟩
theorem ok_isName (T : Txt K mg C D) : Cal P w K mg base 1 "is_name" spIsName := by
  refine cal_of T.fIsName (fun _ _ _ _ _ _ us hl => match us, hl with | [_], _ => rfl) sc_isName (fun vs H Q E h => ?_) (fun f cdv A outer s H vs Q E hr h => ?_)
  · obtain ⟨x, rfl, _⟩ := h
    rfl
  · obtain ⟨x, rfl, ⟨c, rfl, hc⟩, k⟩ := h
    obtain ⟨t12, h12⟩ := T.cNam
    obtain ⟨tl, hlet⟩ := T.cLet
    refine ⟨_, pss_cons (ps_if (PW.pt (pw_or (pt_not (pt_val (pe_callB call_isi (by rfl) T.n_isinstance (by decide +kernel) (pa_cons (pv 0) (pa_cons (pe_bltn (v := .ty "str") (u := .type "str") (by rfl) T.n_str (by decide +kernel) rfl) pa_nil)))))
        (pw_or1 (pt_not (pt_chain op_le op_le pe_int (pe_callB call_len_str (by rfl) T.n_len (by decide +kernel) (pa_cons (pv 0) pa_nil)) (pe_glob (v := .int 12) (by rfl) h12 ⟨_, rfl⟩))))))
        (pss_one (ps_ret pe_bl)) pss_nil)
      (pss_one (ps_ret (pe_callB (cr_all rfl) (by rfl) T.n_all (by decide +kernel) (pa_cons (pe_lc (own := [("sign", 1)]) (g := gName 1) (tt := tYes) rfl sc_isName.nd (pi_str (pv 0))
        (blkOk_by (N := ["thing", "sign"]) (sc := defScope sIsName) (by decide +kernel)) (fun _ _ _ _ _ => pg_name (i := 1) sc_isName.nd rfl (Or.inl rfl)) (fun _ _ _ _ _ => pts_nil)
        (fun _ _ _ _ _ => pe_cmpR op_in_sign (pv 1) (pe_glob (v := .str "abcdefghijklmnopqrstuvwxyz") (by rfl) hlet ⟨_, rfl⟩) (by rfl))) pa_nil)))), ?_⟩
    refine ⟨_, rfl, .str _, .ty "str", .type "str", .type "str", true, rfl, .ty _, .base (.str _), kit_ty (by decide +kernel), true, rfl, ?_⟩
    refine iteF ⟨_, rfl, _, rfl, (by show 1 ≤ sizeLine; decide), _, _, rfl, rfl, _, rfl, ?_⟩
    refine iteT ⟨_, _, rfl, rfl, _, rfl, ?_⟩
    refine iteF ⟨_, rfl, _, rfl, fun L nL => ?_⟩
    refine lc_map walk_str S0 (fun _ => True) (fun _ _ y => y = .bl true) nL (by show 1 ≤ sizeLine; decide) (fun z => z) trivial (fun _ _ _ _ _ => trivial) (fun _ _ _ _ => trivial) (fun _ _ _ _ _ e => e) ?_ ?_
    · rintro i x H1 H2 hi _ _ _ ⟨rfl, c', hc', rfl⟩ Q' hQ
      have e : c' = c := by
        have hi0 : i = 0 := by have : i < 1 := hi; omega
        subst hi0
        exact (Option.some.inj hc').symm
      subst e
      refine ⟨rfl, _, rfl, _, _, rfl, rfl, hQ _ _ ExS.refl TK.refl trivial ?_⟩
      rw [decide_eq_true hc]
    · intro H1 ys _ hE _ hL hl hR
      have hy : ys = [V.bl true] := by
        match ys, hl, hR with
        | [y], _, hR => rw [hR 0 y rfl]
      subst hy
      exact ⟨L, [true], rfl, SqL.of hL, k _ hE.ex⟩
/-! is_number -/
def isNum : L2.Key → Bool
  | .inl _ => true
  | .inr _ => false
def spIsNumber : Sp := fun vs H Q _ => ∃ k : L2.Key, vs = [L2.kV k] ∧ ∀ H', Ex H H' → Q (.bl (isNum k)) H'
theorem sc_isNumber : FnScope ["thing"] ["thing"] (defScope sIsNumber) := ⟨rfl, rfl, rfl, by decide +kernel, rfl, by decide +kernel, by decide +kernel⟩
theorem ok_isNumber (T : Txt K mg C D) : Cal P w K mg base 1 "is_number" spIsNumber := by
  refine cal_of T.fIsNumber (fun _ _ _ _ _ _ us hl => match us, hl with | [_], _ => rfl) sc_isNumber (fun vs H Q E h => ?_) (fun f cdv A outer s H vs Q E hr h => ?_)
  · obtain ⟨x, rfl, _⟩ := h
    rfl
  · obtain ⟨x, rfl, k⟩ := h
    refine ⟨_, pss_one (ps_ret (pe_and (pe_callB call_isi (by rfl) T.n_isinstance (by decide +kernel) (pa_cons (pv 0) (pa_cons (pe_bltn (v := .ty "int") (u := .type "int") (by rfl) T.n_int (by decide +kernel) rfl) pa_nil)))
      (pe_one (pe_not (pe_callB call_isi (by rfl) T.n_isinstance (by decide +kernel) (pa_cons (pv 0) (pa_cons (pe_bltn (v := .ty "bool") (u := .type "bool") (by rfl) T.n_bool (by decide +kernel) rfl) pa_nil))))))), ?_⟩
    cases x with
    | inl i =>
      refine ⟨_, rfl, .int i, .ty "int", .type "int", .type "int", true, rfl, .ty _, .base (.int _), kit_ty (by decide +kernel), true, rfl, ?_⟩
      refine iteT ⟨_, rfl, .int i, .ty "bool", .type "int", .type "bool", false, rfl, .ty _, .base (.int _), kit_ty (by decide +kernel), false, rfl, ?_⟩
      exact k H Ex.refl
    | inr z =>
      refine ⟨_, rfl, .str z, .ty "int", .type "str", .type "int", false, rfl, .ty _, .base (.str _), kit_ty (by decide +kernel), false, rfl, ?_⟩
      exact iteF (k H Ex.refl)
/-! is_value -/
def VlOk : L2.Key → Prop
  | .inl _ => True
  | .inr x => x = "a"
theorem vls_ok {k : L2.Key} (h : k ∈ Vls) : VlOk k := by
  simp only [Vls, List.mem_cons, List.not_mem_nil, or_false] at h
  rcases h with rfl | rfl | rfl <;> first | exact True.intro | exact (rfl : ("a" : Str) = "a")
def spIsValue : Sp := fun vs H Q _ => ∃ k : L2.Key, vs = [L2.kV k] ∧ VlOk k ∧ ∀ H', Ex H H' → Q (.bl true) H'
theorem sc_isValue : FnScope ["thing", "sign"] ["thing"] (defScope sIsValue) := ⟨rfl, rfl, rfl, by decide +kernel, rfl, by decide +kernel, by decide +kernel⟩
theorem ok_isValue (T : Txt K mg C D) : Cal P w K mg base 2 "is_value" spIsValue := by
  refine cal_of T.fIsValue (fun _ _ _ _ _ _ us hl => match us, hl with | [_], _ => rfl) sc_isValue (fun vs H Q E h => ?_) (fun f cdv A outer s H vs Q E hr h => ?_)
  · obtain ⟨x, rfl, _⟩ := h
    rfl
  · obtain ⟨x, rfl, ok, k⟩ := h
    obtain ⟨t20, h20⟩ := T.cVal
    have GN : Cal P w K mg base 1 "is_number" spIsNumber := ok_isNumber T
    refine ⟨_, pss_cons (ps_if (pt_not (pt_val (pe_callB call_isi (by rfl) T.n_isinstance (by decide +kernel) (pa_cons (pv 0) (pa_cons (pe_bltn (v := .ty "str") (u := .type "str") (by rfl) T.n_str (by decide +kernel) rfl) pa_nil)))))
        (pss_one (ps_ret (pe_c GN hr (by decide) (by rfl) (pa_cons (pv 0) pa_nil)))) pss_nil)
      (pss_cons (ps_if (pt_cmpR op_gt (pe_callB call_len_str (by rfl) T.n_len (by decide +kernel) (pa_cons (pv 0) pa_nil)) (pe_glob (v := .int 20) (by rfl) h20 ⟨_, rfl⟩) (nomark _)) (pss_one (ps_ret pe_bl)) pss_nil)
      (pss_one (ps_ret (pe_callB (cr_all rfl) (by rfl) T.n_all (by decide +kernel) (pa_cons (pe_lc (own := [("sign", 1)]) (g := gName 1) (tt := tYes) rfl sc_isValue.nd (pi_str (pv 0))
        (blkOk_by (N := ["thing", "sign"]) (sc := defScope sIsValue) (by decide +kernel)) (fun _ _ _ _ _ => pg_name (i := 1) sc_isValue.nd rfl (Or.inl rfl)) (fun _ _ _ _ _ => pts_nil)
        (fun _ _ _ _ _ => pe_or (pe_chain op_le_str op_le_str pe_str (pv 1) pe_str) (pe_one (pe_chain op_le_str op_le_str pe_str (pv 1) pe_str)))) pa_nil))))), ?_⟩
    cases x with
    | inl i =>
      refine ⟨_, rfl, .int i, .ty "str", .type "int", .type "str", false, rfl, .ty _, .base (.int _), kit_ty (by decide +kernel), false, rfl, ?_⟩
      exact iteT ⟨_, rfl, Sum.inl i, rfl, k⟩
    | inr z =>
      cases (show z = "a" from ok)
      refine ⟨_, rfl, .str "a", .ty "str", .type "str", .type "str", true, rfl, .ty _, .base (.str _), kit_ty (by decide +kernel), true, rfl, ?_⟩
      refine iteF ⟨_, rfl, _, rfl, (by decide +kernel), _, _, rfl, rfl, _, rfl, ?_⟩
      refine iteF ⟨_, rfl, _, rfl, fun L nL => ?_⟩
      refine lc_map walk_str S0 (fun _ => True) (fun _ _ y => y = .bl true) nL (by decide +kernel) (fun z => z) trivial (fun _ _ _ _ _ => trivial) (fun _ _ _ _ => trivial) (fun _ _ _ _ _ e => e) ?_ ?_
      · rintro i x H1 H2 hi _ _ _ ⟨rfl, c', hc', rfl⟩ Q' hQ
        have e : c' = 97 := by
          have hi0 : i = 0 := by have : i < 1 := hi; omega
          subst hi0
          exact (Option.some.inj hc').symm
        subst e
        refine ⟨rfl, _, rfl, _, _, rfl, rfl, true, rfl, ?_⟩
        refine iteT ⟨_, _, rfl, rfl, false, rfl, ?_⟩
        refine iteF ⟨_, rfl, _, _, rfl, rfl, true, rfl, ?_⟩
        exact iteT ⟨_, _, rfl, rfl, hQ _ _ ExS.refl TK.refl trivial rfl⟩
      · intro H1 ys _ hE _ hL hl hR
        have hy : ys = [V.bl true] := by
          match ys, hl, hR with
          | [y], _, hR => rw [hR 0 y rfl]
        subst hy
        exact ⟨L, [true], rfl, SqL.of hL, k _ hE.ex⟩
/-! is_term -/
def spIsTerm : Sp := fun vs H Q _ => ∃ (v : V) (t : Tm), vs = [v] ∧ At H (tmK t) v ∧ TmOk t ∧ ∀ H', Ex H H' → Q (.bl true) H'
theorem sc_isTerm : FnScope ["term"] ["term"] (defScope sIsTerm) := ⟨rfl, rfl, rfl, by decide +kernel, rfl, by decide +kernel, by decide +kernel⟩
theorem ok_isTerm (T : Txt K mg C D) : Cal P w K mg base 3 "is_term" spIsTerm := by
  refine cal_of T.fIsTerm (fun _ _ _ _ _ _ us hl => match us, hl with | [_], _ => rfl) sc_isTerm (fun vs H Q E h => ?_) (fun f cdv A outer s H vs Q E hr h => ?_)
  · obtain ⟨x, _, rfl, _⟩ := h
    rfl
  · obtain ⟨v, t, rfl, ht, ok, k⟩ := h
    obtain ⟨a, rfl, ha⟩ := at_tm.mp ht
    have GN : Cal P w K mg base 1 "is_name" spIsName := ok_isName T
    have GV : Cal P w K mg base 2 "is_value" spIsValue := ok_isValue T
    refine ⟨_, pss_cons (ps_if (PW.pt (pw_or (pt_not (pt_val (pe_callB call_isi (by rfl) T.n_isinstance (by decide +kernel) (pa_cons (pv 0) (pa_cons (pe_bltn (v := .ty "tuple") (u := .type "tuple") (by rfl) T.n_tuple (by decide +kernel) rfl) pa_nil)))))
        (pw_or1 (pt_cmpR op_ne (pe_callB call_len_seq (by rfl) T.n_len (by decide +kernel) (pa_cons (pv 0) pa_nil)) pe_int (nomark _)))))
        (pss_one (ps_ret pe_bl)) pss_nil)
      (pss_one (ps_ret (pe_or (pe_and (pe_cmpR op_eq (pe_ix ix_tup (pv 0) pe_int (fun _ _ => rfl)) pe_str (nomark _)) (pe_one (pe_c GN hr (by decide) (by rfl) (pa_cons (pe_ix ix_tup (pv 0) pe_int (fun _ _ => rfl)) pa_nil))))
        (pe_one (pe_and (pe_cmpR op_eq (pe_ix ix_tup (pv 0) pe_int (fun _ _ => rfl)) pe_str (nomark _)) (pe_one (pe_c GV hr (by decide) (by rfl) (pa_cons (pe_ix ix_tup (pv 0) pe_int (fun _ _ => rfl)) pa_nil)))))))), ?_⟩
    refine ⟨_, rfl, .ref a, .ty "tuple", .type "tuple", .type "tuple", true, rfl, .ty _, .base (.tup ha), kit_ty (by decide +kernel), true, rfl, ?_⟩
    refine iteF ⟨_, rfl, a, _, rfl, .inr (SqT.of ha), rfl, _, rfl, ?_⟩
    refine iteF ⟨_, rfl, a, _, _, _, rfl, rfl, SqT.of ha, rfl, rfl, _, rfl, ?_⟩
    cases t with
    | var x =>
      refine iteT ⟨_, rfl, a, _, _, _, rfl, rfl, SqT.of ha, rfl, x, rfl, nms_ok ok, fun H1 e1 => ⟨true, rfl, ?_⟩⟩
      exact iteT (k _ e1)
    | val v =>
      refine iteF ⟨false, rfl, ?_⟩
      refine iteF ⟨_, rfl, a, _, _, _, rfl, rfl, SqT.of ha, rfl, rfl, _, rfl, ?_⟩
      exact iteT ⟨_, rfl, a, _, _, _, rfl, rfl, SqT.of ha, rfl, v, rfl, vls_ok ok, k⟩
end
end Ew
set_option Elab.async false
set_option linter.all false
set_option maxRecDepth 100000
set_option maxHeartbeats 1000000
/-! maps from names to terms; put_terms, and the law's own -/
namespace Ew
open PySem PySem.Spec PyProof.Rows L2
/-- what a map says of a name -/
def lk {α : Type} (m : List (Str × α)) (x : Str) : Option α := (m.find? fun e => decide (e.1 = x)).map (·.2)
def ap (m : List (Str × Tm)) : Tm → Tm
  | .var x => (lk m x).getD (.var x)
  | .val k => .val k
abbrev entT (e : Str × Addr × Tm) : L2.Key × V := (Sum.inr e.1, V.ref e.2.1)
abbrev mapT (e : Str × Addr × Tm) : Str × Tm := (e.1, e.2.2)
/-- at a stands a dict: the map m -/
def MpAt (H : Hp) (a : Addr) (m : List (Str × Tm)) : Prop := ∃ es : List (Str × Addr × Tm), m = es.map mapT ∧ H a = some (.dK (es.map entT)) ∧ ∀ e ∈ es, At H (tmK e.2.2) (.ref e.2.1)
theorem MpAt.ex {H H' : Hp} {a : Addr} {m : List (Str × Tm)} (h : MpAt H a m) (k : Ex H H') : MpAt H' a m := by
  obtain ⟨es, e, ha, hk⟩ := h
  exact ⟨es, e, k _ _ ha, fun x hx => At.mono k.tk _ _ (hk x hx)⟩
theorem MpAt.mono {H H' : Hp} {a : Addr} {m : List (Str × Tm)} (h : MpAt H a m) (k : TK H H') (e : ∀ o, H a = some o → H' a = some o) : MpAt H' a m := by
  obtain ⟨es, e1, ha, hk⟩ := h
  exact ⟨es, e1, e _ ha, fun x hx => At.mono k _ _ (hk x hx)⟩
theorem lk_es {H : Hp} {x : Str} : ∀ {es : List (Str × Addr × Tm)}, (∀ e ∈ es, At H (tmK e.2.2) (.ref e.2.1)) →
    (∀ t, lk (es.map mapT) x = some t → ∃ b, valV (es.map entT) (Sum.inr x : L2.Key) = some (.ref b) ∧ At H (tmK t) (.ref b)) ∧ (lk (es.map mapT) x = none → valV (es.map entT) (Sum.inr x : L2.Key) = none)
  | [], _ => ⟨fun t h => by simp [lk] at h, fun _ => rfl⟩
  | e :: es, h => by
    have ih := lk_es (x := x) (es := es) fun f hf => h f (List.mem_cons_of_mem _ hf)
    rw [List.map_cons, List.map_cons]
    by_cases q : e.1 = x
    · have q2 : (entT e).1 = (Sum.inr x : L2.Key) := by rw [← q]
      have e1 : lk (mapT e :: es.map mapT) x = some e.2.2 := by simp [lk, mapT, q]
      rw [valV_pos q2, e1]
      exact ⟨fun t ht => by cases ht; exact ⟨_, rfl, h e List.mem_cons_self⟩, fun z => by cases z⟩
    · have q2 : ¬ (entT e).1 = (Sum.inr x : L2.Key) := fun z => q (Sum.inr.inj z)
      have e1 : lk (mapT e :: es.map mapT) x = lk (es.map mapT) x := by simp [lk, mapT, q]
      rw [valV_neg q2, e1]
      exact ih
theorem MpAt.get {H : Hp} {a : Addr} {m : List (Str × Tm)} (h : MpAt H a m) {x : Str} {t : Tm} (e : lk m x = some t) : ∃ b, DGet H a (.str x) (some (.ref b)) ∧ At H (tmK t) (.ref b) := by
  obtain ⟨es, rfl, ha, hk⟩ := h
  obtain ⟨b, h1, h2⟩ := (lk_es hk).1 t e
  refine ⟨b, ?_, h2⟩
  rw [← h1]
  exact DGet.k (k := Sum.inr x) ha
/-- terms put in, in the heap -/
theorem ats_ap {H : Hp} {f : Tm → Tm} : ∀ {ts : List Tm} {ys : List V}, ys.length = ts.length → (∀ (i : Nat) (y : V), ys[i]? = some y → ∃ t, ts[i]? = some t ∧ At H (tmK (f t)) y) → Ats H ((ts.map f).map tmK) ys
  | [], [], _, _ => rfl
  | [], _ :: _, h, _ => by simp at h
  | _ :: _, [], h, _ => by simp at h
  | t :: ts, y :: ys, h, g => by
    obtain ⟨t', e, hy⟩ := g 0 y rfl
    cases e
    exact ⟨y, ys, rfl, hy, ats_ap (by simpa using h) fun i z hz => g (i + 1) z hz⟩
theorem ats_of {α : Type} {H : Hp} {f : α → NK} : ∀ {ts : List α} {ys : List V}, ys.length = ts.length → (∀ (i : Nat) (y : V), ys[i]? = some y → ∃ t, ts[i]? = some t ∧ At H (f t) y) → Ats H (ts.map f) ys
  | [], [], _, _ => rfl
  | [], _ :: _, h, _ => by simp at h
  | _ :: _, [], h, _ => by simp at h
  | t :: ts, y :: ys, h, g => by
    obtain ⟨t', e, hy⟩ := g 0 y rfl
    cases e
    exact ⟨y, ys, rfl, hy, ats_of (by simpa using h) fun i z hz => g (i + 1) z hz⟩
theorem Ats.at {α : Type} {H : Hp} {f : α → NK} {ts : List α} {xs : List V} {i : Nat} {v : V} (h : Ats H (ts.map f) xs) (e : xs[i]? = some v) : ∃ t, ts[i]? = some t ∧ At H (f t) v := by
  obtain ⟨k, e1, e2⟩ := h.get' e
  rw [List.getElem?_map] at e1
  cases q : ts[i]? with
  | none => rw [q] at e1; cases e1
  | some t =>
    rw [q] at e1
    cases e1
    exact ⟨t, rfl, e2⟩
section
variable {P : Program} {w : World} {K : PySem.W.Frag} {mg : Str → Option Value} {base : Heap} {C D : Addr}
/-- terms in which the names are put in -/
def spPut : Sp := fun vs H Q _ => ∃ (v : V) (a : Addr) (ts : List Tm) (m : List (Str × Tm)), vs = [v, .ref a] ∧ At H (.tup (ts.map tmK)) v ∧ MpAt H a m ∧ ts.length ≤ 1000 ∧ (∀ x, .var x ∈ ts → (lk m x).isSome = true) ∧
  ∀ (H' : Hp) (u : V), Ex H H' → At H' (.tup ((ts.map (ap m)).map tmK)) u → Q u H'
theorem sc_putTerms : FnScope ["terms", "table", "term"] ["terms", "table"] (defScope sPutTerms) := ⟨rfl, rfl, rfl, by decide +kernel, rfl, by decide +kernel, by decide +kernel⟩
theorem ok_putTerms (T : Txt K mg C D) : Cal P w K mg base 1 "put_terms" spPut := by
  refine cal_of T.fPutTerms (fun _ _ _ _ _ _ us hl => match us, hl with | [_, _], _ => rfl) sc_putTerms (fun vs H Q E h => ?_) (fun f cdv A outer s H vs Q E hr h => ?_)
  · obtain ⟨v, a, ts, m, rfl, _⟩ := h
    rfl
  · obtain ⟨v, a, ts, m, rfl, hv, hm, hlen, hx, k⟩ := h
    obtain ⟨b, xs, rfl, hb, hts⟩ := hv
    have hl : xs.length = ts.length := by rw [hts.length, List.length_map]
    refine ⟨_, pss_one (ps_ret (pe_callTy call_tuple_of (by rfl) T.n_tuple (by decide +kernel) (pa_cons (pe_lc (own := [("term", 2)]) (g := gName 2) (tt := tYes) rfl sc_putTerms.nd (pi_tup (pv 0))
        (blkOk_by (N := ["terms", "table", "term"]) (sc := defScope sPutTerms) (by decide +kernel)) (fun _ _ _ _ _ => pg_name (i := 2) sc_putTerms.nd rfl (Or.inl rfl)) (fun _ _ _ _ _ => pts_nil)
        (fun _ _ _ _ _ => pe_ifExp (pt_cmpR op_eq (pe_ix (ixT K) (pv 2) pe_int (fun _ _ => rfl)) pe_str (nomark _)) (pe_dget (hu_of hr) (pv 1) (pe_ix (ixT K) (pv 2) pe_int (fun _ _ => rfl)) (fun _ _ => rfl)) (pv 2))) pa_nil))), ?_⟩
    refine ⟨_, rfl, b, rfl, ⟨_, SqT.of hb⟩, fun L nL => ?_⟩
    refine lc_map (walk_tup (xs := xs)) S0 (fun _ => True) (fun H1 i y => ∃ t, ts[i]? = some t ∧ At H1 (tmK (ap m t)) y) nL (by have := small1000 (n := xs.length) (by omega); omega) (fun z => z) trivial (fun _ _ _ _ _ => trivial) (fun H1 _ hE _ => SqT.of (hE.ex _ _ hb)) (fun _ _ _ _ kk ⟨t, h1, h2⟩ => ⟨t, h1, At.mono kk _ _ h2⟩) ?_ ?_
    · rintro i x H1 H2 hi _ hE hT ⟨rfl, hxi⟩ Q' hQ
      obtain ⟨t, hti, htx⟩ := hts.at hxi
      have htx1 := At.mono hT _ _ htx
      obtain ⟨c, rfl, hc⟩ := at_tm.mp htx1
      refine ⟨rfl, _, rfl, c, _, _, _, rfl, rfl, SqT.of hc, rfl, rfl, _, rfl, ?_⟩
      cases t with
      | var y =>
        have hs := hx y (List.mem_of_getElem? hti)
        obtain ⟨u, hu⟩ := Option.isSome_iff_exists.mp hs
        obtain ⟨b', hg, hb'⟩ := (hm.ex hE.ex).get hu
        refine iteT ⟨_, rfl, _, rfl, c, _, _, _, rfl, rfl, SqT.of hc, rfl, a, _, rfl, hg, ?_⟩
        refine hQ _ _ ExS.refl TK.refl trivial ⟨_, hti, ?_⟩
        show At H2 (tmK ((lk m y).getD (.var y))) (.ref b')
        rw [hu]
        exact hb'
      | val y =>
        refine iteF ⟨_, rfl, hQ _ _ ExS.refl TK.refl trivial ⟨_, hti, htx1⟩⟩
    · intro H1 ys _ hE hT hL hly hR
      refine ⟨L, ys, rfl, .inl ⟨SqL.of hL, fun q nq => k _ _ (hE.ex.trans (Ex.new nq)) ⟨q, ys, rfl, upd_same, ?_⟩⟩⟩
      exact Ats.mono (tk_new nq) _ _ (ats_ap (by omega) hR)
theorem sc_lawPutIn : FnScope ["_law_terms", "_law_table", "_law_term_here"] ["_law_terms", "_law_table"] (defScope sLawPutIn) := ⟨rfl, rfl, rfl, by decide +kernel, rfl, by decide +kernel, by decide +kernel⟩
theorem ok_lawPutIn (T : Txt K mg C D) : Cal P w K mg base 1 "_law_put_in" spPut := by
  refine cal_of T.fLawPutIn (fun _ _ _ _ _ _ us hl => match us, hl with | [_, _], _ => rfl) sc_lawPutIn (fun vs H Q E h => ?_) (fun f cdv A outer s H vs Q E hr h => ?_)
  · obtain ⟨v, a, ts, m, rfl, _⟩ := h
    rfl
  · obtain ⟨v, a, ts, m, rfl, hv, hm, hlen, hx, k⟩ := h
    obtain ⟨b, xs, rfl, hb, hts⟩ := hv
    have hl : xs.length = ts.length := by rw [hts.length, List.length_map]
    refine ⟨_, pss_one (ps_ret (pe_callTy call_tuple_of (by rfl) T.n_tuple (by decide +kernel) (pa_cons (pe_lc (own := [("_law_term_here", 2)]) (g := gName 2) (tt := tYes) rfl sc_lawPutIn.nd (pi_tup (pv 0))
        (blkOk_by (N := ["_law_terms", "_law_table", "_law_term_here"]) (sc := defScope sLawPutIn) (by decide +kernel)) (fun _ _ _ _ _ => pg_name (i := 2) sc_lawPutIn.nd rfl (Or.inl rfl)) (fun _ _ _ _ _ => pts_nil)
        (fun _ _ _ _ _ => pe_ifExp (pt_cmpR op_eq (pe_ix (ixT K) (pv 2) pe_int (fun _ _ => rfl)) pe_str (nomark _)) (pe_dget (hu_of hr) (pv 1) (pe_ix (ixT K) (pv 2) pe_int (fun _ _ => rfl)) (fun _ _ => rfl)) (pv 2))) pa_nil))), ?_⟩
    refine ⟨_, rfl, b, rfl, ⟨_, SqT.of hb⟩, fun L nL => ?_⟩
    refine lc_map (walk_tup (xs := xs)) S0 (fun _ => True) (fun H1 i y => ∃ t, ts[i]? = some t ∧ At H1 (tmK (ap m t)) y) nL (by have := small1000 (n := xs.length) (by omega); omega) (fun z => z) trivial (fun _ _ _ _ _ => trivial) (fun H1 _ hE _ => SqT.of (hE.ex _ _ hb)) (fun _ _ _ _ kk ⟨t, h1, h2⟩ => ⟨t, h1, At.mono kk _ _ h2⟩) ?_ ?_
    · rintro i x H1 H2 hi _ hE hT ⟨rfl, hxi⟩ Q' hQ
      obtain ⟨t, hti, htx⟩ := hts.at hxi
      have htx1 := At.mono hT _ _ htx
      obtain ⟨c, rfl, hc⟩ := at_tm.mp htx1
      refine ⟨rfl, _, rfl, c, _, _, _, rfl, rfl, SqT.of hc, rfl, rfl, _, rfl, ?_⟩
      cases t with
      | var y =>
        have hs := hx y (List.mem_of_getElem? hti)
        obtain ⟨u, hu⟩ := Option.isSome_iff_exists.mp hs
        obtain ⟨b', hg, hb'⟩ := (hm.ex hE.ex).get hu
        refine iteT ⟨_, rfl, _, rfl, c, _, _, _, rfl, rfl, SqT.of hc, rfl, a, _, rfl, hg, ?_⟩
        refine hQ _ _ ExS.refl TK.refl trivial ⟨_, hti, ?_⟩
        show At H2 (tmK ((lk m y).getD (.var y))) (.ref b')
        rw [hu]
        exact hb'
      | val y =>
        refine iteF ⟨_, rfl, hQ _ _ ExS.refl TK.refl trivial ⟨_, hti, htx1⟩⟩
    · intro H1 ys _ hE hT hL hly hR
      refine ⟨L, ys, rfl, .inl ⟨SqL.of hL, fun q nq => k _ _ (hE.ex.trans (Ex.new nq)) ⟨q, ys, rfl, upd_same, ?_⟩⟩⟩
      exact Ats.mono (tk_new nq) _ _ (ats_ap (by omega) hR)
end
end Ew
set_option Elab.async false
set_option linter.all false
set_option maxRecDepth 100000
set_option maxHeartbeats 1000000
/-! variables_of, numbers_in: a comprehension over the terms of all atoms -/
namespace Ew
open PySem PySem.Spec PyProof.Rows L2
theorem take_snoc {α : Type} {l : List α} {i : Nat} {x : α} (h : l[i]? = some x) : l.take (i + 1) = l.take i ++ [x] := by
  rw [List.take_add_one, h]; rfl
theorem len_fm {α β : Type} (f : α → Option β) (l : List α) : (l.filterMap f).length ≤ l.length := List.length_filterMap_le f l
theorem len_flat {β : Type} {fV : Tm → Option β} : ∀ (as : List Atom), (∀ a ∈ as, a.2.length ≤ 2) → (as.flatMap fun a => a.2.filterMap fV).length ≤ 2 * as.length
  | [], _ => Nat.zero_le _
  | a :: as, h => by
    rw [List.flatMap_cons, List.length_append, List.length_cons]
    have h1 := len_fm fV a.2
    have h2 := h a List.mem_cons_self
    have h3 := len_flat (fV := fV) as fun b hb => h b (List.mem_cons_of_mem _ hb)
    omega
theorem at_atom {H : Hp} {a : Atom} {v : V} (h : At H (atomK a) v) : ∃ b c ys, v = .ref b ∧ H b = some (.tup [.str a.1, .ref c]) ∧ H c = some (.tup ys) ∧ Ats H (a.2.map tmK) ys := by
  obtain ⟨b, x, y, rfl, hb, h1, h2⟩ := at_pair.mp h
  cases h1
  obtain ⟨c, ys, rfl, hc, h3⟩ := h2
  exact ⟨b, c, ys, rfl, hb, hc, h3⟩
theorem yes_of {σ : L2.St} {H : Hp} {F : Bool → Hp → Prop} (h : F true H) : tYes σ H F := h
theorem lc2_terms {K : PySem.W.Frag} {aa : Addr} {xs : List V} {as : List Atom} (fV : Tm → Option V) {i1 i2 i3 : Nat} {vs vs1 : List Nat} {σ : L2.St} {H1 : Hp} {D : Addr} {Qd : Hp → Prop} {tt1 : TT} {te : TE}
    (haa : H1 aa = some (.tup xs)) (hA : Ats H1 (as.map atomK) xs) (nD : H1 D = none) (ha5 : as.length ≤ 1000) (ha2 : ∀ a ∈ as, a.2.length ≤ 2)
    (hw1 : ∀ x y : V, wipe (((wipe σ vs).set i1 (some x)).set i2 (some y)) vs = wipe σ vs) (hr2 : ∀ x y : V, (((wipe σ vs).set i1 (some x)).set i2 (some y))[i2]? = some (some y))
    (hw3 : ∀ x y z : V, wipe ((wipe (((wipe σ vs).set i1 (some x)).set i2 (some y)) vs1).set i3 (some z)) vs1 = wipe (((wipe σ vs).set i1 (some x)).set i2 (some y)) vs1)
    (turn : ∀ (x y z : V) (t : Tm) (H5 : Hp), At H5 (tmK t) z → ∀ (Qn : Hp → Prop) (Qy : V → Hp → Prop), (fV t = none → ∀ H6, Ex H5 H6 → Qn H6) → (∀ u, fV t = some u → ∀ H7, Ex H5 H7 → Qy u H7) →
      tt1 ((wipe (((wipe σ vs).set i1 (some x)).set i2 (some y)) vs1).set i3 (some z)) H5 fun b H6 => if b = true then te ((wipe (((wipe σ vs).set i1 (some x)).set i2 (some y)) vs1).set i3 (some z)) H6 Qy else Qn H6)
    (done : ∀ H, Ex H1 H → H D = some (.lst (as.flatMap fun a => a.2.filterMap fV)) → Qd H) :
    ∃ W : Nat → Nat → Hp → Prop, (∃ m, W 0 m (upd H1 D (.lst []))) ∧ ∀ i m H, W i m H →
      ((Itt K aa).stop i H ∧ Qd H) ∨ ((Itt K aa).go i H ∧ ∃ Nx : Hp → Prop, (∀ H', Nx H' → ∃ m', m' < m ∧ W (i + 1) m' H') ∧ ∀ x H', (Itt K aa).yld i H x H' → gTup K 2 (gCons (gName i1) (gCons (gName i2) gNil)) x (wipe σ vs) H' fun σ2 H2 => wipe σ2 vs = wipe σ vs ∧ tYes σ2 H2 fun b H3 =>
        if b = true then iTup K (tVar i2) σ2 H3 fun J1 H4 => ∃ W1 : Nat → Nat → Hp → Prop, (∃ m, W1 0 m H4) ∧ ∀ j k H, W1 j k H →
          (J1.stop j H ∧ Nx H) ∨ (J1.go j H ∧ ∃ Nx1 : Hp → Prop, (∀ H', Nx1 H' → ∃ k', k' < k ∧ W1 (j + 1) k' H') ∧ ∀ x H', J1.yld j H x H' → gName i3 x (wipe σ2 vs1) H' fun σ3 H5 => wipe σ3 vs1 = wipe σ2 vs1 ∧ tt1 σ3 H5 fun b H6 =>
            if b = true then te σ3 H6 fun y H7 => ∃ acc, H7 D = some (.lst acc) ∧ acc.length < sizeLine ∧ Nx1 (upd H7 D (.lst (acc ++ [y]))) else Nx1 H6)
        else Nx H3) := by
  have hl : xs.length = as.length := by rw [hA.length, List.length_map]
  have line : 1000 + 1000 + 1000 < sizeLine := by rw [sizeLine_eq]; decide
  refine ⟨fun i m H => m = xs.length - i ∧ i ≤ xs.length ∧ Ex H1 H ∧ H D = some (.lst ((as.take i).flatMap fun a => a.2.filterMap fV)), ⟨xs.length, by simp, Nat.zero_le _, Ex.new nD, upd_same⟩, ?_⟩
  rintro i m H ⟨rfl, hi, hE, hD⟩
  by_cases hlt : i < xs.length
  · refine .inr ⟨⟨xs, xs[i], SqT.of (hE _ _ haa), by simp [hlt]⟩, fun H' => Ex H1 H' ∧ H' D = some (.lst ((as.take (i + 1)).flatMap fun a => a.2.filterMap fV)), fun H' p => ⟨xs.length - (i + 1), by omega, rfl, hlt, p⟩, ?_⟩
    rintro x H' ⟨rfl, hx⟩
    have hx := hx xs (SqT.of (hE _ _ haa))
    obtain ⟨a, hai, hax⟩ := hA.at hx
    obtain ⟨b, c, ys, rfl, hb, hc, hys⟩ := at_atom (At.mono hE.tk _ _ hax)
    have hly : ys.length = a.2.length := by rw [hys.length, List.length_map]
    have ha2' := ha2 a (List.mem_of_getElem? hai)
    refine ⟨b, _, rfl, SqT.of hb, rfl, _, _, rfl, _, _, rfl, rfl, hw1 _ _, ?_⟩
    refine yes_of ?_
    rw [if_pos rfl]
    refine ⟨_, hr2 _ _, c, rfl, ⟨_, SqT.of hc⟩, fun j k H2 => k = ys.length - j ∧ j ≤ ys.length ∧ TK H' H2 ∧ Ex H1 H2 ∧ H2 D = some (.lst (((as.take i).flatMap fun a => a.2.filterMap fV) ++ (a.2.take j).filterMap fV)), ⟨ys.length, by simp, Nat.zero_le _, TK.refl, hE, by simpa using hD⟩, ?_⟩
    rintro j k H2 ⟨rfl, hj, tk2, hE2, hD2⟩
    have hc2 := tk2 _ _ hc
    by_cases hjt : j < ys.length
    · have hyj : ys[j]? = some ys[j] := List.getElem?_eq_getElem hjt
      refine .inr ⟨⟨ys, ys[j], SqT.of hc2, hyj⟩, fun H3 => TK H' H3 ∧ Ex H1 H3 ∧ H3 D = some (.lst (((as.take i).flatMap fun a => a.2.filterMap fV) ++ (a.2.take (j + 1)).filterMap fV)), fun H3 p => ⟨ys.length - (j + 1), by omega, rfl, hjt, p⟩, ?_⟩
      rintro z H3 ⟨rfl, hz⟩
      have hz := hz ys (SqT.of hc2)
      obtain ⟨t, htj, htz⟩ := hys.at hz
      refine ⟨hw3 _ _ _, turn _ _ z t H3 (At.mono tk2 _ _ htz) _ _ (fun e H6 e6 => ⟨tk2.trans e6.tk, hE2.trans e6, ?_⟩) fun u e H7 e7 => ⟨_, e7 _ _ hD2, ?_, (tk2.trans e7.tk).trans (tk_lst (e7 _ _ hD2)), fun b o q => ?_, ?_⟩⟩
      · rw [e6 _ _ hD2, take_snoc htj, List.filterMap_append]
        simp [e]
      · rw [List.length_append]
        have g1 := len_flat (fV := fV) (as.take i) fun a ha => ha2 a (List.mem_of_mem_take ha)
        have g2 := len_fm fV (a.2.take j)
        rw [List.length_take] at g1 g2
        have : min i as.length ≤ as.length := Nat.min_le_right _ _
        have : min j a.2.length ≤ a.2.length := Nat.min_le_right _ _
        omega
      · rw [upd_ne (ne_of_none q nD)]
        exact e7 _ _ (hE2 _ _ q)
      · rw [upd_same, take_snoc htj, List.filterMap_append, ← List.append_assoc]
        simp [e]
    · have e : j = ys.length := by omega
      subst e
      refine .inl ⟨⟨ys, SqT.of hc2, Nat.le_refl _⟩, hE2, ?_⟩
      rw [hD2, hly, List.take_length, take_snoc hai, List.flatMap_append]
      simp
  · have e : i = xs.length := by omega
    subst e
    refine .inl ⟨⟨xs, SqT.of (hE _ _ haa), Nat.le_refl _⟩, done H hE ?_⟩
    rw [hD, hl, List.take_length]
theorem flat_vars (as : List Atom) : (as.flatMap fun a => a.2.filterMap fun t => (varOf t).map V.str) = (varsA as).map V.str := by
  unfold varsA
  induction as with
  | nil => rfl
  | cons a as ih =>
    rw [List.flatMap_cons, List.flatMap_cons, List.map_append, ih]
    congr 1
    rw [← List.filterMap_eq_map, List.filterMap_filterMap]
    congr 1
    funext t
    cases varOf t <;> rfl
/-- the integers in atoms -/
def numOf : Tm → Option Int
  | .val (.inl i) => some i
  | _ => none
def numsA (as : List Atom) : List Int := as.flatMap fun a => a.2.filterMap numOf
theorem flat_nums (as : List Atom) : (as.flatMap fun a => a.2.filterMap fun t => (numOf t).map V.int) = (numsA as).map V.int := by
  unfold numsA
  induction as with
  | nil => rfl
  | cons a as ih =>
    rw [List.flatMap_cons, List.flatMap_cons, List.map_append, ih]
    congr 1
    rw [← List.filterMap_eq_map, List.filterMap_filterMap]
    congr 1
    funext t
    cases numOf t <;> rfl
theorem RuleOk.two {r : Rule} (h : RuleOk r) : ∀ a ∈ r.2, a.2.length ≤ 2 := fun a ha => by
  obtain ⟨h1 | h1, _⟩ := h.atoms a ha <;> omega
theorem at_rule {H : Hp} {r : Rule} {v : V} (h : At H (ruleK r) v) : ∃ a hd aa xs, v = .ref a ∧ H a = some (.tup [.ref hd, .ref aa]) ∧ H hd = some (.tup (r.1.map V.str)) ∧ H aa = some (.tup xs) ∧ Ats H (r.2.map atomK) xs := by
  obtain ⟨a, x, y, rfl, ha, h1, h2⟩ := at_pair.mp h
  obtain ⟨hd, rfl, h3⟩ := at_head.mp h1
  obtain ⟨aa, xs, rfl, h4, h5⟩ := h2
  exact ⟨a, hd, aa, xs, rfl, ha, h3, h4, h5⟩
section
variable {P : Program} {w : World} {K : PySem.W.Frag} {mg : Str → Option Value} {base : Heap} {C D : Addr}
def spNumbers : Sp := fun vs H Q _ => ∃ (v : V) (r : Rule), vs = [v] ∧ At H (ruleK r) v ∧ RuleOk r ∧ ∀ (H' : Hp) (l : Addr), Ex H H' → H' l = some (.lst ((numsA r.2).map V.int)) → Q (.ref l) H'
theorem sc_numbersIn : FnScope ["rule", "_", "terms", "term"] ["rule"] (defScope sNumbersIn) := ⟨rfl, rfl, rfl, by decide +kernel, rfl, by decide +kernel, by decide +kernel⟩
theorem ok_numbersIn (T : Txt K mg C D) : Cal P w K mg base 2 "numbers_in" spNumbers := by
  refine cal_of T.fNumbersIn (fun _ _ _ _ _ _ us hl => match us, hl with | [_], _ => rfl) sc_numbersIn (fun vs H Q E h => ?_) (fun f cdv A outer s H vs Q E hr h => ?_)
  · obtain ⟨v, r, rfl, _⟩ := h
    rfl
  · obtain ⟨v, r, rfl, hv, ok, k⟩ := h
    obtain ⟨a, hd, aa, xs, rfl, ha, hh, haa, hA⟩ := at_rule hv
    have GN : Cal P w K mg base 1 "is_number" spIsNumber := ok_isNumber T
    refine ⟨_, pss_one (ps_ret (pe_lc2 (own := [("_", 1), ("terms", 2), ("term", 3)]) (vs1 := [3]) (g := gTup K 2 (gCons (gName 1) (gCons (gName 2) gNil))) (g1 := gName 3) (tt := tYes) rfl sc_numbersIn.nd (pi_tup (pe_ix (ixT K) (pv 0) pe_int (fun _ _ => rfl)))
        (blkOk_by (N := ["rule", "_", "terms", "term"]) (sc := defScope sNumbersIn) (by decide +kernel)) (by decide)
        (fun _ _ _ _ _ => pgT K rfl (pgs_cons (pg_name (i := 1) sc_numbersIn.nd rfl (Or.inl rfl)) (pgs_cons (pg_name (i := 2) sc_numbersIn.nd rfl (Or.inl rfl)) pgs_nil))) (fun _ _ _ _ _ => pts_nil)
        (fun _ _ _ _ _ => piT K (pv 2)) (fun _ _ _ _ _ => pg_name (i := 3) sc_numbersIn.nd rfl (Or.inl rfl))
        (fun _ _ _ _ _ => pts_one (PW.pt (pw_and (pt_cmpR op_eq (pe_ix (ixT K) (pv 3) pe_int (fun _ _ => rfl)) pe_str (nomark _)) (pw_and1 (pt_val (pe_c (X := Cx.blk _ _ _ _ _ _) GN hr (by decide) (by rfl) (pa_cons (pe_ix (ixT K) (pv 3) pe_int (fun _ _ => rfl)) pa_nil)))))))
        (fun _ _ _ _ _ => pe_ix (ixT K) (pv 3) pe_int (fun _ _ => rfl)))), ?_⟩
    refine ⟨_, rfl, a, _, _, _, rfl, rfl, SqT.of ha, rfl, aa, rfl, ⟨_, SqT.of haa⟩, fun L nL => ?_⟩
    refine lc2_terms (fun t => (numOf t).map V.int) haa hA nL (by have := ok.high; omega) ok.two (fun _ _ => rfl) (fun _ _ => rfl) (fun _ _ _ => rfl) ?_ fun H1 e1 h1 => k H1 L e1 (by rw [h1, flat_nums])
    intro x y z t H5 ht Qn Qy hn hy
    obtain ⟨b, rfl, hb⟩ := at_tm.mp ht
    refine ⟨_, rfl, b, _, _, _, rfl, rfl, SqT.of hb, rfl, rfl, _, rfl, ?_⟩
    cases t with
    | var x => exact iteF (iteF (hn rfl H5 Ex.refl))
    | val v =>
      refine iteT ⟨_, rfl, b, _, _, _, rfl, rfl, SqT.of hb, rfl, v, rfl, fun H6 e6 => ⟨_, rfl, ?_⟩⟩
      cases v with
      | inl i => exact iteT ⟨_, rfl, b, _, _, _, rfl, rfl, SqT.of (e6 _ _ hb), rfl, hy (.int i) rfl H6 e6⟩
      | inr s => exact iteF (hn rfl H6 e6)
end
end Ew
set_option Elab.async false
set_option linter.all false
set_option maxRecDepth 100000
set_option maxHeartbeats 1000000
/-! variables_of -/
namespace Ew
open PySem PySem.Spec PyProof.Rows L2
/-- a dict comprehension over anything that is walked -/
theorem dc_it {J : It} {n : Nat} {G : Hp → Prop} {Y : Nat → Hp → V → Hp → Prop} (w : Walk J n G Y) {g : TG} {tt : TT} {tk tv : TE} {vs : List Nat} {σ : L2.St} {H1 : Hp} {D : Addr} {Qd : Hp → Prop} (Pv : Nat → Hp → Prop) (h0 : Pv 0 (upd H1 D (.dK [])))
    (hG : ∀ i H, i ≤ n → Pv i H → G H)
    (hs : ∀ i x H H', i < n → Pv i H → Y i H x H' → g x (wipe σ vs) H' fun σ2 H2 => wipe σ2 vs = wipe σ vs ∧ tt σ2 H2 fun b H3 =>
      if b = true then tk σ2 H3 fun y H4 => tv σ2 H4 fun z H5 => ∃ kvs k, y = L2.kV k ∧ H5 D = some (.dK kvs) ∧ kvs.length < sizeLine ∧ Pv (i + 1) (upd H5 D (.dK (putK kvs k z))) else Pv (i + 1) H3) (hd : ∀ H, Pv n H → Qd H) :
    ∃ W : Nat → Nat → Hp → Prop, (∃ m, W 0 m (upd H1 D (.dK []))) ∧ ∀ i m H, W i m H →
      (J.stop i H ∧ Qd H) ∨ (J.go i H ∧ ∃ Nx : Hp → Prop, (∀ H', Nx H' → ∃ m', m' < m ∧ W (i + 1) m' H') ∧ ∀ x H', J.yld i H x H' → g x (wipe σ vs) H' fun σ2 H2 => wipe σ2 vs = wipe σ vs ∧ tt σ2 H2 fun b H3 =>
        if b = true then tk σ2 H3 fun y H4 => tv σ2 H4 fun z H5 => ∃ kvs k, y = L2.kV k ∧ H5 D = some (.dK kvs) ∧ kvs.length < sizeLine ∧ Nx (upd H5 D (.dK (putK kvs k z))) else Nx H3) := by
  refine ⟨fun i m H => m = n - i ∧ i ≤ n ∧ Pv i H, ⟨n, by simp, Nat.zero_le _, h0⟩, ?_⟩
  rintro i m H ⟨rfl, hi, p⟩
  by_cases hlt : i < n
  · exact .inr ⟨w.goes i H hlt (hG i H hi p), Pv (i + 1), fun H' p' => ⟨n - (i + 1), by omega, rfl, hlt, p'⟩, fun x H' y => hs i x H H' hlt p (w.yields i H x H' hlt (hG i H hi p) y)⟩
  · obtain rfl : i = n := by omega
    exact .inl ⟨w.stops H (hG i H hi p), hd H p⟩
theorem valV_inr {f : Str → V} {x : Str} : ∀ {ks : List Str}, valV (ks.map fun y => ((Sum.inr y : L2.Key), f y)) (Sum.inr x) = if x ∈ ks then some (f x) else none
  | [] => rfl
  | k :: ks => by
    rw [List.map_cons]
    by_cases e : k = x
    · subst e
      rw [valV_pos rfl]
      simp
    · have e2 : ¬ (Sum.inr k : L2.Key) = Sum.inr x := fun z => e (Sum.inr.inj z)
      rw [valV_neg e2, valV_inr]
      have e3 : ¬ x = k := fun z => e z.symm
      simp [e3]
theorem putK_inr {f : Str → V} {x : Str} {ks : List Str} : putK (ks.map fun y => ((Sum.inr y : L2.Key), f y)) (Sum.inr x) (f x) = (if x ∈ ks then ks else ks ++ [x]).map fun y => ((Sum.inr y : L2.Key), f y) := by
  have hv := valV_inr (f := f) (x := x) (ks := ks)
  by_cases h : x ∈ ks
  · rw [if_pos h] at hv ⊢
    unfold putK
    rw [valV_any, hv]
    simp only [Option.isSome_some, if_true, List.map_map]
    refine List.map_congr_left fun y hy => ?_
    show (if (Sum.inr y : L2.Key) = Sum.inr x then _ else _) = _
    by_cases e : y = x
    · subst e
      rw [if_pos rfl]
    · rw [if_neg fun z => e (Sum.inr.inj z)]
  · rw [if_neg h] at hv ⊢
    rw [putK_new _ hv, List.map_append]
    rfl
section
variable {P : Program} {w : World} {K : PySem.W.Frag} {mg : Str → Option Value} {base : Heap} {C D : Addr}
def spVars : Sp := fun vs H Q _ => ∃ (v : V) (r : Rule), vs = [v] ∧ At H (ruleK r) v ∧ RuleOk r ∧ ∀ (H' : Hp) (l : Addr) (ys : List Str), Ex H H' → H l = none → H' l = some (.lst (ys.map V.str)) → ys.Nodup → (∀ x, x ∈ ys ↔ x ∈ varsA r.2) → Q (.ref l) H'
theorem sc_variablesOf : FnScope ["rule", "names", "_", "terms", "term", "name"] ["rule"] (defScope sVariablesOf) := ⟨rfl, rfl, rfl, by decide +kernel, rfl, by decide +kernel, by decide +kernel⟩
theorem varOf_ok {t : Tm} {x : Str} (h : varOf t = some x) : t = .var x := by
  cases t with
  | var y => cases h; rfl
  | val k => cases h
theorem ok_variablesOf (T : Txt K mg C D) : Cal P w K mg base 1 "variables_of" spVars := by
  refine cal_of T.fVariablesOf (fun _ _ _ _ _ _ us hl => match us, hl with | [_], _ => rfl) sc_variablesOf (fun vs H Q E h => ?_) (fun f cdv A outer s H vs Q E hr h => ?_)
  · obtain ⟨v, r, rfl, _⟩ := h
    rfl
  · obtain ⟨v, r, rfl, hv, ok, k⟩ := h
    obtain ⟨a, hd, aa, xs, rfl, ha, hh, haa, hA⟩ := at_rule hv
    refine ⟨_, pss_cons (ps_setLc2 (i := 1) (own := [("_", 2), ("terms", 3), ("term", 4)]) (vs1 := [4]) (g := gTup K 2 (gCons (gName 2) (gCons (gName 3) gNil))) (g1 := gName 4) (tt := tYes) rfl sc_variablesOf.nd rfl rfl (sw_true rfl rfl rfl (by decide +kernel))
        (pi_tup (pe_ix (ixT K) (pv 0) pe_int (fun _ _ => rfl)))
        (blkOk_by (N := ["rule", "names", "_", "terms", "term", "name"]) (sc := defScope sVariablesOf) (by decide +kernel)) (by decide)
        (fun _ _ _ _ _ => pgT K rfl (pgs_cons (pg_name (i := 2) sc_variablesOf.nd rfl (Or.inl rfl)) (pgs_cons (pg_name (i := 3) sc_variablesOf.nd rfl (Or.inl rfl)) pgs_nil))) (fun _ _ _ _ _ => pts_nil)
        (fun _ _ _ _ _ => piT K (pv 3)) (fun _ _ _ _ _ => pg_name (i := 4) sc_variablesOf.nd rfl (Or.inl rfl))
        (fun _ _ _ _ _ => pts_one (pt_cmpR op_eq (pe_ix (ixT K) (pv 4) pe_int (fun _ _ => rfl)) pe_str (nomark _)))
        (fun _ _ _ _ _ => pe_ix (ixT K) (pv 4) pe_int (fun _ _ => rfl)))
      (pss_one (ps_ret (pe_callTy (call_list_dK rfl) (by rfl) T.n_list (by decide +kernel) (pa_cons (pe_dc (own := [("name", 5)]) (g := gName 5) (tt := tYes) rfl sc_variablesOf.nd (pi_list (pv 1))
        (blkOk_by (N := ["rule", "names", "_", "terms", "term", "name"]) (sc := defScope sVariablesOf) (by decide +kernel)) (fun _ _ _ _ _ => pg_name (i := 5) sc_variablesOf.nd rfl (Or.inl rfl)) (fun _ _ _ _ _ => pts_nil)
        (fun _ _ _ _ _ => pv 5) (fun _ _ _ _ _ => pe_bl)) pa_nil)))), ?_⟩
    refine ⟨_, rfl, a, _, _, _, rfl, rfl, SqT.of ha, rfl, aa, rfl, ⟨_, SqT.of haa⟩, fun L nL => ?_⟩
    refine lc2_terms (fun t => (varOf t).map V.str) haa hA nL (by have := ok.high; omega) ok.two (fun _ _ => rfl) (fun _ _ => rfl) (fun _ _ _ => rfl) ?_ ?_
    · intro x y z t H5 ht Qn Qy hn hy
      obtain ⟨b, rfl, hb⟩ := at_tm.mp ht
      refine ⟨_, rfl, b, _, _, _, rfl, rfl, SqT.of hb, rfl, rfl, _, rfl, ?_⟩
      cases t with
      | var x => exact iteT ⟨_, rfl, b, _, _, _, rfl, rfl, SqT.of hb, rfl, hy (.str x) rfl H5 Ex.refl⟩
      | val v => exact iteF (hn rfl H5 Ex.refl)
    · intro H1 e1 h1
      rw [flat_vars] at h1
      refine ⟨_, rfl, L, rfl, ⟨_, SqL.of h1⟩, fun M nM => ?_⟩
      have neL : L ≠ M := ne_of_none h1 nM
      have hlen : (varsA r.2).length ≤ 1000 := by
        have g := len_flat (fV := varOf) r.2 ok.two
        have := ok.high
        have e : (varsA r.2).length = (r.2.flatMap fun a => a.2.filterMap varOf).length := rfl
        omega
      refine dc_it (walk_list (xs := (varsA r.2).map V.str)) (fun i H2 => ∃ ks : List Str, H2 M = some (.dK (ks.map fun y => ((Sum.inr y : L2.Key), V.bl true))) ∧ ks.Nodup ∧ (∀ x, x ∈ ks ↔ x ∈ (varsA r.2).take i) ∧ ks.length ≤ i ∧ Ex H1 H2)
        ⟨[], upd_same, List.nodup_nil, fun x => by simp, Nat.le_refl _, Ex.new nM⟩ (fun i H2 _ ⟨_, _, _, _, _, e2⟩ => SqL.of (e2 _ _ h1)) ?_ ?_
      · rintro i x H2 H3 hi ⟨ks, hM, hnd, hmem, hkl, e2⟩ ⟨rfl, hx⟩
        rw [List.getElem?_map] at hx
        rw [List.length_map] at hi
        rw [List.getElem?_eq_getElem hi] at hx
        obtain rfl := (Option.some.inj hx).symm
        have hxi : (varsA r.2)[i]? = some (varsA r.2)[i] := List.getElem?_eq_getElem hi
        generalize (varsA r.2)[i] = x0 at hxi ⊢
        refine ⟨rfl, _, rfl, _, Sum.inr x0, rfl, hM, by rw [List.length_map]; exact small1000 (by omega), if x0 ∈ ks then ks else ks ++ [x0], ?_, ?_, ?_, ?_, fun b o q => ?_⟩
        · rw [upd_same, putK_inr (f := fun _ => V.bl true)]
        · split
          · exact hnd
          · rename_i h
            exact nd_snoc hnd h
        · intro y
          rw [take_snoc hxi, List.mem_append, ← hmem y]
          split
          · rename_i h
            constructor
            · exact fun z => .inl z
            · rintro (z | z)
              · exact z
              · rw [List.mem_singleton.mp z]; exact h
          · rw [List.mem_append]
        · split
          · omega
          · rw [List.length_append, List.length_singleton]; omega
        · rw [upd_ne (ne_of_none q nM)]
          exact e2 _ _ q
      · rintro H2 ⟨ks, hM, hnd, hmem, _, e2⟩
        rw [List.length_map, List.take_length] at hmem
        refine ⟨M, _, rfl, hM, fun q nq => ?_⟩
        refine k _ q ks ((e1.trans e2).trans (Ex.new nq)) ((e1.trans e2).free nq) ?_ hnd hmem
        rw [upd_same, List.map_map]
        rfl
end
end Ew
set_option Elab.async false
set_option linter.all false
set_option maxRecDepth 100000
set_option maxHeartbeats 1000000
/-! matched, head_map -/
namespace Ew
open PySem PySem.Spec PyProof.Rows L2 RZ
/-- what becomes of a map when terms become other terms -/
def mtc : List Tm → List Tm → List (Str × Tm) → Option (List (Str × Tm))
  | .val k :: ts, o :: os, m => if Tm.val k = o then mtc ts os m else none
  | .var x :: ts, o :: os, m => match lk m x with
    | some t => if t = o then mtc ts os m else none
    | none => mtc ts os (m ++ [(x, o)])
  | _, _, m => some m
theorem MpAt.none_put {H : Hp} {a : Addr} {m : List (Str × Tm)} (h : MpAt H a m) {x : Str} (e : lk m x = none) : ∃ kvs : List (L2.Key × V), H a = some (.dK kvs) ∧ kvs.length = m.length ∧ valV kvs (Sum.inr x) = none ∧
    ∀ (t : Tm) (b : Addr), At H (tmK t) (.ref b) → MpAt (upd H a (.dK (putK kvs (Sum.inr x) (.ref b)))) a (m ++ [(x, t)]) := by
  obtain ⟨es, rfl, ha, hk⟩ := h
  have hn := (lk_es hk).2 e
  refine ⟨es.map entT, ha, by rw [List.length_map, List.length_map], hn, fun t b hb => ?_⟩
  have tk : TK H (upd H a (.dK (putK (es.map entT) (Sum.inr x) (.ref b)))) := ExB.upd.tk fun xs z => by rw [ha] at z; cases z
  refine ⟨es ++ [(x, b, t)], by rw [List.map_append]; rfl, ?_, fun e he => ?_⟩
  · rw [upd_same, putK_new _ hn, List.map_append]
    rfl
  · rcases List.mem_append.mp he with he | he
    · exact At.mono tk _ _ (hk e he)
    · rw [List.mem_singleton.mp he]
      exact At.mono tk _ _ hb
theorem MpAt.some_get {H : Hp} {a : Addr} {m : List (Str × Tm)} (h : MpAt H a m) {x : Str} {t : Tm} (e : lk m x = some t) : ∃ kvs : List (L2.Key × V), H a = some (.dK kvs) ∧ kvs.length = m.length ∧ ∃ b, valV kvs (Sum.inr x) = some (.ref b) ∧ At H (tmK t) (.ref b) := by
  obtain ⟨es, rfl, ha, hk⟩ := h
  obtain ⟨b, h1, h2⟩ := (lk_es hk).1 t e
  exact ⟨es.map entT, ha, by rw [List.length_map, List.length_map], b, h1, h2⟩
theorem tmK_tup (t : Tm) : ∃ ks, tmK t = .tup ks := by cases t <;> exact ⟨_, rfl⟩
theorem dec_tm (t o : Tm) : decide (tmK t = tmK o) = decide (t = o) := by
  by_cases e : t = o
  · subst e; simp
  · have : ¬ tmK t = tmK o := fun z => e (tmK_inj z)
    simp [e, this]
theorem ite_not {b : Bool} {A B : Prop} (h1 : b = false → A) (h2 : b = true → B) : if (!b) = true then A else B := by
  cases b
  · exact h1 rfl
  · exact h2 rfl
section
variable {P : Program} {w : World} {K : PySem.W.Frag} {mg : Str → Option Value} {base : Heap} {C D : Addr}
def spMatched : Sp := fun vs H Q _ => ∃ (v u : V) (ka : Addr) (ts os : List Tm) (m : List (Str × Tm)), vs = [v, u, .ref ka] ∧ At H (.tup (ts.map tmK)) v ∧ At H (.tup (os.map tmK)) u ∧ MpAt H ka m ∧ ts.length = os.length ∧ ts.length ≤ 100 ∧ m.length ≤ 800 ∧
  (mtc ts os m = none → ∀ H', Ex H H' → Q .non H') ∧ (∀ m', mtc ts os m = some m' → ∀ H' a', Ex H H' → H a' = none → MpAt H' a' m' → Q (.ref a') H')
theorem sc_matched : FnScope ["terms", "other", "known", "found", "term", "target"] ["terms", "other", "known"] (defScope sMatched) := ⟨rfl, rfl, rfl, by decide +kernel, rfl, by decide +kernel, by decide +kernel⟩
theorem ok_matched (T : Txt K mg C D) : Cal P w K mg base 1 "matched" spMatched := by
  refine cal_of T.fMatched (fun _ _ _ _ _ _ us hl => match us, hl with | [_, _, _], _ => rfl) sc_matched (fun vs H Q E h => ?_) (fun f cdv A outer s H vs Q E hr h => ?_)
  · obtain ⟨v, u, ka, ts, os, m, rfl, _⟩ := h
    rfl
  · obtain ⟨v, u, ka, ts, os, m, rfl, hv, hu, hm, hl, h100, h800, kn, ks⟩ := h
    obtain ⟨ta, xs, rfl, hta, hts⟩ := hv
    obtain ⟨oa, ys, rfl, hoa, hos⟩ := hu
    have lx : xs.length = ts.length := by rw [hts.length, List.length_map]
    have ly : ys.length = os.length := by rw [hos.length, List.length_map]
    refine ⟨_, pss_cons (ps_set (i := 3) sc_matched.nd rfl (Or.inl rfl) (pe_callTy call_dictD (by rfl) T.n_dict (by decide +kernel) (pa_cons (pv 2) pa_nil)))
      (pss_cons (ps_for PassesOwn.never rfl (pi_zipA (by rfl) T.n_zip (pa_cons (pv 0) (pa_cons (pv 1) pa_nil))) (pgT K rfl (pgs_cons (pg_name (i := 4) sc_matched.nd rfl (Or.inl rfl)) (pgs_cons (pg_name (i := 5) sc_matched.nd rfl (Or.inl rfl)) pgs_nil)))
        (pss_one (ps_if (pt_cmpR op_eq (pe_ix (ixT K) (pv 4) pe_int (fun _ _ => rfl)) pe_str (nomark _))
          (pss_one (ps_if (pt_cmpR (op_neK hr.units) (pv 4) (pv 5) (nomark _)) (pss_one (ps_ret pe_non)) pss_nil))
          (pss_one (ps_if (pt_cmpR (op_neK hr.units) (pe_dsetd (pv 3) (pe_ix (ixT K) (pv 4) pe_int (fun _ _ => rfl)) (pv 5) ⟨rfl, rfl, rfl, rfl⟩) (pv 5) (nomark _)) (pss_one (ps_ret pe_non)) pss_nil)))))
      (pss_one (ps_ret (pv 3)))), ?_⟩
    obtain ⟨es, hme, hka, hk⟩ := id hm
    refine ⟨_, rfl, ka, _, rfl, .inl hka, fun F nF => ?_⟩
    have hmF : MpAt (upd H F (.dK (es.map entT))) F m := ⟨es, hme, upd_same, fun e he => At.mono (tk_new nF) _ _ (hk e he)⟩
    refine ⟨_, rfl, _, rfl, ta, oa, xs, ys, rfl, .inr ⟨SqT.of ((Ex.new nF) _ _ hta), SqT.of ((Ex.new nF) _ _ hoa), ?_⟩⟩
    refine for_zipT (by omega) (fun i σ H1 => ∃ (a b : Option V) (mi : List (Str × Tm)), σ = [some (.ref ta), some (.ref oa), some (.ref ka), some (.ref F), a, b] ∧ MpAt H1 F mi ∧ mi.length ≤ m.length + i ∧ mtc ts os m = mtc (ts.drop i) (os.drop i) mi ∧ Ex H H1)
      ⟨none, none, m, rfl, hmF, Nat.le_refl _, rfl, Ex.new nF⟩ (fun i σ H1 ⟨_, _, _, _, _, _, _, e1⟩ => ⟨SqT.of (e1 _ _ hta), SqT.of (e1 _ _ hoa)⟩) ?_ ?_
    · rintro i x y Tp σ H1 hx hy ⟨a, b, mi, rfl, hmi, hml, hmt, e1⟩ nT
      obtain ⟨t, hti, htx⟩ := hts.at hx
      obtain ⟨o, hoi, hox⟩ := hos.at hy
      have e2 : Ex H1 (upd H1 Tp (.tup [x, y])) := Ex.new nT
      have e3 : Ex H (upd H1 Tp (.tup [x, y])) := e1.trans e2
      have hi : i < ts.length := (List.getElem?_eq_some_iff.mp hti).1
      have htx2 := At.mono e3.tk _ _ htx
      have hox2 := At.mono e3.tk _ _ hox
      obtain ⟨c, rfl, hc⟩ := at_tm.mp htx2
      obtain ⟨d, rfl, hd⟩ := at_tm.mp hox2
      have hdt : ts.drop i = t :: ts.drop (i + 1) := List.drop_eq_getElem?_toList_append.trans (by rw [hti]; rfl)
      have hdo : os.drop i = o :: os.drop (i + 1) := List.drop_eq_getElem?_toList_append.trans (by rw [hoi]; rfl)
      rw [hdt, hdo] at hmt
      have hmi2 := hmi.ex e2
      generalize hH2 : upd H1 Tp (.tup [V.ref c, V.ref d]) = H2 at e2 e3 htx2 hox2 hc hd hmi2 ⊢
      have hTp : H2 Tp = some (.tup [V.ref c, V.ref d]) := by rw [← hH2]; exact upd_same
      refine ⟨Tp, _, rfl, SqT.of hTp, rfl, _, _, rfl, _, _, rfl, rfl, ?_⟩
      refine ⟨_, rfl, c, _, _, _, rfl, rfl, SqT.of hc, rfl, rfl, _, rfl, ?_⟩
      have dt : (tmK t).depth ≤ 8 := by have := depth_tmK t; omega
      cases t with
      | val k =>
        refine iteT ⟨_, rfl, _, rfl, tmK (.val k), tmK o, htx2, hox2, tmK_tup _, tmK_tup _, dt, _, rfl, ?_⟩
        rw [dec_tm]
        refine ite_not (fun e => ?_) (fun e => ?_)
        · have e0 := of_decide_eq_false e
          have z : mtc ts os m = none := by rw [hmt, mtc, if_neg e0]
          exact kn z H2 e3
        · have e0 := of_decide_eq_true e
          refine ⟨_, _, mi, rfl, hmi2, by omega, ?_, e3⟩
          rw [hmt, mtc, if_pos e0]
      | var z =>
        refine iteF ?_
        refine ⟨_, rfl, F, rfl, .inl ?_, _, rfl, c, _, _, _, rfl, rfl, SqT.of hc, rfl, _, rfl, ?_⟩
        · obtain ⟨es2, _, hF2, _⟩ := hmi2
          exact ⟨_, .inl hF2⟩
        cases hz : lk mi z with
        | some t' =>
          obtain ⟨kvs, hF2, hlen, b', hb', hbt⟩ := hmi2.some_get hz
          refine ⟨kvs, Sum.inr z, hF2, rfl, by rw [hlen]; exact small1000 (by omega), fun v0 hv0 => ?_, fun hv0 => ?_⟩
          · rw [hb'] at hv0
            cases hv0
            refine ⟨_, rfl, tmK t', tmK o, hbt, hox2, tmK_tup _, tmK_tup _, (by have := depth_tmK t'; omega), _, rfl, ?_⟩
            rw [dec_tm]
            refine ite_not (fun e => ?_) (fun e => ?_)
            · have e0 := of_decide_eq_false e
              have z' : mtc ts os m = none := by rw [hmt, mtc, hz]; simp [e0]
              exact kn z' H2 e3
            · have e0 := of_decide_eq_true e
              refine ⟨_, _, mi, rfl, hmi2, by omega, ?_, e3⟩
              rw [hmt, mtc, hz]
              simp [e0]
          · rw [hb'] at hv0
            cases hv0
        | none =>
          obtain ⟨kvs, hF2, hlen, hno, hput⟩ := hmi2.none_put hz
          refine ⟨kvs, Sum.inr z, hF2, rfl, by rw [hlen]; exact small1000 (by omega), fun v0 hv0 => ?_, fun hv0 => ?_⟩
          · rw [hno] at hv0
            cases hv0
          · have hp := hput o d hox2
            have tk : TK H2 (upd H2 F (.dK (putK kvs (Sum.inr z) (.ref d)))) := ExB.upd.tk fun xs q => by rw [hF2] at q; cases q
            have hox3 := At.mono tk _ _ hox2
            refine ⟨_, rfl, tmK o, tmK o, hox3, hox3, tmK_tup _, tmK_tup _, (by have := depth_tmK o; omega), _, rfl, ?_⟩
            refine ite_not (fun e => by simp at e) (fun _ => ?_)
            refine ⟨_, _, mi ++ [(z, o)], rfl, hp, by rw [List.length_append, List.length_singleton]; omega, ?_, fun b' o' q => ?_⟩
            · rw [hmt, mtc, hz]
            · rw [upd_ne (ne_of_none q nF)]
              exact e3 _ _ q
    · rintro σ H1 ⟨a, b, mi, rfl, hmi, _, hmt, e1⟩
      have e0 : mtc ts os m = some mi := by
        rw [hmt, lx, List.drop_length]
        rfl
      exact ⟨_, rfl, ks mi e0 H1 F e1 nF hmi⟩
end
end Ew
set_option Elab.async false
set_option linter.all false
set_option maxRecDepth 100000
set_option maxHeartbeats 1000000
/-! head_map -/
namespace Ew
open PySem PySem.Spec PyProof.Rows L2 RZ
def hm (r1 r2 : Rule) : Option (List (Str × Tm)) := mtc (r1.1.map .var) (r2.1.map .var) []
section
variable {P : Program} {w : World} {K : PySem.W.Frag} {mg : Str → Option Value} {base : Heap} {C D : Addr}
/-- a comprehension that makes a term of each name -/
theorem lc_vars {hd : Addr} {ns : List Str} {i0 : Nat} {te : TE} {vs : List Nat} {σ : L2.St} {H1 : Hp} {L : Addr} {Qd : Hp → Prop} (hh : H1 hd = some (.tup (ns.map V.str))) (nL : H1 L = none) (hn : ns.length ≤ 1000)
    (hw : ∀ x : V, wipe ((wipe σ vs).set i0 (some x)) vs = wipe σ vs)
    (turn : ∀ (x : Str) (H : Hp) (Q : V → Hp → Prop), (∀ p, H p = none → Q (.ref p) (upd H p (.tup [.str "var", .str x]))) → te ((wipe σ vs).set i0 (some (.str x))) H Q)
    (done : ∀ H ys, Ex H1 H → H L = some (.lst ys) → Ats H ((ns.map Tm.var).map tmK) ys → Qd H) :
    ∃ W : Nat → Nat → Hp → Prop, (∃ m, W 0 m (upd H1 L (.lst []))) ∧ ∀ i m H, W i m H →
      ((Itt K hd).stop i H ∧ Qd H) ∨ ((Itt K hd).go i H ∧ ∃ Nx : Hp → Prop, (∀ H', Nx H' → ∃ m', m' < m ∧ W (i + 1) m' H') ∧ ∀ x H', (Itt K hd).yld i H x H' → gName i0 x (wipe σ vs) H' fun σ2 H2 => wipe σ2 vs = wipe σ vs ∧ tYes σ2 H2 fun b H3 =>
        if b = true then te σ2 H3 fun y H4 => ∃ acc, H4 L = some (.lst acc) ∧ acc.length < sizeLine ∧ Nx (upd H4 L (.lst (acc ++ [y]))) else Nx H3) := by
  refine lc_map (walk_tup (xs := ns.map V.str)) S0 (fun _ => True) (fun H i y => ∃ x, ns[i]? = some x ∧ At H (tmK (.var x)) y) nL (by rw [List.length_map]; have := small1000 hn; omega) (fun z => z) trivial (fun _ _ _ _ _ => trivial) (fun H1 _ hE _ => SqT.of (hE.ex _ _ hh)) (fun _ _ _ _ kk ⟨t, h1, h2⟩ => ⟨t, h1, At.mono kk _ _ h2⟩) ?_ ?_
  · rintro i x H H' hi _ hE hT ⟨rfl, hx⟩ Q hQ
    rw [List.getElem?_map] at hx
    rw [List.length_map] at hi
    rw [List.getElem?_eq_getElem hi] at hx
    obtain rfl := (Option.some.inj hx).symm
    refine ⟨hw _, turn _ _ _ fun p np => hQ _ _ (Ex.new np).exS (tk_new np) trivial ⟨_, List.getElem?_eq_getElem hi, at_var.mpr ⟨p, rfl, upd_same⟩⟩⟩
  · intro H ys _ hE hT hL hl hR
    rw [List.length_map] at hl
    refine done H ys hE.ex hL ?_
    rw [List.map_map]
    exact ats_of hl fun i y h => hR i y h
theorem two_le : (2 : Nat) ≤ sizeLine := by rw [sizeLine_eq]; decide
/-- a map, or none -/
def OptAt (H : Hp) (st : V) : Option (List (Str × Tm)) → Prop
  | none => st = .non
  | some m => ∃ a, st = .ref a ∧ MpAt H a m
def spHead : Sp := fun vs H Q _ => ∃ (v u : V) (r1 r2 : Rule), vs = [v, u] ∧ At H (ruleK r1) v ∧ At H (ruleK r2) u ∧ RuleOk r1 ∧ RuleOk r2 ∧ r1.1.length = r2.1.length ∧
  ∀ (H' : Hp) (st : V), Ex H H' → OptAt H' st (hm r1 r2) → Q st H'
theorem sc_headMap : FnScope ["first", "second", "terms", "name"] ["first", "second"] (defScope sHeadMap) := ⟨rfl, rfl, rfl, by decide +kernel, rfl, by decide +kernel, by decide +kernel⟩
theorem ok_headMap (T : Txt K mg C D) : Cal P w K mg base 2 "head_map" spHead := by
  refine cal_of T.fHeadMap (fun _ _ _ _ _ _ us hl => match us, hl with | [_, _], _ => rfl) sc_headMap (fun vs H Q E h => ?_) (fun f cdv A outer s H vs Q E hr h => ?_)
  · obtain ⟨v, u, r1, r2, rfl, _⟩ := h
    rfl
  · obtain ⟨v, u, r1, r2, rfl, hv, hu, ok1, ok2, hlen, kf⟩ := h
    obtain ⟨a, hd, aa, xs, rfl, ha, hh, haa, hA⟩ := at_rule hv
    obtain ⟨b, hd2, aa2, xs2, rfl, hb, hh2, haa2, hA2⟩ := at_rule hu
    have GM : Cal P w K mg base 1 "matched" spMatched := ok_matched T
    refine ⟨_, pss_cons (ps_set (i := 2) sc_headMap.nd rfl (Or.inl rfl) (pe_callTy call_tuple_of (by rfl) T.n_tuple (by decide +kernel) (pa_cons (pe_lc (own := [("name", 3)]) (g := gName 3) (tt := tYes) rfl sc_headMap.nd (pi_tup (pe_ix (ixT K) (pv 0) pe_int (fun _ _ => rfl)))
          (blkOk_by (N := ["first", "second", "terms", "name"]) (sc := defScope sHeadMap) (by decide +kernel)) (fun _ _ _ _ _ => pg_name (i := 3) sc_headMap.nd rfl (Or.inl rfl)) (fun _ _ _ _ _ => pts_nil)
          (fun _ _ _ _ _ => pe_tup (pa_cons pe_str (pa_cons (pv 3) pa_nil)))) pa_nil)))
      (pss_one (ps_ret (pe_c (X := (cxOf CX0 P w K mg base ["first", "second", "terms", "name"] "head_map" (defScope sHeadMap) f cdv A outer s H E).nox) GM hr (by decide) (by rfl) (pa_cons (pv 2) (pa_cons (pe_callTy call_tuple_of (by rfl) T.n_tuple (by decide +kernel) (pa_cons (pe_lc (own := [("name", 3)]) (g := gName 3) (tt := tYes) rfl sc_headMap.nd (pi_tup (pe_ix (ixT K) (pv 1) pe_int (fun _ _ => rfl)))
          (blkOk_by (N := ["first", "second", "terms", "name"]) (sc := defScope sHeadMap) (by decide +kernel)) (fun _ _ _ _ _ => pg_name (i := 3) sc_headMap.nd rfl (Or.inl rfl)) (fun _ _ _ _ _ => pts_nil)
          (fun _ _ _ _ _ => pe_tup (pa_cons pe_str (pa_cons (pv 3) pa_nil)))) pa_nil)) (pa_cons pe_dnewK pa_nil)))))), ?_⟩
    have l1 := ok1.h2
    have l2 := ok2.h2
    refine ⟨_, rfl, a, _, _, _, rfl, rfl, SqT.of ha, rfl, hd, rfl, ⟨_, SqT.of hh⟩, fun L nL => ?_⟩
    refine lc_vars hh nL (by omega) (fun _ => rfl) (fun x H5 Q' hQ => ⟨_, rfl, two_le, fun p np => hQ p np⟩) ?_
    intro H1 ys e1 hL hys
    refine ⟨L, ys, rfl, .inl ⟨SqL.of hL, fun t nt => ?_⟩⟩
    have e2 : Ex H (upd H1 t (.tup ys)) := e1.trans (Ex.new nt)
    have ht : At (upd H1 t (.tup ys)) (.tup ((r1.1.map Tm.var).map tmK)) (.ref t) := ⟨t, ys, rfl, upd_same, Ats.mono (tk_new nt) _ _ hys⟩
    generalize upd H1 t (.tup ys) = H2 at e2 ht ⊢
    refine ⟨_, rfl, _, rfl, b, _, _, _, rfl, rfl, SqT.of (e2 _ _ hb), rfl, hd2, rfl, ⟨_, SqT.of (e2 _ _ hh2)⟩, fun L2 nL2 => ?_⟩
    refine lc_vars (e2 _ _ hh2) nL2 (by omega) (fun _ => rfl) (fun x H5 Q' hQ => ⟨_, rfl, two_le, fun p np => hQ p np⟩) ?_
    intro H3 zs e3 hL2 hzs
    refine ⟨L2, zs, rfl, .inl ⟨SqL.of hL2, fun t2 nt2 => ?_⟩⟩
    have e4 : Ex H2 (upd H3 t2 (.tup zs)) := e3.trans (Ex.new nt2)
    have ht2 : At (upd H3 t2 (.tup zs)) (.tup ((r2.1.map Tm.var).map tmK)) (.ref t2) := ⟨t2, zs, rfl, upd_same, Ats.mono (tk_new nt2) _ _ hzs⟩
    generalize upd H3 t2 (.tup zs) = H4 at e4 ht2 ⊢
    intro q nq
    have e5 := e2.trans (e4.trans (Ex.new (o := .dK []) nq))
    refine ⟨_, _, q, _, _, [], rfl, At.mono (e4.trans (Ex.new nq)).tk _ _ ht, At.mono (tk_new nq) _ _ ht2, ⟨[], rfl, upd_same, fun e he => by simp at he⟩, by simp [hlen], by simp; omega, by simp, fun hmn H' e' => kf H' .non (e5.trans e') (by unfold hm; rw [hmn]; rfl), fun m' hms H' a' e' na' hm' => kf H' (.ref a') (e5.trans e') (by unfold hm; rw [hms]; exact ⟨a', rfl, hm'⟩)⟩
end
end Ew
set_option Elab.async false
set_option linter.all false
set_option maxRecDepth 100000
set_option maxHeartbeats 1000000
/-! all_maps: what is reached -/
namespace Ew
open PySem PySem.Spec PyProof.Rows L2 RZ
abbrev Mp : Type := List (Str × Tm)
def stepA (a : Atom) (m : Mp) (o : Atom) : Option Mp := if o.1 = a.1 then mtc a.2 o.2 m else none
def prodA (a : Atom) (os : List Atom) (ms : List Mp) : List Mp := ms.flatMap fun m => os.filterMap (stepA a m)
inductive Reach (r1 r2 : Rule) : Nat → List Mp → Prop
  | none : hm r1 r2 = none → Reach r1 r2 0 []
  | some {m : Mp} : hm r1 r2 = some m → Reach r1 r2 0 [m]
  | step {j : Nat} {ms ms' : List Mp} {a : Atom} : Reach r1 r2 j ms → r1.2[j]? = some a → (∀ m ∈ ms', m ∈ prodA a r2.2 ms) → (∀ m ∈ prodA a r2.2 ms, ∃ m' ∈ ms', m'.Perm m) → ms'.length ≤ (prodA a r2.2 ms).length → Reach r1 r2 (j + 1) ms'
/-- a map's names: each once, all drawn -/
structure MpOk (n : Nat) (m : Mp) : Prop where
  nd : (m.map (·.1)).Nodup
  nm : ∀ e ∈ m, e.1 ∈ Nms
  len : m.length ≤ n
theorem lk_none {α : Type} {x : Str} : ∀ {m : List (Str × α)}, lk m x = none ↔ x ∉ m.map (·.1)
  | [] => by simp [lk]
  | e :: m => by
    have ih := lk_none (x := x) (m := m)
    by_cases q : e.1 = x
    · have e1 : lk (e :: m) x = some e.2 := by simp [lk, q]
      rw [e1]
      simp [q]
    · have e1 : lk (e :: m) x = lk m x := by simp [lk, q]
      have q2 : ¬ x = e.1 := fun z => q z.symm
      rw [e1, ih, List.map_cons, List.mem_cons, not_or]
      exact ⟨fun h => ⟨q2, h⟩, fun h => h.2⟩
theorem mtc_ok : ∀ {ts os : List Tm} {m m' : Mp} {n : Nat}, mtc ts os m = some m' → (∀ t ∈ ts, TmOk t) → MpOk n m → MpOk (n + ts.length) m'
  | [], _, m, m', n, h, _, k => by
    rw [mtc] at h
    · cases h; exact k
    · intros; contradiction
    · intros; contradiction
  | t :: ts, [], m, m', n, h, _, k => by
    rw [mtc] at h
    · cases h; exact ⟨k.nd, k.nm, by have := k.len; omega⟩
    · intros; contradiction
    · intros; contradiction
  | .val v :: ts, o :: os, m, m', n, h, hx, k => by
    rw [mtc] at h
    split at h
    · have z := mtc_ok h (fun t ht => hx t (List.mem_cons_of_mem _ ht)) k
      exact ⟨z.nd, z.nm, by have := z.len; rw [List.length_cons]; omega⟩
    · cases h
  | .var x :: ts, o :: os, m, m', n, h, hx, k => by
    rw [mtc] at h
    split at h
    · split at h
      · have z := mtc_ok h (fun t ht => hx t (List.mem_cons_of_mem _ ht)) k
        exact ⟨z.nd, z.nm, by have := z.len; rw [List.length_cons]; omega⟩
      · cases h
    · rename_i e
      have hxn : x ∈ Nms := hx (.var x) List.mem_cons_self
      have k2 : MpOk (n + 1) (m ++ [(x, o)]) := by
        refine ⟨?_, fun e' he => ?_, by have := k.len; rw [List.length_append, List.length_singleton]; omega⟩
        · rw [List.map_append]
          exact nd_snoc k.nd (lk_none.mp e)
        · rcases List.mem_append.mp he with he | he
          · exact k.nm _ he
          · rw [List.mem_singleton.mp he]; exact hxn
      have z := mtc_ok h (fun t ht => hx t (List.mem_cons_of_mem _ ht)) k2
      exact ⟨z.nd, z.nm, by have := z.len; rw [List.length_cons]; omega⟩
theorem varsA_nms {r : Rule} (ok : RuleOk r) {x : Str} (h : x ∈ varsA r.2) : x ∈ Nms := by
  unfold varsA at h
  obtain ⟨a, ha, h⟩ := List.mem_flatMap.mp h
  obtain ⟨t, ht, e⟩ := List.mem_filterMap.mp h
  have z := (ok.atoms a ha).2 t ht
  rw [varOf_ok e] at z
  exact z
theorem head_tmOk {r : Rule} (ok : RuleOk r) : ∀ t ∈ r.1.map Tm.var, TmOk t := fun t ht => by
  obtain ⟨x, hx, rfl⟩ := List.mem_map.mp ht
  exact varsA_nms ok (ok.head x hx)
theorem hm_ok {r1 r2 : Rule} (ok : RuleOk r1) {m : Mp} (h : hm r1 r2 = some m) : MpOk 2 m := by
  have z := mtc_ok (n := 0) h (head_tmOk ok) ⟨List.nodup_nil, fun e he => by simp at he, Nat.le_refl _⟩
  have := ok.h2
  exact ⟨z.nd, z.nm, by have := z.len; rw [List.length_map] at this; omega⟩
theorem mem_prodA {a : Atom} {os : List Atom} {ms : List Mp} {m' : Mp} : m' ∈ prodA a os ms ↔ ∃ m ∈ ms, ∃ o ∈ os, o.1 = a.1 ∧ mtc a.2 o.2 m = some m' := by
  unfold prodA
  rw [List.mem_flatMap]
  constructor
  · rintro ⟨m, hm, h⟩
    obtain ⟨o, ho, e⟩ := List.mem_filterMap.mp h
    unfold stepA at e
    split at e
    · exact ⟨m, hm, o, ho, by assumption, e⟩
    · cases e
  · rintro ⟨m, hm, o, ho, e1, e2⟩
    exact ⟨m, hm, List.mem_filterMap.mpr ⟨o, ho, by unfold stepA; rw [if_pos e1]; exact e2⟩⟩
theorem len_prodA {a : Atom} {os : List Atom} : ∀ {ms : List Mp}, (prodA a os ms).length ≤ ms.length * os.length
  | [] => Nat.zero_le _
  | m :: ms => by
    have ih := len_prodA (a := a) (os := os) (ms := ms)
    have h1 := len_fm (stepA a m) os
    unfold prodA at ih ⊢
    rw [List.flatMap_cons, List.length_append, List.length_cons, Nat.succ_mul]
    omega
theorem Reach.ok {r1 r2 : Rule} (ok1 : RuleOk r1) (ok2 : RuleOk r2) {j : Nat} {ms : List Mp} (h : Reach r1 r2 j ms) : ms.length ≤ 5 ^ j ∧ ∀ m ∈ ms, MpOk (2 + 2 * j) m := by
  induction h with
  | none _ => exact ⟨Nat.zero_le _, fun m h => by simp at h⟩
  | some e => exact ⟨Nat.le_refl _, fun m h => by rw [List.mem_singleton.mp h]; exact hm_ok ok1 e⟩
  | @step j ms ms' a _ ha h1 h2 h3 ih =>
    refine ⟨?_, fun m hm => ?_⟩
    · have z := len_prodA (a := a) (os := r2.2) (ms := ms)
      have e := Nat.mul_le_mul ih.1 ok2.high
      rw [Nat.pow_succ]
      omega
    · obtain ⟨m0, hm0, o, ho, e1, e2⟩ := mem_prodA.mp (h1 m hm)
      have hok := ok1.atoms a (List.mem_of_getElem? ha)
      have z := mtc_ok e2 hok.2 (ih.2 m0 hm0)
      have l2 := ok1.two a (List.mem_of_getElem? ha)
      exact ⟨z.nd, z.nm, by have := z.len; omega⟩
theorem atoms_len {a o : Atom} (ha : AtomOk a) (ho : AtomOk o) (e : o.1 = a.1) : a.2.length = o.2.length := by
  have ne : ¬ ("e" : Str) = "p" := by decide +kernel
  rcases ha.1 with ⟨h1, h2⟩ | ⟨h1, h2⟩ <;> rcases ho.1 with ⟨k1, k2⟩ | ⟨k1, k2⟩
  · omega
  · rw [h1, k1] at e; exact absurd e.symm ne
  · rw [h1, k1] at e; exact absurd e ne
  · omega
/-! in the heap -/
def pairK (e : Str × Tm) : NK := .tup [.text e.1, tmK e.2]
def mkey (ps : Mp) : NK := .tup (ps.map pairK)
theorem pairK_inj {a b : Str × Tm} (h : pairK a = pairK b) : a = b := by
  obtain ⟨a1, a2⟩ := a
  obtain ⟨b1, b2⟩ := b
  simp only [pairK, NestedKey.tup.injEq, List.cons.injEq, NestedKey.text.injEq, and_true] at h
  rw [h.1, tmK_inj h.2]
theorem mkey_inj {a b : Mp} (h : mkey a = mkey b) : a = b := by
  simp only [mkey, NestedKey.tup.injEq] at h
  exact map_inj (fun _ _ => pairK_inj) h
theorem depth_mkey (ps : Mp) : (mkey ps).depth ≤ 3 := depth_tup fun k hk => by
  obtain ⟨e, _, rfl⟩ := List.mem_map.mp hk
  exact depth_tup fun l hl => by
    simp at hl
    rcases hl with rfl | rfl
    · exact Nat.zero_le _
    · exact depth_tmK _
theorem MpAt.ks {H : Hp} {a : Addr} {m : Mp} (h : MpAt H a m) : ∃ ks : List (Str × Addr), H a = some (.dK (ks.map entK)) ∧ ks.length = m.length ∧ ks.map (·.1) = m.map (·.1) ∧
    ∀ (H' : Hp) (zs : List (Addr × Str × Addr)), TK H H' → (zs.map (·.2)).Perm ks → (∀ z ∈ zs, H' z.1 = some (.tup [.str z.2.1, .ref z.2.2])) → ∃ ps : Mp, ps.Perm m ∧ Ats H' (ps.map pairK) (zs.map fun z => V.ref z.1) := by
  obtain ⟨es, rfl, ha, hk⟩ := h
  refine ⟨es.map fun e => (e.1, e.2.1), ?_, by rw [List.length_map, List.length_map], ?_, fun H' zs k hp hz => ?_⟩
  · rw [ha, List.map_map]
    rfl
  · rw [List.map_map, List.map_map]
    rfl
  · obtain ⟨es', h1, h2⟩ := perm_lift (fun e : Str × Addr × Tm => (e.1, e.2.1)) hp es rfl
    refine ⟨es'.map mapT, h1.map _, ?_⟩
    have hl : zs.length = es'.length := by
      have := congrArg List.length h2
      rw [List.length_map, List.length_map] at this
      exact this.symm
    refine ats_of (by rw [List.length_map, List.length_map]; exact hl) fun i y hy => ?_
    rw [List.getElem?_map] at hy
    cases hzi : zs[i]? with
    | none => rw [hzi] at hy; cases hy
    | some z =>
      rw [hzi] at hy
      cases hy
      have hi : i < es'.length := by rw [← hl]; exact (List.getElem?_eq_some_iff.mp hzi).1
      have hei : es'[i]? = some es'[i] := List.getElem?_eq_getElem hi
      have e := congrArg (fun l => l[i]?) h2
      simp only [List.getElem?_map] at e
      rw [hei, hzi] at e
      have e2 : (es'[i].1, es'[i].2.1) = z.2 := Option.some.inj e
      refine ⟨mapT es'[i], by rw [List.getElem?_map, hei]; rfl, ?_⟩
      have hmem : es'[i] ∈ es := h1.mem_iff.mp (List.getElem_mem hi)
      refine at_pair.mpr ⟨z.1, _, _, rfl, hz z (List.mem_of_getElem? hzi), ?_, ?_⟩
      · rw [← e2]
        exact rfl
      · rw [← e2]
        exact At.mono k _ _ (hk _ hmem)
def rho (x : Str) : Int := x.cps.toList.head?.getD 0
theorem rho_ok : ∀ x ∈ Nms, ∀ y ∈ Nms, decide (x.cps.toList < y.cps.toList) = decide (rho x < rho y) := by decide +kernel
structure Fol (P : Program) (w : World) (H : Hp) (F : Addr) (xs : List EN) (pr : List Mp) : Prop where
  dn : DN P w H F xs
  snd : ∀ x ∈ xs, ∃ (a : Addr) (m ps : Mp), x.2.2 = .ref a ∧ m ∈ pr ∧ MpAt H a m ∧ x.1 = mkey ps ∧ ps.Perm m
  cpl : ∀ m ∈ pr, ∃ x ∈ xs, ∃ ps : Mp, x.1 = mkey ps ∧ ps.Perm m
  len : xs.length ≤ pr.length
theorem Fol.ex {P : Program} {w : World} {H H' : Hp} {F : Addr} {xs : List EN} {pr : List Mp} (f : Fol P w H F xs pr) (k : Ex H H') : Fol P w H' F xs pr :=
  ⟨f.dn.ex k, fun x hx => by
    obtain ⟨a, m, ps, h1, h2, h3, h4⟩ := f.snd x hx
    exact ⟨a, m, ps, h1, h2, h3.ex k, h4⟩, f.cpl, f.len⟩
theorem Fol.put {P : Program} {w : World} {H : Hp} {F a b : Addr} {xs : List EN} {pr : List Mp} {m ps : Mp} (f : Fol P w H F xs pr) (hm : MpAt H a m) (hb : At H (mkey ps) (.ref b)) (hp : ps.Perm m) :
    Fol P w (upd H F (dNO P w F (putN xs (mkey ps) b (.ref a)))) F (putN xs (mkey ps) b (.ref a)) (pr ++ [m]) := by
  have tk : TK H (upd H F (dNO P w F (putN xs (mkey ps) b (.ref a)))) := ExB.upd.tk fun ys z => by rw [f.dn.at_] at z; cases z
  have mv : ∀ {a' : Addr} {m' : Mp}, MpAt H a' m' → MpAt (upd H F (dNO P w F (putN xs (mkey ps) b (.ref a)))) a' m' := fun {a' m'} h => h.mono tk fun o ho => by
    refine (upd_ne fun z => ?_).trans ho
    obtain ⟨es, _, hd, _⟩ := h
    rw [z, f.dn.at_] at hd
    cases hd
  refine ⟨f.dn.put hb (Nat.le_trans (depth_mkey _) (by decide)), fun x hx => ?_, fun m' hm' => ?_, ?_⟩
  · rcases mem_putN hx with ⟨y, hy, e1, e2, e3, e4⟩ | rfl
    · by_cases q : x.1 = mkey ps
      · exact ⟨a, m, ps, e3 q, by simp, mv hm, q, hp⟩
      · obtain rfl := e4 q
        obtain ⟨a', m', ps', h1, h2, h3, h4, h5⟩ := f.snd y hy
        exact ⟨a', m', ps', h1, List.mem_append_left _ h2, mv h3, h4, h5⟩
    · exact ⟨a, m, ps, rfl, by simp, mv hm, rfl, hp⟩
  · obtain ⟨⟨b', g1⟩, g2⟩ := mem_of_putN (xs := xs) (k := mkey ps) (b := b) (v := V.ref a)
    rcases List.mem_append.mp hm' with hm' | hm'
    · obtain ⟨x, hx, ps', e, hp'⟩ := f.cpl m' hm'
      by_cases q : x.1 = mkey ps
      · refine ⟨_, g1, ps', ?_, hp'⟩
        rw [← e, q]
      · exact ⟨x, g2 x hx q, ps', e, hp'⟩
    · rw [List.mem_singleton.mp hm']
      exact ⟨_, g1, ps, rfl, hp⟩
  · have := length_putN xs (mkey ps) b (.ref a)
    have := f.len
    rw [List.length_append, List.length_singleton]
    omega
/-- a list of maps -/
def MpsAt (H : Hp) (vs : List V) (ms : List Mp) : Prop := vs.length = ms.length ∧ ∀ (i : Nat) (v : V), vs[i]? = some v → ∃ a m, v = .ref a ∧ ms[i]? = some m ∧ MpAt H a m
theorem MpsAt.ex {H H' : Hp} {vs : List V} {ms : List Mp} (h : MpsAt H vs ms) (k : Ex H H') : MpsAt H' vs ms := ⟨h.1, fun i v e => by
  obtain ⟨a, m, h1, h2, h3⟩ := h.2 i v e
  exact ⟨a, m, h1, h2, h3.ex k⟩⟩
theorem Fol.out {P : Program} {w : World} {H : Hp} {F : Addr} {pr : List Mp} : ∀ {xs : List EN}, (∀ x ∈ xs, ∃ (a : Addr) (m ps : Mp), x.2.2 = .ref a ∧ m ∈ pr ∧ MpAt H a m ∧ x.1 = mkey ps ∧ ps.Perm m) →
    ∃ ms : List Mp, MpsAt H (xs.map (·.2.2)) ms ∧ (∀ m ∈ ms, m ∈ pr) ∧ ms.length = xs.length ∧ ∀ x ∈ xs, ∃ m ∈ ms, ∃ ps, x.1 = mkey ps ∧ ps.Perm m
  | [], _ => ⟨[], ⟨rfl, fun i v e => by simp at e⟩, fun m h => by simp at h, rfl, fun x h => by simp at h⟩
  | x :: xs, h => by
    obtain ⟨ms, ⟨h1, h2⟩, h3, h4, h5⟩ := Fol.out (P := P) (w := w) (F := F) (xs := xs) fun y hy => h y (List.mem_cons_of_mem _ hy)
    obtain ⟨a, m, ps, k1, k2, k3, k4, k5⟩ := h x List.mem_cons_self
    refine ⟨m :: ms, ⟨by simpa using h1, fun i v e => ?_⟩, fun m' hm' => ?_, by simp [h4], fun y hy => ?_⟩
    · cases i with
      | zero =>
        simp at e
        exact ⟨a, m, by rw [← e, k1], rfl, k3⟩
      | succ i =>
        obtain ⟨a', m', q1, q2, q3⟩ := h2 i v (by simpa using e)
        exact ⟨a', m', q1, by simpa using q2, q3⟩
    · rcases List.mem_cons.mp hm' with rfl | hm'
      · exact k2
      · exact h3 _ hm'
    · rcases List.mem_cons.mp hy with rfl | hy
      · exact ⟨m, List.mem_cons_self, ps, k4, k5⟩
      · obtain ⟨m', hm', q⟩ := h5 y hy
        exact ⟨m', List.mem_cons_of_mem _ hm', q⟩
theorem Fol.reach {P : Program} {w : World} {H : Hp} {F : Addr} {xs : List EN} {r1 r2 : Rule} {j : Nat} {ms : List Mp} {a : Atom} (f : Fol P w H F xs (prodA a r2.2 ms)) (h : Reach r1 r2 j ms) (ha : r1.2[j]? = some a) :
    ∃ ms', MpsAt H (xs.map (·.2.2)) ms' ∧ Reach r1 r2 (j + 1) ms' := by
  obtain ⟨ms', h1, h2, h3, h4⟩ := Fol.out (P := P) (w := w) (F := F) f.snd
  refine ⟨ms', h1, .step h ha h2 (fun m hm => ?_) (by have := f.len; omega)⟩
  obtain ⟨x, hx, ps, e, hp⟩ := f.cpl m hm
  obtain ⟨m', hm', ps', e', hp'⟩ := h4 x hx
  have : ps = ps' := mkey_inj (e.symm.trans e')
  subst this
  exact ⟨m', hm', hp'.symm.trans hp⟩
end Ew
set_option Elab.async false
set_option linter.all false
set_option maxRecDepth 100000
set_option maxHeartbeats 1000000
/-! all_maps, maps_to -/
namespace Ew
open PySem PySem.Spec PyProof.Rows L2 RZ
section
variable {P : Program} {w : World} {K : PySem.W.Frag} {mg : Str → Option Value} {base : Heap} {C D : Addr}
abbrev NAm : List Str := ["first", "second", "start", "maps", "table", "terms", "following", "known", "other", "targets", "found"]
def spAllMaps : Sp := fun vs H Q _ => ∃ (v u : V) (r1 r2 : Rule), vs = [v, u] ∧ At H (ruleK r1) v ∧ At H (ruleK r2) u ∧ RuleOk r1 ∧ RuleOk r2 ∧ r1.1.length = r2.1.length ∧
  ∀ (H' : Hp) (l : Addr) (xs : List V) (ms : List Mp), Ex H H' → H' l = some (.lst xs) → MpsAt H' xs ms → Reach r1 r2 r1.2.length ms → Q (.ref l) H'
theorem sc_allMaps : FnScope NAm ["first", "second"] (defScope sAllMaps) := ⟨rfl, rfl, rfl, by decide +kernel, rfl, by decide +kernel, by decide +kernel⟩
theorem pow5 {j : Nat} (h : j ≤ 5) : 5 ^ j ≤ 3125 := Nat.le_trans (Nat.pow_le_pow_right (by decide) h) (by decide)
theorem prod_turn {a : Atom} {os : List Atom} {ms : List Mp} {i l : Nat} {m : Mp} {o : Atom} (hi : ms[i]? = some m) (hl : os[l]? = some o) :
    prodA a os (ms.take i) ++ (os.take (l + 1)).filterMap (stepA a m) = (prodA a os (ms.take i) ++ (os.take l).filterMap (stepA a m)) ++ (stepA a m o).toList := by
  rw [take_snoc hl, List.filterMap_append, List.append_assoc]
  cases h : stepA a m o <;> simp [h]
theorem prod_next {a : Atom} {os : List Atom} {ms : List Mp} {i : Nat} {m : Mp} (hi : ms[i]? = some m) :
    prodA a os (ms.take (i + 1)) = prodA a os (ms.take i) ++ os.filterMap (stepA a m) := by
  unfold prodA
  rw [take_snoc hi, List.flatMap_append]
  simp
theorem ps_weak {X : Cx} {st : Stmt} {t t' : TS} (h : PS X st t) (hw : ∀ D σ H, t' D σ H → t D σ H) : PS X st t' := ⟨fun pins s σ H D I q => h.run pins s σ H D I (hw D σ H q)⟩
/-- the maps at the start -/
def tStart (r1 r2 : Rule) (a b : Addr) : TS := fun D σ H => ∃ st, σ = [some (.ref a), some (.ref b), some st, none, none, none, none, none, none, none, none] ∧ OptAt H st (hm r1 r2) ∧
  ∀ (H1 : Hp) (l : Addr) (vs0 : List V) (ms0 : List Mp), Ex H H1 → H1 l = some (.lst vs0) → MpsAt H1 vs0 ms0 → Reach r1 r2 0 ms0 → D.nx [some (.ref a), some (.ref b), some st, some (.ref l), none, none, none, none, none, none, none] H1
theorem ok_allMaps (T : Txt K mg C D) : Cal P w K mg base 3 "all_maps" spAllMaps := by
  refine cal_of T.fAllMaps (fun _ _ _ _ _ _ us hl => match us, hl with | [_, _], _ => rfl) sc_allMaps (fun vs H Q E h => ?_) (fun f cdv A outer s H vs Q E hr h => ?_)
  · obtain ⟨v, u, r1, r2, rfl, _⟩ := h
    rfl
  · obtain ⟨v, u, r1, r2, rfl, hv, hu, ok1, ok2, hlen, kf⟩ := h
    obtain ⟨a, hd, aa, xs, rfl, ha, hh, haa, hA⟩ := at_rule hv
    obtain ⟨b, hd2, aa2, xs2, rfl, hb, hh2, haa2, hA2⟩ := at_rule hu
    have GM : Cal P w K mg base 1 "matched" spMatched := ok_matched T
    have GH : Cal P w K mg base 2 "head_map" spHead := ok_headMap T
    have hl1 : xs.length = r1.2.length := by rw [hA.length, List.length_map]
    have hl2 : xs2.length = r2.2.length := by rw [hA2.length, List.length_map]
    have hi1 := ok1.high
    have hi2 := ok2.high
    refine ⟨_, pss_cons (ps_set (i := 2) sc_allMaps.nd rfl (Or.inl rfl) (pe_c (X := (cxOf CX0 P w K mg base NAm "all_maps" (defScope sAllMaps) f cdv A outer s H E).nox) GH hr (by decide) (by rfl) (pa_cons (pv 0) (pa_cons (pv 1) pa_nil))))
      (pss_cons (ps_weak (t' := tStart r1 r2 a b) (ps_set (i := 3) sc_allMaps.nd rfl (Or.inl rfl) (pe_ifExp (pt_cmpR op_isN (pv 2) pe_non (nomark _)) (pe_lst pa_nil) (pe_lst (pa_cons (pv 2) pa_nil)))) ?_)
      (pss_cons (ps_for PassesOwn.never rfl (pi_tup (pe_ix (ixT K) (pv 0) pe_int (fun _ _ => rfl))) (pgT K rfl (pgs_cons (pg_name (i := 4) sc_allMaps.nd rfl (Or.inl rfl)) (pgs_cons (pg_name (i := 5) sc_allMaps.nd rfl (Or.inl rfl)) pgs_nil)))
        (pss_cons (ps_set (i := 6) sc_allMaps.nd rfl (Or.inl rfl) pe_dnewN)
        (pss_cons (ps_for PassesOwn.never rfl (pi_list (pv 3)) (pg_name (i := 7) sc_allMaps.nd rfl (Or.inl rfl))
          (pss_one (ps_for PassesOwn.never rfl (pi_tup (pe_ix (ixT K) (pv 1) pe_int (fun _ _ => rfl))) (pgT K rfl (pgs_cons (pg_name (i := 8) sc_allMaps.nd rfl (Or.inl rfl)) (pgs_cons (pg_name (i := 9) sc_allMaps.nd rfl (Or.inl rfl)) pgs_nil)))
            (pss_cons (ps_set (i := 10) sc_allMaps.nd rfl (Or.inl rfl) (pe_ifExp (pt_cmpR op_eq (pv 8) (pv 4) (nomark _)) (pe_c (X := (cxOf CX0 P w K mg base NAm "all_maps" (defScope sAllMaps) f cdv A outer s H E).nox) GM hr (by decide) (by rfl) (pa_cons (pv 5) (pa_cons (pv 9) (pa_cons (pv 7) pa_nil)))) pe_non))
            (pss_one (ps_if (pt_cmpR op_notN (pv 10) pe_non (nomark _))
              (pss_one (ps_dputN hr.units (pv 6) (pe_callTy call_tuple_of (by rfl) T.n_tuple (by decide +kernel) (pa_cons (pe_callB (cr_sortK rfl) (by rfl) T.n_sorted (by decide +kernel) (pa_cons (pe_bm0 PySem.F.plainAttrs_dict PySem.F.slot_dict_items PySem.F.type_dict_items mt_itemsK (pv 10)) pa_nil)) pa_nil)) (pv 10) (by rfl)))
              pss_nil))))))
        (pss_one (ps_set (i := 3) sc_allMaps.nd rfl (Or.inl rfl) (pe_callTy (cr_listVals rfl) (by rfl) T.n_list (by decide +kernel) (pa_cons (pe_valuesN (pv 6)) pa_nil)))))))
      (pss_one (ps_ret (pv 3))))), ?_⟩
    · rintro D σ H1 ⟨st, rfl, ho, k⟩
      refine ⟨_, rfl, rfl, _, rfl, ?_⟩
      cases hh0 : hm r1 r2 with
      | none =>
        rw [hh0] at ho
        obtain rfl : st = .non := ho
        refine iteT ⟨Nat.zero_le _, fun l nl => ?_⟩
        exact k _ l [] [] (Ex.new nl) upd_same ⟨rfl, fun i v e => by simp at e⟩ (.none hh0)
      | some m =>
        rw [hh0] at ho
        obtain ⟨q, rfl, hq⟩ := ho
        refine iteF ⟨_, rfl, (by show 1 ≤ sizeLine; decide), fun l nl => ?_⟩
        refine k _ l [.ref q] [m] (Ex.new nl) upd_same ⟨rfl, fun i v e => ?_⟩ (.some hh0)
        cases i with
        | zero =>
          simp at e
          exact ⟨q, m, e.symm, rfl, hq.ex (Ex.new nl)⟩
        | succ i => simp at e
    refine ⟨_, rfl, _, rfl, _, _, r1, r2, rfl, hv, hu, ok1, ok2, hlen, fun H1 st e1 ho => ⟨st, rfl, ho, fun H2 l vs0 ms0 e2 hl0 hms0 hr0 => ?_⟩⟩
    have e3 := e1.trans e2
    refine ⟨_, rfl, a, _, _, _, rfl, rfl, SqT.of (e3 _ _ ha), rfl, aa, rfl, ⟨_, SqT.of (e3 _ _ haa)⟩, ?_⟩
    refine for_tup (xs := xs) (fun j σ H3 => ∃ (l : Addr) (vs1 : List V) (ms : List Mp) (x4 x5 x6 x7 x8 x9 x10 : Option V), σ = [some (.ref a), some (.ref b), some st, some (.ref l), x4, x5, x6, x7, x8, x9, x10] ∧ Ex H H3 ∧ H3 l = some (.lst vs1) ∧ MpsAt H3 vs1 ms ∧ Reach r1 r2 j ms)
      ⟨l, vs0, ms0, none, none, none, none, none, none, none, rfl, e3, hl0, hms0, hr0⟩ (fun j σ H3 _ ⟨_, _, _, _, _, _, _, _, _, _, _, e, _⟩ => SqT.of (e _ _ haa)) ?_ ?_
    · rintro j x σ H3 hx ⟨l, vs1, ms, x4, x5, x6, x7, x8, x9, x10, rfl, e4, hl3, hms, hreach⟩
      obtain ⟨at1, hat, hatx⟩ := hA.at hx
      obtain ⟨c, tt, ys, rfl, hc, htt, hys⟩ := at_atom (At.mono e4.tk _ _ hatx)
      have hok := hreach.ok ok1 ok2
      have hj : j < 5 := by have := (List.getElem?_eq_some_iff.mp hat).1; omega
      have h5 := pow5 (j := j) (by omega)
      refine ⟨c, _, rfl, SqT.of hc, rfl, _, _, rfl, _, _, rfl, rfl, fun F nF => ?_⟩
      have e5 : Ex H3 (upd H3 F (dNO P w F [])) := Ex.new nF
      have f0 : Fol P w (upd H3 F (dNO P w F [])) F [] (prodA at1 r2.2 (ms.take 0)) := ⟨⟨upd_same, fun x hx => by simp at hx⟩, fun x hx => by simp at hx, fun m hm => by simp [prodA] at hm, Nat.zero_le _⟩
      refine ⟨_, rfl, l, rfl, ⟨_, SqL.of (e5 _ _ hl3)⟩, ?_⟩
      have hlm : vs1.length = ms.length := hms.1
      refine for_list (xs := vs1) (fun i σ H5 => ∃ (fs : List EN) (x7 x8 x9 x10 : Option V), σ = [some (.ref a), some (.ref b), some st, some (.ref l), some (.str at1.1), some (.ref tt), some (.ref F), x7, x8, x9, x10] ∧ Ex H3 H5 ∧ Fol P w H5 F fs (prodA at1 r2.2 (ms.take i)))
        ⟨[], _, _, _, _, rfl, e5, f0⟩ (fun i σ H5 _ ⟨_, _, _, _, _, _, e, _⟩ => SqL.of (e _ _ hl3)) ?_ ?_
      · rintro i kv σ H5 hkv ⟨fs, x7, x8, x9, x10, rfl, e6, fol⟩
        obtain ⟨ka, m, rfl, hmi, hmat⟩ := hms.2 i kv hkv
        have e7 := e4.trans e6
        have mok := hok.2 m (List.mem_of_getElem? hmi)
        refine ⟨_, rfl, b, _, _, _, rfl, rfl, SqT.of (e7 _ _ hb), rfl, aa2, rfl, ⟨_, SqT.of (e7 _ _ haa2)⟩, ?_⟩
        refine for_tup (xs := xs2) (fun q σ H6 => ∃ (fs : List EN) (x8 x9 x10 : Option V), σ = [some (.ref a), some (.ref b), some st, some (.ref l), some (.str at1.1), some (.ref tt), some (.ref F), some (.ref ka), x8, x9, x10] ∧ Ex H3 H6 ∧ Fol P w H6 F fs (prodA at1 r2.2 (ms.take i) ++ (r2.2.take q).filterMap (stepA at1 m)))
          ⟨fs, _, _, _, rfl, e6, by simpa using fol⟩ (fun q σ H6 _ ⟨_, _, _, _, _, e, _⟩ => SqT.of (e4.trans e _ _ haa2)) ?_ ?_
        · rintro q y σ H6 hy ⟨fs, x8, x9, x10, rfl, e8, fol⟩
          obtain ⟨o, hoq, hox⟩ := hA2.at hy
          have e9 := e4.trans e8
          obtain ⟨c2, tt2, zs, rfl, hc2, htt2, hzs⟩ := at_atom (At.mono e9.tk _ _ hox)
          refine ⟨c2, _, rfl, SqT.of hc2, rfl, _, _, rfl, _, _, rfl, rfl, _, rfl, _, rfl, ?_⟩
          have turn := prod_turn (a := at1) (os := r2.2) hmi hoq
          refine ⟨rfl, _, rfl, ?_⟩
          have hokm := hok.2 m (List.mem_of_getElem? hmi)
          have oka := ok1.atoms at1 (List.mem_of_getElem? hat)
          have oko := ok2.atoms o (List.mem_of_getElem? hoq)
          have la2 := ok1.two at1 (List.mem_of_getElem? hat)
          have lm12 := hokm.len
          refine ite2 (fun e => ?_) (fun e => ?_)
          · have e0 : o.1 = at1.1 := V.str.inj (of_decide_eq_true e)
            have hstep : stepA at1 m o = mtc at1.2 o.2 m := by unfold stepA; rw [if_pos e0]
            refine ⟨_, rfl, _, rfl, _, rfl, .ref tt, .ref tt2, ka, at1.2, o.2, m, rfl, ⟨tt, ys, rfl, e8 _ _ htt, Ats.mono e8.tk _ _ hys⟩, ⟨tt2, zs, rfl, htt2, hzs⟩, hmat.ex e8, atoms_len oka oko e0, by omega, by omega, fun hn H7 e10 => ?_, fun m' hs H7 F2 e10 nF2 hm7 => ?_⟩
            · refine ⟨_, rfl, rfl, _, rfl, iteF ⟨fs, _, _, _, rfl, e8.trans e10, ?_⟩⟩
              rw [turn, hstep, hn]
              simpa using fol.ex e10
            · refine ⟨_, rfl, rfl, _, rfl, iteT ?_⟩
              have fol7 := fol.ex e10
              have e11 := e8.trans e10
              refine ⟨_, rfl, _, rfl, _, rfl, ?_⟩
              obtain ⟨ks, hks, hksl, hksn, hkk⟩ := hm7.ks
              have mok7 := mtc_ok hs oka.2 hokm
              refine ⟨.inr (.inr (.inl ⟨rfl, .inl ⟨_, hks⟩⟩)), F2, _, rfl, rfl, hks, fun p np => ?_⟩
              refine ⟨p, F2, ks, rho, rfl, upd_same, ?_, by have := mok7.len; omega, by rw [hksn]; exact mok7.nd, fun x hx y hy => rho_ok _ ?_ _ ?_, fun H8 L prs e12 nL hperm hL hprs => ?_⟩
              · exact Ex.new np _ _ hks
              · have : x.1 ∈ ks.map (·.1) := List.mem_map.mpr ⟨x, hx, rfl⟩
                rw [hksn] at this
                obtain ⟨z, hz, ez⟩ := List.mem_map.mp this
                rw [← ez]
                exact mok7.nm z hz
              · have : y.1 ∈ ks.map (·.1) := List.mem_map.mpr ⟨y, hy, rfl⟩
                rw [hksn] at this
                obtain ⟨z, hz, ez⟩ := List.mem_map.mp this
                rw [← ez]
                exact mok7.nm z hz
              · have e13 : Ex H7 H8 := (Ex.new np).trans e12
                obtain ⟨ps, hpp, hps⟩ := hkk H8 prs e13.tk hperm hprs
                refine ⟨L, _, rfl, .inl ⟨SqL.of hL, fun t nt => ?_⟩⟩
                have e14 : Ex H7 (upd H8 t (.tup (prs.map fun z => V.ref z.1))) := e13.trans (Ex.new nt)
                have fol9 := fol7.ex e14
                have hkey : At (upd H8 t (.tup (prs.map fun z => V.ref z.1))) (mkey ps) (.ref t) := ⟨t, _, rfl, upd_same, Ats.mono (tk_new nt) _ _ hps⟩
                have hpl : (prodA at1 r2.2 (ms.take i) ++ (r2.2.take q).filterMap (stepA at1 m)).length ≤ 20000 := by
                  have z1 := len_prodA (a := at1) (os := r2.2) (ms := ms.take i)
                  have z2 := len_fm (stepA at1 m) (r2.2.take q)
                  have z3 : (ms.take i).length ≤ 3125 := by rw [List.length_take]; have := hok.1; omega
                  have z4 : (r2.2.take q).length ≤ 5 := by rw [List.length_take]; omega
                  have z5 := Nat.mul_le_mul z3 hi2
                  rw [List.length_append]
                  omega
                refine ⟨F, mkey ps, t, fs, rfl, rfl, fol9.dn, hkey, Nat.le_trans (depth_mkey _) (by decide), by have := fol9.len; rw [sizeLine_eq]; omega, ?_⟩
                refine ⟨putN fs (mkey ps) t (.ref F2), _, _, _, rfl, ?_, ?_⟩
                · intro b' o' q'
                  have nF' : b' ≠ F := ne_of_none q' nF
                  rw [upd_ne nF']
                  exact e11.trans e14 _ _ q'
                · rw [turn, hstep, hs]
                  exact fol9.put (hm7.ex e14) hkey hpp
          · have e0 : ¬ o.1 = at1.1 := fun z => e (by rw [z]; exact decide_eq_true rfl)
            have hstep : stepA at1 m o = none := by unfold stepA; rw [if_neg e0]
            refine ⟨_, rfl, rfl, _, rfl, iteF ⟨fs, _, _, _, rfl, e8, ?_⟩⟩
            rw [turn, hstep]
            simpa using fol
        · rintro σ H6 ⟨fs, x8, x9, x10, rfl, e8, fol⟩
          refine ⟨fs, _, _, _, _, rfl, e8, ?_⟩
          rw [prod_next hmi]
          rw [hl2, List.take_length] at fol
          exact fol
      · rintro σ H5 ⟨fs, x7, x8, x9, x10, rfl, e6, fol⟩
        rw [hlm, List.take_length] at fol
        obtain ⟨ms', hm', hreach'⟩ := fol.reach hreach hat
        refine ⟨_, rfl, F, fs, rfl, fol.dn, fun p np => ⟨p, F, fs, rfl, upd_same, fol.dn.ex (Ex.new np), fun q nq => ?_⟩⟩
        have e10 : Ex H5 (upd (upd H5 p (valsO p F)) q (.lst (fs.map (·.2.2)))) := (Ex.new np).trans (Ex.new nq)
        exact ⟨q, _, ms', _, _, _, _, _, _, _, rfl, (e4.trans e6).trans e10, upd_same, hm'.ex e10, hreach'⟩
    · rintro σ H3 ⟨l, vs1, ms, x4, x5, x6, x7, x8, x9, x10, rfl, e4, hl3, hms, hreach⟩
      rw [hl1] at hreach
      exact ⟨_, rfl, kf H3 l vs1 ms e4 hl3 hms hreach⟩
end
end Ew
set_option Elab.async false
set_option linter.all false
set_option maxRecDepth 100000
set_option maxHeartbeats 1000000
/-! maps_to -/
namespace Ew
open PySem PySem.Spec PyProof.Rows L2 RZ
section
variable {P : Program} {w : World} {K : PySem.W.Frag} {mg : Str → Option Value} {base : Heap} {C D : Addr}
/-- what maps_to answers -/
def Told (r1 r2 : Rule) : Option Mp → Prop
  | none => Reach r1 r2 r1.2.length []
  | some m => ∃ ms, Reach r1 r2 r1.2.length ms ∧ m ∈ ms
def spMapsTo : Sp := fun vs H Q _ => ∃ (v u : V) (r1 r2 : Rule), vs = [v, u] ∧ At H (ruleK r1) v ∧ At H (ruleK r2) u ∧ RuleOk r1 ∧ RuleOk r2 ∧ r1.1.length = r2.1.length ∧
  ∀ (H' : Hp) (st : V) (o : Option Mp), Ex H H' → OptAt H' st o → Told r1 r2 o → Q st H'
theorem sc_mapsTo : FnScope ["first", "second", "maps"] ["first", "second"] (defScope sMapsTo) := ⟨rfl, rfl, rfl, by decide +kernel, rfl, by decide +kernel, by decide +kernel⟩
theorem ok_mapsTo (T : Txt K mg C D) : Cal P w K mg base 4 "maps_to" spMapsTo := by
  refine cal_of T.fMapsTo (fun _ _ _ _ _ _ us hl => match us, hl with | [_, _], _ => rfl) sc_mapsTo (fun vs H Q E h => ?_) (fun f cdv A outer s H vs Q E hr h => ?_)
  · obtain ⟨v, u, r1, r2, rfl, _⟩ := h
    rfl
  · obtain ⟨v, u, r1, r2, rfl, hv, hu, ok1, ok2, hlen, kf⟩ := h
    have GA : Cal P w K mg base 3 "all_maps" spAllMaps := ok_allMaps T
    refine ⟨_, pss_cons (ps_set (i := 2) sc_mapsTo.nd rfl (Or.inl rfl) (pe_c (X := (cxOf CX0 P w K mg base ["first", "second", "maps"] "maps_to" (defScope sMapsTo) f cdv A outer s H E).nox) GA hr (by decide) (by rfl) (pa_cons (pv 0) (pa_cons (pv 1) pa_nil))))
      (pss_one (ps_ret (pe_ifExp (pt_truth (pv 2) (fun _ => rfl)) (pe_ix (ixL K) (pv 2) pe_int (fun _ _ => rfl)) pe_non))), ?_⟩
    refine ⟨_, rfl, _, rfl, v, u, r1, r2, rfl, hv, hu, ok1, ok2, hlen, fun H1 l xs ms e1 hl hms hreach => ?_⟩
    refine ⟨_, rfl, _, .inl ⟨xs, SqL.of hl, rfl⟩, ?_⟩
    cases xs with
    | nil =>
      have : ms = [] := List.length_eq_zero_iff.mp (by rw [← hms.1]; rfl)
      subst this
      exact iteF (kf H1 .non none e1 rfl hreach)
    | cons x xs =>
      obtain ⟨a, m, rfl, hm0, hat⟩ := hms.2 0 x rfl
      refine iteT ⟨_, rfl, l, _, _, _, rfl, rfl, SqL.of hl, atI_nat (j := 0) rfl, ?_⟩
      exact kf H1 _ (some m) e1 ⟨a, rfl, hat⟩ ⟨ms, hreach, List.mem_of_getElem? hm0⟩
end
end Ew
set_option Elab.async false
set_option linter.all false
set_option maxRecDepth 100000
set_option maxHeartbeats 1000000
/-! is_map, and the law's own -/
namespace Ew
open PySem PySem.Spec PyProof.Rows L2 RZ
theorem ltC_ok : ∀ x ∈ Nms, ∀ y ∈ Nms, ltCps x.cps.toList y.cps.toList = decide (rho x < rho y) := by decide +kernel
theorem rho_inj : ∀ x ∈ Nms, ∀ y ∈ Nms, rho x = rho y → x = y := by decide +kernel
theorem strOk_nms : ∀ x ∈ Nms, PyData.strOk x = true := by decide +kernel
theorem rising_pw : ∀ (ss : List Str) (p : Str), p ∈ Nms → (∀ x ∈ ss, x ∈ Nms) → risingS p ss = true → (p :: ss).Pairwise fun a b => rho a ≤ rho b
  | [], p, _, _, _ => by simp
  | x :: r, p, hp, hs, h => by
    rw [risingS, Bool.and_eq_true] at h
    obtain ⟨h1, h2⟩ := h
    have hx := hs x List.mem_cons_self
    rw [ltC_ok x hx p hp] at h1
    have h1 : rho p ≤ rho x := by simpa using h1
    have ih := rising_pw r x hx (fun y hy => hs y (List.mem_cons_of_mem _ hy)) h2
    refine List.pairwise_cons.mpr ⟨fun y hy => ?_, ih⟩
    rcases List.mem_cons.mp hy with rfl | hy
    · exact h1
    · exact Int.le_trans h1 ((List.pairwise_cons.mp ih).1 y hy)
theorem sorted_pw {xs : List Str} (hs : ∀ x ∈ xs, x ∈ Nms) (h : sortedS xs = true) : xs.Pairwise fun a b => rho a ≤ rho b := by
  cases xs with
  | nil => simp
  | cons x r => exact rising_pw r x (hs x List.mem_cons_self) (fun y hy => hs y (List.mem_cons_of_mem _ hy)) h
theorem sorted_uniq {xs ys : List Str} (hs : ∀ x ∈ xs, x ∈ Nms) (h1 : sortedS xs = true) (h2 : sortedS ys = true) (p : xs.Perm ys) : xs = ys :=
  List.Perm.eq_of_pairwise (le := fun a b => rho a ≤ rho b) (fun a b ha hb h h' => rho_inj a (hs a ha) b (hs b (p.mem_iff.mpr hb)) (Int.le_antisymm h h')) (sorted_pw hs h1) (sorted_pw (fun x hx => hs x (p.mem_iff.mpr hx)) h2) p
theorem eqv_strs : ∀ xs : List Str, PyData.eqvAll (xs.map .str) (xs.map .str) = true
  | [] => rfl
  | x :: xs => by
    rw [List.map_cons, PyData.eqvAll, eqv_strs xs, PyData.eqv]
    simp
theorem lay_strs : ∀ {xs : List Str}, (∀ x ∈ xs, x ∈ Nms) → PyData.canLayAll0 (xs.map .str) = true ∧ PyData.depthAll (xs.map .str) ≤ 0
  | [], _ => ⟨rfl, Nat.le_refl _⟩
  | x :: xs, h => by
    obtain ⟨h1, h2⟩ := lay_strs fun y hy => h y (List.mem_cons_of_mem _ hy)
    have h3 := strOk_nms x (h x List.mem_cons_self)
    refine ⟨?_, ?_⟩
    · rw [List.map_cons, PyData.canLayAll0, h1, PyData.canLay0, h3]
      rfl
    · rw [List.map_cons]
      show max _ _ ≤ 0
      exact Nat.max_le.mpr ⟨Nat.le_refl _, h2⟩
theorem shaped_strs {xs : List Str} (h : ∀ x ∈ xs, x ∈ Nms) : SeqAt.shaped (.list (xs.map .str)) = true := by
  obtain ⟨h1, h2⟩ := lay_strs h
  unfold SeqAt.shaped
  rw [Bool.and_eq_true]
  refine ⟨by rw [PyData.canLay0]; exact h1, decide_eq_true ?_⟩
  show PyData.depthAll (xs.map .str) + 1 ≤ 64
  omega
theorem dp_strs {K : PySem.W.Frag} {H : Hp} : ∀ xs : List Str, DpAll K H (xs.map V.str) (xs.map .str)
  | [] => .nil
  | x :: xs => .cons (.str x) (dp_strs xs)
/-- a map over the names of a rule -/
structure MapFor (r : Rule) (m : Mp) : Prop where
  nd : (m.map (·.1)).Nodup
  mem : ∀ x, x ∈ m.map (·.1) ↔ x ∈ varsA r.2
  tm : ∀ e ∈ m, TmOk e.2
  len : m.length ≤ 12
def isMapB (r1 r2 : Rule) (m : Mp) : Bool := decide (r1.1.map (fun x => ap m (.var x)) = r2.1.map Tm.var) && r1.2.all fun a => decide ((a.1, a.2.map (ap m)) ∈ r2.2)
theorem MapFor.perm {r : Rule} {m : Mp} (h : MapFor r m) {ys : List Str} (nd : ys.Nodup) (hm : ∀ x, x ∈ ys ↔ x ∈ varsA r.2) : (m.map (·.1)).Perm ys :=
  (List.perm_ext_iff_of_nodup h.nd nd).mpr fun x => by rw [h.mem, hm]
theorem MapFor.lk {r : Rule} {m : Mp} (h : MapFor r m) {x : Str} (hx : x ∈ varsA r.2) : ∃ t, lk m x = some t := by
  cases e : Ew.lk m x with
  | some t => exact ⟨t, rfl⟩
  | none => exact absurd ((h.mem x).mpr hx) (lk_none.mp e)
theorem ys_bls {α : Type} {f : α → Bool} : ∀ {xs : List α} {ys : List V}, ys.length = xs.length → (∀ (i : Nat) (y : V), ys[i]? = some y → ∃ x, xs[i]? = some x ∧ y = .bl (f x)) → ys = (xs.map f).map V.bl
  | [], [], _, _ => rfl
  | [], _ :: _, h, _ => by simp at h
  | _ :: _, [], h, _ => by simp at h
  | x :: xs, y :: ys, h, g => by
    obtain ⟨x', e, hy⟩ := g 0 y rfl
    cases e
    rw [List.map_cons, List.map_cons, hy, ys_bls (by simpa using h) fun i z hz => g (i + 1) z hz]
theorem lk_mem {α : Type} {x : Str} {t : α} : ∀ {m : List (Str × α)}, lk m x = some t → (x, t) ∈ m
  | [], h => by simp [lk] at h
  | e :: m, h => by
    by_cases q : e.1 = x
    · have e1 : lk (e :: m) x = some e.2 := by simp [lk, q]
      rw [e1] at h
      cases h
      rw [← q]
      exact List.mem_cons_self
    · have e1 : lk (e :: m) x = lk m x := by simp [lk, q]
      rw [e1] at h
      exact List.mem_cons_of_mem _ (lk_mem h)
/-- a dict locked and free again -/
theorem ex_unlock {H H' : Hp} {d : Addr} {od : Obj} {u : HO} (hd : H d = some u) (h : Ex (upd H d (.frz od u)) H') : Ex H (upd H' d u) := fun b o e => by
  by_cases q : b = d
  · subst q
    rw [upd_same, ← hd, e]
  · rw [upd_ne q]
    exact h b o (by rw [upd_ne q]; exact e)
theorem tk_lock {H : Hp} {d : Addr} {od : Obj} {kvs : List (L2.Key × V)} (hd : H d = some (.dK kvs)) : TK H (upd H d (.frz od (.dK kvs))) := ExB.upd.tk fun xs e => by rw [hd] at e; cases e
theorem varsA_mem {as : List Atom} {a : Atom} {x : Str} (ha : a ∈ as) (hx : Tm.var x ∈ a.2) : x ∈ varsA as :=
  List.mem_flatMap.mpr ⟨a, ha, List.mem_filterMap.mpr ⟨_, hx, rfl⟩⟩
end Ew
set_option Elab.async false
set_option linter.all false
set_option maxRecDepth 100000
set_option maxHeartbeats 1000000
/-! is_map -/
namespace Ew
open PySem PySem.Spec PyProof.Rows L2 RZ
section
variable {P : Program} {w : World} {K : PySem.W.Frag} {mg : Str → Option Value} {base : Heap} {C D : Addr}
abbrev NIm : List Str := ["first", "second", "table", "term", "name", "terms"]
def spIsMap : Sp := fun vs H Q _ => ∃ (v u : V) (a : Addr) (r1 r2 : Rule) (m : Mp), vs = [v, u, .ref a] ∧ At H (ruleK r1) v ∧ At H (ruleK r2) u ∧ RuleOk r1 ∧ RuleOk r2 ∧ r1.1.length = r2.1.length ∧ MpAt H a m ∧ MapFor r1 m ∧
  ∀ (H' : Hp), Ex H H' → Q (.bl (isMapB r1 r2 m)) H'
theorem sc_isMap : FnScope NIm ["first", "second", "table"] (defScope sIsMap) := ⟨rfl, rfl, rfl, by decide +kernel, rfl, by decide +kernel, by decide +kernel⟩
/-- a comprehension that says a truth of each atom of a rule -/
theorem lc_atoms {aa : Addr} {xs : List V} {as : List Atom} {fB : Atom → Bool} {i1 i2 : Nat} {te : TE} {vs : List Nat} {σ : L2.St} {H1 : Hp} {L : Addr} {Qd : Hp → Prop} (haa : H1 aa = some (.tup xs)) (hA : Ats H1 (as.map atomK) xs) (nL : H1 L = none) (hn : as.length ≤ 1000)
    (hw : ∀ x y : V, wipe (((wipe σ vs).set i1 (some x)).set i2 (some y)) vs = wipe σ vs)
    (turn : ∀ (a : Atom) (tt : Addr) (H : Hp) (Q : V → Hp → Prop), a ∈ as → Ex H1 H → At H (.tup (a.2.map tmK)) (.ref tt) → (∀ H', Ex H H' → Q (.bl (fB a)) H') → te (((wipe σ vs).set i1 (some (.str a.1))).set i2 (some (.ref tt))) H Q)
    (done : ∀ H, Ex H1 H → H L = some (.lst ((as.map fB).map V.bl)) → Qd H) :
    ∃ W : Nat → Nat → Hp → Prop, (∃ m, W 0 m (upd H1 L (.lst []))) ∧ ∀ i m H, W i m H →
      ((Itt K aa).stop i H ∧ Qd H) ∨ ((Itt K aa).go i H ∧ ∃ Nx : Hp → Prop, (∀ H', Nx H' → ∃ m', m' < m ∧ W (i + 1) m' H') ∧ ∀ x H', (Itt K aa).yld i H x H' → gTup K 2 (gCons (gName i1) (gCons (gName i2) gNil)) x (wipe σ vs) H' fun σ2 H2 => wipe σ2 vs = wipe σ vs ∧ tYes σ2 H2 fun b H3 =>
        if b = true then te σ2 H3 fun y H4 => ∃ acc, H4 L = some (.lst acc) ∧ acc.length < sizeLine ∧ Nx (upd H4 L (.lst (acc ++ [y]))) else Nx H3) := by
  have hl : xs.length = as.length := by rw [hA.length, List.length_map]
  refine lc_map (walk_tup (xs := xs)) S0 (fun _ => True) (fun H i y => ∃ x, as[i]? = some x ∧ y = .bl (fB x)) nL (by have := small1000 hn; omega) (fun z => z) trivial (fun _ _ _ _ _ => trivial) (fun H1 _ hE _ => SqT.of (hE.ex _ _ haa)) (fun _ _ _ _ kk h => h) ?_ ?_
  · rintro i x H H' hi _ hE hT ⟨rfl, hx⟩ Q hQ
    obtain ⟨a, hai, hax⟩ := hA.at hx
    obtain ⟨b, c, ys, rfl, hb, hc, hys⟩ := at_atom (At.mono hT _ _ hax)
    refine ⟨b, _, rfl, SqT.of hb, rfl, _, _, rfl, _, _, rfl, rfl, hw _ _, ?_⟩
    exact turn a c _ Q (List.mem_of_getElem? hai) hE.ex ⟨c, ys, rfl, hc, hys⟩ fun H2 e2 => hQ _ _ e2.exS e2.tk trivial ⟨a, hai, rfl⟩
  · intro H ys _ hE hT hL hly hR
    refine done H hE.ex ?_
    rw [hL, ys_bls (by omega) fun i y h => hR i y h]
theorem ok_isMap (T : Txt K mg C D) : Cal P w K mg base 4 "is_map" spIsMap := by
  refine cal_of T.fIsMap (fun _ _ _ _ _ _ us hl => match us, hl with | [_, _, _], _ => rfl) sc_isMap (fun vs H Q E h => ?_) (fun f cdv A outer s H vs Q E hr h => ?_)
  · obtain ⟨v, u, _, r1, r2, _, rfl, _⟩ := h
    rfl
  · obtain ⟨v, u, q, r1, r2, m, rfl, hv, hu, ok1, ok2, hlen, hq, hm, kf⟩ := h
    obtain ⟨a, hd, aa, xs, rfl, ha, hh, haa, hA⟩ := at_rule hv
    obtain ⟨b, hd2, aa2, xs2, rfl, hb, hh2, haa2, hA2⟩ := at_rule hu
    have GT : Cal P w K mg base 3 "is_term" spIsTerm := ok_isTerm T
    have GV : Cal P w K mg base 1 "variables_of" spVars := ok_variablesOf T
    have GP : Cal P w K mg base 1 "put_terms" spPut := ok_putTerms T
    have l12 := hm.len
    have i1 := ok1.high
    have j1 := ok1.h2
    have j2 := ok2.h2
    refine ⟨_, pss_cons (ps_if (PW.pt (pw_or (pt_cmpR (op_neD hr.units) (pe_callB (call_sortedD rfl) (by rfl) T.n_sorted (by decide +kernel) (pa_cons (pv 2) pa_nil))
          (pe_callB cr_sortedS (by rfl) T.n_sorted (by decide +kernel) (pa_cons (pe_c (X := (cxOf CX0 P w K mg base NIm "is_map" (defScope sIsMap) f cdv A outer s H E).nox) GV hr (by decide) (by rfl) (pa_cons (pv 0) pa_nil)) pa_nil)) (nomark _))
        (pw_or1 (pt_not (pt_val (pe_callB (cr_all rfl) (by rfl) T.n_all (by decide +kernel) (pa_cons (pe_lock (pe_lc (own := [("term", 3)]) (g := gName 3) (tt := tYes) rfl sc_isMap.nd (pi_values (pv 2))
          (blkOk_by (N := NIm) (sc := defScope sIsMap) (by decide +kernel)) (fun _ _ _ _ _ => pg_name (i := 3) sc_isMap.nd rfl (Or.inl rfl)) (fun _ _ _ _ _ => pts_nil)
          (fun _ _ _ _ _ => pe_c (X := Cx.blk _ _ _ _ _ _) GT hr (by decide) (by rfl) (pa_cons (pv 3) pa_nil)))) pa_nil)))))))
        (pss_one (ps_ret pe_bl)) pss_nil)
      (pss_cons (ps_if (pt_cmpR (op_neK hr.units) (pe_callTy call_tuple_of (by rfl) T.n_tuple (by decide +kernel) (pa_cons (pe_lc (own := [("name", 4)]) (g := gName 4) (tt := tYes) rfl sc_isMap.nd (pi_tup (pe_ix (ixT K) (pv 0) pe_int (fun _ _ => rfl)))
          (blkOk_by (N := NIm) (sc := defScope sIsMap) (by decide +kernel)) (fun _ _ _ _ _ => pg_name (i := 4) sc_isMap.nd rfl (Or.inl rfl)) (fun _ _ _ _ _ => pts_nil)
          (fun _ _ _ _ _ => pe_dget (hu_of hr) (pv 2) (pv 4) (fun _ _ => rfl))) pa_nil))
          (pe_callTy call_tuple_of (by rfl) T.n_tuple (by decide +kernel) (pa_cons (pe_lc (own := [("name", 4)]) (g := gName 4) (tt := tYes) rfl sc_isMap.nd (pi_tup (pe_ix (ixT K) (pv 1) pe_int (fun _ _ => rfl)))
          (blkOk_by (N := NIm) (sc := defScope sIsMap) (by decide +kernel)) (fun _ _ _ _ _ => pg_name (i := 4) sc_isMap.nd rfl (Or.inl rfl)) (fun _ _ _ _ _ => pts_nil)
          (fun _ _ _ _ _ => pe_tup (pa_cons pe_str (pa_cons (pv 4) pa_nil)))) pa_nil)) (nomark _))
        (pss_one (ps_ret pe_bl)) pss_nil)
      (pss_one (ps_ret (pe_callB (cr_all rfl) (by rfl) T.n_all (by decide +kernel) (pa_cons (pe_lc (own := [("name", 4), ("terms", 5)]) (g := gTup K 2 (gCons (gName 4) (gCons (gName 5) gNil))) (tt := tYes) rfl sc_isMap.nd (pi_tup (pe_ix (ixT K) (pv 0) pe_int (fun _ _ => rfl)))
          (blkOk_by (N := NIm) (sc := defScope sIsMap) (by decide +kernel)) (fun _ _ _ _ _ => pgT K rfl (pgs_cons (pg_name (i := 4) sc_isMap.nd rfl (Or.inl rfl)) (pgs_cons (pg_name (i := 5) sc_isMap.nd rfl (Or.inl rfl)) pgs_nil))) (fun _ _ _ _ _ => pts_nil)
          (fun _ _ _ _ _ => pe_cmpR (op_inK (Room.units (k := 0) (by exact hr.mono (by decide)))) (pe_tup (pa_cons (pv 4) (pa_cons (pe_c (X := Cx.blk _ _ _ _ _ _) GP hr (by decide) (by rfl) (pa_cons (pv 5) (pa_cons (pv 2) pa_nil))) pa_nil))) (pe_ix (ixT K) (pv 1) pe_int (fun _ _ => rfl)) (by rfl))) pa_nil))))), ?_⟩
    obtain ⟨es, hme, hqd, hqe⟩ := id hq
    have hkeys : (es.map entT).map (·.1) = (m.map (·.1)).map Sum.inr := by
      rw [hme, List.map_map, List.map_map, List.map_map]
      rfl
    have hnm : ∀ x ∈ m.map (·.1), x ∈ Nms := fun x hx => varsA_nms ok1 ((hm.mem x).mp hx)
    refine ⟨_, rfl, q, _, m.map (·.1), rfl, .inl hqd, hkeys, by rw [List.length_map]; omega, fun ys p hperm hsort np => ?_⟩
    refine ⟨_, rfl, .ref a, r1, rfl, At.mono (tk_new np) _ _ hv, ok1, fun H1 l zs e1 nl hl hnd hmem => ?_⟩
    have e01 : Ex H H1 := (Ex.new np).trans e1
    refine ⟨l, zs, rfl, SqL.of hl, ?_, fun zs' p2 hperm2 hsort2 np2 => ?_⟩
    · have := (hm.perm hnd hmem).length_eq
      rw [List.length_map] at this
      omega
    have e2 := e01.trans (Ex.new (o := .lst (zs'.map V.str)) np2)
    have hzy : ys = zs' := sorted_uniq (fun x hx => hnm x (hperm.mem_iff.mp hx)) hsort hsort2 ((hperm.trans (hm.perm hnd hmem)).trans hperm2.symm)
    subst hzy
    have hys : ∀ x ∈ ys, x ∈ Nms := fun x hx => hnm x (hperm.mem_iff.mp hx)
    refine ⟨.list (ys.map .str), .list (ys.map .str), .lst (SqL.of ((e1.trans (Ex.new np2)) _ _ upd_same)) (dp_strs _), .lst (SqL.of upd_same) (dp_strs _), shaped_strs hys, shaped_strs hys, _, rfl, ?_⟩
    rw [show PyData.eqv (.list (ys.map .str)) (.list (ys.map .str)) = true by rw [PyData.eqv]; exact eqv_strs ys]
    refine iteF ?_
    generalize hH2 : upd H1 p2 (.lst (ys.map V.str)) = H2 at e2 ⊢
    have hq2 := e2 _ _ hqd
    refine ⟨q, _, hq2, trivial, fun od => ⟨_, rfl, q, od, es.map entT, rfl, upd_same, fun L nL => ?_⟩⟩
    have nLq : L ≠ q := fun z => by rw [z, upd_same] at nL; cases nL
    refine lc_map (walk_values (kvs := es.map entT)) S0 (fun _ => True) (fun H i y => ∃ x, es[i]? = some x ∧ y = .bl true) nL (by rw [List.length_map]; have : es.length = m.length := (by rw [hme, List.length_map]); rw [sizeLine_eq]; omega) (fun z => z) trivial (fun _ _ _ _ _ => trivial) (fun H1 _ hE _ => hE.ex _ _ upd_same) (fun _ _ _ _ kk h => h) ?_ ?_
    · rintro i x H3 H4 hi _ hE hT ⟨rfl, k, hk⟩ Q' hQ
      rw [List.getElem?_map] at hk
      cases hei : es[i]? with
      | none => rw [hei] at hk; cases hk
      | some e =>
        rw [hei] at hk
        obtain ⟨rfl, rfl⟩ := Prod.mk.inj (Option.some.inj hk)
        have hmem : e ∈ es := List.mem_of_getElem? hei
        refine ⟨rfl, _, rfl, _, e.2.2, rfl, At.mono hT _ _ (At.mono (tk_lock hq2) _ _ (At.mono e2.tk _ _ (hqe e hmem))), ?_, fun H5 e5 => hQ _ _ e5.exS e5.tk trivial ⟨e, hei, rfl⟩⟩
        exact hm.tm (mapT e) (by rw [hme]; exact List.mem_map.mpr ⟨e, hmem, rfl⟩)
    · intro H3 bs _ hE hT hL3 hbl hbR
      have hE3 := hE.ex
      have hq3 := hE3 _ _ upd_same
      have e3 : Ex H2 (upd H3 q (.dK (es.map entT))) := ex_unlock hq2 hE3
      have hbs : bs = (es.map fun _ => true).map V.bl := ys_bls (by rw [hbl, List.length_map]) fun i y h => hbR i y h
      refine ⟨hq3, L, es.map fun _ => true, rfl, SqL.of (by rw [upd_ne nLq, hL3, hbs]), _, rfl, ?_⟩
      have hall : (es.map fun _ => true).all id = true := by
        rw [List.all_map]
        exact List.all_eq_true.mpr fun _ _ => rfl
      rw [hall]
      refine iteF ?_
      have e4 := e2.trans e3
      generalize upd H3 q (.dK (es.map entT)) = H4 at e4 ⊢
      clear hq3 e3
      refine ⟨_, rfl, a, _, _, _, rfl, rfl, SqT.of (e4 _ _ ha), rfl, hd, rfl, ⟨_, SqT.of (e4 _ _ hh)⟩, fun L2 nL2 => ?_⟩
      refine lc_map (walk_tup (xs := r1.1.map V.str)) S0 (fun _ => True) (fun H i y => ∃ x, r1.1[i]? = some x ∧ At H (tmK (ap m (.var x))) y) nL2 (by rw [List.length_map]; rw [sizeLine_eq]; omega) (fun z => z) trivial (fun _ _ _ _ _ => trivial) (fun H1 _ hE _ => SqT.of (hE.ex _ _ (e4 _ _ hh))) (fun _ _ _ _ kk ⟨t, h1, h2⟩ => ⟨t, h1, At.mono kk _ _ h2⟩) ?_ ?_
      · rintro i x H5 H6 hi _ hE hT ⟨rfl, hx⟩ Q' hQ
        rw [List.getElem?_map] at hx
        rw [List.length_map] at hi
        rw [List.getElem?_eq_getElem hi] at hx
        obtain rfl := (Option.some.inj hx).symm
        have hxi : r1.1[i]? = some r1.1[i] := List.getElem?_eq_getElem hi
        obtain ⟨t, ht⟩ := hm.lk (ok1.head _ (List.getElem_mem hi))
        obtain ⟨b', hg, hb'⟩ := (hq.ex (e4.trans hE.ex)).get ht
        refine ⟨rfl, _, rfl, _, rfl, q, _, rfl, hg, hQ _ _ ExS.refl TK.refl trivial ⟨_, hxi, ?_⟩⟩
        show At H6 (tmK ((lk m _).getD (.var _))) (.ref b')
        rw [ht]
        exact hb'
      · intro H5 us _ hE hT hL5 hul huR
        rw [List.length_map] at hul
        refine ⟨L2, us, rfl, .inl ⟨SqL.of hL5, fun t nt => ?_⟩⟩
        have e6 : Ex H4 (upd H5 t (.tup us)) := hE.ex.trans (Ex.new nt)
        have ht : At (upd H5 t (.tup us)) (.tup ((r1.1.map fun x => ap m (.var x)).map tmK)) (.ref t) := by
          refine ⟨t, us, rfl, upd_same, ?_⟩
          rw [List.map_map]
          exact ats_of hul fun i y h => by
            obtain ⟨x, h1, h2⟩ := huR i y h
            exact ⟨x, h1, At.mono (tk_new nt) _ _ h2⟩
        generalize upd H5 t (.tup us) = H6 at e6 ht ⊢
        have e7 := e4.trans e6
        refine ⟨_, rfl, b, _, _, _, rfl, rfl, SqT.of (e7 _ _ hb), rfl, hd2, rfl, ⟨_, SqT.of (e7 _ _ hh2)⟩, fun L3 nL3 => ?_⟩
        refine lc_vars (e7 _ _ hh2) nL3 (by omega) (fun _ => rfl) (fun x H5 Q' hQ => ⟨_, rfl, two_le, fun p np => hQ p np⟩) ?_
        intro H7 us2 e8 hL7 hus2
        refine ⟨L3, us2, rfl, .inl ⟨SqL.of hL7, fun t2 nt2 => ?_⟩⟩
        have e9 : Ex H6 (upd H7 t2 (.tup us2)) := e8.trans (Ex.new nt2)
        refine ⟨.tup ((r1.1.map fun x => ap m (.var x)).map tmK), .tup ((r2.1.map Tm.var).map tmK), At.mono e9.tk _ _ ht, ⟨t2, us2, rfl, upd_same, Ats.mono (tk_new nt2) _ _ hus2⟩, ⟨_, rfl⟩, ⟨_, rfl⟩, Nat.le_trans (depth_terms _) (by decide), _, rfl, ?_⟩
        have hdec : decide (NestedKey.tup ((r1.1.map fun x => ap m (.var x)).map tmK) = NestedKey.tup ((r2.1.map Tm.var).map tmK)) = decide (r1.1.map (fun x => ap m (.var x)) = r2.1.map Tm.var) := by
          by_cases e : r1.1.map (fun x => ap m (.var x)) = r2.1.map Tm.var
          · rw [e]; simp
          · have : ¬ NestedKey.tup ((r1.1.map fun x => ap m (.var x)).map tmK) = NestedKey.tup ((r2.1.map Tm.var).map tmK) := fun z => e (map_inj (fun _ _ => tmK_inj) (NestedKey.tup.inj z))
            rw [decide_eq_false e, decide_eq_false this]
        rw [hdec]
        have e10 := e7.trans e9
        generalize upd H7 t2 (.tup us2) = H8 at e10 ⊢
        refine ite_not (fun e => ?_) (fun e => ?_)
        · have := kf H8 e10
          unfold isMapB at this
          rw [e] at this
          exact this
        · unfold isMapB at kf
          rw [e] at kf
          refine ⟨_, rfl, a, _, _, _, rfl, rfl, SqT.of (e10 _ _ ha), rfl, aa, rfl, ⟨_, SqT.of (e10 _ _ haa)⟩, fun L4 nL4 => ?_⟩
          refine lc_atoms (fB := fun a => decide ((a.1, a.2.map (ap m)) ∈ r2.2)) (e10 _ _ haa) (Ats.mono e10.tk _ _ hA) nL4 (by omega) (fun _ _ => rfl) ?_ fun H9 e11 hL9 => ⟨L4, _, rfl, SqL.of hL9, ?_⟩
          · intro at1 tt H9 Q' hat e11 htt hQ
            refine ⟨_, rfl, _, rfl, _, rfl, .ref tt, q, at1.2, m, rfl, htt, hq.ex (e10.trans e11), by have := ok1.two at1 hat; omega, fun x hx => ?_, fun H10 uu e12 huu => ⟨two_le, fun p np => ?_⟩⟩
            · obtain ⟨t, ht⟩ := hm.lk (varsA_mem hat hx)
              rw [ht]
              rfl
            · have e13 := (e10.trans e11).trans (e12.trans (Ex.new (o := .tup [.str at1.1, uu]) np))
              refine ⟨_, rfl, b, _, _, _, rfl, rfl, SqT.of (e13 _ _ hb), rfl, atomK (at1.1, at1.2.map (ap m)), r2.2.map atomK, at_pair.mpr ⟨p, _, _, rfl, upd_same, rfl, At.mono (tk_new np) _ _ huu⟩, ⟨aa2, xs2, rfl, e13 _ _ haa2, Ats.mono e13.tk _ _ hA2⟩, Nat.le_trans (depth_atomK _) (by decide), ?_⟩
              have hdec2 : decide (atomK (at1.1, at1.2.map (ap m)) ∈ r2.2.map atomK) = decide ((at1.1, at1.2.map (ap m)) ∈ r2.2) := decide_eq_decide.mpr (mem_map_inj fun _ _ => atomK_inj)
              rw [hdec2]
              exact hQ _ (e12.trans (Ex.new np))
          · have := kf H9 (e10.trans e11)
            rw [List.all_map]
            simpa using this
end
end Ew
set_option Elab.async false
set_option linter.all false
set_option maxRecDepth 100000
set_option maxHeartbeats 1000000
/-! the law's variables, the law's is_map -/
namespace Ew
open PySem PySem.Spec PyProof.Rows L2 RZ
theorem lc_fm {α : Type} {xs : List α} {J : It} {G : Hp → Prop} {Y : Nat → Hp → V → Hp → Prop} (w : Walk J xs.length G Y) (f : α → Option V)
    {g : TG} {tt : TT} {te : TE} {vs : List Nat} {σ : L2.St} {H1 : Hp} {D : Addr} {Qd : Hp → Prop} (nD : H1 D = none) (hn : xs.length ≤ sizeLine) (hG : ∀ H, Ex H1 H → G H)
    (turn : ∀ i x a H H', xs[i]? = some a → Ex H1 H → Y i H x H' → ∀ (Qn : Hp → Prop) (Qy : V → Hp → Prop), (f a = none → ∀ H6, Ex H H6 → Qn H6) → (∀ u, f a = some u → ∀ H7, Ex H H7 → Qy u H7) →
      g x (wipe σ vs) H' fun σ2 H2 => wipe σ2 vs = wipe σ vs ∧ tt σ2 H2 fun b H6 => if b = true then te σ2 H6 Qy else Qn H6)
    (done : ∀ H, Ex H1 H → H D = some (.lst (xs.filterMap f)) → Qd H) :
    ∃ W : Nat → Nat → Hp → Prop, (∃ m, W 0 m (upd H1 D (.lst []))) ∧ ∀ i m H, W i m H →
      (J.stop i H ∧ Qd H) ∨ (J.go i H ∧ ∃ Nx : Hp → Prop, (∀ H', Nx H' → ∃ m', m' < m ∧ W (i + 1) m' H') ∧ ∀ x H', J.yld i H x H' → g x (wipe σ vs) H' fun σ2 H2 => wipe σ2 vs = wipe σ vs ∧ tt σ2 H2 fun b H3 =>
        if b = true then te σ2 H3 fun y H4 => ∃ acc, H4 D = some (.lst acc) ∧ acc.length < sizeLine ∧ Nx (upd H4 D (.lst (acc ++ [y]))) else Nx H3) := by
  refine lc_it w (fun i H => Ex H1 H ∧ H D = some (.lst ((xs.take i).filterMap f))) ⟨Ex.new nD, upd_same⟩ (fun i H _ p => hG H p.1) ?_ (fun H p => ?_)
  · rintro i x H H' hi ⟨pE, hD⟩ hy
    have ha : xs[i]? = some xs[i] := List.getElem?_eq_getElem hi
    refine turn i x _ H H' ha pE hy _ _ (fun e H6 e6 => ⟨pE.trans e6, ?_⟩) (fun u e H7 e7 => ⟨_, e7 _ _ hD, ?_, fun b o q => ?_, ?_⟩)
    · rw [e6 _ _ hD, take_snoc ha, List.filterMap_append]
      simp [e]
    · have z := len_fm f (xs.take i)
      rw [List.length_take] at z
      omega
    · rw [upd_ne (ne_of_none q nD)]
      exact e7 _ _ (pE _ _ q)
    · rw [upd_same, take_snoc ha, List.filterMap_append]
      simp [e]
  · have z := p.2
    rw [List.take_length] at z
    exact done H p.1 z
theorem inV_strs (x : Str) : ∀ ys : List Str, inV (.str x) (ys.map V.str) = decide (x ∈ ys)
  | [] => by simp [inV]
  | y :: ys => by
    have ih := inV_strs x ys
    unfold inV at ih ⊢
    rw [List.map_cons, List.any_cons, ih]
    show (y == x || _) = _
    by_cases e : x = y
    · subst e; simp
    · have e2 : ¬ y = x := fun z => e z.symm
      have e3 : (y == x) = false := by simpa using e2
      simp [e, e3]
theorem flat_strs (ys : List Str) : (ys.map V.str).all flatV = true := by
  rw [List.all_map]
  exact List.all_eq_true.mpr fun _ _ => rfl
def lawVars (as : List Atom) : List Str := Nms.filter fun x => decide (x ∈ varsA as)
theorem mem_lawVars {as : List Atom} (h : ∀ x ∈ varsA as, x ∈ Nms) {x : Str} : x ∈ lawVars as ↔ x ∈ varsA as := by
  unfold lawVars
  rw [List.mem_filter, decide_eq_true_eq]
  exact ⟨fun h => h.2, fun z => ⟨h x z, z⟩⟩
theorem nd_nms : Nms.Nodup := by decide +kernel
theorem nd_lawVars (as : List Atom) : (lawVars as).Nodup := nd_nms.filter _
/-- what of a term's name is new -/
def newVar (fs : List Str) (t : Tm) : Option Str := match varOf t with
  | some x => if x ∈ fs then none else some x
  | none => none
theorem newVar_mem {fs : List Str} {ts : List Tm} {x : Str} : x ∈ fs ++ ts.filterMap (newVar fs) ↔ x ∈ fs ∨ x ∈ ts.filterMap varOf := by
  rw [List.mem_append]
  constructor
  · rintro (h | h)
    · exact .inl h
    · obtain ⟨t, ht, e⟩ := List.mem_filterMap.mp h
      unfold newVar at e
      split at e
      · split at e
        · cases e
        · cases e
          exact .inr (List.mem_filterMap.mpr ⟨t, ht, by assumption⟩)
      · cases e
  · rintro (h | h)
    · exact .inl h
    · obtain ⟨t, ht, e⟩ := List.mem_filterMap.mp h
      by_cases q : x ∈ fs
      · exact .inl q
      · refine .inr (List.mem_filterMap.mpr ⟨t, ht, ?_⟩)
        unfold newVar
        rw [e]
        simp [q]
abbrev sixNames : List Str := ["x", "y", "z", "u", "xx", "yy"]
theorem six_filter {as : List Atom} (h : ∀ x ∈ varsA as, x ∈ Nms) {fs : List Str} (hf : ∀ x, x ∈ fs ↔ x ∈ varsA as) : (sixNames.filterMap fun x => if x ∈ fs then some (V.str x) else none) = (lawVars as).map V.str := by
  have n1 : ¬ ("xx" : Str) ∈ fs := fun z => absurd (h _ ((hf _).mp z)) (by decide +kernel)
  have n2 : ¬ ("yy" : Str) ∈ fs := fun z => absurd (h _ ((hf _).mp z)) (by decide +kernel)
  have e : sixNames = Nms ++ (["xx", "yy"] : List Str) := rfl
  rw [e, List.filterMap_append]
  have e2 : (["xx", "yy"] : List Str).filterMap (fun x => if x ∈ fs then some (V.str x) else none) = [] := by
    simp [n1, n2]
  rw [e2, List.append_nil]
  unfold lawVars
  generalize Nms = ns
  induction ns with
  | nil => rfl
  | cons y ns ih =>
    rw [List.filterMap_cons, List.filter_cons, ih]
    by_cases q : y ∈ fs
    · have q2 := (hf y).mp q
      simp [q, q2]
    · have q2 : ¬ y ∈ varsA as := fun z => q ((hf y).mpr z)
      simp [q, q2]
section
variable {P : Program} {w : World} {K : PySem.W.Frag} {mg : Str → Option Value} {base : Heap} {C D : Addr}
def spLawVars : Sp := fun vs H Q _ => ∃ (v : V) (as : List Atom), vs = [v] ∧ At H (atomsK as) v ∧ (∀ a ∈ as, AtomOk a) ∧ as.length ≤ 100 ∧
  ∀ (H' : Hp) (l : Addr), Ex H H' → H l = none → H' l = some (.lst ((lawVars as).map V.str)) → Q (.ref l) H'
abbrev NLv : List Str := ["_law_atoms_here", "_law_found", "_law_atom", "_law_term_here", "_law_name"]
theorem sc_lawVariables : FnScope NLv ["_law_atoms_here"] (defScope sLawVariables) := ⟨rfl, rfl, rfl, by decide +kernel, rfl, by decide +kernel, by decide +kernel⟩
theorem varsAs_nms {as : List Atom} (ok : ∀ a ∈ as, AtomOk a) {x : Str} (h : x ∈ varsA as) : x ∈ Nms := by
  unfold varsA at h
  obtain ⟨a, ha, h⟩ := List.mem_flatMap.mp h
  obtain ⟨t, ht, e⟩ := List.mem_filterMap.mp h
  have z := (ok a ha).2 t ht
  rw [varOf_ok e] at z
  exact z
theorem ok_lawVariables (T : Txt K mg C D) : Cal P w K mg base 1 "_law_variables" spLawVars := by
  refine cal_of T.fLawVariables (fun _ _ _ _ _ _ us hl => match us, hl with | [_], _ => rfl) sc_lawVariables (fun vs H Q E h => ?_) (fun f cdv A outer s H vs Q E hr h => ?_)
  · obtain ⟨v, _, rfl, _⟩ := h
    rfl
  · obtain ⟨v, as, rfl, ⟨aa, xs, rfl, haa, hA⟩, ok, h100, kf⟩ := h
    have hl : xs.length = as.length := by rw [hA.length, List.length_map]
    have two : ∀ a ∈ as, a.2.length ≤ 2 := fun a ha => by
      obtain ⟨h1 | h1, _⟩ := ok a ha <;> omega
    refine ⟨_, pss_cons (ps_set (i := 1) sc_lawVariables.nd rfl (Or.inr rfl) (pe_lst pa_nil))
      (pss_cons (ps_for PassesOwn.never rfl (pi_tup (pv 0)) (pg_name (i := 2) sc_lawVariables.nd rfl (Or.inl rfl))
        (pss_one (ps_set (i := 1) sc_lawVariables.nd rfl (Or.inr rfl) (pe_op op_cat (pv 1) (pe_lc (own := [("_law_term_here", 3)]) (g := gName 3) rfl sc_lawVariables.nd (pi_tup (pe_ix (ixT K) (pv 2) pe_int (fun _ _ => rfl)))
          (blkOk_by (N := NLv) (sc := defScope sLawVariables) (by decide +kernel)) (fun _ _ _ _ _ => pg_name (i := 3) sc_lawVariables.nd rfl (Or.inl rfl))
          (fun _ _ _ _ _ => pts_one (PW.pt (pw_and (pt_cmpR op_eq (pe_ix (ixT K) (pv 3) pe_int (fun _ _ => rfl)) pe_str (nomark _)) (pw_and1 (pt_cmpR (opNotInL K) (pe_ix (ixT K) (pv 3) pe_int (fun _ _ => rfl)) (pv 1) (by rfl))))))
          (fun _ _ _ _ _ => pe_ix (ixT K) (pv 3) pe_int (fun _ _ => rfl)))))))
      (pss_one (ps_ret (pe_lc (own := [("_law_name", 4)]) (g := gName 4) rfl sc_lawVariables.nd (pi_list (pe_lst (pa_cons pe_str (pa_cons pe_str (pa_cons pe_str (pa_cons pe_str (pa_cons pe_str (pa_cons pe_str pa_nil))))))))
          (blkOk_by (N := NLv) (sc := defScope sLawVariables) (by decide +kernel)) (fun _ _ _ _ _ => pg_name (i := 4) sc_lawVariables.nd rfl (Or.inl rfl))
          (fun _ _ _ _ _ => pts_one (pt_cmpR (opInL K) (pv 4) (pv 1) (by rfl)))
          (fun _ _ _ _ _ => pv 4))))), ?_⟩
    refine ⟨Nat.zero_le _, fun l0 nl0 => ⟨_, rfl, aa, rfl, ⟨_, SqT.of ((Ex.new nl0) _ _ haa)⟩, ?_⟩⟩
    refine for_tup (xs := xs) (fun i σ H1 => ∃ (l : Addr) (fs : List Str) (x2 x3 x4 : Option V), σ = [some (.ref aa), some (.ref l), x2, x3, x4] ∧ Ex H H1 ∧ H1 l = some (.lst (fs.map V.str)) ∧ fs.length ≤ 2 * i ∧ ∀ x, x ∈ fs ↔ x ∈ varsA (as.take i))
      ⟨l0, [], _, _, _, rfl, Ex.new nl0, upd_same, Nat.le_refl _, fun x => by simp [varsA]⟩ (fun i σ H1 _ ⟨_, _, _, _, _, _, e, _⟩ => SqT.of (e _ _ haa)) ?_ ?_
    · rintro i x σ H1 hx ⟨l, fs, x2, x3, x4, rfl, e1, hl1, hlen, hmem⟩
      obtain ⟨at1, hat, hatx⟩ := hA.at hx
      obtain ⟨c, tt, ys, rfl, hc, htt, hys⟩ := at_atom (At.mono e1.tk _ _ hatx)
      have hly : ys.length = at1.2.length := by rw [hys.length, List.length_map]
      have h2 := two at1 (List.mem_of_getElem? hat)
      have hi : i < as.length := (List.getElem?_eq_some_iff.mp hat).1
      refine ⟨_, rfl, _, rfl, c, _, _, _, rfl, rfl, SqT.of hc, rfl, tt, rfl, ⟨_, SqT.of htt⟩, fun L nL => ?_⟩
      refine lc_fm (xs := at1.2) (by rw [← hly]; exact walk_tup (xs := ys)) (fun t => (newVar fs t).map V.str) nL (by rw [sizeLine_eq]; omega) (fun H2 e2 => SqT.of (e2 _ _ htt)) ?_ ?_
      · rintro j y t H2 H3 htj e2 ⟨rfl, hyj⟩ Qn Qy hn hy
        obtain ⟨t', htj', htx⟩ := hys.at hyj
        rw [htj] at htj'
        cases htj'
        obtain ⟨b, rfl, hb⟩ := at_tm.mp (At.mono e2.tk _ _ htx)
        refine ⟨rfl, _, rfl, b, _, _, _, rfl, rfl, SqT.of hb, rfl, rfl, _, rfl, ?_⟩
        cases t with
        | var z =>
          refine iteT ⟨_, rfl, b, _, _, _, rfl, rfl, SqT.of hb, rfl, _, rfl, l, _, rfl, .inl (SqL.of (e2 _ _ hl1)), rfl, flat_strs _, _, rfl, ?_⟩
          rw [if_pos rfl, show arg (Tm.var z) = V.str z from rfl, inV_strs]
          by_cases q : z ∈ fs
          · rw [decide_eq_true q]
            refine iteF (hn ?_ _ Ex.refl)
            simp [newVar, varOf, q]
          · rw [decide_eq_false q]
            refine iteT ⟨_, rfl, b, _, _, _, rfl, rfl, SqT.of hb, rfl, hy _ ?_ _ Ex.refl⟩
            simp [newVar, varOf, q]
            rfl
        | val z =>
          refine iteF (iteF (hn ?_ _ Ex.refl))
          simp [newVar, varOf]
      · intro H2 e2 hL
        refine ⟨l, L, fs.map V.str, _, rfl, rfl, e2 _ _ hl1, hL, ?_, fun p np => ⟨p, fs ++ at1.2.filterMap (newVar fs), _, _, _, rfl, (e1.trans e2).trans (Ex.new np), ?_, ?_, fun x => ?_⟩⟩
        · have z := len_fm (fun t => (newVar fs t).map V.str) at1.2
          rw [List.length_map, sizeLine_eq]
          omega
        · rw [upd_same, List.map_append]
          congr 3
          rw [← List.filterMap_eq_map, List.filterMap_filterMap]
          congr 1
          funext t
          cases newVar fs t <;> rfl
        · have z := len_fm (newVar fs) at1.2
          rw [List.length_append]
          omega
        · rw [newVar_mem, take_snoc hat, hmem]
          unfold varsA
          rw [List.flatMap_append, List.mem_append]
          simp
    · rintro σ H1 ⟨l, fs, x2, x3, x4, rfl, e1, hl1, hlen, hmem⟩
      rw [hl, List.take_length] at hmem
      refine ⟨by rw [sizeLine_eq]; decide, fun p np => ⟨p, rfl, ⟨_, SqL.of upd_same⟩, fun L nL => ?_⟩⟩
      refine lc_fm (xs := sixNames) (walk_list (xs := sixNames.map V.str)) (fun x => if x ∈ fs then some (V.str x) else none) nL (by rw [sizeLine_eq]; decide) (fun H2 e2 => SqL.of (e2 _ _ upd_same)) ?_ ?_
      · rintro j y z H2 H3 hz e2 ⟨rfl, hyj⟩ Qn Qy hn hy
        rw [List.getElem?_map, hz] at hyj
        obtain rfl := (Option.some.inj hyj).symm
        refine ⟨rfl, _, rfl, _, rfl, l, _, rfl, .inl (SqL.of (e2 _ _ ((Ex.new np) _ _ hl1))), rfl, flat_strs _, _, rfl, ?_⟩
        rw [if_neg Bool.false_ne_true, inV_strs]
        by_cases q : z ∈ fs
        · rw [decide_eq_true q]
          refine iteT ⟨_, rfl, hy _ ?_ _ Ex.refl⟩
          rw [if_pos q]
        · rw [decide_eq_false q]
          refine iteF (hn ?_ _ Ex.refl)
          rw [if_neg q]
      · intro H2 e2 hL
        rw [six_filter (fun x => varsAs_nms ok) hmem] at hL
        have e3 := (e1.trans (Ex.new np)).trans e2
        exact kf H2 L e3 ((e1.trans (Ex.new np)).free nL) hL
end
end Ew
set_option Elab.async false
set_option linter.all false
set_option maxRecDepth 100000
set_option maxHeartbeats 1000000
/-! the law's is_map -/
namespace Ew
open PySem PySem.Spec PyProof.Rows L2 RZ
section
variable {P : Program} {w : World} {K : PySem.W.Frag} {mg : Str → Option Value} {base : Heap} {C D : Addr}
abbrev NLi : List Str := ["_law_first", "_law_second_here", "_law_table", "_law_k", "_law_atom"]
theorem sc_lawIsMap : FnScope NLi ["_law_first", "_law_second_here", "_law_table"] (defScope sLawIsMap) := ⟨rfl, rfl, rfl, by decide +kernel, rfl, by decide +kernel, by decide +kernel⟩
theorem heads_all {r1 r2 : Rule} {m : Mp} (hlen : r1.1.length = r2.1.length) (h : ∀ j, j < r1.1.length → ∀ x y, r1.1[j]? = some x → r2.1[j]? = some y → ap m (.var x) = .var y) : r1.1.map (fun x => ap m (.var x)) = r2.1.map Tm.var := by
  refine List.ext_getElem? fun j => ?_
  rw [List.getElem?_map, List.getElem?_map]
  by_cases q : j < r1.1.length
  · have q2 : j < r2.1.length := by omega
    rw [List.getElem?_eq_getElem q, List.getElem?_eq_getElem q2]
    exact congrArg some (h j q _ _ (List.getElem?_eq_getElem q) (List.getElem?_eq_getElem q2))
  · rw [List.getElem?_eq_none (by omega), List.getElem?_eq_none (by omega)]
    rfl
theorem heads_not {r1 r2 : Rule} {m : Mp} {j : Nat} {x y : Str} (hx : r1.1[j]? = some x) (hy : r2.1[j]? = some y) (h : ¬ ap m (.var x) = .var y) : isMapB r1 r2 m = false := by
  unfold isMapB
  have : ¬ r1.1.map (fun x => ap m (.var x)) = r2.1.map Tm.var := fun z => h (by
    have e := congrArg (fun l => l[j]?) z
    simp only [List.getElem?_map, hx, hy] at e
    exact Option.some.inj e)
  rw [decide_eq_false this]
  rfl
theorem ok_lawIsMap (T : Txt K mg C D) : Cal P w K mg base 2 "_law_is_map" spIsMap := by
  refine cal_of T.fLawIsMap (fun _ _ _ _ _ _ us hl => match us, hl with | [_, _, _], _ => rfl) sc_lawIsMap (fun vs H Q E h => ?_) (fun f cdv A outer s H vs Q E hr h => ?_)
  · obtain ⟨v, u, _, r1, r2, _, rfl, _⟩ := h
    rfl
  · obtain ⟨v, u, q, r1, r2, m, rfl, hv, hu, ok1, ok2, hlen, hq, hm, kf⟩ := h
    obtain ⟨a, hd, aa, xs, rfl, ha, hh, haa, hA⟩ := at_rule hv
    obtain ⟨b, hd2, aa2, xs2, rfl, hb, hh2, haa2, hA2⟩ := at_rule hu
    have GV : Cal P w K mg base 1 "_law_variables" spLawVars := ok_lawVariables T
    have GP : Cal P w K mg base 1 "_law_put_in" spPut := ok_lawPutIn T
    have l12 := hm.len
    have i1 := ok1.high
    have hlenS : (r1.1.map V.str).length = r1.1.length := List.length_map _
    have j1 := ok1.h2
    have j2 := ok2.h2
    refine ⟨_, pss_cons (ps_if (pt_cmpR (op_neD hr.units) (pe_callB (call_sortedD rfl) (by rfl) T.n_sorted (by decide +kernel) (pa_cons (pv 2) pa_nil))
          (pe_callB cr_sortedS (by rfl) T.n_sorted (by decide +kernel) (pa_cons (pe_c (X := (cxOf CX0 P w K mg base NLi "_law_is_map" (defScope sLawIsMap) f cdv A outer s H E).nox) GV hr (by decide) (by rfl) (pa_cons (pe_ix (ixT K) (pv 0) pe_int (fun _ _ => rfl)) pa_nil)) pa_nil)) (nomark _))
        (pss_one (ps_ret pe_bl)) pss_nil)
      (pss_cons (ps_for PassesOwn.never rfl (pi_range1 (by rfl) T.n_range (pa_cons (pe_callB call_len_seq (by rfl) T.n_len (by decide +kernel) (pa_cons (pe_ix (ixT K) (pv 0) pe_int (fun _ _ => rfl)) pa_nil)) pa_nil)) (pg_name (i := 3) sc_lawIsMap.nd rfl (Or.inl rfl))
        (pss_one (ps_if (pt_cmpR (op_neK hr.units) (pe_dget (hu_of hr) (pv 2) (pe_ix (ixT K) (pe_ix (ixT K) (pv 0) pe_int (fun _ _ => rfl)) (pv 3) (fun _ _ => rfl)) (fun _ _ => rfl)) (pe_tup (pa_cons pe_str (pa_cons (pe_ix (ixT K) (pe_ix (ixT K) (pv 1) pe_int (fun _ _ => rfl)) (pv 3) (fun _ _ => rfl)) pa_nil))) (nomark _))
          (pss_one (ps_ret pe_bl)) pss_nil)))
      (pss_one (ps_ret (pe_callB (cr_all rfl) (by rfl) T.n_all (by decide +kernel) (pa_cons (pe_lc (own := [("_law_atom", 4)]) (g := gName 4) (tt := tYes) rfl sc_lawIsMap.nd (pi_tup (pe_ix (ixT K) (pv 0) pe_int (fun _ _ => rfl)))
          (blkOk_by (N := NLi) (sc := defScope sLawIsMap) (by decide +kernel)) (fun _ _ _ _ _ => pg_name (i := 4) sc_lawIsMap.nd rfl (Or.inl rfl)) (fun _ _ _ _ _ => pts_nil)
          (fun _ _ _ _ _ => pe_cmpR (op_inK (Room.units (k := 0) (by exact hr.mono (by decide)))) (pe_tup (pa_cons (pe_ix (ixT K) (pv 4) pe_int (fun _ _ => rfl)) (pa_cons (pe_c (X := Cx.blk _ _ _ _ _ _) GP hr (by decide) (by rfl) (pa_cons (pe_ix (ixT K) (pv 4) pe_int (fun _ _ => rfl)) (pa_cons (pv 2) pa_nil))) pa_nil))) (pe_ix (ixT K) (pv 1) pe_int (fun _ _ => rfl)) (by rfl))) pa_nil))))), ?_⟩
    obtain ⟨es, hme, hqd, hqe⟩ := id hq
    have hkeys : (es.map entT).map (·.1) = (m.map (·.1)).map Sum.inr := by
      rw [hme, List.map_map, List.map_map, List.map_map]
      rfl
    have hnm : ∀ x ∈ m.map (·.1), x ∈ Nms := fun x hx => varsA_nms ok1 ((hm.mem x).mp hx)
    have hvn : ∀ x ∈ varsA r1.2, x ∈ Nms := fun x hx => varsA_nms ok1 hx
    have hpm : (m.map (·.1)).Perm (lawVars r1.2) := hm.perm (nd_lawVars _) fun x => mem_lawVars hvn
    refine ⟨_, rfl, q, _, m.map (·.1), rfl, .inl hqd, hkeys, by rw [List.length_map]; omega, fun ys p hperm hsort np => ?_⟩
    refine ⟨_, rfl, a, _, _, _, rfl, rfl, SqT.of ((Ex.new np) _ _ ha), rfl, _, r1.2, rfl, ⟨aa, xs, rfl, (Ex.new np) _ _ haa, Ats.mono (tk_new np) _ _ hA⟩, ok1.atoms, by omega, fun H1 l e1 nl hl => ?_⟩
    have e01 : Ex H H1 := (Ex.new np).trans e1
    refine ⟨l, _, rfl, SqL.of hl, ?_, fun zs' p2 hperm2 hsort2 np2 => ?_⟩
    · have := hpm.length_eq
      rw [List.length_map] at this
      omega
    have e2 := e01.trans (Ex.new (o := .lst (zs'.map V.str)) np2)
    have hzy : ys = zs' := sorted_uniq (fun x hx => hnm x (hperm.mem_iff.mp hx)) hsort hsort2 ((hperm.trans hpm).trans hperm2.symm)
    subst hzy
    have hys : ∀ x ∈ ys, x ∈ Nms := fun x hx => hnm x (hperm.mem_iff.mp hx)
    refine ⟨.list (ys.map .str), .list (ys.map .str), .lst (SqL.of ((e1.trans (Ex.new np2)) _ _ upd_same)) (dp_strs _), .lst (SqL.of upd_same) (dp_strs _), shaped_strs hys, shaped_strs hys, _, rfl, ?_⟩
    rw [show PyData.eqv (.list (ys.map .str)) (.list (ys.map .str)) = true by rw [PyData.eqv]; exact eqv_strs ys]
    refine iteF ?_
    generalize hH2 : upd H1 p2 (.lst (ys.map V.str)) = H2 at e2 ⊢
    refine ⟨_, rfl, a, _, _, _, rfl, rfl, SqT.of (e2 _ _ ha), rfl, hd, _, rfl, .inr (SqT.of (e2 _ _ hh)), _, rfl, (by rw [hlenS]; omega), (by rw [hlenS]; omega), ?_⟩
    refine for_range (fun j σ H3 => ∃ x3 x4 : Option V, σ = [some (.ref a), some (.ref b), some (.ref q), x3, x4] ∧ Ex H H3 ∧ ∀ i, i < j → ∀ x y, r1.1[i]? = some x → r2.1[i]? = some y → ap m (.var x) = .var y)
      ⟨_, _, rfl, e2, fun i hi => absurd hi (Nat.not_lt_zero _)⟩ ?_ ?_
    · rintro j σ H3 hj ⟨x3, x4, rfl, e3, hj0⟩
      have hj1 : j < r1.1.length := by
        rw [hlenS] at hj
        omega
      have hj2 : j < r2.1.length := by omega
      have hx := List.getElem?_eq_getElem hj1
      have hy := List.getElem?_eq_getElem hj2
      obtain ⟨t, ht⟩ := hm.lk (ok1.head _ (List.getElem_mem hj1))
      obtain ⟨b', hg, hb'⟩ := (hq.ex e3).get ht
      have z0 : (0 : Int) + (j : Int) = (j : Int) := by omega
      refine ⟨_, rfl, _, rfl, a, _, _, _, rfl, rfl, SqT.of (e3 _ _ ha), rfl, _, rfl, hd, _, _, _, rfl, rfl, SqT.of (e3 _ _ hh), ?_, q, _, rfl, hg, ?_⟩
      · rw [z0]
        exact atI_nat (by rw [List.getElem?_map, hx]; rfl)
      refine ⟨_, rfl, b, _, _, _, rfl, rfl, SqT.of (e3 _ _ hb), rfl, _, rfl, hd2, _, _, V.str r2.1[j], rfl, rfl, SqT.of (e3 _ _ hh2), ?_, two_le, fun p3 np3 => ?_⟩
      · rw [z0]
        exact atI_nat (by rw [List.getElem?_map, hy]; rfl)
      have e4 := e3.trans (Ex.new (o := .tup [.str "var", .str r2.1[j]]) np3)
      refine ⟨tmK t, tmK (.var r2.1[j]), At.mono (tk_new np3) _ _ hb', at_var.mpr ⟨p3, rfl, upd_same⟩, tmK_tup _, tmK_tup _, Nat.le_trans (depth_tmK _) (by decide), _, rfl, ?_⟩
      rw [dec_tm]
      have hap : ap m (.var r1.1[j]) = t := by
        show (lk m _).getD (.var _) = t
        rw [ht]
        rfl
      refine ite_not (fun e => ?_) (fun e => ?_)
      · have e0 := of_decide_eq_false e
        have := kf _ e4
        rw [heads_not hx hy (by rw [hap]; exact e0)] at this
        exact this
      · have e0 := of_decide_eq_true e
        refine ⟨_, _, rfl, e4, fun i hi x y h1 h2 => ?_⟩
        by_cases hij : i = j
        · subst hij
          rw [hx] at h1
          rw [hy] at h2
          cases h1
          cases h2
          rw [hap, e0]
        · exact hj0 i (by omega) x y h1 h2
    · rintro σ H3 ⟨x3, x4, rfl, e3, hj⟩
      rw [hlenS, Int.toNat_natCast] at hj
      have hheads := heads_all hlen hj
      unfold isMapB at kf
      rw [decide_eq_true hheads] at kf
      have e10 := e3
      have hl1 : xs.length = r1.2.length := by rw [hA.length, List.length_map]
      refine ⟨_, rfl, a, _, _, _, rfl, rfl, SqT.of (e10 _ _ ha), rfl, aa, rfl, ⟨_, SqT.of (e10 _ _ haa)⟩, fun L4 nL4 => ?_⟩
      refine lc_map (walk_tup (xs := xs)) S0 (fun _ => True) (fun H i y => ∃ x, r1.2[i]? = some x ∧ y = .bl (decide ((x.1, x.2.map (ap m)) ∈ r2.2))) nL4 (by rw [sizeLine_eq]; omega) (fun z => z) trivial (fun _ _ _ _ _ => trivial) (fun H1 _ hE _ => SqT.of (hE.ex _ _ (e10 _ _ haa))) (fun _ _ _ _ kk h => h) ?_ ?_
      · rintro i x H5 H6 hi _ hE hT ⟨rfl, hx⟩ Q' hQ
        obtain ⟨at1, hat, hatx⟩ := hA.at hx
        have e11 := e10.trans hE.ex
        obtain ⟨c, tt, ts, rfl, hc, htt, hts⟩ := at_atom (At.mono e11.tk _ _ hatx)
        have hmem := List.mem_of_getElem? hat
        refine ⟨rfl, _, rfl, c, _, _, _, rfl, rfl, SqT.of hc, rfl, _, rfl, c, _, _, _, rfl, rfl, SqT.of hc, rfl, _, rfl, .ref tt, q, at1.2, m, rfl, ⟨tt, ts, rfl, htt, hts⟩, hq.ex e11, by have := ok1.two at1 hmem; omega, fun x hx => ?_, fun H10 uu e12 huu => ⟨two_le, fun p np => ?_⟩⟩
        · obtain ⟨t, ht⟩ := hm.lk (varsA_mem hmem hx)
          rw [ht]
          rfl
        · have e13 := e11.trans (e12.trans (Ex.new (o := .tup [.str at1.1, uu]) np))
          have e14 := e12.trans (Ex.new (o := .tup [.str at1.1, uu]) np)
          refine ⟨_, rfl, b, _, _, _, rfl, rfl, SqT.of (e13 _ _ hb), rfl, atomK (at1.1, at1.2.map (ap m)), r2.2.map atomK, at_pair.mpr ⟨p, _, _, rfl, upd_same, rfl, At.mono (tk_new np) _ _ huu⟩, ⟨aa2, xs2, rfl, e13 _ _ haa2, Ats.mono e13.tk _ _ hA2⟩, Nat.le_trans (depth_atomK _) (by decide), ?_⟩
          have hdec2 : decide (atomK (at1.1, at1.2.map (ap m)) ∈ r2.2.map atomK) = decide ((at1.1, at1.2.map (ap m)) ∈ r2.2) := decide_eq_decide.mpr (mem_map_inj fun _ _ => atomK_inj)
          rw [hdec2]
          exact hQ _ _ e14.exS e14.tk trivial ⟨at1, hat, rfl⟩
      · intro H5 us _ hE hT hL hul huR
        rw [ys_bls (f := fun x : Atom => decide ((x.1, x.2.map (ap m)) ∈ r2.2)) (by omega) fun i y h => huR i y h] at hL
        refine ⟨L4, _, rfl, SqL.of hL, ?_⟩
        have := kf H5 (e10.trans hE.ex)
        rw [List.all_map]
        simpa using this
end
end Ew
set_option Elab.async false
set_option linter.all false
set_option maxRecDepth 100000
set_option maxHeartbeats 1000000
/-! check_heads -/
namespace Ew
open PySem PySem.Spec PyProof.Rows L2 RZ
section
variable {P : Program} {w : World} {K : PySem.W.Frag} {mg : Str → Option Value} {base : Heap} {C D : Addr}
/-- a def's body keeps its promise; it may raise -/
abbrev BodyX (P : Program) (w : World) (K : PySem.W.Frag) (mg : Str → Option Value) (base : Heap) (q : Str) (st : Stmt) (N : List Str) (k : Nat) (sp : Sp) : Prop :=
  ∀ (f : Addr) (cdv : Value) (A : Around) (outer : List Env) (s : Shared) (H : Hp) (vs : List V) (Q : VK) (E : XK), Room k (A.deeper (envOfC q (defScope st) s.heap.objs.size f cdv)) → sp vs H Q E →
    ∃ t, PSs (cxOf (L2.CX P w) P w K mg base N q (defScope st) f cdv A outer s H E) (defBody st) t ∧ t { nx := fun _ H' => Q .non H', rt := Q } (start N vs) H
theorem calx_of {x : Str} {st : Stmt} {N ps : List Str} {k : Nat} {sp : Sp} (F : Fn1 K mg x st) (b : BindsBy x x st ps) (S : FnScope N ps (defScope st)) (len : ∀ vs H Q E, sp vs H Q E → vs.length = ps.length)
    (hb : BodyX P w K mg base x st N k sp) : CalX P w K mg base (k + 1) x sp := by
  obtain ⟨f, fd, D, hm⟩ := F
  exact ⟨f, fd, ps, FunD.ok (CX := L2.CX P w) D S len fun cdv A outer s H vs Q E hr h => hb f cdv A outer s H vs Q E hr h, hm, D.kp, D.bindsN b⟩
def spHeads (D : Addr) : Sp := fun vs H Q E => ∃ (v u : V) (r1 r2 : Rule), vs = [v, u] ∧ At H (ruleK r1) v ∧ At H (ruleK r2) u ∧
  (r1.1.length = r2.1.length → Q .non H) ∧ (¬ r1.1.length = r2.1.length → E (.ref D) none H)
theorem sc_checkHeads : FnScope ["first", "second"] ["first", "second"] (defScope sCheckHeads) := ⟨rfl, rfl, rfl, by decide +kernel, rfl, by decide +kernel, by decide +kernel⟩
theorem ok_checkHeads (T : Txt K mg C D) : CalX P w K mg base 1 "check_heads" (spHeads D) := by
  refine calx_of T.fCheckHeads (fun _ _ _ _ _ _ us hl => match us, hl with | [_, _], _ => rfl) sc_checkHeads (fun vs H Q E h => ?_) (fun f cdv A outer s H vs Q E hr h => ?_)
  · obtain ⟨v, u, r1, r2, rfl, _⟩ := h
    rfl
  · obtain ⟨v, u, r1, r2, rfl, hv, hu, k1, k2⟩ := h
    obtain ⟨a, hd, aa, xs, rfl, ha, hh, haa, hA⟩ := at_rule hv
    obtain ⟨b, hd2, aa2, xs2, rfl, hb, hh2, haa2, hA2⟩ := at_rule hu
    refine ⟨_, pss_one (ps_if (pt_cmpR op_ne (pe_callB call_len_seq (by rfl) T.n_len (by decide +kernel) (pa_cons (pe_ix (ixT K) (pv 0) pe_int (fun _ _ => rfl)) pa_nil)) (pe_callB call_len_seq (by rfl) T.n_len (by decide +kernel) (pa_cons (pe_ix (ixT K) (pv 1) pe_int (fun _ _ => rfl)) pa_nil)) (nomark _))
      (pss_one (ps_raise rfl (takes_of rfl rfl rfl rfl) (pmk_own PySem.F.excBase_ValueError T.xD T.gD T.kD (raises_own T.bD T.tD) (by exact rfl)))) pss_nil), ?_⟩
    refine ⟨_, rfl, a, _, _, _, rfl, rfl, SqT.of ha, rfl, hd, _, rfl, .inr (SqT.of hh), _, rfl, b, _, _, _, rfl, rfl, SqT.of hb, rfl, hd2, _, rfl, .inr (SqT.of hh2), rfl, _, rfl, ?_⟩
    by_cases e : r1.1.length = r2.1.length
    · have e2 : (!decide (V.int (((r1.1.map V.str).length : Nat) : Int) = V.int (((r2.1.map V.str).length : Nat) : Int))) = false := by simp [e]
      rw [e2]
      exact iteF (k1 e)
    · have e2 : (!decide (V.int (((r1.1.map V.str).length : Nat) : Int) = V.int (((r2.1.map V.str).length : Nat) : Int))) = true := by
        simp
        omega
      rw [e2]
      exact iteT (k2 e)
end
end Ew
set_option Elab.async false
set_option linter.all false
set_option maxRecDepth 100000
set_option maxHeartbeats 1000000
/-! Facts: __init__, arity -/
namespace Ew
open PySem PySem.Spec PyProof.Rows L2 RZ
theorem pss_false {X : Cx} {sts : List Stmt} : PSs X sts (fun _ _ _ => False) := ⟨fun _ _ _ _ _ _ h => h.elim⟩
abbrev tabs : List (L2.Key × V) := [(Sum.inr "e", .int 2), (Sum.inr "p", .int 1)]
def arOf (t : Str) : Int := if t = "e" then 2 else 1
theorem tabs_e : valV tabs (Sum.inr "e" : L2.Key) = some (.int 2) := valV_pos rfl
theorem ne_ep : ¬ (Sum.inr ("e" : Str) : L2.Key) = Sum.inr ("p" : Str) := fun z => absurd (Sum.inr.inj z) (by decide +kernel)
theorem tabs_p : valV tabs (Sum.inr "p" : L2.Key) = some (.int 1) := (valV_neg ne_ep).trans (valV_pos rfl)
def NmTab (t : Str) : Prop := t = "e" ∨ t = "p"
theorem tabs_at {t : Str} (h : NmTab t) : valV tabs (Sum.inr t : L2.Key) = some (.int (arOf t)) := by
  rcases h with rfl | rfl
  · exact tabs_e
  · exact tabs_p
structure FcAt (P : Program) (w : World) (C : Addr) (H : Hp) (p ad kl tl pd : Addr) (F : List Fact) : Prop where
  ne : kl ≠ tl
  ins : ∃ dx, H p = some (.ins C dx [("arities", .ref ad), ("known", .ref kl), ("there", .ref tl), ("places", .ref pd)])
  ari : H ad = some (.dK tabs)
  kno : ∃ vs, H kl = some (.lst vs) ∧ Ats H (F.map factK) vs
  the : H tl = some (.lst (F.map fun _ => V.bl true))
  pla : ∃ xs, DN P w H pd xs ∧ xs.length ≤ F.length ∧ ∀ f, (f ∈ F → ∃ i, atN xs (factK f) = some (.int i)) ∧ (¬ f ∈ F → atN xs (factK f) = none)
def TabAt (H : Hp) (tb : Addr) : Prop := ∃ t1 t2, H tb = some (.lst [.ref t1, .ref t2]) ∧ H t1 = some (.tup [.str "e", .int 2]) ∧ H t2 = some (.tup [.str "p", .int 1])
theorem FcAt.mono {P : Program} {w : World} {C : Addr} {H H' : Hp} {p ad kl tl pd : Addr} {F : List Fact} (f : FcAt P w C H p ad kl tl pd F) (k : TK H H') (h : ∀ b o, b = p ∨ b = ad ∨ b = kl ∨ b = tl ∨ b = pd → H b = some o → H' b = some o) : FcAt P w C H' p ad kl tl pd F := by
  obtain ⟨ne, ⟨dx, e1⟩, e2, ⟨vs, e3, e4⟩, e5, ⟨xs, e6, e7, e8⟩⟩ := f
  exact ⟨ne, ⟨dx, h _ _ (.inl rfl) e1⟩, h _ _ (.inr (.inl rfl)) e2, ⟨vs, h _ _ (.inr (.inr (.inl rfl))) e3, Ats.mono k _ _ e4⟩, h _ _ (.inr (.inr (.inr (.inl rfl)))) e5, ⟨xs, e6.mono k (h _ _ (.inr (.inr (.inr (.inr rfl)))) e6.at_), e7, e8⟩⟩
theorem FcAt.ex {P : Program} {w : World} {C : Addr} {H H' : Hp} {p ad kl tl pd : Addr} {F : List Fact} (f : FcAt P w C H p ad kl tl pd F) (k : Ex H H') : FcAt P w C H' p ad kl tl pd F := f.mono k.tk fun b o _ e => k b o e
section
variable {P : Program} {w : World} {K : PySem.W.Frag} {mg : Str → Option Value} {base : Heap} {C D : Addr}
def spInit (P : Program) (w : World) (C : Addr) : Sp := fun vs H Q _ => ∃ (x tb dx : Addr), vs = [.ref x, .ref tb] ∧ H x = some (.ins C dx []) ∧ TabAt H tb ∧
  ∀ (H' : Hp) (ad kl tl pd : Addr), ExB x H H' → H ad = none → H kl = none → H tl = none → H pd = none → FcAt P w C H' x ad kl tl pd [] → Q .non H'
abbrev NFi : List Str := ["self", "tables", "name", "arity"]
theorem sc_fInit : FnScope NFi ["self", "tables"] (defScope sFInit) := ⟨rfl, rfl, rfl, by decide +kernel, rfl, by decide +kernel, by decide +kernel⟩
theorem ok_fInit (T : Txt K mg C D) : Mak P w K mg base 2 "Facts" C (spInit P w C) := by
  refine mak_of T.mInit T.gC (fun _ _ _ _ _ _ us hl => match us, hl with | [_, _], _ => rfl) sc_fInit (fun vs H Q E h => ?_) (fun f cdv A outer s H vs Q E hr h => ?_)
  · obtain ⟨x, tb, dx, rfl, _⟩ := h
    rfl
  · obtain ⟨x, tb, dx, rfl, hx, ⟨t1, t2, htb, ht1, ht2⟩, kf⟩ := h
    have GN : Cal P w K mg base 1 "is_name" spIsName := ok_isName T
    obtain ⟨tw, hw⟩ := T.cWid
    refine ⟨_, pss_cons (ps_fld (pv 0) pe_dnewK (by rfl))
      (pss_cons (ps_for PassesOwn.never rfl (pi_list (pv 1)) (pgT K rfl (pgs_cons (pg_name (i := 2) sc_fInit.nd rfl (Or.inl rfl)) (pgs_cons (pg_name (i := 3) sc_fInit.nd rfl (Or.inl rfl)) pgs_nil)))
        (pss_cons (ps_if (PW.pt (pw_or (pt_not (pt_val (pe_c (X := (cxOf CX0 P w K mg base NFi "Facts.__init__" (defScope sFInit) f cdv A outer s H E).nox) GN hr (by decide) (by rfl) (pa_cons (pv 2) pa_nil))))
            (pw_or (pt_cmp (pc_din (hu_of hr) (pv 2) (pe_fld (pv 0) (by rfl))) (by rfl)) (pw_or1 (pt_not (pt_chain op_le op_le pe_int (pv 3) (pe_glob (v := .int 4) (by rfl) hw ⟨_, rfl⟩)))))))
            pss_false pss_nil)
        (pss_one (ps_dput (hu_of hr) (pe_fld (pv 0) (by rfl)) (pv 2) (pv 3) (by rfl)))))
      (pss_cons (ps_fld (pv 0) (pe_lst pa_nil) (by rfl))
      (pss_cons (ps_fld (pv 0) (pe_lst pa_nil) (by rfl))
      (pss_one (ps_fld (pv 0) pe_dnewN (by rfl)))))), ?_⟩
    intro ad nad
    have nex : ∀ {b : Addr} {o : HO} {H1 : Hp}, H1 b = some o → H1 ad = none → b ≠ ad := fun e n => ne_of_none e n
    have xad : x ≠ ad := ne_of_none hx nad
    refine ⟨_, rfl, x, C, dx, [], rfl, (by rw [upd_ne xad]; exact hx), T.cl, T.naArities, (by decide), ?_⟩
    generalize hH1 : upd (upd H ad (.dK [])) x (.ins C dx (putF "arities" (.ref ad) [])) = H1
    have e1 : ExB x H H1 := fun b o n e => by
      rw [← hH1, upd_ne n, upd_ne (ne_of_none e nad)]
      exact e
    have hx1 : H1 x = some (.ins C dx [("arities", .ref ad)]) := by rw [← hH1]; exact upd_same
    have had : H1 ad = some (.dK []) := by rw [← hH1, upd_ne (Ne.symm xad)]; exact upd_same
    have ntb : tb ≠ x := fun z => by rw [z, hx] at htb; cases htb
    have nt1 : t1 ≠ x := fun z => by rw [z, hx] at ht1; cases ht1
    have nt2 : t2 ≠ x := fun z => by rw [z, hx] at ht2; cases ht2
    refine ⟨_, rfl, tb, rfl, ⟨_, SqL.of (e1 _ _ ntb htb)⟩, ?_⟩
    refine for_list (xs := [V.ref t1, V.ref t2]) (fun i σ H2 => ∃ x2 x3 : Option V, σ = [some (.ref x), some (.ref tb), x2, x3] ∧ ExB x H H2 ∧ H2 x = some (.ins C dx [("arities", .ref ad)]) ∧ H2 ad = some (.dK (tabs.take i)))
      ⟨_, _, rfl, e1, hx1, had⟩ (fun i σ H2 _ ⟨_, _, _, e, _⟩ => SqL.of (e _ _ ntb htb)) ?_ ?_
    · rintro i v σ H2 hv ⟨x2, x3, rfl, e2, hx2, had2⟩
      have hti : ∃ nm ar t, v = .ref t ∧ H t = some (.tup [.str nm, .int ar]) ∧ NmOk nm ∧ valV (tabs.take i) (Sum.inr nm : L2.Key) = none ∧ 1 ≤ ar ∧ ar ≤ 4 ∧ tabs.take (i + 1) = tabs.take i ++ [(Sum.inr nm, .int ar)] ∧ t ≠ x := by
        match i, hv with
        | 0, hv => cases hv; exact ⟨"e", 2, t1, rfl, ht1, e_ok, rfl, by decide, by decide, rfl, nt1⟩
        | 1, hv => cases hv; exact ⟨"p", 1, t2, rfl, ht2, p_ok, (valV_neg ne_ep).trans rfl, by decide, by decide, rfl, nt2⟩
        | i + 2, hv => simp at hv
      obtain ⟨nm, ar, t, rfl, ht, hnm, hno, h1, h4, htk, ntx⟩ := hti
      have hlen : (tabs.take i).length ≤ 2 := by rw [List.length_take]; exact Nat.min_le_right _ _
      refine ⟨t, _, rfl, SqT.of (e2 _ _ ntx ht), rfl, _, _, rfl, _, _, rfl, rfl, ?_⟩
      refine ⟨_, rfl, nm, rfl, hnm, fun H3 e3 => ⟨_, rfl, ?_⟩⟩
      refine iteF ?_
      have hx3 := e3 _ _ hx2
      have had3 := e3 _ _ had2
      refine ⟨_, rfl, _, rfl, x, C, dx, _, _, rfl, hx3, T.cl, T.naArities, rfl, ad, _, rfl, DGet.k (k := Sum.inr nm) had3, _, rfl, ?_⟩
      rw [hno]
      refine iteF ⟨_, rfl, _, _, rfl, rfl, _, rfl, ?_⟩
      have d1 : decide ((1 : Int) ≤ ar) = true := decide_eq_true h1
      rw [d1]
      refine iteT ⟨_, _, rfl, rfl, _, rfl, ?_⟩
      have d4 : decide (ar ≤ (4 : Int)) = true := decide_eq_true h4
      rw [d4]
      refine iteF ⟨_, rfl, _, rfl, x, C, dx, _, _, rfl, hx3, T.cl, T.naArities, rfl, _, rfl, ad, _, rfl, DPut.k (k := Sum.inr nm) had3 (by rw [sizeLine_eq]; omega), ?_⟩
      refine ⟨_, _, rfl, fun b o n e => ?_, ?_, ?_⟩
      · rw [upd_ne (ne_of_none e nad)]
        exact e3 _ _ (e2 _ _ n e)
      · rw [upd_ne xad]
        exact hx3
      · rw [upd_same, putK_new _ hno, htk]
    · rintro σ H2 ⟨x2, x3, rfl, e2, hx2, had2⟩
      refine ⟨Nat.zero_le _, fun kl nkl => ?_⟩
      have xkl : x ≠ kl := ne_of_none hx2 nkl
      refine ⟨_, rfl, x, C, dx, [("arities", .ref ad)], rfl, (by rw [upd_ne xkl]; exact hx2), T.cl, T.naKnown, (show 1 < 1000 by decide), ?_⟩
      refine ⟨Nat.zero_le _, fun tl ntl => ?_⟩
      have xtl : x ≠ tl := fun z => by rw [← z, upd_same] at ntl; cases ntl
      have kltl : kl ≠ tl := fun z => by rw [← z, upd_ne (Ne.symm xkl), upd_same] at ntl; cases ntl
      have ntl2 : H2 tl = none := by rw [upd_ne (Ne.symm xtl), upd_ne (Ne.symm kltl)] at ntl; exact ntl
      refine ⟨_, rfl, x, C, dx, [("arities", .ref ad), ("known", .ref kl)], rfl, (by rw [upd_ne xtl, upd_same]; rfl), T.cl, T.naThere, (show 2 < 1000 by decide), ?_⟩
      intro pd npd
      have xpd : x ≠ pd := fun z => by rw [← z, upd_same] at npd; cases npd
      have tlpd : tl ≠ pd := fun z => by rw [← z, upd_ne (Ne.symm xtl), upd_same] at npd; cases npd
      have klpd : kl ≠ pd := fun z => by rw [← z, upd_ne (Ne.symm xkl), upd_ne kltl, upd_ne (Ne.symm xkl), upd_same] at npd; cases npd
      have npd2 : H2 pd = none := by rw [upd_ne (Ne.symm xpd), upd_ne (Ne.symm tlpd), upd_ne (Ne.symm xpd), upd_ne (Ne.symm klpd)] at npd; exact npd
      refine ⟨_, rfl, x, C, dx, [("arities", .ref ad), ("known", .ref kl), ("there", .ref tl)], rfl, (by rw [upd_ne xpd, upd_same]; rfl), T.cl, T.naPlaces, (show 3 < 1000 by decide), ?_⟩
      have fr : ∀ {b : Addr}, H2 b = none → b ≠ x → H b = none := fun {b} n nx => by
        cases e : H b with
        | none => rfl
        | some o => rw [e2 b o nx e] at n; cases n
      have adkl : ad ≠ kl := ne_of_none had2 nkl
      have adtl : ad ≠ tl := ne_of_none had2 ntl2
      have adpd : ad ≠ pd := ne_of_none had2 npd2
      refine kf _ ad kl tl pd (fun b o n e => ?_) nad (fr nkl (Ne.symm xkl)) (fr ntl2 (Ne.symm xtl)) (fr npd2 (Ne.symm xpd)) ⟨kltl, ⟨dx, ?_⟩, ?_, ⟨[], ?_, rfl⟩, ?_, ⟨[], ⟨?_, fun z hz => by simp at hz⟩, Nat.le_refl _, fun f => ⟨fun z => by simp at z, fun _ => rfl⟩⟩⟩
      · have eb := e2 b o n e
        rw [upd_ne n, upd_ne (ne_of_none eb npd2), upd_ne n, upd_ne (ne_of_none eb ntl2), upd_ne n, upd_ne (ne_of_none eb nkl)]
        exact eb
      · rw [upd_same]
        rfl
      · rw [upd_ne (Ne.symm xad), upd_ne adpd, upd_ne (Ne.symm xad), upd_ne adtl, upd_ne (Ne.symm xad), upd_ne adkl]
        exact had2
      · rw [upd_ne (Ne.symm xkl), upd_ne klpd, upd_ne (Ne.symm xkl), upd_ne kltl, upd_ne (Ne.symm xkl), upd_same]
      · rw [upd_ne (Ne.symm xtl), upd_ne tlpd, upd_ne (Ne.symm xtl), upd_same]
        rfl
      · rw [upd_ne (Ne.symm xpd), upd_same]
        rfl
def spArity (P : Program) (w : World) (C : Addr) : Sp := fun vs H Q _ => ∃ (p ad kl tl pd : Addr) (t : Str) (F : List Fact), vs = [.ref p, .str t] ∧ FcAt P w C H p ad kl tl pd F ∧ NmTab t ∧ ∀ H', Ex H H' → Q (.int (arOf t)) H'
theorem sc_fArity : FnScope ["self", "table"] ["self", "table"] (defScope sFArity) := ⟨rfl, rfl, rfl, by decide +kernel, rfl, by decide +kernel, by decide +kernel⟩
theorem ok_fArity (T : Txt K mg C D) : Met P w K mg base 1 C "arity" (spArity P w C) := by
  refine met_of T.cl T.mArity (fun _ _ _ _ _ _ us hl => match us, hl with | [_, _], _ => rfl) sc_fArity (fun vs H Q E h => ?_) (fun f cdv A outer s H vs Q E hr h => ?_)
  · obtain ⟨x, _, _, _, _, _, _, rfl, _⟩ := h
    rfl
  · obtain ⟨p, ad, kl, tl, pd, t, F, rfl, fc, ht, kf⟩ := h
    obtain ⟨dx, hp⟩ := fc.ins
    refine ⟨_, pss_cons (ps_if (pt_cmp (pc_dnotin (hu_of hr) (pv 1) (pe_fld (pv 0) (by rfl))) (by rfl)) pss_false pss_nil)
      (pss_one (ps_ret (pe_dget (hu_of hr) (pe_fld (pv 0) (by rfl)) (pv 1) (fun _ _ => rfl)))), ?_⟩
    refine ⟨_, rfl, _, rfl, p, C, dx, _, _, rfl, hp, T.cl, T.naArities, rfl, ad, _, rfl, DGet.k (k := Sum.inr t) fc.ari, _, rfl, ?_⟩
    rw [tabs_at ht]
    refine iteF ⟨_, rfl, p, C, dx, _, _, rfl, hp, T.cl, T.naArities, rfl, _, rfl, ad, .int (arOf t), rfl, ?_, kf H Ex.refl⟩
    rw [← tabs_at ht]
    exact DGet.k (k := Sum.inr t) fc.ari
end
end Ew
set_option Elab.async false
set_option linter.all false
set_option maxRecDepth 100000
set_option maxHeartbeats 1000000
/-! Facts: add, find, rows -/
namespace Ew
open PySem PySem.Spec PyProof.Rows L2 RZ
theorem lc_fa {α : Type} {xs : List α} {J : It} {G : Hp → Prop} {Y : Nat → Hp → V → Hp → Prop} (w : Walk J xs.length G Y) (f : α → Option NK)
    {g : TG} {tt : TT} {te : TE} {vs : List Nat} {σ : L2.St} {H1 : Hp} {D : Addr} {Qd : Hp → Prop} (nD : H1 D = none) (hn : xs.length ≤ sizeLine) (hG : ∀ H, Ex H1 H → G H)
    (turn : ∀ i x a H H', xs[i]? = some a → Ex H1 H → Y i H x H' → ∀ (Qn : Hp → Prop) (Qy : V → Hp → Prop), (f a = none → ∀ H6, Ex H H6 → Qn H6) → (∀ k, f a = some k → ∀ u H7, Ex H H7 → At H7 k u → Qy u H7) →
      g x (wipe σ vs) H' fun σ2 H2 => wipe σ2 vs = wipe σ vs ∧ tt σ2 H2 fun b H6 => if b = true then te σ2 H6 Qy else Qn H6)
    (done : ∀ H ys, Ex H1 H → H D = some (.lst ys) → Ats H (xs.filterMap f) ys → Qd H) :
    ∃ W : Nat → Nat → Hp → Prop, (∃ m, W 0 m (upd H1 D (.lst []))) ∧ ∀ i m H, W i m H →
      (J.stop i H ∧ Qd H) ∨ (J.go i H ∧ ∃ Nx : Hp → Prop, (∀ H', Nx H' → ∃ m', m' < m ∧ W (i + 1) m' H') ∧ ∀ x H', J.yld i H x H' → g x (wipe σ vs) H' fun σ2 H2 => wipe σ2 vs = wipe σ vs ∧ tt σ2 H2 fun b H3 =>
        if b = true then te σ2 H3 fun y H4 => ∃ acc, H4 D = some (.lst acc) ∧ acc.length < sizeLine ∧ Nx (upd H4 D (.lst (acc ++ [y]))) else Nx H3) := by
  refine lc_it w (fun i H => Ex H1 H ∧ ∃ ys, H D = some (.lst ys) ∧ Ats H ((xs.take i).filterMap f) ys) ⟨Ex.new nD, [], upd_same, rfl⟩ (fun i H _ p => hG H p.1) ?_ (fun H p => ?_)
  · rintro i x H H' hi ⟨pE, ys, hD, hys⟩ hy
    have ha : xs[i]? = some xs[i] := List.getElem?_eq_getElem hi
    refine turn i x _ H H' ha pE hy _ _ (fun e H6 e6 => ⟨pE.trans e6, ys, e6 _ _ hD, ?_⟩) (fun k e u H7 e7 hu => ⟨ys, e7 _ _ hD, ?_, fun b o q => ?_, ys ++ [u], upd_same, ?_⟩)
    · rw [take_snoc ha, List.filterMap_append]
      simpa [e] using Ats.mono e6.tk _ _ hys
    · have z := len_fm f (xs.take i)
      have := hys.length
      rw [List.length_take] at z
      omega
    · rw [upd_ne (ne_of_none q nD)]
      exact e7 _ _ (pE _ _ q)
    · have tk : TK H7 (upd H7 D (.lst (ys ++ [u]))) := tk_lst (e7 _ _ hD)
      rw [take_snoc ha, List.filterMap_append]
      have z : [xs[i]].filterMap f = [k] := by simp [e]
      rw [z]
      exact Ats.append (Ats.mono tk _ _ (Ats.mono e7.tk _ _ hys)) (Ats.one (At.mono tk _ _ hu))
  · obtain ⟨pE, ys, hD, hys⟩ := p
    rw [List.take_length] at hys
    exact done H ys pE hD hys
theorem atN_putN (xs : List EN) (k l : NK) (b : Addr) (v : V) : atN (putN xs k b v) l = if k = l then some v else atN xs l := by
  unfold putN
  cases h : (atN xs k).isSome with
  | false =>
    rw [if_neg (by simp)]
    unfold atN at h ⊢
    rw [List.find?_append]
    by_cases e : k = l
    · subst e
      have : xs.find? (fun x => decide (x.1 = k)) = none := by
        cases q : xs.find? (fun x => decide (x.1 = k)) with
        | none => rfl
        | some z => rw [q] at h; simp at h
      rw [this, if_pos rfl]
      simp
    · rw [if_neg e]
      have : ([(k, b, v)] : List EN).find? (fun x => decide (x.1 = l)) = none := by simp [e]
      rw [this]
      simp
  | true =>
    rw [if_pos rfl]
    unfold atN at h ⊢
    rw [Option.isSome_map] at h
    clear b
    induction xs with
    | nil => simp at h
    | cons x xs ih =>
      rw [List.map_cons, List.find?_cons, List.find?_cons]
      by_cases e1 : x.1 = k
      · by_cases e2 : k = l
        · have e3 : x.1 = l := e1.trans e2
          simp [e1, e2]
        · have e3 : ¬ x.1 = l := fun z => e2 (e1.symm.trans z)
          rw [if_neg e2]
          simp only [e1, if_true, e2, decide_false]
          by_cases h2 : (xs.find? fun x => decide (x.1 = k)).isSome
          · have := ih h2
            rw [if_neg e2] at this
            exact this
          · have z : xs.map (fun x => if x.1 = k then (x.1, x.2.1, v) else x) = xs := by
              refine (List.map_congr_left fun y hy => ?_).trans (List.map_id xs)
              have : ¬ y.1 = k := fun q => h2 (List.find?_isSome.mpr ⟨y, hy, by simpa using q⟩)
              rw [if_neg this]
              rfl
            rw [z]
      · have h2 : (xs.find? fun x => decide (x.1 = k)).isSome = true := by
          rw [List.find?_cons] at h
          simpa [e1] using h
        have := ih h2
        simp only [e1, if_false]
        by_cases e3 : x.1 = l
        · have e2 : ¬ k = l := fun z => e1 (e3.trans z.symm)
          simp [e3, e2]
        · simp only [e3, decide_false]
          exact this
/-- the rows of a table, numbered -/
def rowsOf (F : List Fact) (t : Str) : List (Int × List L2.Key) := F.zipIdx.filterMap fun e => if e.1.1 = t then some ((e.2 : Int), e.1.2) else none
def nrK (e : Int × List L2.Key) : NK := .tup [.num e.1, rowK e.2]
section
variable {P : Program} {w : World} {K : PySem.W.Frag} {mg : Str → Option Value} {base : Heap} {C D : Addr}
abbrev S3 (kl tl pd : Addr) : Addr → Prop := fun b => b = kl ∨ b = tl ∨ b = pd
def spAdd (P : Program) (w : World) (C : Addr) : Sp := fun vs H Q _ => ∃ (p ad kl tl pd : Addr) (t : Str) (r : List L2.Key) (rv : V) (F : List Fact), vs = [.ref p, .str t, rv] ∧ FcAt P w C H p ad kl tl pd F ∧ NmTab t ∧ At H (rowK r) rv ∧ (r.length : Int) = arOf t ∧ ¬ (t, r) ∈ F ∧ F.length ≤ 1000 ∧
  ∀ (H' : Hp) (v : V), ExS (S3 kl tl pd) H H' → FcAt P w C H' p ad kl tl pd (F ++ [(t, r)]) → Q v H'
abbrev NFa : List Str := ["self", "table", "row"]
theorem sc_fAdd : FnScope NFa NFa (defScope sFAdd) := ⟨rfl, rfl, rfl, by decide +kernel, rfl, by decide +kernel, by decide +kernel⟩
theorem ok_fAdd (T : Txt K mg C D) : Met P w K mg base 2 C "add" (spAdd P w C) := by
  refine met_of T.cl T.mAdd (fun _ _ _ _ _ _ us hl => match us, hl with | [_, _, _], _ => rfl) sc_fAdd (fun vs H Q E h => ?_) (fun f cdv A outer s H vs Q E hr h => ?_)
  · obtain ⟨x, _, _, _, _, _, _, _, _, rfl, _⟩ := h
    rfl
  · obtain ⟨p, ad, kl, tl, pd, t, r, rv, F, rfl, fc, ht, hrow, hlen, hnot, h1000, kf⟩ := h
    obtain ⟨dx, hp⟩ := id fc.ins
    obtain ⟨xs, dn, hxl, hxs⟩ := id fc.pla
    obtain ⟨vs, hkl, hvs⟩ := id fc.kno
    obtain ⟨ra, rfl, hra⟩ := at_row.mp hrow
    have GA : Met P w K mg base 1 C "arity" (spArity P w C) := ok_fArity T
    have lvs : vs.length = F.length := by rw [hvs.length, List.length_map]
    refine ⟨_, pss_cons (ps_if (pt_cmpR op_ne (pe_callB call_len_seq (by rfl) T.n_len (by decide +kernel) (pa_cons (pv 2) pa_nil)) (pe_mt (X := (cxOf CX0 P w K mg base NFa "Facts.add" (defScope sFAdd) f cdv A outer s H E).nox) GA hr (by decide) (pv 0) (pa_cons (pv 1) pa_nil)) (nomark _)) pss_false pss_nil)
      (pss_cons (ps_if (pt_cmpR (op_inN hr.units) (pe_tup (pa_cons (pv 1) (pa_cons (pv 2) pa_nil))) (pe_fld (pv 0) (by rfl)) (by rfl)) pss_false pss_nil)
      (pss_cons (ps_dputN hr.units (pe_fld (pv 0) (by rfl)) (pe_tup (pa_cons (pv 1) (pa_cons (pv 2) pa_nil))) (pe_callB call_len_seq (by rfl) T.n_len (by decide +kernel) (pa_cons (pe_fld (pv 0) (by rfl)) pa_nil)) (by rfl))
      (pss_cons (ps_expr (pe_bm PySem.F.plainAttrs_list PySem.F.slot_list_append PySem.F.type_list_append mt_append (pe_fld (pv 0) (by rfl)) (pa_cons (pe_tup (pa_cons (pv 1) (pa_cons (pv 2) pa_nil))) pa_nil)))
      (pss_cons (ps_expr (pe_bm PySem.F.plainAttrs_list PySem.F.slot_list_append PySem.F.type_list_append mt_append (pe_fld (pv 0) (by rfl)) (pa_cons pe_bl pa_nil)))
      (pss_one (ps_ret (pe_op op_sub (pe_callB call_len_seq (by rfl) T.n_len (by decide +kernel) (pa_cons (pe_fld (pv 0) (by rfl)) pa_nil)) pe_int))))))), ?_⟩
    refine ⟨_, rfl, ra, _, rfl, .inr (SqT.of hra), _, rfl, p, dx, _, rfl, hp, rfl, _, rfl, p, ad, kl, tl, pd, t, F, rfl, fc, ht, fun H1 e1 => ⟨rfl, _, rfl, ?_⟩⟩
    have d1 : (!decide (V.int (((r.map L2.kV).length : Nat) : Int) = V.int (arOf t))) = false := by
      rw [List.length_map, hlen]
      simp
    rw [d1]
    refine iteF ?_
    have fc1 := fc.ex e1
    have hp1 := e1 _ _ hp
    refine ⟨_, rfl, _, rfl, two_le, fun t1 nt1 => ?_⟩
    have e2 : Ex H (upd H1 t1 (.tup [.str t, .ref ra])) := e1.trans (Ex.new nt1)
    have hrow1 : At H1 (rowK r) (.ref ra) := At.mono e1.tk _ _ hrow
    have k1 : At (upd H1 t1 (.tup [.str t, .ref ra])) (factK (t, r)) (.ref t1) := at_pair.mpr ⟨t1, _, _, rfl, upd_same, rfl, At.mono (tk_new nt1) _ _ hrow1⟩
    refine ⟨_, rfl, p, C, dx, _, _, rfl, e2 _ _ hp, T.cl, T.naPlaces, rfl, pd, factK (t, r), t1, xs, rfl, rfl, dn.ex e2, k1, Nat.le_trans (depth_factK _) (by decide), _, rfl, ?_⟩
    rw [(hxs (t, r)).2 hnot]
    refine iteF ?_
    generalize upd H1 t1 (.tup [.str t, .ref ra]) = H2 at e2 k1 ⊢
    -- the place
    refine ⟨_, rfl, p, C, dx, _, _, rfl, e2 _ _ hp, T.cl, T.naKnown, rfl, kl, _, rfl, .inl (SqL.of (e2 _ _ hkl)), ?_⟩
    refine ⟨_, rfl, p, C, dx, _, _, rfl, e2 _ _ hp, T.cl, T.naPlaces, rfl, _, rfl, _, rfl, two_le, fun t2 nt2 => ?_⟩
    have e3 : Ex H (upd H2 t2 (.tup [.str t, .ref ra])) := e2.trans (Ex.new nt2)
    have hrow2 : At H2 (rowK r) (.ref ra) := At.mono e2.tk _ _ hrow
    have k2 : At (upd H2 t2 (.tup [.str t, .ref ra])) (factK (t, r)) (.ref t2) := at_pair.mpr ⟨t2, _, _, rfl, upd_same, rfl, At.mono (tk_new nt2) _ _ hrow2⟩
    refine ⟨pd, factK (t, r), t2, xs, rfl, rfl, dn.ex e3, k2, Nat.le_trans (depth_factK _) (by decide), by rw [sizeLine_eq]; omega, ?_⟩
    generalize upd H2 t2 (.tup [.str t, .ref ra]) = H3 at e3 k2 ⊢
    have dn3 := (dn.ex e3).put (v := V.int ((vs.length : Nat) : Int)) k2 (Nat.le_trans (depth_factK _) (by decide))
    have pkl : pd ≠ kl := fun z => by have := dn.at_; rw [z, hkl] at this; cases this
    have ptl : pd ≠ tl := fun z => by have := dn.at_; rw [z, fc.the] at this; cases this
    have pp : p ≠ pd := fun z => by have := dn.at_; rw [← z, hp] at this; cases this
    have ppk : p ≠ kl := fun z => by rw [z, hkl] at hp; cases hp
    have ppt : p ≠ tl := fun z => by have := fc.the; rw [← z, hp] at this; cases this
    have adp : ad ≠ pd := fun z => by have := dn.at_; rw [← z, fc.ari] at this; cases this
    have adk : ad ≠ kl := fun z => by have := fc.ari; rw [z, hkl] at this; cases this
    have adt : ad ≠ tl := fun z => by have := fc.ari; rw [z, fc.the] at this; cases this
    have x4 : ExS (S3 kl tl pd) H (upd H3 pd (dNO P w pd (putN xs (factK (t, r)) t2 (.int ((vs.length : Nat) : Int))))) := fun b o n e => by
      rw [upd_ne (fun z => n (.inr (.inr z)))]
      exact e3 _ _ e
    have tk4 : TK H3 (upd H3 pd (dNO P w pd (putN xs (factK (t, r)) t2 (.int ((vs.length : Nat) : Int))))) := ExB.upd.tk fun ys z => by rw [e3 _ _ dn.at_] at z; cases z
    have hk4 : upd H3 pd (dNO P w pd (putN xs (factK (t, r)) t2 (.int ((vs.length : Nat) : Int)))) kl = some (.lst vs) := by rw [upd_ne (Ne.symm pkl)]; exact e3 _ _ hkl
    have ht4 : upd H3 pd (dNO P w pd (putN xs (factK (t, r)) t2 (.int ((vs.length : Nat) : Int)))) tl = some (.lst (F.map fun _ => V.bl true)) := by rw [upd_ne (Ne.symm ptl)]; exact e3 _ _ fc.the
    have t04 : TK H (upd H3 pd (dNO P w pd (putN xs (factK (t, r)) t2 (.int ((vs.length : Nat) : Int))))) := e3.tk.trans tk4
    generalize hH4 : upd H3 pd (dNO _ _ pd (putN xs (factK (t, r)) t2 (V.int ((vs.length : Nat) : Int)))) = H4
    replace x4 : ExS (S3 kl tl pd) H H4 := by rw [← hH4]; exact x4
    replace hk4 : H4 kl = some (.lst vs) := by rw [← hH4]; exact hk4
    replace ht4 : H4 tl = some (.lst (F.map fun _ => V.bl true)) := by rw [← hH4]; exact ht4
    replace t04 : TK H H4 := by rw [← hH4]; exact t04
    replace dn3 : DN P w H4 pd (putN xs (factK (t, r)) t2 (V.int ((vs.length : Nat) : Int))) := by rw [← hH4]; exact dn3
    clear tk4
    have hp4 : H4 p = some _ := x4 p _ (fun z => by rcases z with z | z | z; exact ppk z; exact ppt z; exact pp z) hp
    have ha4 : H4 ad = some _ := x4 ad _ (fun z => by rcases z with z | z | z; exact adk z; exact adt z; exact adp z) fc.ari
    -- the fact
    refine ⟨_, rfl, p, C, dx, _, _, rfl, hp4, T.cl, T.naKnown, rfl, .inl ⟨rfl, _, SqL.of hk4⟩, _, rfl, _, rfl, two_le, fun t3 nt3 => ?_⟩
    have k3 : At (upd H4 t3 (.tup [.str t, .ref ra])) (factK (t, r)) (.ref t3) := at_pair.mpr ⟨t3, _, _, rfl, upd_same, rfl, At.mono (t04.trans (tk_new nt3)) _ _ hrow⟩
    have e5 : Ex H4 (upd H4 t3 (.tup [.str t, .ref ra])) := Ex.new nt3
    generalize upd H4 t3 (.tup [.str t, .ref ra]) = H5 at k3 e5 ⊢
    refine ⟨kl, vs, _, rfl, rfl, e5 _ _ hk4, by rw [sizeLine_eq]; omega, ?_⟩
    have tk6 : TK H5 (upd H5 kl (.lst (vs ++ [.ref t3]))) := tk_lst (e5 _ _ hk4)
    have hvs6 : Ats (upd H5 kl (.lst (vs ++ [.ref t3]))) ((F ++ [(t, r)]).map factK) (vs ++ [.ref t3]) := by
      rw [List.map_append]
      exact Ats.append (Ats.mono (t04.trans (e5.tk.trans tk6)) _ _ hvs) (Ats.one (At.mono tk6 _ _ k3))
    have hk6 : upd H5 kl (.lst (vs ++ [.ref t3])) kl = some (.lst (vs ++ [.ref t3])) := upd_same
    have o6 : ∀ b o, b ≠ kl → H4 b = some o → upd H5 kl (.lst (vs ++ [.ref t3])) b = some o := fun b o n e => by rw [upd_ne n]; exact e5 _ _ e
    have t46 := e5.tk.trans tk6
    generalize upd H5 kl (.lst (vs ++ [.ref t3])) = H6 at tk6 hvs6 hk6 o6 t46 ⊢
    -- there
    have hp6 := o6 _ _ ppk hp4
    have ht6 := o6 _ _ (Ne.symm fc.ne) ht4
    refine ⟨_, rfl, p, C, dx, _, _, rfl, hp6, T.cl, T.naThere, rfl, .inl ⟨rfl, _, SqL.of ht6⟩, tl, _, _, rfl, rfl, ht6, by rw [sizeLine_eq, List.length_map]; omega, ?_⟩
    have tk7 : TK H6 (upd H6 tl (.lst ((F.map fun _ => V.bl true) ++ [.bl true]))) := tk_lst ht6
    have o7 : ∀ b o, b ≠ tl → H6 b = some o → upd H6 tl (.lst ((F.map fun _ => V.bl true) ++ [.bl true])) b = some o := fun b o n e => by rw [upd_ne n]; exact e
    have hk7 := o7 _ _ fc.ne hk6
    refine ⟨_, rfl, p, C, dx, _, _, rfl, o7 _ _ ppt hp6, T.cl, T.naKnown, rfl, kl, _, rfl, .inl (SqL.of hk7), _, _, rfl, rfl, ?_⟩
    refine kf _ _ (fun b o n e => ?_) ⟨fc.ne, ⟨dx, o7 _ _ ppt hp6⟩, o7 _ _ adt (o6 _ _ adk ha4), ⟨_, hk7, Ats.mono tk7 _ _ hvs6⟩, ?_, ⟨_, dn3.mono (t46.trans tk7) (o7 _ _ ptl (o6 _ _ pkl dn3.at_)), ?_, fun g => ⟨fun hg => ?_, fun hg => ?_⟩⟩⟩
    · exact o7 _ _ (fun z => n (.inr (.inl z))) (o6 _ _ (fun z => n (.inl z)) (x4 b o n e))
    · rw [upd_same, List.map_append]
      rfl
    · have := length_putN xs (factK (t, r)) t2 (.int ((vs.length : Nat) : Int))
      rw [List.length_append, List.length_singleton]
      omega
    · rw [atN_putN]
      by_cases q : factK (t, r) = factK g
      · rw [if_pos q]
        exact ⟨_, rfl⟩
      · rw [if_neg q]
        rcases List.mem_append.mp hg with hg | hg
        · exact (hxs g).1 hg
        · exact absurd (by rw [List.mem_singleton.mp hg]) q
    · rw [atN_putN]
      have q : ¬ factK (t, r) = factK g := fun z => hg (by rw [← factK_inj z]; simp)
      rw [if_neg q]
      exact (hxs g).2 fun z => hg (List.mem_append_left _ z)
end
end Ew
set_option Elab.async false
set_option linter.all false
set_option maxRecDepth 100000
set_option maxHeartbeats 1000000
/-! Facts: find, rows -/
namespace Ew
open PySem PySem.Spec PyProof.Rows L2 RZ
theorem fldK {X : Cx} (K : PySem.W.Frag) {e : Expr} {f : Str} {pos : Pos} {ta : TE} (he : PE X e ta) (hb : attributeBase e f X.env (eval e X.env) = eval e X.env := by rfl) (h : X.K = K := by rfl) : PE X (.Attribute e f pos) (tFld K ta f) := by subst h; exact pe_fld he hb
section
variable {P : Program} {w : World} {K : PySem.W.Frag} {mg : Str → Option Value} {base : Heap} {C D : Addr}
def spFind (P : Program) (w : World) (C : Addr) : Sp := fun vs H Q _ => ∃ (p ad kl tl pd : Addr) (t : Str) (r : List L2.Key) (rv : V) (F : List Fact), vs = [.ref p, .str t, rv] ∧ FcAt P w C H p ad kl tl pd F ∧ NmTab t ∧ At H (rowK r) rv ∧
  ((t, r) ∈ F → ∀ H' i, Ex H H' → Q (.int i) H') ∧ (¬ (t, r) ∈ F → ∀ H', Ex H H' → Q .non H')
theorem sc_fFind : FnScope NFa NFa (defScope sFFind) := ⟨rfl, rfl, rfl, by decide +kernel, rfl, by decide +kernel, by decide +kernel⟩
theorem ok_fFind (T : Txt K mg C D) : Met P w K mg base 2 C "find" (spFind P w C) := by
  refine met_of T.cl T.mFind (fun _ _ _ _ _ _ us hl => match us, hl with | [_, _, _], _ => rfl) sc_fFind (fun vs H Q E h => ?_) (fun f cdv A outer s H vs Q E hr h => ?_)
  · obtain ⟨x, _, _, _, _, _, _, _, _, rfl, _⟩ := h
    rfl
  · obtain ⟨p, ad, kl, tl, pd, t, r, rv, F, rfl, fc, ht, hrow, ky, kn⟩ := h
    obtain ⟨dx, hp⟩ := id fc.ins
    obtain ⟨xs, dn, hxl, hxs⟩ := id fc.pla
    have GA : Met P w K mg base 1 C "arity" (spArity P w C) := ok_fArity T
    refine ⟨_, pss_cons (ps_expr (pe_mt (X := (cxOf CX0 P w K mg base NFa "Facts.find" (defScope sFFind) f cdv A outer s H E).nox) GA hr (by decide) (pv 0) (pa_cons (pv 1) pa_nil)))
      (pss_one (ps_ret (pe_getN hr.units (pe_fld (pv 0) (by rfl)) (pe_tup (pa_cons (pv 1) (pa_cons (pv 2) pa_nil))) ⟨by rfl, by rfl, by rfl, by rfl⟩))), ?_⟩
    refine ⟨_, rfl, p, dx, _, rfl, hp, rfl, _, rfl, p, ad, kl, tl, pd, t, F, rfl, fc, ht, fun H1 e1 => ?_⟩
    refine ⟨_, rfl, p, C, dx, _, _, rfl, e1 _ _ hp, T.cl, T.naPlaces, rfl, pd, rfl, ⟨xs, dn.ex e1⟩, _, rfl, _, rfl, two_le, fun t1 nt1 => ?_⟩
    have e2 : Ex H (upd H1 t1 (.tup [.str t, rv])) := e1.trans (Ex.new nt1)
    have k1 : At (upd H1 t1 (.tup [.str t, rv])) (factK (t, r)) (.ref t1) := at_pair.mpr ⟨t1, _, _, rfl, upd_same, rfl, At.mono e2.tk _ _ hrow⟩
    refine ⟨factK (t, r), t1, xs, rfl, dn.ex e2, k1, Nat.le_trans (depth_factK _) (by decide), ?_⟩
    by_cases q : (t, r) ∈ F
    · obtain ⟨i, hi⟩ := (hxs (t, r)).1 q
      rw [hi]
      exact ky q _ i e2
    · rw [(hxs (t, r)).2 q]
      exact kn q _ e2
def spRows (P : Program) (w : World) (C : Addr) : Sp := fun vs H Q _ => ∃ (p ad kl tl pd : Addr) (t : Str) (F : List Fact), vs = [.ref p, .str t] ∧ FcAt P w C H p ad kl tl pd F ∧ NmTab t ∧ F.length ≤ 1000 ∧
  ∀ (H' : Hp) (l : Addr) (ys : List V), Ex H H' → H' l = some (.lst ys) → Ats H' ((rowsOf F t).map nrK) ys → Q (.ref l) H'
abbrev NFr : List Str := ["self", "table", "k", "name", "row"]
theorem sc_fRows : FnScope NFr ["self", "table"] (defScope sFRows) := ⟨rfl, rfl, rfl, by decide +kernel, rfl, by decide +kernel, by decide +kernel⟩
theorem rows_map (F : List Fact) (t : Str) : (F.zipIdx.filterMap fun e => if e.1.1 = t then some (nrK ((e.2 : Int), e.1.2)) else none) = (rowsOf F t).map nrK := by
  unfold rowsOf
  rw [← List.filterMap_eq_map, List.filterMap_filterMap]
  congr 1
  funext e
  by_cases q : e.1.1 = t <;> simp [q]
theorem ok_fRows (T : Txt K mg C D) : Met P w K mg base 2 C "rows" (spRows P w C) := by
  refine met_of T.cl T.mRows (fun _ _ _ _ _ _ us hl => match us, hl with | [_, _], _ => rfl) sc_fRows (fun vs H Q E h => ?_) (fun f cdv A outer s H vs Q E hr h => ?_)
  · obtain ⟨x, _, _, _, _, _, _, rfl, _⟩ := h
    rfl
  · obtain ⟨p, ad, kl, tl, pd, t, F, rfl, fc, ht, h1000, kf⟩ := h
    obtain ⟨dx, hp⟩ := id fc.ins
    obtain ⟨vs, hkl, hvs⟩ := id fc.kno
    have lvs : vs.length = F.length := by rw [hvs.length, List.length_map]
    have GA : Met P w K mg base 1 C "arity" (spArity P w C) := ok_fArity T
    refine ⟨_, pss_cons (ps_expr (pe_mt (X := (cxOf CX0 P w K mg base NFr "Facts.rows" (defScope sFRows) f cdv A outer s H E).nox) GA hr (by decide) (pv 0) (pa_cons (pv 1) pa_nil)))
      (pss_one (ps_ret (pe_lc (own := [("k", 2), ("name", 3), ("row", 4)]) (g := gTup K 2 (gCons (gName 2) (gCons (gTup K 2 (gCons (gName 3) (gCons (gName 4) gNil))) gNil))) rfl sc_fRows.nd (pi_enum (by rfl) T.n_enumerate (pa_cons (pe_fld (pv 0) (by rfl)) pa_nil))
        (blkOk_by (N := NFr) (sc := defScope sFRows) (by decide +kernel)) (fun _ _ _ _ _ => pgT K rfl (pgs_cons (pg_name (i := 2) sc_fRows.nd rfl (Or.inl rfl)) (pgs_cons (pgT K rfl (pgs_cons (pg_name (i := 3) sc_fRows.nd rfl (Or.inl rfl)) (pgs_cons (pg_name (i := 4) sc_fRows.nd rfl (Or.inl rfl)) pgs_nil))) pgs_nil)))
        (fun _ _ _ _ _ => pts_one (PW.pt (pw_and (pt_cmpR op_eq (pv 3) (pv 1) (nomark _)) (pw_and1 (pt_val (pe_ix (ixL K) (fldK K (pv 0)) (pv 2) (fun _ _ => rfl)))))))
        (fun _ _ _ _ _ => pe_tup (pa_cons (pv 2) (pa_cons (pv 4) pa_nil)))))), ?_⟩
    refine ⟨_, rfl, p, dx, _, rfl, hp, rfl, _, rfl, p, ad, kl, tl, pd, t, F, rfl, fc, ht, fun H1 e1 => ?_⟩
    refine ⟨_, rfl, p, C, dx, _, _, rfl, e1 _ _ hp, T.cl, T.naKnown, rfl, kl, vs, rfl, SqL.of (e1 _ _ hkl), fun L nL => ?_⟩
    have lz : F.zipIdx.length = F.length := List.length_zipIdx
    refine lc_fa (xs := F.zipIdx) (by rw [lz, ← lvs]; exact walk_enum (xs := vs)) (fun e => if e.1.1 = t then some (nrK ((e.2 : Int), e.1.2)) else none) nL (by rw [lz, sizeLine_eq]; omega) (fun H2 e2 => SqL.of (e2 _ _ (e1 _ _ hkl))) ?_ ?_
    · rintro i x fi H2 H3 hfi e2 ⟨T0, x0, y0, rfl, nT, rfl, hx0, hy0⟩ Qn Qy hn hy
      cases hx0
      obtain ⟨fk, hfk, hfx⟩ := hvs.at hy0
      have hfi2 : fi = (fk, i) := by
        rw [List.getElem?_zipIdx, hfk] at hfi
        simpa using hfi.symm
      subst hfi2
      have e3 : Ex H2 (upd H2 T0 (.tup [.int (i : Nat), y0])) := Ex.new nT
      have e4 := (e1.trans e2).trans e3
      have hfx3 := At.mono e4.tk _ _ hfx
      obtain ⟨b, _, _, rfl, hb, h5, h6⟩ := at_pair.mp hfx3
      cases h5
      obtain ⟨ra, rfl, hra⟩ := at_row.mp h6
      refine ⟨T0, _, rfl, SqT.of upd_same, rfl, _, _, rfl, _, _, rfl, b, _, rfl, SqT.of hb, rfl, _, _, rfl, _, _, rfl, rfl, rfl, ?_⟩
      refine ⟨rfl, _, rfl, _, rfl, rfl, _, rfl, ?_⟩
      by_cases q : fk.1 = t
      · have d1 : decide (V.str fk.1 = V.str t) = true := by rw [q]; simp
        rw [d1]
        have hj : (F.map fun _ => V.bl true)[i]? = some (.bl true) := by rw [List.getElem?_map, hfk]; rfl
        refine iteT ⟨_, rfl, p, C, dx, _, _, rfl, e4 _ _ hp, T.cl, T.naThere, rfl, _, rfl, tl, _, _, _, rfl, rfl, SqL.of (e4 _ _ fc.the), atI_nat hj, _, rfl, ?_⟩
        refine iteT ⟨_, rfl, _, rfl, two_le, fun p0 np0 => hy (nrK ((i : Int), fk.2)) (by simp [q]) _ _ (e3.trans (Ex.new np0)) ?_⟩
        exact at_pair.mpr ⟨p0, _, _, rfl, upd_same, rfl, At.mono (tk_new np0) _ _ h6⟩
      · have d1 : decide (V.str fk.1 = V.str t) = false := by simp [q]
        rw [d1]
        exact iteF (iteF (hn (by simp [q]) _ e3))
    · intro H2 ys e2 hL hys
      rw [rows_map] at hys
      exact kf H2 L ys (e1.trans e2) hL hys
end
end Ew
set_option Elab.async false
set_option linter.all false
set_option maxRecDepth 100000
set_option maxHeartbeats 1000000
/-! frozen -/
namespace Ew
open PySem PySem.Spec PyProof.Rows L2 RZ
def frzT (ν : Str → Int) : Tm → L2.Key
  | .var x => .inl (ν x)
  | .val k => k
def frzA (ν : Str → Int) (a : Atom) : Fact := (a.1, a.2.map (frzT ν))
structure Frz (r1 r2 : Rule) (ν : Str → Int) (F : List Fact) : Prop where
  inj : ∀ x ∈ varsA r1.2, ∀ y ∈ varsA r1.2, ν x = ν y → x = y
  low : ∀ x ∈ varsA r1.2, 1 ≤ ν x ∧ ν x ≤ 100
  new1 : ∀ x ∈ varsA r1.2, ∀ n ∈ numsA r1.2, n < ν x
  new2 : ∀ x ∈ varsA r1.2, ∀ n ∈ numsA r2.2, n < ν x
  mem : ∀ f, f ∈ F ↔ f ∈ r1.2.map (frzA ν)
  len : F.length ≤ 5
theorem ys_map {α : Type} {f : α → V} : ∀ {xs : List α} {ys : List V}, ys.length = xs.length → (∀ (i : Nat) (y : V), ys[i]? = some y → ∃ x, xs[i]? = some x ∧ y = f x) → ys = xs.map f
  | [], [], _, _ => rfl
  | [], _ :: _, h, _ => by simp at h
  | _ :: _, [], h, _ => by simp at h
  | x :: xs, y :: ys, h, g => by
    obtain ⟨x', e, hy⟩ := g 0 y rfl
    cases e
    rw [List.map_cons, hy, ys_map (by simpa using h) fun i z hz => g (i + 1) z hz]
theorem idx_at {ys : List Str} (nd : ys.Nodup) {i : Nat} {x : Str} (h : ys[i]? = some x) : ys.idxOf x = i := by
  obtain ⟨hi, e⟩ := List.getElem?_eq_some_iff.mp h
  rw [← e]
  exact nd.idxOf_getElem i hi
theorem idx_inj {ys : List Str} {x y : Str} (hx : x ∈ ys) (hy : y ∈ ys) (h : ys.idxOf x = ys.idxOf y) : x = y := by
  have h1 := List.getElem_idxOf (List.idxOf_lt_length_of_mem hx)
  have h2 := List.getElem_idxOf (List.idxOf_lt_length_of_mem hy)
  rw [← h1, ← h2]
  congr 1
theorem nums_ok {r : Rule} (ok : RuleOk r) {n : Int} (h : n ∈ numsA r.2) : n ≤ 1 := by
  unfold numsA at h
  obtain ⟨a, ha, h⟩ := List.mem_flatMap.mp h
  obtain ⟨t, ht, e⟩ := List.mem_filterMap.mp h
  have z := (ok.atoms a ha).2 t ht
  cases t with
  | var x => cases e
  | val k =>
    cases k with
    | inr s => cases e
    | inl i =>
      cases e
      have z : (Sum.inl n : L2.Key) ∈ Vls := z
      simp only [Vls, List.mem_cons, List.not_mem_nil, or_false] at z
      rcases z with z | z | z
      · cases z; decide
      · cases z; decide
      · cases z
theorem len_nums {r : Rule} (ok : RuleOk r) : (numsA r.2).length ≤ 10 := by
  have g := len_flat (fV := numOf) r.2 ok.two
  have := ok.high
  have e : (numsA r.2).length = (r.2.flatMap fun a => a.2.filterMap numOf).length := rfl
  omega
theorem len_vars {r : Rule} (ok : RuleOk r) : (varsA r.2).length ≤ 10 := by
  have g := len_flat (fV := varOf) r.2 ok.two
  have := ok.high
  have e : (varsA r.2).length = (r.2.flatMap fun a => a.2.filterMap varOf).length := rfl
  omega
theorem tagE {t : Tm} : decide (V.str (tag t) = V.str "var") = (varOf t).isSome := by
  cases t with
  | var x => rfl
  | val k =>
    have : ¬ V.str (tag (.val k)) = V.str "var" := fun z => var_ne (V.str.inj z).symm
    rw [decide_eq_false this]
    rfl
section
variable {P : Program} {w : World} {K : PySem.W.Frag} {mg : Str → Option Value} {base : Heap} {C D : Addr}
def spFrozen (P : Program) (w : World) (C : Addr) : Sp := fun vs H Q _ => ∃ (v u : V) (tb : Addr) (r1 r2 : Rule), vs = [v, u, .ref tb] ∧ At H (ruleK r1) v ∧ At H (ruleK r2) u ∧ RuleOk r1 ∧ RuleOk r2 ∧ TabAt H tb ∧
  ∀ (H' : Hp) (t p rw ad kl tl pd : Addr) (ν : Str → Int) (F : List Fact), Ex H H' → Frz r1 r2 ν F → FcAt P w C H' p ad kl tl pd F → H' t = some (.tup [.ref p, .ref rw]) → At H' (rowK (r1.1.map fun x => .inl (ν x))) (.ref rw) → Q (.ref t) H'
abbrev NFz : List Str := ["rule", "other", "tables", "least", "values", "facts", "table", "terms", "row", "at", "name", "term"]
theorem sc_frozen : FnScope NFz ["rule", "other", "tables"] (defScope sFrozen) := ⟨rfl, rfl, rfl, by decide +kernel, rfl, by decide +kernel, by decide +kernel⟩
theorem ok_frozen (T : Txt K mg C D) : Cal P w K mg base 4 "frozen" (spFrozen P w C) := by
  refine cal_of T.fFrozen (fun _ _ _ _ _ _ us hl => match us, hl with | [_, _, _], _ => rfl) sc_frozen (fun vs H Q E h => ?_) (fun f cdv A outer s H vs Q E hr h => ?_)
  · obtain ⟨v, u, tb, r1, r2, rfl, _⟩ := h
    rfl
  · obtain ⟨v, u, tb, r1, r2, rfl, hv, hu, ok1, ok2, htb, kf⟩ := h
    obtain ⟨a, hd, aa, xs, rfl, ha, hh, haa, hA⟩ := at_rule hv
    have hl1 : xs.length = r1.2.length := by rw [hA.length, List.length_map]
    have i1 := ok1.high
    have GN : Cal P w K mg base 2 "numbers_in" spNumbers := ok_numbersIn T
    have GV : Cal P w K mg base 1 "variables_of" spVars := ok_variablesOf T
    have GF : Mak P w K mg base 2 "Facts" C (spInit P w C) := ok_fInit T
    have GI : Met P w K mg base 2 C "find" (spFind P w C) := ok_fFind T
    have GA : Met P w K mg base 2 C "add" (spAdd P w C) := ok_fAdd T
    refine ⟨_, pss_cons (ps_set (i := 3) sc_frozen.nd rfl (Or.inr rfl) (pe_op op_add (pe_callB (cr_max rfl) (by rfl) T.n_max (by decide +kernel) (pa_cons (pe_op op_cat (pe_op op_cat (pe_c (X := (cxOf CX0 P w K mg base NFz "frozen" (defScope sFrozen) f cdv A outer s H E).nox) GN hr (by decide) (by rfl) (pa_cons (pv 0) pa_nil)) (pe_c (X := (cxOf CX0 P w K mg base NFz "frozen" (defScope sFrozen) f cdv A outer s H E).nox) GN hr (by decide) (by rfl) (pa_cons (pv 1) pa_nil))) (pe_lst (pa_cons pe_int pa_nil))) pa_nil)) pe_int))
      (pss_cons (ps_set (i := 4) sc_frozen.nd rfl (Or.inr rfl) (pe_dc (own := [("at", 9), ("name", 10)]) (g := gTup K 2 (gCons (gName 9) (gCons (gName 10) gNil))) (tt := tYes) rfl sc_frozen.nd (pi_enum (by rfl) T.n_enumerate (pa_cons (pe_c (X := (cxOf CX0 P w K mg base NFz "frozen" (defScope sFrozen) f cdv A outer s H E).nox) GV hr (by decide) (by rfl) (pa_cons (pv 0) pa_nil)) pa_nil))
          (blkOk_by (N := NFz) (sc := defScope sFrozen) (by decide +kernel)) (fun _ _ _ _ _ => pgT K rfl (pgs_cons (pg_name (i := 9) sc_frozen.nd rfl (Or.inl rfl)) (pgs_cons (pg_name (i := 10) sc_frozen.nd rfl (Or.inl rfl)) pgs_nil))) (fun _ _ _ _ _ => pts_nil)
          (fun _ _ _ _ _ => pv 10) (fun _ _ _ _ _ => pe_op op_add (pv 3) (pv 9))))
      (pss_cons (ps_set (i := 5) sc_frozen.nd rfl (Or.inl rfl) (pe_mk (X := (cxOf CX0 P w K mg base NFz "frozen" (defScope sFrozen) f cdv A outer s H E).nox) GF hr (by decide) (by rfl) (pa_cons (pv 2) pa_nil)))
      (pss_cons (ps_for PassesOwn.never rfl (pi_tup (pe_ix (ixT K) (pv 0) pe_int (fun _ _ => rfl))) (pgT K rfl (pgs_cons (pg_name (i := 6) sc_frozen.nd rfl (Or.inl rfl)) (pgs_cons (pg_name (i := 7) sc_frozen.nd rfl (Or.inl rfl)) pgs_nil)))
        (pss_cons (ps_set (i := 8) sc_frozen.nd rfl (Or.inl rfl) (pe_callTy call_tuple_of (by rfl) T.n_tuple (by decide +kernel) (pa_cons (pe_lc (own := [("term", 11)]) (g := gName 11) (tt := tYes) rfl sc_frozen.nd (pi_tup (pv 7))
          (blkOk_by (N := NFz) (sc := defScope sFrozen) (by decide +kernel)) (fun _ _ _ _ _ => pg_name (i := 11) sc_frozen.nd rfl (Or.inl rfl)) (fun _ _ _ _ _ => pts_nil)
          (fun _ _ _ _ _ => pe_ifExp (pt_cmpR op_eq (pe_ix (ixT K) (pv 11) pe_int (fun _ _ => rfl)) pe_str (nomark _)) (pe_dget (hu_of hr) (pv 4) (pe_ix (ixT K) (pv 11) pe_int (fun _ _ => rfl)) (fun _ _ => rfl)) (pe_ix (ixT K) (pv 11) pe_int (fun _ _ => rfl)))) pa_nil)))
        (pss_one (ps_if (pt_cmpR op_isN (pe_mt (X := (cxOf CX0 P w K mg base NFz "frozen" (defScope sFrozen) f cdv A outer s H E).nox) GI hr (by decide) (pv 5) (pa_cons (pv 6) (pa_cons (pv 8) pa_nil))) pe_non (nomark _))
          (pss_one (ps_expr (pe_mt (X := (cxOf CX0 P w K mg base NFz "frozen" (defScope sFrozen) f cdv A outer s H E).nox) GA hr (by decide) (pv 5) (pa_cons (pv 6) (pa_cons (pv 8) pa_nil))))) pss_nil))))
      (pss_one (ps_ret (pe_tup (pa_cons (pv 5) (pa_cons (pe_callTy call_tuple_of (by rfl) T.n_tuple (by decide +kernel) (pa_cons (pe_lc (own := [("name", 10)]) (g := gName 10) (tt := tYes) rfl sc_frozen.nd (pi_tup (pe_ix (ixT K) (pv 0) pe_int (fun _ _ => rfl)))
          (blkOk_by (N := NFz) (sc := defScope sFrozen) (by decide +kernel)) (fun _ _ _ _ _ => pg_name (i := 10) sc_frozen.nd rfl (Or.inl rfl)) (fun _ _ _ _ _ => pts_nil)
          (fun _ _ _ _ _ => pe_dget (hu_of hr) (pv 4) (pv 10) (fun _ _ => rfl))) pa_nil)) pa_nil)))))))), ?_⟩
    refine ⟨_, rfl, .ref a, r1, rfl, hv, ok1, fun H1 l1 e1 hl1' => ?_⟩
    refine ⟨_, rfl, u, r2, rfl, At.mono e1.tk _ _ hu, ok2, fun H2 l2 e2 hl2' => ?_⟩
    have n1 := len_nums ok1
    have n2 := len_nums ok2
    refine ⟨l1, l2, _, _, rfl, rfl, e2 _ _ hl1', hl2', by rw [List.length_map, List.length_map, sizeLine_eq]; omega, fun q1 nq1 => ?_⟩
    refine ⟨by show 1 ≤ sizeLine; decide, fun q2 nq2 => ?_⟩
    have hq1 : upd (upd H2 q1 (.lst ((numsA r1.2).map V.int ++ (numsA r2.2).map V.int))) q2 (.lst [.int 0]) q1 = some (.lst ((numsA r1.2).map V.int ++ (numsA r2.2).map V.int)) := (Ex.new nq2) _ _ upd_same
    refine ⟨q1, q2, _, _, rfl, rfl, hq1, upd_same, by rw [List.length_append, List.length_map, List.length_map, sizeLine_eq]; show _ + 1 ≤ _; omega, fun q3 nq3 => ?_⟩
    have e3 : Ex H (upd (upd (upd H2 q1 (.lst ((numsA r1.2).map V.int ++ (numsA r2.2).map V.int))) q2 (.lst [.int 0])) q3 (.lst (((numsA r1.2).map V.int ++ (numsA r2.2).map V.int) ++ [.int 0]))) := (e1.trans e2).trans ((Ex.new nq1).trans ((Ex.new nq2).trans (Ex.new nq3)))
    refine ⟨q3, (numsA r1.2 ++ numsA r2.2) ++ [0], rfl, SqL.of (by rw [upd_same, List.map_append, List.map_append]; rfl), (by rw [List.length_append]; show 0 < _ + 1; omega), fun m hm hle => ?_⟩
    generalize upd (upd (upd H2 q1 (.lst ((numsA r1.2).map V.int ++ (numsA r2.2).map V.int))) q2 (.lst [.int 0])) q3 (.lst (((numsA r1.2).map V.int ++ (numsA r2.2).map V.int) ++ [.int 0])) = H3 at e3 ⊢
    have m0 : 0 ≤ m := hle 0 (by simp)
    have m1 : m ≤ 1 := by
      rcases List.mem_append.mp hm with hm | hm
      · rcases List.mem_append.mp hm with hm | hm
        · exact nums_ok ok1 hm
        · exact nums_ok ok2 hm
      · rw [List.mem_singleton.mp hm]; decide
    refine ⟨_, _, rfl, rfl, ?_⟩
    refine ⟨_, rfl, .ref a, r1, rfl, At.mono e3.tk _ _ hv, ok1, fun H4 l ys e4 nl hl hnd hmem => ⟨l, ys.map V.str, rfl, SqL.of hl, fun D0 nD => ?_⟩⟩
    have hyl : ys.length ≤ 10 := by
      have hs : ys.length ≤ (varsA r1.2).length := length_le_of_nodup_of_subset _ _ hnd fun x hx => (hmem x).mp hx
      have := len_vars ok1
      omega
    generalize hν : (fun y : Str => m + 1 + (ys.idxOf y : Int)) = ν
    have e04 := e3.trans e4
    refine dc_it (walk_enum (xs := ys.map V.str)) (fun i H5 => H5 D0 = some (.dK ((ys.take i).map fun y => ((Sum.inr y : L2.Key), V.int (ν y)))) ∧ Ex H4 H5) ⟨upd_same, Ex.new nD⟩ (fun i H5 _ p => SqL.of (p.2 _ _ hl)) ?_ ?_
    · rintro i x H5 H6 hi ⟨hD, e5⟩ ⟨T0, x0, y0, rfl, nT, rfl, hx0, hy0⟩
      cases hx0
      replace hy0 : (ys.map V.str)[i]? = some y0 := hy0
      rw [List.getElem?_map] at hy0
      rw [List.length_map] at hi
      have hyi : ys[i]? = some ys[i] := List.getElem?_eq_getElem hi
      rw [hyi] at hy0
      obtain rfl := (Option.some.inj hy0).symm
      generalize ys[i] = y at hyi ⊢
      have hnot : ¬ y ∈ ys.take i := fun z => by
        obtain ⟨j, hj⟩ := List.mem_iff_getElem?.mp z
        rw [List.getElem?_take] at hj
        split at hj
        · have := (idx_at hnd hj).symm.trans (idx_at hnd hyi)
          omega
        · cases hj
      have hno : valV ((ys.take i).map fun y => ((Sum.inr y : L2.Key), V.int (ν y))) (Sum.inr y) = none := by
        rw [valV_inr (f := fun y => V.int (ν y)), if_neg hnot]
      have e6 : Ex H5 (upd H5 T0 (.tup [.int (i : Nat), .str y])) := Ex.new nT
      refine ⟨T0, _, rfl, SqT.of upd_same, rfl, _, _, rfl, _, _, rfl, rfl, rfl, _, rfl, _, rfl, _, rfl, _, _, rfl, rfl, _, Sum.inr y, rfl, e6 _ _ hD, by rw [List.length_map, List.length_take, sizeLine_eq]; omega, ?_, fun b o q => ?_⟩
      · rw [upd_same, putK_new _ hno, take_snoc hyi, List.map_append, ← hν]
        show some (HO.dK (_ ++ [(Sum.inr y, V.int (m + 1 + (i : Int)))])) = some (HO.dK (_ ++ [(Sum.inr y, V.int (m + 1 + (ys.idxOf y : Int)))]))
        rw [idx_at hnd hyi]
      · rw [upd_ne (ne_of_none q nD)]
        exact e6 _ _ (e5 _ _ q)
    · rintro H5 ⟨hD, e5⟩
      rw [List.length_map, List.take_length] at hD
      have e05 := e04.trans e5
      have hval : ∀ y ∈ varsA r1.2, valV (ys.map fun y => ((Sum.inr y : L2.Key), V.int (ν y))) (Sum.inr y) = some (.int (ν y)) := fun y hy => by
        rw [valV_inr (f := fun y => V.int (ν y)), if_pos ((hmem y).mpr hy)]
      refine ⟨_, rfl, fun x dx nx ndx hne => ?_⟩
      have ef : Ex H5 (upd (upd H5 dx (.own x)) x (.ins C dx [])) := fun b o q => by
        rw [upd_ne (ne_of_none q nx), upd_ne (ne_of_none q ndx)]
        exact q
      have e06 := e05.trans ef
      obtain ⟨t1, t2, ht1, ht2, ht3⟩ := htb
      refine ⟨x, tb, dx, rfl, upd_same, ⟨t1, t2, e06 _ _ ht1, e06 _ _ ht2, e06 _ _ ht3⟩, fun H7 ad kl tl pd e7 nad nkl ntl npd fc0 => ⟨rfl, ?_⟩⟩
      have e57 : Ex H5 H7 := fun b o q => e7 b o (ne_of_none q nx) (ef _ _ q)
      have fkl : H5 kl = none := ef.free nkl
      have ftl : H5 tl = none := ef.free ntl
      have fpd : H5 pd = none := ef.free npd
      refine ⟨_, rfl, a, _, _, _, rfl, rfl, SqT.of (e05.trans e57 _ _ ha), rfl, aa, rfl, ⟨_, SqT.of (e05.trans e57 _ _ haa)⟩, ?_⟩
      refine for_tup (xs := xs) (fun i σ H8 => ∃ (x6 x7 x8 x9 x10 x11 : Option V) (F : List Fact), σ = [some (.ref a), some u, some (.ref tb), some (.int (m + 1)), some (.ref D0), some (.ref x), x6, x7, x8, x9, x10, x11] ∧ Ex H5 H8 ∧ FcAt P w C H8 x ad kl tl pd F ∧ (∀ g, g ∈ F ↔ g ∈ (r1.2.take i).map (frzA ν)) ∧ F.length ≤ i)
        ⟨_, _, _, _, _, _, [], rfl, e57, fc0, fun g => by simp, Nat.le_refl _⟩ (fun i σ H8 _ ⟨_, _, _, _, _, _, _, _, e, _⟩ => SqT.of (e05.trans e _ _ haa)) ?_ ?_
      · rintro i xv σ H8 hx ⟨x6, x7, x8, x9, x10, x11, F, rfl, e8, fc, hF, hFl⟩
        obtain ⟨at1, hat, hatx⟩ := hA.at hx
        have e08 := e05.trans e8
        obtain ⟨c, tt, zs, rfl, hc, htt, hzs⟩ := at_atom (At.mono e08.tk _ _ hatx)
        have hmem1 := List.mem_of_getElem? hat
        have hi : i < r1.2.length := (List.getElem?_eq_some_iff.mp hat).1
        have two := ok1.two at1 hmem1
        have lzs : zs.length = at1.2.length := by rw [hzs.length, List.length_map]
        refine ⟨c, _, rfl, SqT.of hc, rfl, _, _, rfl, _, _, rfl, rfl, _, rfl, tt, rfl, ⟨_, SqT.of htt⟩, fun L nL => ?_⟩
        refine lc_map (walk_tup (xs := zs)) S0 (fun _ => True) (fun _ i y => ∃ t, at1.2[i]? = some t ∧ y = L2.kV (frzT ν t)) nL (by rw [sizeLine_eq]; omega) (fun z => z) trivial (fun _ _ _ _ _ => trivial) (fun H9 _ hE _ => SqT.of (hE.ex _ _ htt)) (fun _ _ _ _ kk h => h) ?_ ?_
        · rintro j z H9 H10 hj _ hE hT ⟨rfl, hzj⟩ Q' hQ
          obtain ⟨t, htj, htx⟩ := hzs.at hzj
          obtain ⟨b, rfl, hb⟩ := at_tm.mp (At.mono hT _ _ htx)
          refine ⟨rfl, _, rfl, b, _, _, _, rfl, rfl, SqT.of hb, rfl, rfl, _, rfl, ?_⟩
          cases t with
          | var y =>
            have hy : y ∈ varsA r1.2 := varsA_mem hmem1 (List.mem_of_getElem? htj)
            have hg : DGet H10 D0 (.str y) (some (.int (ν y))) := by
              rw [← hval y hy]
              exact DGet.k (k := Sum.inr y) (hE.ex _ _ (e8 _ _ hD))
            exact iteT ⟨_, rfl, _, rfl, b, _, _, _, rfl, rfl, SqT.of hb, rfl, D0, _, rfl, hg, hQ _ _ ExS.refl TK.refl trivial ⟨_, htj, rfl⟩⟩
          | val k => exact iteF ⟨_, rfl, b, _, _, _, rfl, rfl, SqT.of hb, rfl, hQ _ _ ExS.refl TK.refl trivial ⟨_, htj, rfl⟩⟩
        · intro H9 us _ hE hT hL hul huR
          have hus := ys_map (f := fun t => L2.kV (frzT ν t)) (by omega) fun i y h => huR i y h
          refine ⟨L, us, rfl, .inl ⟨SqL.of hL, fun t nt => ?_⟩⟩
          have e10 : Ex H8 (upd H9 t (.tup us)) := hE.ex.trans (Ex.new nt)
          have hrow : At (upd H9 t (.tup us)) (rowK (frzA ν at1).2) (.ref t) := at_row.mpr ⟨t, rfl, by rw [upd_same, hus]; show _ = some (HO.tup ((at1.2.map _).map _)); rw [List.map_map]; rfl⟩
          generalize upd H9 t (.tup us) = H10 at e10 hrow ⊢
          have fc10 := fc.ex e10
          obtain ⟨dx', hxi⟩ := fc10.ins
          have hnm : NmTab at1.1 := by
            rcases (ok1.atoms at1 hmem1).1 with h | h
            · exact .inl h.1
            · exact .inr h.1
          have hal : (((frzA ν at1).2.length : Nat) : Int) = arOf at1.1 := by
            show ((at1.2.map (frzT ν)).length : Int) = _
            rw [List.length_map]
            rcases (ok1.atoms at1 hmem1).1 with h | h
            · rw [h.1, h.2]; decide +kernel
            · rw [h.1, h.2]; decide +kernel
          refine ⟨_, rfl, x, dx', _, rfl, hxi, rfl, _, rfl, _, rfl, x, ad, kl, tl, pd, at1.1, (frzA ν at1).2, .ref t, F, rfl, fc10, hnm, hrow, fun hin H11 j e11 => ?_, fun hnin H11 e11 => ?_⟩
          · refine ⟨rfl, _, rfl, iteF ⟨_, _, _, _, _, _, F, rfl, (e8.trans e10).trans e11, fc10.ex e11, fun g => ?_, by omega⟩⟩
            rw [take_snoc hat, List.map_append, List.mem_append, ← hF g]
            constructor
            · exact fun z => .inl z
            · rintro (z | z)
              · exact z
              · rw [List.map_singleton, List.mem_singleton] at z
                rw [z]
                exact hin
          · have fc11 := fc10.ex e11
            refine ⟨rfl, _, rfl, iteT ⟨_, rfl, x, dx', _, rfl, e11 _ _ hxi, rfl, _, rfl, _, rfl, x, ad, kl, tl, pd, at1.1, (frzA ν at1).2, .ref t, F, rfl, fc11, hnm, At.mono e11.tk _ _ hrow, hal, hnin, by omega, fun H12 v e12 fc12 => ?_⟩⟩
            refine ⟨_, _, _, _, _, _, F ++ [(at1.1, (frzA ν at1).2)], rfl, fun b o q => e12 b o ?_ (e11 _ _ (e10 _ _ (e8 _ _ q))), fc12, fun g => ?_, by rw [List.length_append, List.length_singleton]; omega⟩
            · rintro (z | z | z)
              · exact ne_of_none q fkl z
              · exact ne_of_none q ftl z
              · exact ne_of_none q fpd z
            · rw [take_snoc hat, List.map_append, List.mem_append, List.mem_append, ← hF g]
              rfl
      · rintro σ H8 ⟨x6, x7, x8, x9, x10, x11, F, rfl, e8, fc, hF, hFl⟩
        rw [hl1, List.take_length] at hF
        have e08 := e05.trans e8
        refine ⟨_, rfl, _, rfl, a, _, _, _, rfl, rfl, SqT.of (e08 _ _ ha), rfl, hd, rfl, ⟨_, SqT.of (e08 _ _ hh)⟩, fun L nL => ?_⟩
        have h2 := ok1.h2
        refine lc_map (walk_tup (xs := r1.1.map V.str)) S0 (fun _ => True) (fun _ i y => ∃ t, r1.1[i]? = some t ∧ y = V.int (ν t)) nL (by rw [List.length_map, sizeLine_eq]; omega) (fun z => z) trivial (fun _ _ _ _ _ => trivial) (fun H9 _ hE _ => SqT.of (hE.ex _ _ (e08 _ _ hh))) (fun _ _ _ _ kk h => h) ?_ ?_
        · rintro j z H9 H10 hj _ hE hT ⟨rfl, hzj⟩ Q' hQ
          rw [List.length_map] at hj
          have hyj : r1.1[j]? = some r1.1[j] := List.getElem?_eq_getElem hj
          rw [List.getElem?_map, hyj] at hzj
          obtain rfl := (Option.some.inj hzj).symm
          have hy := ok1.head _ (List.getElem_mem hj)
          have hg : DGet H10 D0 (.str r1.1[j]) (some (.int (ν r1.1[j]))) := by
            rw [← hval _ hy]
            exact DGet.k (k := Sum.inr _) (hE.ex _ _ (e8 _ _ hD))
          exact ⟨rfl, _, rfl, _, rfl, D0, _, rfl, hg, hQ _ _ ExS.refl TK.refl trivial ⟨_, hyj, rfl⟩⟩
        · intro H9 us _ hE hT hL hul huR
          rw [List.length_map] at hul
          have hus := ys_map (f := fun t => V.int (ν t)) (by omega) fun i y h => huR i y h
          refine ⟨L, us, rfl, .inl ⟨SqL.of hL, fun rw0 nrw => ⟨two_le, fun t nt => ?_⟩⟩⟩
          have e9 : Ex H8 (upd (upd H9 rw0 (.tup us)) t (.tup [.ref x, .ref rw0])) := hE.ex.trans ((Ex.new nrw).trans (Ex.new nt))
          refine kf _ t x rw0 ad kl tl pd ν F (e08.trans e9) ⟨fun y hy z hz h => ?_, fun y hy => ?_, fun y hy n hn => ?_, fun y hy n hn => ?_, hF, by omega⟩ (fc.ex e9) upd_same (at_row.mpr ⟨rw0, rfl, ?_⟩)
          · rw [← hν] at h
            exact idx_inj ((hmem y).mpr hy) ((hmem z).mpr hz) (by simp only at h; omega)
          · have := List.idxOf_lt_length_of_mem ((hmem y).mpr hy)
            rw [← hν]
            show 1 ≤ m + 1 + (ys.idxOf y : Int) ∧ m + 1 + (ys.idxOf y : Int) ≤ 100
            omega
          · have := hle n (List.mem_append_left _ (List.mem_append_left _ hn))
            rw [← hν]
            show n < m + 1 + (ys.idxOf y : Int)
            omega
          · have := hle n (List.mem_append_left _ (List.mem_append_right _ hn))
            rw [← hν]
            show n < m + 1 + (ys.idxOf y : Int)
            omega
          · refine (Ex.new nt) _ _ ?_
            rw [upd_same, hus, List.map_map]
            rfl
end
end Ew
set_option Elab.async false
set_option linter.all false
set_option maxRecDepth 100000
set_option maxHeartbeats 1000000
/-! contained -/
namespace Ew
open PySem PySem.Spec PyProof.Rows L2 RZ
section
variable {X : Cx} {k j : Nat} {C : Addr} {x m : Str} {sp : Sp} {p pos apos : Pos} {e o : Expr} {es : List Expr} {ta : TE} {t : TA} {E : XK}
theorem pe_cxE (c : CalX X.prog X.w X.K X.mg X.base k x sp) (hr : Room j X.A) (hk : k ≤ j) (hx : Passes (L2.CX X.prog X.w) X E) (hg : Gl X x) (ha : PA X (e :: es) t)
    (hdb : (x == ("__debug__" : Str)) = false := by decide) (he : starEach (e :: es) X.env = (false, eval e X.env) :: starEach es X.env := by rfl) (hpl : (backTo pos (starEach es X.env)).any (·.1) = false := by rfl) :
    PE X (.Call (.Name x p) (e :: es) [] pos) (tCall sp [] E t) := by
  obtain ⟨f, fd, ps, F, hm, kp, b⟩ := c.ex
  exact pe_call F (hr.mono hk) hg hm kp b .nil hx ha hdb he hpl
end
section
variable {P : Program} {w : World} {K : PySem.W.Frag} {mg : Str → Option Value} {base : Heap} {C D : Addr}
/-- what contained answers -/
def Held (P : Program) (w : World) (C : Addr) (r1 r2 : Rule) (H : Hp) (t : Addr) : Prop :=
  (∃ a m, Told r2 r1 (some m) ∧ H t = some (.tup [.str "yes", .ref a]) ∧ MpAt H a m) ∨
  (∃ p rw ad kl tl pd ν F, Told r2 r1 none ∧ Frz r1 r2 ν F ∧ FcAt P w C H p ad kl tl pd F ∧ H t = some (.tup [.str "no", .ref p, .ref rw]) ∧ At H (rowK (r1.1.map fun x => .inl (ν x))) (.ref rw))
def spContained (P : Program) (w : World) (C D : Addr) : Sp := fun vs H Q E => ∃ (v u : V) (tb : Addr) (r1 r2 : Rule), vs = [v, u, .ref tb] ∧ At H (ruleK r1) v ∧ At H (ruleK r2) u ∧
  (¬ r1.1.length = r2.1.length → E (.ref D) none H) ∧
  (r1.1.length = r2.1.length → RuleOk r1 ∧ RuleOk r2 ∧ TabAt H tb ∧ ∀ (H' : Hp) (t : Addr), Ex H H' → Held P w C r1 r2 H' t → Q (.ref t) H')
abbrev NCo : List Str := ["first", "second", "tables", "found", "facts", "row"]
theorem sc_contained : FnScope NCo ["first", "second", "tables"] (defScope sContained) := ⟨rfl, rfl, rfl, by decide +kernel, rfl, by decide +kernel, by decide +kernel⟩
theorem ok_contained (T : Txt K mg C D) : CalX P w K mg base 5 "contained" (spContained P w C D) := by
  refine calx_of T.fContained (fun _ _ _ _ _ _ us hl => match us, hl with | [_, _, _], _ => rfl) sc_contained (fun vs H Q E h => ?_) (fun f cdv A outer s H vs Q E hr h => ?_)
  · obtain ⟨v, u, tb, r1, r2, rfl, _⟩ := h
    rfl
  · obtain ⟨v, u, tb, r1, r2, rfl, hv, hu, kE, kQ⟩ := h
    have GC : CalX P w K mg base 1 "check_heads" (spHeads D) := ok_checkHeads T
    have GM : Cal P w K mg base 4 "maps_to" spMapsTo := ok_mapsTo T
    have GF : Cal P w K mg base 4 "frozen" (spFrozen P w C) := ok_frozen T
    refine ⟨_, pss_cons (ps_expr (pe_cxE (X := cxOf (L2.CX P w) P w K mg base NCo "contained" (defScope sContained) f cdv A outer s H E) (E := E) GC hr (by decide) (passes_call (takes_of rfl rfl rfl rfl) fun _ _ _ _ h => h) (by rfl) (pa_cons (pv 0) (pa_cons (pv 1) pa_nil))))
      (pss_cons (ps_set (i := 3) sc_contained.nd rfl (Or.inl rfl) (pe_c (X := cxOf (L2.CX P w) P w K mg base NCo "contained" (defScope sContained) f cdv A outer s H E) GM hr (by decide) (by rfl) (pa_cons (pv 1) (pa_cons (pv 0) pa_nil))))
      (pss_cons (ps_if (pt_cmpR op_notN (pv 3) pe_non (nomark _)) (pss_one (ps_ret (pe_tup (pa_cons pe_str (pa_cons (pv 3) pa_nil))))) pss_nil)
      (pss_cons (ps_asg (pe_c (X := cxOf (L2.CX P w) P w K mg base NCo "contained" (defScope sContained) f cdv A outer s H E) GF hr (by decide) (by rfl) (pa_cons (pv 0) (pa_cons (pv 1) (pa_cons (pv 2) pa_nil)))) (pgT K rfl (pgs_cons (pg_name (i := 4) sc_contained.nd rfl (Or.inl rfl)) (pgs_cons (pg_name (i := 5) sc_contained.nd rfl (Or.inl rfl)) pgs_nil))))
      (pss_one (ps_ret (pe_tup (pa_cons pe_str (pa_cons (pv 4) (pa_cons (pv 5) pa_nil))))))))), ?_⟩
    refine ⟨_, rfl, _, rfl, v, u, r1, r2, rfl, hv, hu, fun e => ?_, kE⟩
    obtain ⟨ok1, ok2, htb, kf⟩ := kQ e
    refine ⟨_, rfl, _, rfl, u, v, r2, r1, rfl, hu, hv, ok2, ok1, e.symm, fun H1 st o e1 ho htold => ?_⟩
    refine ⟨_, rfl, rfl, _, rfl, ?_⟩
    cases o with
    | some m =>
      obtain ⟨a, rfl, ha⟩ := ho
      refine iteT ⟨_, rfl, two_le, fun t nt => kf _ t (e1.trans (Ex.new nt)) (.inl ⟨a, m, htold, upd_same, ha.ex (Ex.new nt)⟩)⟩
    | none =>
      obtain rfl : st = .non := ho
      obtain ⟨t1, t2, ht1, ht2, ht3⟩ := htb
      refine iteF ⟨_, rfl, _, rfl, _, rfl, v, u, tb, r1, r2, rfl, At.mono e1.tk _ _ hv, At.mono e1.tk _ _ hu, ok1, ok2, ⟨t1, t2, e1 _ _ ht1, e1 _ _ ht2, e1 _ _ ht3⟩, fun H2 t p rw ad kl tl pd ν F e2 frz fc ht hrow => ?_⟩
      refine ⟨t, _, rfl, SqT.of ht, rfl, _, _, rfl, _, _, rfl, rfl, _, rfl, _, rfl, by show 3 ≤ sizeLine; rw [sizeLine_eq]; decide, fun t' nt' => ?_⟩
      exact kf _ t' ((e1.trans e2).trans (Ex.new nt')) (.inr ⟨p, _, ad, kl, tl, pd, ν, F, htold, frz, fc.ex (Ex.new nt'), upd_same, At.mono (tk_new nt') _ _ hrow⟩)
end
end Ew
set_option Elab.async false
set_option linter.all false
set_option maxRecDepth 100000
set_option maxHeartbeats 1000000
/-! the law's pot -/
namespace Ew
open PySem PySem.Spec PyProof.Rows L2 RZ
theorem pss_weak {X : Cx} {sts : List Stmt} {t t' : TS} (h : PSs X sts t) (hw : ∀ D σ H, t' D σ H → t D σ H) : PSs X sts t' := ⟨fun pins s σ H D I q => h.run pins s σ H D I (hw D σ H q)⟩
def PotAt (H : Hp) (q sc : Addr) : Prop := ∃ (ns : List Int) (i c s : Int), H q = some (.lst [.ref sc, .int i, .int c, .int s]) ∧ H sc = some (.lst (ns.map V.int)) ∧ 0 ≤ i ∧ 0 ≤ s ∧ s < 2147483647 ∧ ns.length ≤ 1000
theorem PotAt.ne {H : Hp} {q sc : Addr} (h : PotAt H q sc) : sc ≠ q := fun z => by
  obtain ⟨ns, i, c, s, h1, h2, _⟩ := h
  rw [z, h1] at h2
  cases ns with
  | nil => simp at h2
  | cons n ns => simp at h2
theorem PotAt.ex {H H' : Hp} {q sc : Addr} (h : PotAt H q sc) (k : Ex H H') : PotAt H' q sc := by
  obtain ⟨ns, i, c, s, h1, h2, h3⟩ := h
  exact ⟨ns, i, c, s, k _ _ h1, k _ _ h2, h3⟩
theorem PotAt.exS {H H' : Hp} {q sc : Addr} {S : Addr → Prop} (h : PotAt H q sc) (k : ExS S H H') (n1 : ¬ S q) (n2 : ¬ S sc) : PotAt H' q sc := by
  obtain ⟨ns, i, c, s, h1, h2, h3⟩ := h
  exact ⟨ns, i, c, s, k _ _ n1 h1, k _ _ n2 h2, h3⟩
theorem PotAt.lst {H : Hp} {q sc : Addr} (h : PotAt H q sc) : ∃ xs, H q = some (.lst xs) := by
  obtain ⟨ns, i, c, s, h1, _⟩ := h
  exact ⟨_, h1⟩
section
variable {P : Program} {w : World} {K : PySem.W.Frag} {mg : Str → Option Value} {base : Heap} {C D : Addr}
def spPot (K : PySem.W.Frag) : Sp := fun vs H Q _ => ∃ (a : Addr) (ns : List Int), vs = [.ref a] ∧ SqL K H a (ns.map V.int) ∧ ns.length ≤ 1000 ∧ (∀ H', Ex H H' → SqL K H' a (ns.map V.int)) ∧ ∀ (H' : Hp) (q sc : Addr), Ex H H' → PotAt H' q sc → Q (.ref q) H'
theorem sc_lawPot : FnScope ["_law_script", "_law_seed", "_law_cell"] ["_law_script"] (defScope sLawPot) := ⟨rfl, rfl, rfl, by decide +kernel, rfl, by decide +kernel, by decide +kernel⟩
theorem ok_lawPot (T : Txt K mg C D) : Cal P w K mg base 1 "_law_pot" (spPot K) := by
  refine cal_of T.fLawPot (fun _ _ _ _ _ _ us hl => match us, hl with | [_], _ => rfl) sc_lawPot (fun vs H Q E h => ?_) (fun f cdv A outer s H vs Q E hr h => ?_)
  · obtain ⟨a, _, rfl, _⟩ := h
    rfl
  · obtain ⟨a, ns, rfl, hs, hl, hsx, kf⟩ := h
    refine ⟨_, pss_cons (ps_set (i := 1) sc_lawPot.nd rfl (Or.inl rfl) pe_int)
      (pss_cons (ps_for PassesOwn.never rfl (pi_list (pv 0)) (pg_name (i := 2) sc_lawPot.nd rfl (Or.inl rfl))
        (pss_one (ps_set (i := 1) sc_lawPot.nd rfl (Or.inl rfl) (pe_op op_mod (pe_callTy call_int1 (by rfl) T.n_int (by decide +kernel) (pa_cons (pe_op op_add (pe_op op_mul (pv 1) pe_int) (pv 2)) pa_nil)) pe_int))))
      (pss_one (ps_ret (pe_lst (pa_cons (pe_callTy call_list_of (by rfl) T.n_list (by decide +kernel) (pa_cons (pv 0) pa_nil)) (pa_cons pe_int (pa_cons pe_int (pa_cons (pv 1) pa_nil)))))))), ?_⟩
    refine ⟨_, rfl, a, rfl, ⟨_, hs⟩, ?_⟩
    refine for_list (xs := ns.map V.int) (fun _ σ H1 => ∃ (sd : Int) (x2 : Option V), σ = [some (.ref a), some (.int sd), x2] ∧ H1 = H ∧ 0 ≤ sd ∧ sd < 2147483647) ⟨1, _, rfl, rfl, by decide, by decide⟩ (fun _ σ H1 _ ⟨_, _, _, e, _⟩ => by rw [e]; exact hs) ?_ ?_
    · rintro i x σ H1 hx ⟨sd, x2, rfl, rfl, h0, h1⟩
      rw [List.getElem?_map] at hx
      cases hn : ns[i]? with
      | none => rw [hn] at hx; cases hx
      | some n =>
        rw [hn] at hx
        cases hx
        refine ⟨_, rfl, _, _, rfl, rfl, .inl ⟨by omega, by omega⟩, _, rfl, _, _, rfl, rfl, .inl ⟨_, rfl, _, _, rfl, rfl, (by show (0 : Int) < 2147483647; decide), ?_⟩⟩
        refine ⟨_, _, rfl, rfl, Int.emod_nonneg _ (by decide), Int.emod_lt_of_pos _ (by decide)⟩
    · rintro σ H1 ⟨sd, x2, rfl, rfl, h0, h1⟩
      refine ⟨_, rfl, a, _, rfl, .inl hs, fun sc nsc => ⟨_, rfl, by show 4 ≤ sizeLine; rw [sizeLine_eq]; decide, fun q nq => ?_⟩⟩
      refine kf _ q sc ((Ex.new nsc).trans (Ex.new nq)) ⟨ns, 0, 0, sd, upd_same, (Ex.new nq) _ _ upd_same, by decide, h0, h1, hl⟩
def spNext : Sp := fun vs H Q _ => ∃ (q sc : Addr) (n : Int), vs = [.ref q, .int n] ∧ PotAt H q sc ∧ 1 ≤ n ∧ n < 1000 ∧ ∀ (H' : Hp) (r : Int), ExB q H H' → PotAt H' q sc → 0 ≤ r → r < n → Q (.int r) H'
/-- behind the first if of _law_next -/
def tTail (q sc : Addr) (n sd : Int) : TS := fun D σ H => ∃ (i c : Int) (x2 x3 x4 : Option V), σ = [some (.ref q), some (.int n), x2, x3, x4] ∧ H q = some (.lst [.ref sc, .int i, .int c, .int sd]) ∧ 0 ≤ i ∧
  ∀ (i' c' s' r : Int) (H' : Hp), ExB q H H' → H' q = some (.lst [.ref sc, .int i', .int c', .int s']) → 0 ≤ i' → 0 ≤ s' → s' < 2147483647 → 0 ≤ r → r < n → D.rt (.int r) H'
abbrev NLn : List Str := ["_law_pot_here", "_law_limit", "_law_cell", "_law_found", "_law_mixed"]
theorem sc_lawNext : FnScope NLn ["_law_pot_here", "_law_limit"] (defScope sLawNext) := ⟨rfl, rfl, rfl, by decide +kernel, rfl, by decide +kernel, by decide +kernel⟩
theorem ok_lawNext (T : Txt K mg C D) : Cal P w K mg base 1 "_law_next" spNext := by
  refine cal_of T.fLawNext (fun _ _ _ _ _ _ us hl => match us, hl with | [_, _], _ => rfl) sc_lawNext (fun vs H Q E h => ?_) (fun f cdv A outer s H vs Q E hr h => ?_)
  · obtain ⟨q, _, n, rfl, _⟩ := h
    rfl
  · obtain ⟨q, sc, n, rfl, hp, n1, n2, kf⟩ := h
    have hne := hp.ne
    obtain ⟨ns, i, c, sd, hq, hsc, i0, s0, s1, hl⟩ := hp
    refine ⟨_, pss_cons (ps_if (PW.pt (pw_and (pt_cmpR op_eq (pe_ix (ixL K) (pv 0) pe_int (fun _ _ => rfl)) pe_int (nomark _)) (pw_and1 (pt_cmpR op_lt (pe_ix (ixL K) (pv 0) pe_int (fun _ _ => rfl)) (pe_callB call_len_seq (by rfl) T.n_len (by decide +kernel) (pa_cons (pe_ix (ixL K) (pv 0) pe_int (fun _ _ => rfl)) pa_nil)) (nomark _)))))
        (pss_cons (ps_set (i := 2) sc_lawNext.nd rfl (Or.inl rfl) (pe_callB call_abs (by rfl) T.n_abs (by decide +kernel) (pa_cons (pe_callTy call_int1 (by rfl) T.n_int (by decide +kernel) (pa_cons (pe_ix (ixL K) (pe_ix (ixL K) (pv 0) pe_int (fun _ _ => rfl)) (pe_ix (ixL K) (pv 0) pe_int (fun _ _ => rfl)) (fun _ _ => rfl)) pa_nil)) pa_nil)))
        (pss_cons (ps_asg (pe_op op_add (pe_ix (ixL K) (pv 0) pe_int (fun _ _ => rfl)) pe_int) (pg_sub (pv 0) pe_int set_list (fun _ => rfl)))
        (pss_cons (ps_if (pt_cmpR op_lt (pv 2) (pe_op op_pow pe_int pe_int) (nomark _)) (pss_one (ps_ret (pe_op op_mod (pe_callTy call_int1 (by rfl) T.n_int (by decide +kernel) (pa_cons (pv 2) pa_nil)) (pv 1)))) pss_nil)
        (pss_one (ps_asg (pv 2) (pg_sub (pv 0) pe_int set_list (fun _ => rfl))))))) pss_nil)
      (pss_weak (t' := tTail q sc n sd) (pss_cons (ps_if (pt_cmpR op_gt (pe_ix (ixL K) (pv 0) pe_int (fun _ _ => rfl)) pe_int (nomark _))
        (pss_cons (ps_set (i := 3) sc_lawNext.nd rfl (Or.inl rfl) (pe_op op_mod (pe_callTy call_int1 (by rfl) T.n_int (by decide +kernel) (pa_cons (pe_ix (ixL K) (pv 0) pe_int (fun _ _ => rfl)) pa_nil)) (pv 1)))
        (pss_cons (ps_asg (pe_op op_fdiv (pe_ix (ixL K) (pv 0) pe_int (fun _ _ => rfl)) (pv 1)) (pg_sub (pv 0) pe_int set_list (fun _ => rfl)))
        (pss_one (ps_ret (pv 3))))) pss_nil)
      (pss_cons (ps_asg (pe_op op_mod (pe_callTy call_int1 (by rfl) T.n_int (by decide +kernel) (pa_cons (pe_op op_add (pe_op op_mul (pe_ix (ixL K) (pv 0) pe_int (fun _ _ => rfl)) pe_int) pe_int) pa_nil)) pe_int) (pg_sub (pv 0) pe_int set_list (fun _ => rfl)))
      (pss_cons (ps_set (i := 4) sc_lawNext.nd rfl (Or.inl rfl) (pe_op op_mod (pe_callTy call_int1 (by rfl) T.n_int (by decide +kernel) (pa_cons (pe_op op_add (pe_op op_mul (pe_ix (ixL K) (pv 0) pe_int (fun _ _ => rfl)) pe_int) (pe_op op_fdiv (pe_ix (ixL K) (pv 0) pe_int (fun _ _ => rfl)) pe_int)) pa_nil)) pe_int))
      (pss_one (ps_ret (pe_op op_mod (pe_callTy call_int1 (by rfl) T.n_int (by decide +kernel) (pa_cons (pv 4) pa_nil)) (pv 1))))))) ?_), ?_⟩
    · rintro D' σ H1 ⟨i, c, x2, x3, x4, rfl, hq1, i0, k⟩
      have hn0 : (0 : Int) < n := by omega
      refine ⟨_, rfl, q, _, _, _, rfl, rfl, SqL.of hq1, rfl, _, _, rfl, rfl, _, rfl, ?_⟩
      by_cases hc : c > 0
      · rw [decide_eq_true hc]
        refine iteT ⟨_, rfl, q, _, _, _, rfl, rfl, SqL.of hq1, rfl, .inl ⟨_, rfl, _, rfl, _, _, rfl, rfl, hn0, ?_⟩⟩
        refine ⟨_, rfl, q, _, _, _, rfl, rfl, SqL.of hq1, rfl, _, rfl, _, _, rfl, rfl, ⟨hn0, by omega⟩, _, rfl, q, _, _, 2, rfl, rfl, hq1, rfl, _, rfl, ?_⟩
        exact k i _ sd _ _ ExB.upd upd_same i0 s0 s1 (Int.emod_nonneg _ (by omega)) (Int.emod_lt_of_pos _ hn0)
      · rw [decide_eq_false hc]
        refine iteF ⟨_, rfl, q, _, _, _, rfl, rfl, SqL.of hq1, rfl, _, _, rfl, rfl, .inl ⟨by omega, by omega⟩, _, _, rfl, rfl, .inl ⟨_, rfl, _, _, rfl, rfl, (by show (0 : Int) < 2147483647; decide), _, rfl, q, _, _, 3, rfl, rfl, hq1, rfl, ?_⟩⟩
        have r0 : 0 ≤ (sd * 48271 + 12345) % 2147483647 := Int.emod_nonneg _ (by decide)
        have r1 : (sd * 48271 + 12345) % 2147483647 < 2147483647 := Int.emod_lt_of_pos _ (by decide)
        have hq2 : upd H1 q (.lst [.ref sc, .int i, .int c, .int ((sd * 48271 + 12345) % 2147483647)]) q = some (.lst [.ref sc, .int i, .int c, .int ((sd * 48271 + 12345) % 2147483647)]) := upd_same
        refine ⟨_, rfl, q, _, _, _, rfl, rfl, SqL.of hq2, rfl, _, _, rfl, rfl, .inl ⟨Int.lt_of_lt_of_le (by decide) r0, Int.lt_trans r1 (by decide)⟩, _, rfl, q, _, _, _, rfl, rfl, SqL.of hq2, rfl, _, _, rfl, rfl, ⟨by decide, by decide⟩, _, _, rfl, rfl, .inl ⟨_, rfl, _, _, rfl, rfl, (by show (0 : Int) < 2147483629; decide), ?_⟩⟩
        refine ⟨_, rfl, .inl ⟨_, rfl, _, rfl, _, _, rfl, rfl, hn0, ?_⟩⟩
        exact k i c _ _ _ ExB.upd upd_same i0 r0 r1 (Int.emod_nonneg _ (by omega)) (Int.emod_lt_of_pos _ hn0)
    have hn0 : (0 : Int) < n := by omega
    have fin : ∀ (H1 : Hp) (i' c' s' r : Int) (H' : Hp), ExB q H H1 → ExB q H1 H' → H' q = some (.lst [.ref sc, .int i', .int c', .int s']) → 0 ≤ i' → 0 ≤ s' → s' < 2147483647 → 0 ≤ r → r < n → Q (.int r) H' :=
      fun H1 i' c' s' r H' e1 e2 hq' a1 a2 a3 a4 a5 => kf H' r (e1.trans e2) ⟨ns, i', c', s', hq', (e1.trans e2) _ _ hne hsc, a1, a2, a3, hl⟩ a4 a5
    have hlen : (((ns.map V.int).length : Nat) : Int) = (ns.length : Int) := by rw [List.length_map]
    refine ⟨_, rfl, q, _, _, _, rfl, rfl, SqL.of hq, rfl, rfl, _, rfl, ?_⟩
    by_cases hc : c = 0
    · rw [show decide (V.int c = V.int 0) = true by rw [hc]; rfl]
      refine iteT ⟨_, rfl, q, _, _, _, rfl, rfl, SqL.of hq, rfl, _, rfl, q, _, _, _, rfl, rfl, SqL.of hq, rfl, sc, _, rfl, .inl (SqL.of hsc), _, _, rfl, rfl, _, rfl, ?_⟩
      by_cases hi : i < (((ns.map V.int).length : Nat) : Int)
      · rw [decide_eq_true hi]
        obtain ⟨j, hj⟩ : ∃ j : Nat, i = (j : Int) := ⟨i.toNat, by omega⟩
        have hjl : j < ns.length := by omega
        have hcell : atI (ns.map V.int) i = some (.int ns[j]) := by rw [hj]; exact atI_nat (by rw [List.getElem?_map, List.getElem?_eq_getElem hjl]; rfl)
        refine iteT ⟨_, rfl, q, _, _, _, rfl, rfl, SqL.of hq, rfl, _, rfl, q, _, _, _, rfl, rfl, SqL.of hq, rfl, sc, _, _, _, rfl, rfl, SqL.of hsc, hcell, .inl ⟨_, rfl, _, rfl, ?_⟩⟩
        generalize hv : (if ns[j] < 0 then -ns[j] else ns[j]) = v
        refine ⟨_, rfl, q, _, _, _, rfl, rfl, SqL.of hq, rfl, _, _, rfl, rfl, _, rfl, q, _, _, 1, rfl, rfl, hq, rfl, ?_⟩
        have hq2 : upd H q (.lst [.ref sc, .int (i + 1), .int c, .int sd]) q = some (.lst [.ref sc, .int (i + 1), .int c, .int sd]) := upd_same
        refine ⟨_, rfl, _, _, rfl, rfl, ⟨by decide, by decide, by decide⟩, _, _, rfl, rfl, _, rfl, ?_⟩
        refine ite2 (fun _ => ?_) (fun _ => ?_)
        · refine ⟨_, rfl, .inl ⟨_, rfl, _, rfl, _, _, rfl, rfl, hn0, ?_⟩⟩
          exact fin _ (i + 1) c sd _ _ ExB.upd (fun _ _ _ e => e) hq2 (by omega) s0 s1 (Int.emod_nonneg _ (by omega)) (Int.emod_lt_of_pos _ hn0)
        · refine ⟨_, rfl, _, rfl, q, _, _, 2, rfl, rfl, hq2, rfl, ?_⟩
          exact ⟨_, _, _, _, _, rfl, upd_same, by omega, fun i' c' s' r H' e2 => fin _ i' c' s' r H' (ExB.upd.trans ExB.upd) e2⟩
      · rw [decide_eq_false hi]
        refine iteF ?_
        exact ⟨_, _, _, _, _, rfl, hq, i0, fun i' c' s' r H' e2 => fin _ i' c' s' r H' (fun _ _ _ e => e) e2⟩
    · rw [show decide (V.int c = V.int 0) = false by simp [hc]]
      refine iteF (iteF ?_)
      exact ⟨_, _, _, _, _, rfl, hq, i0, fun i' c' s' r H' e2 => fin _ i' c' s' r H' (fun _ _ _ e => e) e2⟩
end
end Ew
set_option Elab.async false
set_option linter.all false
set_option maxRecDepth 100000
set_option maxHeartbeats 1000000
/-! the law's terms and atoms -/
namespace Ew
open PySem PySem.Spec PyProof.Rows L2 RZ
theorem at3 {α : Type} {a b c : α} {r : Int} (h0 : 0 ≤ r) (h3 : r < 3) : ∃ x, atI [a, b, c] r = some x ∧ (x = a ∨ x = b ∨ x = c) := by
  have : r = 0 ∨ r = 1 ∨ r = 2 := by omega
  rcases this with rfl | rfl | rfl
  · exact ⟨a, rfl, .inl rfl⟩
  · exact ⟨b, rfl, .inr (.inl rfl)⟩
  · exact ⟨c, rfl, .inr (.inr rfl)⟩
theorem at4 {α : Type} {a b c d : α} {r : Int} (h0 : 0 ≤ r) (h3 : r < 4) : ∃ x, atI [a, b, c, d] r = some x ∧ x ∈ [a, b, c, d] := by
  have : r = 0 ∨ r = 1 ∨ r = 2 ∨ r = 3 := by omega
  rcases this with rfl | rfl | rfl | rfl
  · exact ⟨a, rfl, by simp⟩
  · exact ⟨b, rfl, by simp⟩
  · exact ⟨c, rfl, by simp⟩
  · exact ⟨d, rfl, by simp⟩
theorem ExB.tkL {p : Addr} {H H' : Hp} {xs : List V} (h : ExB p H H') (e : H p = some (.lst xs)) : TK H H' := h.tk fun ys z => by rw [e] at z; cases z
theorem PotAt.tk {H H' : Hp} {q sc : Addr} (h : PotAt H q sc) (k : ExB q H H') : TK H H' := by
  obtain ⟨xs, e⟩ := h.lst
  exact k.tkL e
theorem terms_of {H : Hp} : ∀ {ys : List V}, (∀ (i : Nat) (y : V), ys[i]? = some y → ∃ t, TmOk t ∧ At H (tmK t) y) → ∃ ts : List Tm, ts.length = ys.length ∧ (∀ t ∈ ts, TmOk t) ∧ Ats H (ts.map tmK) ys
  | [], _ => ⟨[], rfl, fun t h => by simp at h, rfl⟩
  | y :: ys, h => by
    obtain ⟨ts, h1, h2, h3⟩ := terms_of (ys := ys) fun i z e => h (i + 1) z e
    obtain ⟨t, k1, k2⟩ := h 0 y rfl
    refine ⟨t :: ts, by rw [List.length_cons, List.length_cons, h1], fun u hu => ?_, ⟨y, ys, rfl, k2, h3⟩⟩
    rcases List.mem_cons.mp hu with rfl | hu
    · exact k1
    · exact h2 u hu
theorem potI {H : Hp} {q sc L : Addr} {zs : List V} (h : PotAt H q sc) (n1 : L ≠ q) (n2 : L ≠ sc) : PotAt (upd H L (.lst zs)) q sc := by
  obtain ⟨ns, i, c, s, h1, h2, h3⟩ := h
  exact ⟨ns, i, c, s, by rw [upd_ne (Ne.symm n1)]; exact h1, by rw [upd_ne (Ne.symm n2)]; exact h2, h3⟩
theorem PotAt.sc {H : Hp} {q sc : Addr} (h : PotAt H q sc) : ∃ xs, H sc = some (.lst xs) := by
  obtain ⟨ns, i, c, s, _, h1, _⟩ := h
  exact ⟨_, h1⟩
theorem PotAt.nq {H : Hp} {q sc l : Addr} (h : PotAt H q sc) (n : H l = none) : l ≠ q ∧ l ≠ sc := by
  obtain ⟨xs, e⟩ := h.lst
  obtain ⟨ys, e2⟩ := h.sc
  exact ⟨fun z => (by rw [z, e] at n; cases n), fun z => (by rw [z, e2] at n; cases n)⟩
section
variable {P : Program} {w : World} {K : PySem.W.Frag} {mg : Str → Option Value} {base : Heap} {C D : Addr}
def spTerm : Sp := fun vs H Q _ => ∃ (q sc : Addr), vs = [.ref q] ∧ PotAt H q sc ∧ ∀ (H' : Hp) (v : V) (t : Tm), ExB q H H' → PotAt H' q sc → At H' (tmK t) v → TmOk t → Q v H'
theorem sc_lawTerm : FnScope ["_law_pot_here"] ["_law_pot_here"] (defScope sLawTerm) := ⟨rfl, rfl, rfl, by decide +kernel, rfl, by decide +kernel, by decide +kernel⟩
theorem ok_lawTerm (T : Txt K mg C D) : Cal P w K mg base 2 "_law_term" spTerm := by
  refine cal_of T.fLawTerm (fun _ _ _ _ _ _ us hl => match us, hl with | [_], _ => rfl) sc_lawTerm (fun vs H Q E h => ?_) (fun f cdv A outer s H vs Q E hr h => ?_)
  · obtain ⟨q, sc, rfl, _⟩ := h
    rfl
  · obtain ⟨q, sc, rfl, hp, kf⟩ := h
    have GN : Cal P w K mg base 1 "_law_next" spNext := ok_lawNext T
    refine ⟨_, pss_cons (ps_if (pt_cmpR op_eq (pe_c (X := (cxOf CX0 P w K mg base ["_law_pot_here"] "_law_term" (defScope sLawTerm) f cdv A outer s H E).nox) GN hr (by decide) (by rfl) (pa_cons (pv 0) (pa_cons pe_int pa_nil))) pe_int (nomark _))
        (pss_one (ps_ret (pe_tup (pa_cons pe_str (pa_cons (pe_ix (ixL K) (pe_lst (pa_cons pe_int (pa_cons pe_int (pa_cons pe_str pa_nil)))) (pe_c (X := (cxOf CX0 P w K mg base ["_law_pot_here"] "_law_term" (defScope sLawTerm) f cdv A outer s H E).nox) GN hr (by decide) (by rfl) (pa_cons (pv 0) (pa_cons pe_int pa_nil))) (fun _ _ => rfl)) pa_nil))))) pss_nil)
      (pss_one (ps_ret (pe_tup (pa_cons pe_str (pa_cons (pe_ix (ixL K) (pe_lst (pa_cons pe_str (pa_cons pe_str (pa_cons pe_str (pa_cons pe_str pa_nil))))) (pe_c (X := (cxOf CX0 P w K mg base ["_law_pot_here"] "_law_term" (defScope sLawTerm) f cdv A outer s H E).nox) GN hr (by decide) (by rfl) (pa_cons (pv 0) (pa_cons pe_int pa_nil))) (fun _ _ => rfl)) pa_nil))))), ?_⟩
    refine ⟨_, rfl, q, sc, 5, rfl, hp, by decide, by decide, fun H1 r e1 hp1 r0 r5 => ⟨rfl, _, rfl, ?_⟩⟩
    refine ite2 (fun _ => ?_) (fun _ => ?_)
    · refine ⟨by show 3 ≤ sizeLine; rw [sizeLine_eq]; decide, fun l nl => ?_⟩
      have e2 : Ex H1 (upd H1 l (.lst [.int 0, .int 1, .str "a"])) := Ex.new nl
      have hl : upd H1 l (.lst [.int 0, .int 1, .str "a"]) l = some (.lst [.int 0, .int 1, .str "a"]) := upd_same
      have hlq : l ≠ q := fun z => by obtain ⟨xs, e⟩ := hp1.lst; rw [z, e] at nl; cases nl
      generalize upd H1 l (.lst [.int 0, .int 1, .str "a"]) = H2 at e2 hl ⊢
      refine ⟨_, rfl, q, sc, 3, rfl, hp1.ex e2, by decide, by decide, fun H3 r e3 hp3 r0 r3 => ?_⟩
      obtain ⟨x, hx, hx3⟩ := at3 (a := V.int 0) (b := V.int 1) (c := V.str "a") r0 r3
      have hk : ∃ k ∈ Vls, x = L2.kV k := by
        rcases hx3 with rfl | rfl | rfl
        · exact ⟨.inl 0, by simp [Vls], rfl⟩
        · exact ⟨.inl 1, by simp [Vls], rfl⟩
        · exact ⟨.inr "a", by simp [Vls], rfl⟩
      obtain ⟨k, hkv, rfl⟩ := hk
      refine ⟨l, _, _, _, rfl, rfl, SqL.of (e3 _ _ hlq hl), hx, two_le, fun p np => ?_⟩
      exact kf _ _ (.val k) (e1.trans ((e2.but (p := q)).trans (e3.trans (Ex.new np).but))) (hp3.ex (Ex.new np)) (at_val.mpr ⟨p, rfl, upd_same⟩) hkv
    · refine ⟨by show 4 ≤ sizeLine; rw [sizeLine_eq]; decide, fun l nl => ?_⟩
      have e2 : Ex H1 (upd H1 l (.lst [.str "x", .str "y", .str "z", .str "u"])) := Ex.new nl
      have hl : upd H1 l (.lst [.str "x", .str "y", .str "z", .str "u"]) l = some (.lst [.str "x", .str "y", .str "z", .str "u"]) := upd_same
      have hlq : l ≠ q := fun z => by obtain ⟨xs, e⟩ := hp1.lst; rw [z, e] at nl; cases nl
      generalize upd H1 l (.lst [.str "x", .str "y", .str "z", .str "u"]) = H2 at e2 hl ⊢
      refine ⟨_, rfl, q, sc, 4, rfl, hp1.ex e2, by decide, by decide, fun H3 r e3 hp3 r0 r3 => ?_⟩
      obtain ⟨x, hx, hx4⟩ := at4 (a := V.str "x") (b := V.str "y") (c := V.str "z") (d := V.str "u") r0 r3
      have hk : ∃ y ∈ Nms, x = V.str y := by
        have : x ∈ Nms.map V.str := hx4
        obtain ⟨y, hy, e⟩ := List.mem_map.mp this
        exact ⟨y, hy, e.symm⟩
      obtain ⟨y, hy, rfl⟩ := hk
      refine ⟨l, _, _, _, rfl, rfl, SqL.of (e3 _ _ hlq hl), hx, two_le, fun p np => ?_⟩
      exact kf _ _ (.var y) (e1.trans ((e2.but (p := q)).trans (e3.trans (Ex.new np).but))) (hp3.ex (Ex.new np)) (at_var.mpr ⟨p, rfl, upd_same⟩) hy
def spAtoms : Sp := fun vs H Q _ => ∃ (q sc : Addr) (n : Int), vs = [.ref q, .int n] ∧ PotAt H q sc ∧ 1 ≤ n ∧ n ≤ 4 ∧ ∀ (H' : Hp) (v : V) (as : List Atom), ExB q H H' → PotAt H' q sc → At H' (atomsK as) v → (∀ a ∈ as, AtomOk a) → 1 ≤ as.length → (as.length : Int) ≤ n → Q v H'
abbrev NLa : List Str := ["_law_pot_here", "_law_many", "_law_found", "_law_k", "_law_table", "_law_j"]
theorem sc_lawAtoms : FnScope NLa ["_law_pot_here", "_law_many"] (defScope sLawAtoms) := ⟨rfl, rfl, rfl, by decide +kernel, rfl, by decide +kernel, by decide +kernel⟩
theorem ok_lawAtoms (T : Txt K mg C D) : Cal P w K mg base 3 "_law_atoms" spAtoms := by
  refine cal_of T.fLawAtoms (fun _ _ _ _ _ _ us hl => match us, hl with | [_, _], _ => rfl) sc_lawAtoms (fun vs H Q E h => ?_) (fun f cdv A outer s H vs Q E hr h => ?_)
  · obtain ⟨q, sc, n, rfl, _⟩ := h
    rfl
  · obtain ⟨q, sc, n, rfl, hp, n1, n4, kf⟩ := h
    have GN : Cal P w K mg base 1 "_law_next" spNext := ok_lawNext T
    have GT : Cal P w K mg base 2 "_law_term" spTerm := ok_lawTerm T
    refine ⟨_, pss_cons (ps_set (i := 2) sc_lawAtoms.nd rfl (Or.inl rfl) (pe_lst pa_nil))
      (pss_cons (ps_for PassesOwn.never rfl (pi_range1 (by rfl) T.n_range (pa_cons (pe_op op_add pe_int (pe_c (X := (cxOf CX0 P w K mg base NLa "_law_atoms" (defScope sLawAtoms) f cdv A outer s H E).nox) GN hr (by decide) (by rfl) (pa_cons (pv 0) (pa_cons (pv 1) pa_nil)))) pa_nil)) (pg_name (i := 3) sc_lawAtoms.nd rfl (Or.inl rfl))
        (pss_cons (ps_set (i := 4) sc_lawAtoms.nd rfl (Or.inl rfl) (pe_ix (ixL K) (pe_lst (pa_cons pe_str (pa_cons pe_str (pa_cons pe_str pa_nil)))) (pe_c (X := (cxOf CX0 P w K mg base NLa "_law_atoms" (defScope sLawAtoms) f cdv A outer s H E).nox) GN hr (by decide) (by rfl) (pa_cons (pv 0) (pa_cons pe_int pa_nil))) (fun _ _ => rfl)))
        (pss_one (ps_expr (pe_bm PySem.F.plainAttrs_list PySem.F.slot_list_append PySem.F.type_list_append mt_append (pv 2) (pa_cons (pe_tup (pa_cons (pv 4) (pa_cons (pe_callTy call_tuple_of (by rfl) T.n_tuple (by decide +kernel) (pa_cons (pe_lc (own := [("_law_j", 5)]) (g := gName 5) (tt := tYes) rfl sc_lawAtoms.nd
            (pi_range1 (by rfl) T.n_range (pa_cons (pe_ix (ixL K) (pe_lst (pa_cons pe_int (pa_cons pe_int pa_nil))) (pe_callTy call_int1 (by rfl) T.n_int (by decide +kernel) (pa_cons (pe_cmpR op_eq (pv 4) pe_str (nomark _)) pa_nil)) (fun _ _ => rfl)) pa_nil))
            (blkOk_by (N := NLa) (sc := defScope sLawAtoms) (by decide +kernel)) (fun _ _ _ _ _ => pg_name (i := 5) sc_lawAtoms.nd rfl (Or.inl rfl)) (fun _ _ _ _ _ => pts_nil)
            (fun _ _ _ _ _ => pe_c (X := Cx.blk _ _ _ _ _ _) GT hr (by decide) (by rfl) (pa_cons (pv 0) pa_nil))) pa_nil)) pa_nil))) pa_nil))))))
      (pss_one (ps_ret (pe_callTy call_tuple_of (by rfl) T.n_tuple (by decide +kernel) (pa_cons (pv 2) pa_nil))))), ?_⟩
    refine ⟨Nat.zero_le _, fun l nl => ?_⟩
    have e0 : Ex H (upd H l (.lst [])) := Ex.new nl
    obtain ⟨hlq, hlsc⟩ := hp.nq nl
    refine ⟨_, rfl, _, rfl, q, sc, n, rfl, hp.ex e0, n1, by omega, fun H1 r e1 hp1 r0 rn => ⟨_, _, rfl, rfl, _, rfl, by omega, by omega, ?_⟩⟩
    have hl1 : H1 l = some (.lst []) := e1 _ _ hlq upd_same
    refine for_range (fun i σ H2 => ∃ (x3 x4 x5 : Option V) (as : List Atom) (vs : List V), σ = [some (.ref q), some (.int n), some (.ref l), x3, x4, x5] ∧ ExB q H H2 ∧ PotAt H2 q sc ∧ H2 l = some (.lst vs) ∧ Ats H2 (as.map atomK) vs ∧ (∀ a ∈ as, AtomOk a) ∧ as.length = i)
      ⟨_, _, _, [], [], rfl, e0.but.trans e1, hp1, hl1, rfl, fun a h => by simp at h, rfl⟩ ?_ ?_
    · rintro i σ H2 hi ⟨x3, x4, x5, as, vs, rfl, e2, hp2, hl2, hvs, hok, hlen⟩
      have hi4 : i < 4 := by omega
      refine ⟨by show 3 ≤ sizeLine; rw [sizeLine_eq]; decide, fun l3 nl3 => ?_⟩
      have e3 : Ex H2 (upd H2 l3 (.lst [.str "e", .str "e", .str "p"])) := Ex.new nl3
      have h3 : upd H2 l3 (.lst [.str "e", .str "e", .str "p"]) l3 = some (.lst [.str "e", .str "e", .str "p"]) := upd_same
      have hp3 := hp2.ex e3
      have n3 := hp2.nq nl3
      generalize upd H2 l3 (.lst [.str "e", .str "e", .str "p"]) = H3 at e3 h3 hp3 ⊢
      refine ⟨_, rfl, q, sc, 3, rfl, hp3, by decide, by decide, fun H4 r4 e4 hp4 r40 r43 => ?_⟩
      obtain ⟨x, hx, hx3⟩ := at3 (a := V.str "e") (b := V.str "e") (c := V.str "p") r40 r43
      have hk : ∃ tb, NmTab tb ∧ x = V.str tb := by
        rcases hx3 with rfl | rfl | rfl
        · exact ⟨"e", .inl rfl, rfl⟩
        · exact ⟨"e", .inl rfl, rfl⟩
        · exact ⟨"p", .inr rfl, rfl⟩
      obtain ⟨tb, htb, rfl⟩ := hk
      have e24 : ExB q H2 H4 := e3.but.trans e4
      have hl4 := e24 _ _ hlq hl2
      refine ⟨l3, _, _, _, rfl, rfl, SqL.of (e4 _ _ n3.1 h3), hx, ?_⟩
      refine ⟨_, rfl, .inl ⟨rfl, _, SqL.of hl4⟩, _, rfl, two_le, fun l2 nl2 => ?_⟩
      have e5 : Ex H4 (upd H4 l2 (.lst [.int 1, .int 2])) := Ex.new nl2
      have h5 : upd H4 l2 (.lst [.int 1, .int 2]) l2 = some (.lst [.int 1, .int 2]) := upd_same
      have hp5 := hp4.ex e5
      generalize upd H4 l2 (.lst [.int 1, .int 2]) = H5 at e5 h5 hp5 ⊢
      have hm : ∃ m : Nat, atI [V.int 1, V.int 2] (if decide (V.str tb = V.str "e") = true then 1 else 0) = some (.int (m : Int)) ∧ (tb = "e" ∧ m = 2 ∨ tb = "p" ∧ m = 1) := by
        rcases htb with rfl | rfl
        · exact ⟨2, rfl, .inl ⟨rfl, rfl⟩⟩
        · exact ⟨1, rfl, .inr ⟨rfl, rfl⟩⟩
      obtain ⟨m, hm1, hm2⟩ := hm
      refine ⟨_, rfl, rfl, .inr ⟨_, rfl, l2, _, _, _, rfl, rfl, SqL.of h5, hm1, _, rfl, by omega, by omega, fun L nL => ?_⟩⟩
      have nLq := hp5.nq nL
      refine lc_map (walk_range (lo := 0) (n := (m : Int).toNat)) (S1 q) (fun H => PotAt H q sc) (fun H _ y => ∃ t, TmOk t ∧ At H (tmK t) y) nL (by rw [sizeLine_eq]; omega) nLq.1 (potI hp5 nLq.1 nLq.2) (fun H6 zs ys h6 _ => potI h6 nLq.1 nLq.2) (fun _ _ _ _ => trivial) (fun _ _ _ _ kk ⟨t, k1, k2⟩ => ⟨t, k1, At.mono kk _ _ k2⟩) ?_ ?_
      · rintro j y H6 H7 hj hp6 e6 tk6 ⟨rfl, rfl⟩ Q' hQ
        refine ⟨rfl, _, rfl, q, sc, rfl, hp6, fun H8 v t e8 hp8 ht hto => hQ _ _ e8.exS (hp6.tk e8) hp8 ⟨t, hto, ht⟩⟩
      · intro H6 ys hp6 e6 tk6 hL6 hyl hyR
        obtain ⟨ts, hts1, hts2, hts3⟩ := terms_of (fun i y h => hyR i y h)
        refine ⟨L, ys, rfl, .inl ⟨SqL.of hL6, fun t nt => ⟨two_le, fun p np => ?_⟩⟩⟩
        have e7 : Ex H6 (upd H6 t (.tup ys)) := Ex.new nt
        have k7 : At (upd H6 t (.tup ys)) (.tup (ts.map tmK)) (.ref t) := ⟨t, ys, rfl, upd_same, Ats.mono (tk_new nt) _ _ hts3⟩
        generalize upd H6 t (.tup ys) = H7 at e7 k7 np ⊢
        have e8 : Ex H7 (upd H7 p (.tup [.str tb, .ref t])) := Ex.new np
        have k8 : At (upd H7 p (.tup [.str tb, .ref t])) (atomK (tb, ts)) (.ref p) := at_pair.mpr ⟨p, _, _, rfl, upd_same, rfl, At.mono (tk_new np) _ _ k7⟩
        generalize upd H7 p (.tup [.str tb, .ref t]) = H8 at e8 k8 ⊢
        have e48 : ExB q H4 H8 := e5.but.trans ((ExS.exB e6).trans (e7.trans e8).but)
        have hl8 := e48 _ _ hlq hl4
        have hvl : vs.length = as.length := by rw [hvs.length, List.length_map]
        refine ⟨l, vs, _, rfl, rfl, hl8, by rw [sizeLine_eq]; omega, ?_⟩
        have t28 : TK H2 H8 := hp2.tk (e24.trans e48)
        have tk9 : TK H8 (upd H8 l (.lst (vs ++ [.ref p]))) := tk_lst hl8
        refine ⟨_, _, _, as ++ [(tb, ts)], vs ++ [.ref p], rfl, ?_, potI ((hp6.ex e7).ex e8) hlq hlsc, upd_same, ?_, ?_, by rw [List.length_append, List.length_singleton, hlen]⟩
        · intro b o nb eb
          rw [upd_ne (ne_of_none eb nl)]
          exact e48 _ _ nb (e24 _ _ nb (e2 _ _ nb eb))
        · rw [List.map_append]
          exact Ats.append (Ats.mono tk9 _ _ (Ats.mono t28 _ _ hvs)) (Ats.one (At.mono tk9 _ _ k8))
        · intro a ha
          rcases List.mem_append.mp ha with ha | ha
          · exact hok a ha
          · rw [List.mem_singleton.mp ha]
            refine ⟨?_, hts2⟩
            have : ts.length = m := by omega
            rcases hm2 with ⟨h1, h2⟩ | ⟨h1, h2⟩
            · exact .inl ⟨h1, by show ts.length = 2; omega⟩
            · exact .inr ⟨h1, by show ts.length = 1; omega⟩
    · rintro σ H2 ⟨x3, x4, x5, as, vs, rfl, e2, hp2, hl2, hvs, hok, hlen⟩
      refine ⟨_, rfl, l, vs, rfl, .inl ⟨SqL.of hl2, fun t nt => ?_⟩⟩
      exact kf _ _ as (e2.trans (Ex.new nt).but) (hp2.ex (Ex.new nt)) ⟨t, vs, rfl, upd_same, Ats.mono (tk_new nt) _ _ hvs⟩ hok (by omega) (by omega)
end
end Ew
set_option Elab.async false
set_option linter.all false
set_option maxRecDepth 100000
set_option maxHeartbeats 1000000
/-! the law's rule -/
namespace Ew
open PySem PySem.Spec PyProof.Rows L2 RZ
theorem cut1 (xs : List V) : cutV xs (some 1) none = xs.drop 1 := by
  unfold cutV
  have h : HT.sIx xs.length 0 (some 1) = min 1 xs.length := HT.sIx_nat xs.length 0 1
  rw [h, HT.sIx_none]
  cases xs with
  | nil => rfl
  | cons x xs =>
    have : min 1 (x :: xs).length = 1 := Nat.min_eq_left (by rw [List.length_cons]; omega)
    rw [this]
    simp
def xyA : Atom := ("e", [.var "x", .var "y"])
section
variable {P : Program} {w : World} {K : PySem.W.Frag} {mg : Str → Option Value} {base : Heap} {C D : Addr}
def spRule : Sp := fun vs H Q _ => ∃ (q sc : Addr) (n wd : Int), vs = [.ref q, .int n, .int wd] ∧ PotAt H q sc ∧ 1 ≤ n ∧ n ≤ 4 ∧ 1 ≤ wd ∧ wd ≤ 2 ∧
  ∀ (H' : Hp) (v : V) (r : Rule), ExB q H H' → PotAt H' q sc → At H' (ruleK r) v → RuleOk r → (r.1.length : Int) = wd → Q v H'
abbrev NLr : List Str := ["_law_pot_here", "_law_many", "_law_width", "_law_atoms_here", "_law_names", "_law_k"]
theorem sc_lawRule : FnScope NLr ["_law_pot_here", "_law_many", "_law_width"] (defScope sLawRule) := ⟨rfl, rfl, rfl, by decide +kernel, rfl, by decide +kernel, by decide +kernel⟩
/-- behind the if of _law_rule -/
def tTail2 (q sc : Addr) (n wd : Int) : TS := fun D σ H => ∃ (v : V) (as : List Atom) (ln : Addr) (nm : List Str) (x5 : Option V), σ = [some (.ref q), some (.int n), some (.int wd), some v, some (.ref ln), x5] ∧ PotAt H q sc ∧ ln ≠ q ∧ H ln = some (.lst (nm.map V.str)) ∧
  1 ≤ nm.length ∧ nm.length ≤ 6 ∧ (∀ x ∈ nm, x ∈ varsA as) ∧ At H (atomsK as) v ∧ (∀ a ∈ as, AtomOk a) ∧ 1 ≤ as.length ∧ as.length ≤ 4 ∧
  ∀ (H' : Hp) (u : V) (r : Rule), ExB q H H' → PotAt H' q sc → At H' (ruleK r) u → RuleOk r → (r.1.length : Int) = wd → D.rt u H'
theorem ok_lawRule (T : Txt K mg C D) : Cal P w K mg base 4 "_law_rule" spRule := by
  refine cal_of T.fLawRule (fun _ _ _ _ _ _ us hl => match us, hl with | [_, _, _], _ => rfl) sc_lawRule (fun vs H Q E h => ?_) (fun f cdv A outer s H vs Q E hr h => ?_)
  · obtain ⟨q, sc, n, wd, rfl, _⟩ := h
    rfl
  · obtain ⟨q, sc, n, wd, rfl, hp, n1, n4, w1, w2, kf⟩ := h
    have GN : Cal P w K mg base 1 "_law_next" spNext := ok_lawNext T
    have GA : Cal P w K mg base 3 "_law_atoms" spAtoms := ok_lawAtoms T
    have GV : Cal P w K mg base 1 "_law_variables" spLawVars := ok_lawVariables T
    refine ⟨_, pss_cons (ps_set (i := 3) sc_lawRule.nd rfl (Or.inl rfl) (pe_c (X := (cxOf CX0 P w K mg base NLr "_law_rule" (defScope sLawRule) f cdv A outer s H E).nox) GA hr (by decide) (by rfl) (pa_cons (pv 0) (pa_cons (pv 1) pa_nil))))
      (pss_cons (ps_set (i := 4) sc_lawRule.nd rfl (Or.inr rfl) (pe_c (X := (cxOf CX0 P w K mg base NLr "_law_rule" (defScope sLawRule) f cdv A outer s H E).nox) GV hr (by decide) (by rfl) (pa_cons (pv 3) pa_nil)))
      (pss_cons (ps_if (pt_cmpR op_eq (pe_callB call_len_seq (by rfl) T.n_len (by decide +kernel) (pa_cons (pv 4) pa_nil)) pe_int (nomark _))
        (pss_cons (ps_set (i := 3) sc_lawRule.nd rfl (Or.inl rfl) (pe_op op_catA (pe_slice sl_tupA (pv 3) (po_some pe_int) po_none) (pe_tup (pa_cons (pe_tup (pa_cons pe_str (pa_cons (pe_tup (pa_cons (pe_tup (pa_cons pe_str (pa_cons pe_str pa_nil))) (pa_cons (pe_tup (pa_cons pe_str (pa_cons pe_str pa_nil))) pa_nil))) pa_nil))) pa_nil))))
        (pss_one (ps_set (i := 4) sc_lawRule.nd rfl (Or.inr rfl) (pe_lst (pa_cons pe_str (pa_cons pe_str pa_nil)))))) pss_nil)
      (pss_weak (t' := tTail2 q sc n wd) (pss_one (ps_ret (pe_tup (pa_cons (pe_callTy call_tuple_of (by rfl) T.n_tuple (by decide +kernel) (pa_cons (pe_lc (own := [("_law_k", 5)]) (g := gName 5) (tt := tYes) rfl sc_lawRule.nd (pi_range1 (by rfl) T.n_range (pa_cons (pv 2) pa_nil))
          (blkOk_by (N := NLr) (sc := defScope sLawRule) (by decide +kernel)) (fun _ _ _ _ _ => pg_name (i := 5) sc_lawRule.nd rfl (Or.inl rfl)) (fun _ _ _ _ _ => pts_nil)
          (fun _ _ _ _ _ => pe_ix (ixL K) (pv 4) (pe_c (X := Cx.blk _ _ _ _ _ _) GN hr (by decide) (by rfl) (pa_cons (pv 0) (pa_cons (pe_callB (crLen K) (by rfl) T.n_len (by decide +kernel) (pa_cons (pv 4) pa_nil)) pa_nil))) (fun _ _ => rfl))) pa_nil)) (pa_cons (pv 3) pa_nil))))) ?_))), ?_⟩
    · rintro D' σ H1 ⟨v, as, ln, nm, x5, rfl, hp1, hlnq, hln, l1, l6, hnm, hat, hok, a1, a4, k⟩
      refine ⟨_, rfl, _, rfl, by omega, by omega, fun L nL => ?_⟩
      have nLq := hp1.nq nL
      refine lc_map (walk_range (lo := 0) (n := wd.toNat)) (S1 q) (fun H => PotAt H q sc) (fun H _ y => ∃ x, x ∈ nm ∧ y = .str x) nL (by rw [sizeLine_eq]; omega) nLq.1 (potI hp1 nLq.1 nLq.2) (fun H6 zs ys h6 _ => potI h6 nLq.1 nLq.2) (fun _ _ _ _ => trivial) (fun _ _ _ _ kk h => h) ?_ ?_
      · rintro j y H6 H7 hj hp6 e6 tk6 ⟨rfl, rfl⟩ Q' hQ
        have hln6 := (ExS.exB e6) _ _ hlnq hln
        refine ⟨rfl, _, rfl, _, rfl, _, rfl, ln, _, rfl, .inl (SqL.of hln6), q, sc, _, rfl, hp6, by rw [List.length_map]; omega, by rw [List.length_map]; omega, fun H8 r e8 hp8 r0 r1 => ?_⟩
        rw [List.length_map] at r1
        obtain ⟨m, hm⟩ : ∃ m : Nat, r = (m : Int) := ⟨r.toNat, by omega⟩
        have hml : m < nm.length := by omega
        have hx : atI (nm.map V.str) r = some (.str nm[m]) := by rw [hm]; exact atI_nat (by rw [List.getElem?_map, List.getElem?_eq_getElem hml]; rfl)
        refine ⟨ln, _, _, _, rfl, rfl, SqL.of (e8 _ _ hlnq hln6), hx, hQ _ _ e8.exS (hp6.tk e8) hp8 ⟨_, List.getElem_mem hml, rfl⟩⟩
      · intro H6 ys hp6 e6 tk6 hL6 hyl hyR
        have hys : ∃ hs : List Str, hs.length = ys.length ∧ (∀ x ∈ hs, x ∈ nm) ∧ ys = hs.map V.str := by
          clear hyl hL6
          induction ys with
          | nil => exact ⟨[], rfl, fun x h => by simp at h, rfl⟩
          | cons y ys ih =>
            obtain ⟨hs, h1, h2, h3⟩ := ih fun i z e => hyR (i + 1) z e
            obtain ⟨x, hx1, hx2⟩ := hyR 0 y rfl
            refine ⟨x :: hs, by rw [List.length_cons, List.length_cons, h1], fun z hz => ?_, by rw [List.map_cons, hx2, h3]⟩
            rcases List.mem_cons.mp hz with rfl | hz
            · exact hx1
            · exact h2 z hz
        obtain ⟨hs, h1, h2, rfl⟩ := hys
        refine ⟨L, _, rfl, .inl ⟨SqL.of hL6, fun t nt => ⟨_, rfl, two_le, fun p np => ?_⟩⟩⟩
        have e7 : Ex H6 (upd H6 t (.tup (hs.map V.str))) := Ex.new nt
        have k7 : At (upd H6 t (.tup (hs.map V.str))) (headK hs) (.ref t) := at_head.mpr ⟨t, rfl, upd_same⟩
        generalize upd H6 t (.tup (hs.map V.str)) = H7 at e7 k7 np ⊢
        have hwl : (hs.length : Int) = wd := by omega
        have e8 : Ex H7 (upd H7 p (.tup [.ref t, v])) := Ex.new np
        have hat8 := At.mono (tk6.trans (e7.trans e8).tk) _ _ hat
        refine k _ _ (hs, as) ((ExS.exB e6).trans (e7.trans e8).but) ((hp6.ex e7).ex e8) (at_pair.mpr ⟨p, _, _, rfl, upd_same, At.mono e8.tk _ _ k7, hat8⟩) ⟨hok, a1, by show as.length ≤ 5; omega, fun x hx => hnm x (h2 x hx), by show 1 ≤ hs.length; omega, by show hs.length ≤ 2; omega⟩ hwl
    refine ⟨_, rfl, _, rfl, q, sc, n, rfl, hp, n1, n4, fun H1 v as e1 hp1 hat hok a1 a2 => ?_⟩
    refine ⟨_, rfl, v, as, rfl, hat, hok, by omega, fun H2 ln e2 nln hln => ?_⟩
    have hp2 := hp1.ex e2
    have hlv : (((lawVars as).map V.str).length : Int) = ((lawVars as).length : Int) := by rw [List.length_map]
    have hvn : ∀ x ∈ varsA as, x ∈ Nms := fun x hx => varsAs_nms hok hx
    have hl4 : (lawVars as).length ≤ 4 := List.length_filter_le _ _
    refine ⟨_, rfl, ln, _, rfl, .inl (SqL.of hln), rfl, _, rfl, ?_⟩
    by_cases h0 : lawVars as = []
    · rw [show decide (V.int (((lawVars as).map V.str).length : Nat) = V.int 0) = true by rw [h0]; rfl]
      obtain ⟨aa, xs, rfl, haa, hA⟩ := At.mono e2.tk _ _ hat
      have hxl : xs.length = as.length := by rw [hA.length, List.length_map]
      refine iteT ⟨_, rfl, _, rfl, aa, xs, rfl, SqT.of haa, fun hz => ?_, fun _ p1 np1 => ?_⟩
      · exfalso
        have h : HT.sIx xs.length 0 (some 1) = min 1 xs.length := HT.sIx_nat xs.length 0 1
        rw [h] at hz
        omega
      rw [cut1]
      have e3 : Ex H2 (upd H2 p1 (.tup (xs.drop 1))) := Ex.new np1
      have h3 : upd H2 p1 (.tup (xs.drop 1)) p1 = some (.tup (xs.drop 1)) := upd_same
      have h3b : Ats (upd H2 p1 (.tup (xs.drop 1))) ((as.drop 1).map atomK) (xs.drop 1) := by rw [List.map_drop]; exact Ats.drop 1 (Ats.mono e3.tk _ _ hA)
      have hp3 := hp2.ex e3
      generalize upd H2 p1 (.tup (xs.drop 1)) = H3 at e3 h3 h3b hp3 ⊢
      have fin : ∀ (D' : Ends) (H' : Hp) (v' : V) (l : Addr) (x5 : Option V), D'.rt = Q → Ex H3 H' → H' l = none → At H' (atomsK (as.drop 1 ++ [xyA])) v' →
          tTail2 q sc n wd D' [some (.ref q), some (.int n), some (.int wd), some v', some (.ref l), x5] (upd H' l (.lst [.str "x", .str "y"])) := fun D' H' v' l x5 hD e' nl hv' => by
        have hp' := hp3.ex e'
        refine ⟨v', as.drop 1 ++ [xyA], l, ["x", "y"], x5, rfl, hp'.ex (Ex.new nl), (hp'.nq nl).1, upd_same, by decide, by decide, fun x hx => ?_, At.mono (tk_new nl) _ _ hv', fun a ha => ?_, by rw [List.length_append, List.length_singleton]; omega, by rw [List.length_append, List.length_singleton, List.length_drop]; omega, fun H'' u r e'' => ?_⟩
        · refine List.mem_flatMap.mpr ⟨xyA, by simp, ?_⟩
          exact hx
        · rcases List.mem_append.mp ha with ha | ha
          · exact hok a (List.mem_of_mem_drop ha)
          · rw [List.mem_singleton.mp ha]
            refine ⟨.inl ⟨rfl, rfl⟩, fun t ht => ?_⟩
            replace ht : t ∈ [Tm.var "x", Tm.var "y"] := ht
            simp only [List.mem_cons, List.not_mem_nil, or_false] at ht
            rcases ht with rfl | rfl
            · show ("x" : Str) ∈ Nms
              simp [Nms]
            · show ("y" : Str) ∈ Nms
              simp [Nms]
        · rw [hD]
          exact kf H'' u r (e1.trans (e2.but.trans (e3.but.trans (e'.but.trans ((Ex.new nl).but.trans e'')))))
      refine ⟨two_le, fun tx ntx => ?_⟩
      have ex : Ex H3 (upd H3 tx (.tup [.str "var", .str "x"])) := Ex.new ntx
      have kx : At (upd H3 tx (.tup [.str "var", .str "x"])) (tmK (.var "x")) (.ref tx) := at_var.mpr ⟨tx, rfl, upd_same⟩
      generalize upd H3 tx (.tup [.str "var", .str "x"]) = Hx at ex kx ⊢
      refine ⟨two_le, fun ty nty => ?_⟩
      have ey : Ex Hx (upd Hx ty (.tup [.str "var", .str "y"])) := Ex.new nty
      have ky : At (upd Hx ty (.tup [.str "var", .str "y"])) (tmK (.var "y")) (.ref ty) := at_var.mpr ⟨ty, rfl, upd_same⟩
      generalize upd Hx ty (.tup [.str "var", .str "y"]) = Hy at ey ky ⊢
      refine ⟨two_le, fun tp ntp => ?_⟩
      have ep : Ex Hy (upd Hy tp (.tup [.ref tx, .ref ty])) := Ex.new ntp
      have kp : At (upd Hy tp (.tup [.ref tx, .ref ty])) (.tup ([.var "x", .var "y"].map tmK)) (.ref tp) := at_pair.mpr ⟨tp, _, _, rfl, upd_same, At.mono (ey.trans ep).tk _ _ kx, At.mono ep.tk _ _ ky⟩
      generalize upd Hy tp (.tup [.ref tx, .ref ty]) = Hp' at ep kp ⊢
      refine ⟨two_le, fun ta nta => ?_⟩
      have ea : Ex Hp' (upd Hp' ta (.tup [.str "e", .ref tp])) := Ex.new nta
      have ka : At (upd Hp' ta (.tup [.str "e", .ref tp])) (atomK xyA) (.ref ta) := at_pair.mpr ⟨ta, _, _, rfl, upd_same, rfl, At.mono ea.tk _ _ kp⟩
      generalize upd Hp' ta (.tup [.str "e", .ref tp]) = Ha at ea ka ⊢
      refine ⟨by show 1 ≤ sizeLine; decide, fun tb ntb => ?_⟩
      have eb : Ex Ha (upd Ha tb (.tup [.ref ta])) := Ex.new ntb
      have kb : upd Ha tb (.tup [.ref ta]) tb = some (.tup [.ref ta]) := upd_same
      have ka2 := At.mono eb.tk _ _ ka
      have e3b : Ex H3 (upd Ha tb (.tup [.ref ta])) := ex.trans (ey.trans (ep.trans (ea.trans eb)))
      generalize upd Ha tb (.tup [.ref ta]) = Hb at eb kb ka2 e3b ⊢
      have hk : Ats Hb ((as.drop 1 ++ [xyA]).map atomK) (xs.drop 1 ++ [.ref ta]) := by
        rw [List.map_append]
        exact Ats.append (Ats.mono e3b.tk _ _ h3b) (Ats.one ka2)
      refine ⟨p1, tb, xs.drop 1, [.ref ta], rfl, rfl, SqT.of (e3b _ _ h3), SqT.of kb, by rw [List.length_drop, sizeLine_eq]; show _ + 1 ≤ _; omega, fun hz => ?_, fun _ hz => ?_, fun _ _ p2 np2 => ?_⟩
      · rw [hz] at hk
        refine ⟨two_le, fun l nl => fin _ Hb _ l _ rfl e3b nl ⟨tb, _, rfl, kb, hk⟩⟩
      · cases hz
      · have e5 : Ex Hb (upd Hb p2 (.tup (xs.drop 1 ++ [.ref ta]))) := Ex.new np2
        refine ⟨two_le, fun l nl => fin _ _ _ l _ rfl (e3b.trans e5) nl ⟨p2, _, rfl, upd_same, Ats.mono e5.tk _ _ hk⟩⟩
    · have hne : 1 ≤ (lawVars as).length := by
        cases h : lawVars as with
        | nil => exact absurd h h0
        | cons x r => rw [List.length_cons]; omega
      rw [show decide (V.int (((lawVars as).map V.str).length : Nat) = V.int 0) = false by rw [List.length_map]; simp; omega]
      refine iteF ⟨v, as, ln, lawVars as, _, rfl, hp2, (hp1.nq nln).1, hln, hne, by omega, fun x hx => (mem_lawVars hvn).mp hx, At.mono e2.tk _ _ hat, hok, a1, by omega, fun H' u r e' => kf H' u r (e1.trans (e2.but.trans e'))⟩
end
end Ew
set_option Elab.async false
set_option linter.all false
set_option maxRecDepth 100000
set_option maxHeartbeats 1000000
/-! the law's second rule -/
namespace Ew
open PySem PySem.Spec PyProof.Rows L2 RZ
theorem catA_of {K : PySem.W.Frag} {H : Hp} {ks ls : List NK} {x y : V} {Q : VK} (hx : At H (.tup ks) x) (hy : At H (.tup ls) y) (hl : ks.length + ls.length ≤ 1000) (h : ∀ H' v, Ex H H' → At H' (.tup (ks ++ ls)) v → Q v H') : rCatA K x y H Q := by
  obtain ⟨a, xs, rfl, ha, hxs⟩ := hx
  obtain ⟨b, ys, rfl, hb, hys⟩ := hy
  have hk := Ats.append hxs hys
  refine ⟨a, b, xs, ys, rfl, rfl, SqT.of ha, SqT.of hb, by rw [hxs.length, hys.length, sizeLine_eq]; omega, fun e => ?_, fun _ e => ?_, fun _ _ p np => ?_⟩
  · rw [e] at hk
    exact h H _ Ex.refl ⟨b, _, rfl, hb, hk⟩
  · rw [e, List.append_nil] at hk
    exact h H _ Ex.refl ⟨a, _, rfl, ha, hk⟩
  · exact h _ _ (Ex.new np) ⟨p, _, rfl, upd_same, Ats.mono (tk_new np) _ _ hk⟩
theorem slA_take {K : PySem.W.Frag} {H : Hp} {ks : List NK} {x : V} {Q : VK} {k : Nat} (hx : At H (.tup ks) x) (h : ∀ H' v, Ex H H' → At H' (.tup (ks.take k)) v → Q v H') : rSlA K x none (some (k : Int)) H Q := by
  obtain ⟨a, xs, rfl, ha, hxs⟩ := hx
  have e0 : HT.sIx xs.length xs.length (some (k : Int)) = min k xs.length := HT.sIx_nat xs.length xs.length k
  have hk := Ats.take k hxs
  refine ⟨a, xs, rfl, SqT.of ha, fun e => ?_, fun _ p np => ?_⟩
  · rw [e0] at e
    have e2 : xs.take k = xs := List.take_of_length_le (by omega)
    rw [e2] at hk
    exact h H _ Ex.refl ⟨a, _, rfl, ha, hk⟩
  · have ec : cutV xs none (some (k : Int)) = xs.take k := by
      unfold cutV
      rw [e0, HT.sIx_none]
      show (xs.drop 0).take (min k xs.length - 0) = _
      rw [List.drop_zero, Nat.sub_zero, ← List.take_eq_take_min]
    rw [ec]
    exact h _ _ (Ex.new np) ⟨p, _, rfl, upd_same, Ats.mono (tk_new np) _ _ hk⟩
theorem slA_drop1 {K : PySem.W.Frag} {H : Hp} {ks : List NK} {x : V} {Q : VK} (hx : At H (.tup ks) x) (h : ∀ H' v, Ex H H' → At H' (.tup (ks.drop 1)) v → Q v H') : rSlA K x (some 1) none H Q := by
  obtain ⟨a, xs, rfl, ha, hxs⟩ := hx
  have e0 : HT.sIx xs.length 0 (some 1) = min 1 xs.length := HT.sIx_nat xs.length 0 1
  have hk := Ats.drop 1 hxs
  refine ⟨a, xs, rfl, SqT.of ha, fun e => ?_, fun _ p np => ?_⟩
  · rw [e0] at e
    have : xs = [] := List.length_eq_zero_iff.mp (by omega)
    subst this
    exact h H _ Ex.refl ⟨a, _, rfl, ha, by simpa using hk⟩
  · rw [cut1]
    exact h _ _ (Ex.new np) ⟨p, _, rfl, upd_same, Ats.mono (tk_new np) _ _ hk⟩
theorem mergeK_nd : ∀ {more kvs : List (L2.Key × V)}, ((kvs ++ more).map (·.1)).Nodup → mergeK kvs more = kvs ++ more
  | [], kvs, _ => by simp [mergeK]
  | kv :: more, kvs, h => by
    have hno : valV kvs kv.1 = none := by
      have := valV_any (k := kv.1) kvs
      cases e : valV kvs kv.1 with
      | none => rfl
      | some v =>
        rw [e] at this
        obtain ⟨z, hz, ez⟩ := List.any_eq_true.mp (show kvs.any _ = true from this)
        rw [List.map_append, List.nodup_append] at h
        have ez' : z.1 = kv.1 := by simpa using ez
        exact absurd ez' (h.2.2 z.1 (List.mem_map.mpr ⟨z, hz, rfl⟩) kv.1 (by simp))
    have e1 : mergeK kvs (kv :: more) = mergeK (putK kvs kv.1 kv.2) more := rfl
    rw [e1, putK_new _ hno, mergeK_nd (by simpa using h)]
    simp
/-- pairs of names and terms, by their places -/
theorem tab_of {K : PySem.W.Frag} {H : Hp} : ∀ {ns : List Str} {ys : List V}, ys.length = ns.length → (∀ (i : Nat) (y : V), ys[i]? = some y → ∃ (p b : Addr) (x : Str) (t : Tm), y = .ref p ∧ ns[i]? = some x ∧ H p = some (.tup [.str x, .ref b]) ∧ At H (tmK t) (.ref b) ∧ TmOk t) →
    ∃ (ps : List Addr) (es : List (Str × Addr × Tm)), ys = ps.map V.ref ∧ Paired (fun (p : Addr) (kv : L2.Key × V) => SqT K H p [L2.kV kv.1, kv.2]) ps (es.map entT) ∧ (∀ e ∈ es, At H (tmK e.2.2) (.ref e.2.1)) ∧ es.map (·.1) = ns ∧ ∀ e ∈ es, TmOk e.2.2
  | [], [], _, _ => ⟨[], [], rfl, .nil, fun e h => by simp at h, rfl, fun e h => by simp at h⟩
  | [], _ :: _, h, _ => by simp at h
  | _ :: _, [], h, _ => by simp at h
  | n :: ns, y :: ys, h, g => by
    obtain ⟨ps, es, h1, h2, h3, h4, h5⟩ := tab_of (K := K) (ns := ns) (ys := ys) (by simpa using h) fun i z e => g (i + 1) z e
    obtain ⟨p, b, x, t, rfl, hx, hp, ht, hok⟩ := g 0 y rfl
    cases hx
    refine ⟨p :: ps, (n, b, t) :: es, by rw [h1]; rfl, .cons (SqT.of hp) h2, fun e he => ?_, by rw [List.map_cons, h4], fun e he => ?_⟩
    · rcases List.mem_cons.mp he with rfl | he
      · exact ht
      · exact h3 e he
    · rcases List.mem_cons.mp he with rfl | he
      · exact hok
      · exact h5 e he
theorem MpAt.set {H : Hp} {a b : Addr} {m : Mp} (h : MpAt H a m) {x : Str} {t : Tm} (hx : x ∈ m.map (·.1)) (hb : At H (tmK t) (.ref b)) : ∃ (kvs : List (L2.Key × V)) (m' : Mp), H a = some (.dK kvs) ∧ kvs.length = m.length ∧ m'.map (·.1) = m.map (·.1) ∧ (∀ e ∈ m', e ∈ m ∨ e.2 = t) ∧
    MpAt (upd H a (.dK (putK kvs (Sum.inr x) (.ref b)))) a m' := by
  obtain ⟨es, rfl, ha, hk⟩ := h
  have hv : valV (es.map entT) (Sum.inr x : L2.Key) ≠ none := fun z => by
    cases e : lk (es.map mapT) x with
    | none => exact lk_none.mp e hx
    | some u =>
      obtain ⟨b', e1, _⟩ := (lk_es hk).1 u e
      rw [z] at e1
      cases e1
  have ep : putK (es.map entT) (Sum.inr x) (.ref b) = (es.map fun e => if e.1 = x then (x, b, t) else e).map entT := by
    obtain ⟨w, hw⟩ := Option.ne_none_iff_exists'.mp hv
    unfold putK
    rw [valV_any, hw]
    simp only [Option.isSome_some, if_true, List.map_map]
    refine List.map_congr_left fun y hy => ?_
    show (if (Sum.inr y.1 : L2.Key) = Sum.inr x then _ else _) = _
    by_cases e : y.1 = x
    · rw [if_pos (by rw [e])]
      show _ = entT (if y.1 = x then (x, b, t) else y)
      rw [if_pos e]
      first | rfl | (rw [← e])
    · rw [if_neg fun z => e (Sum.inr.inj z)]
      show _ = entT (if y.1 = x then (x, b, t) else y)
      rw [if_neg e]
  have tk : TK H (upd H a (.dK (putK (es.map entT) (Sum.inr x) (.ref b)))) := ExB.upd.tk fun ys z => by rw [ha] at z; cases z
  refine ⟨es.map entT, (es.map fun e => if e.1 = x then (x, b, t) else e).map mapT, ha, by rw [List.length_map, List.length_map], ?_, fun e he => ?_, _, rfl, by rw [upd_same, ep], fun e he => ?_⟩
  · rw [List.map_map, List.map_map, List.map_map]
    refine List.map_congr_left fun y hy => ?_
    show (mapT (if y.1 = x then (x, b, t) else y)).1 = y.1
    by_cases e : y.1 = x
    · rw [if_pos e, ← e]
    · rw [if_neg e]
  · obtain ⟨z, hz, rfl⟩ := List.mem_map.mp he
    obtain ⟨y, hy, rfl⟩ := List.mem_map.mp hz
    by_cases e : y.1 = x
    · rw [if_pos e]; exact .inr rfl
    · rw [if_neg e]; exact .inl (List.mem_map.mpr ⟨y, hy, rfl⟩)
  · obtain ⟨y, hy, rfl⟩ := List.mem_map.mp he
    by_cases e : y.1 = x
    · rw [if_pos e]; exact At.mono tk _ _ hb
    · rw [if_neg e]; exact At.mono tk _ _ (hk y hy)
theorem ap_ok {m : Mp} (hk : m.map (·.1) = Nms) (ht : ∀ e ∈ m, TmOk e.2) {t : Tm} (h : TmOk t) : TmOk (ap m t) := by
  cases t with
  | val k => exact h
  | var x =>
    show TmOk ((lk m x).getD (.var x))
    cases e : lk m x with
    | none => exact h
    | some u => exact ht _ (lk_mem e)
theorem lk_nms {m : Mp} (hk : m.map (·.1) = Nms) {x : Str} (h : x ∈ Nms) : ∃ t, lk m x = some t := by
  cases e : lk m x with
  | some t => exact ⟨t, rfl⟩
  | none => exact absurd (by rw [hk]; exact h) (lk_none.mp e)
def putA (m : Mp) (a : Atom) : Atom := (a.1, a.2.map (ap m))
theorem putA_ok {m : Mp} (hk : m.map (·.1) = Nms) (ht : ∀ e ∈ m, TmOk e.2) {a : Atom} (h : AtomOk a) : AtomOk (putA m a) := by
  obtain ⟨h1, h2⟩ := h
  refine ⟨?_, fun t hu => ?_⟩
  · show a.1 = "e" ∧ (a.2.map _).length = 2 ∨ a.1 = "p" ∧ (a.2.map _).length = 1
    rw [List.length_map]
    exact h1
  · obtain ⟨u, hu', rfl⟩ := List.mem_map.mp hu
    exact ap_ok hk ht (h2 u hu')
end Ew
set_option Elab.async false
set_option linter.all false
set_option maxRecDepth 100000
set_option maxHeartbeats 2000000
/-! the law's second rule: the walk -/
namespace Ew
open PySem PySem.Spec PyProof.Rows L2 RZ
/-- a term that is one of these names -/
def inB (ns : List Str) (t : Tm) : Bool := match varOf t with
  | some x => decide (x ∈ ns)
  | none => false
theorem inB_all {ns : List Str} : ∀ {ts : List Tm}, (ts.map (inB ns)).all id = true → ∃ hs : List Str, ts = hs.map Tm.var ∧ ∀ x ∈ hs, x ∈ ns
  | [], _ => ⟨[], rfl, fun x h => by simp at h⟩
  | t :: ts, h => by
    rw [List.map_cons, List.all_cons, Bool.and_eq_true] at h
    obtain ⟨hs, h1, h2⟩ := inB_all h.2
    cases t with
    | val k => exact absurd h.1 (by simp [inB, varOf])
    | var x =>
      have hx : x ∈ ns := by simpa [inB, varOf] using h.1
      refine ⟨x :: hs, by rw [h1]; rfl, fun z hz => ?_⟩
      rcases List.mem_cons.mp hz with rfl | hz
      · exact hx
      · exact h2 z hz
section
variable {P : Program} {w : World} {K : PySem.W.Frag} {mg : Str → Option Value} {base : Heap} {C D : Addr}
def spSecond : Sp := fun vs H Q _ => ∃ (q sc : Addr) (v : V) (r1 : Rule), vs = [.ref q, v] ∧ PotAt H q sc ∧ At H (ruleK r1) v ∧ RuleOk r1 ∧
  ∀ (H' : Hp) (u : V) (r : Rule), ExB q H H' → PotAt H' q sc → At H' (ruleK r) u → RuleOk r → r.1.length = r1.1.length → Q u H'
abbrev NLs : List Str := ["_law_pot_here", "_law_first", "_law_kind", "_law_head", "_law_atoms_here", "_law_other", "_law_names", "_law_table", "_law_new", "_law_heads", "_law_k", "_law_atom", "_law_name", "_law_term_here"]
theorem sc_lawSecond : FnScope NLs ["_law_pot_here", "_law_first"] (defScope sLawSecond) := ⟨rfl, rfl, rfl, by decide +kernel, rfl, by decide +kernel, by decide +kernel⟩
def Ends2 (q sc : Addr) (r1 : Rule) (H : Hp) (R : V → Hp → Prop) : Prop := ∀ (H' : Hp) (u : V) (r : Rule), ExB q H H' → PotAt H' q sc → At H' (ruleK r) u → RuleOk r → r.1.length = r1.1.length → R u H'
theorem Ends2.step {q sc : Addr} {r1 : Rule} {H H1 : Hp} {R : V → Hp → Prop} (h : Ends2 q sc r1 H R) (e : ExB q H H1) : Ends2 q sc r1 H1 R := fun H' u r e' => h H' u r (e.trans e')
/-- with the table made -/
def tTabl (q sc : Addr) (r1 : Rule) : TS := fun D σ H => ∃ (v1 : V) (kd : Int) (hd aa lo ln tb : Addr) (y0 : V) (t0 : Tm) (yr : List V) (x8 x9 x10 x11 x12 x13 : Option V) (m : Mp), σ = [some (.ref q), some v1, some (.int kd), some (.ref hd), some (.ref aa), some (.ref lo), some (.ref ln), some (.ref tb), x8, x9, x10, x11, x12, x13] ∧
  PotAt H q sc ∧ H hd = some (.tup (r1.1.map V.str)) ∧ At H (atomsK r1.2) (.ref aa) ∧ H lo = some (.lst (y0 :: yr)) ∧ lo ≠ q ∧ At H (tmK t0) y0 ∧ TmOk t0 ∧ ln ≠ q ∧ H ln = some (.lst (Nms.map V.str)) ∧ MpAt H tb m ∧ m.map (·.1) = Nms ∧ (∀ e ∈ m, TmOk e.2) ∧ ∃ H0, Ends2 q sc r1 H0 D.rt ∧ ExB q H0 H ∧ H0 tb = none
/-- with the new atoms -/
def tNewA (q sc : Addr) (r1 : Rule) : TS := fun D σ H => ∃ (v1 : V) (kd : Int) (hd aa tb : Addr) (va : V) (as : List Atom) (x5 x6 x9 x10 x11 x12 x13 : Option V) (m : Mp), σ = [some (.ref q), some v1, some (.int kd), some (.ref hd), some (.ref aa), x5, x6, some (.ref tb), some va, x9, x10, x11, x12, x13] ∧
  PotAt H q sc ∧ H hd = some (.tup (r1.1.map V.str)) ∧ MpAt H tb m ∧ m.map (·.1) = Nms ∧ (∀ e ∈ m, TmOk e.2) ∧ At H (atomsK as) va ∧ (∀ a ∈ as, AtomOk a) ∧ 1 ≤ as.length ∧ as.length ≤ 5 ∧ Ends2 q sc r1 H D.rt
abbrev XLs (P : Program) (w : World) (K : PySem.W.Frag) (mg : Str → Option Value) (base : Heap) (f : Addr) (cdv : Value) (A : Around) (outer : List Env) (s : Shared) (H : Hp) (E : XK) : Cx := (cxOf CX0 P w K mg base NLs "_law_second" (defScope sLawSecond) f cdv A outer s H E).nox
def stL (i : Nat) : Stmt := (defBody sLawSecond).getD i default
theorem body_second : defBody sLawSecond = [stL 0, stL 1, stL 2, stL 3, stL 4, stL 5, stL 6, stL 7, stL 8, stL 9, stL 10, stL 11, stL 12, stL 13, stL 14] := rfl
section
variable {f : Addr} {cdv : Value} {A : Around} {outer : List Env} {s : Shared} {H : Hp} {E : XK} {q sc : Addr} {r1 : Rule}
/-- the last of it: heads, and the answer -/
theorem second_end (T : Txt K mg C D) (ok1 : RuleOk r1) (hr : Room 4 (A.deeper (envOfC "_law_second" (defScope sLawSecond) s.heap.objs.size f cdv))) : PSs (XLs P w K mg base f cdv A outer s H E) [stL 11, stL 12, stL 13, stL 14] (tNewA q sc r1) := by
  have GV : Cal P w K mg base 1 "_law_variables" spLawVars := ok_lawVariables T
  have GR : Cal P w K mg base 4 "_law_rule" spRule := ok_lawRule T
  have hr1 : Room 3 (A.deeper (envOfC "_law_second" (defScope sLawSecond) s.heap.objs.size f cdv)) := hr.mono (by decide)
  refine pss_weak (pss_cons (ps_setLc (i := 9) (own := [("_law_name", 12)]) (g := gName 12) (tt := tYes) rfl sc_lawSecond.nd rfl rfl (sw_true rfl rfl rfl (by decide +kernel)) (pi_tup (pv 3))
        (blkOk_by (N := NLs) (sc := defScope sLawSecond) (by decide +kernel)) (fun _ _ _ _ _ => pg_name (i := 12) sc_lawSecond.nd rfl (Or.inl rfl)) (fun _ _ _ _ _ => pts_nil)
        (fun _ _ _ _ _ => pe_dget (hu_of hr) (pv 7) (pv 12) (fun _ _ => rfl)))
      (pss_cons (ps_set (i := 6) sc_lawSecond.nd rfl (Or.inr rfl) (pe_c (X := XLs P w K mg base f cdv A outer s H E) GV hr (by decide) (by rfl) (pa_cons (pv 8) pa_nil)))
      (pss_cons (ps_if (pt_val (pe_callB (cr_all rfl) (by rfl) T.n_all (by decide +kernel) (pa_cons (pe_lc (own := [("_law_term_here", 13)]) (g := gName 13) (tt := tYes) rfl sc_lawSecond.nd (pi_list (pv 9))
          (blkOk_by (N := NLs) (sc := defScope sLawSecond) (by decide +kernel)) (fun _ _ _ _ _ => pg_name (i := 13) sc_lawSecond.nd rfl (Or.inl rfl)) (fun _ _ _ _ _ => pts_nil)
          (fun _ _ _ _ _ => pe_and (pe_cmpR op_eq (pe_ix (ixT K) (pv 13) pe_int (fun _ _ => rfl)) pe_str (nomark _)) (pe_one (pe_cmpR (opInL K) (pe_ix (ixT K) (pv 13) pe_int (fun _ _ => rfl)) (pv 6) (by rfl))))) pa_nil)))
        (pss_one (ps_ret (pe_tup (pa_cons (pe_callTy call_tuple_of (by rfl) T.n_tuple (by decide +kernel) (pa_cons (pe_lc (own := [("_law_term_here", 13)]) (g := gName 13) (tt := tYes) rfl sc_lawSecond.nd (pi_list (pv 9))
          (blkOk_by (N := NLs) (sc := defScope sLawSecond) (by decide +kernel)) (fun _ _ _ _ _ => pg_name (i := 13) sc_lawSecond.nd rfl (Or.inl rfl)) (fun _ _ _ _ _ => pts_nil)
          (fun _ _ _ _ _ => pe_ix (ixT K) (pv 13) pe_int (fun _ _ => rfl))) pa_nil)) (pa_cons (pv 8) pa_nil))))) pss_nil)
      (pss_one (ps_ret (pe_c (X := XLs P w K mg base f cdv A outer s H E) GR hr (by decide) (by rfl) (pa_cons (pv 0) (pa_cons pe_int (pa_cons (pe_callB call_len_seq (by rfl) T.n_len (by decide +kernel) (pa_cons (pv 3) pa_nil)) pa_nil))))))))) ?_
  rintro D' σ H1 ⟨v1, kd, hd, aa, tb, va, as, x5, x6, x9, x10, x11, x12, x13, m, rfl, hp, hh, hm, hmk, hmt, hva, hok, a1, a5, kf⟩
  have h1 := ok1.h1
  have h2 := ok1.h2
  have hvn : ∀ x ∈ varsA as, x ∈ Nms := fun x hx => varsAs_nms hok hx
  refine ⟨_, rfl, hd, rfl, ⟨_, SqT.of hh⟩, fun L nL => ?_⟩
  refine lc_map (walk_tup (xs := r1.1.map V.str)) S0 (fun _ => True) (fun H i y => ∃ x, r1.1[i]? = some x ∧ At H (tmK (ap m (.var x))) y) nL (by rw [List.length_map, sizeLine_eq]; omega) (fun z => z) trivial (fun _ _ _ _ _ => trivial) (fun H9 _ hE _ => SqT.of (hE.ex _ _ hh)) (fun _ _ _ _ kk ⟨t, h1, h2⟩ => ⟨t, h1, At.mono kk _ _ h2⟩) ?_ ?_
  · rintro j z H9 H10 hj _ hE hT ⟨rfl, hzj⟩ Q' hQ
    rw [List.length_map] at hj
    have hyj : r1.1[j]? = some r1.1[j] := List.getElem?_eq_getElem hj
    rw [List.getElem?_map, hyj] at hzj
    obtain rfl := (Option.some.inj hzj).symm
    obtain ⟨t, ht⟩ := lk_nms hmk (varsA_nms ok1 (ok1.head _ (List.getElem_mem hj)))
    obtain ⟨b', hg, hb'⟩ := (hm.ex hE.ex).get ht
    refine ⟨rfl, _, rfl, _, rfl, tb, _, rfl, hg, hQ _ _ ExS.refl TK.refl trivial ⟨_, hyj, ?_⟩⟩
    show At H10 (tmK ((lk m _).getD (.var _))) (.ref b')
    rw [ht]
    exact hb'
  · intro H2 us _ hE hT hL hul huR
    rw [List.length_map] at hul
    have e2 := hE.ex
    have hus : Ats H2 ((r1.1.map fun x => ap m (.var x)).map tmK) us := by
      rw [List.map_map]
      exact ats_of hul fun i y h => huR i y h
    refine ⟨_, rfl, va, as, rfl, At.mono e2.tk _ _ hva, hok, by omega, fun H3 ln e3 nln hln => ?_⟩
    have hus3 := Ats.mono e3.tk _ _ hus
    have hL3 := e3 _ _ hL
    have e13 := e2.trans e3
    refine ⟨_, rfl, L, rfl, ⟨_, SqL.of hL3⟩, fun L2 nL2 => ?_⟩
    refine lc_map (walk_list (xs := us)) S0 (fun _ => True) (fun H i y => ∃ t, (r1.1.map fun x => ap m (.var x))[i]? = some t ∧ y = .bl (inB (lawVars as) t)) nL2 (by rw [sizeLine_eq]; omega) (fun z => z) trivial (fun _ _ _ _ _ => trivial) (fun H9 _ hE _ => SqL.of (hE.ex _ _ hL3)) (fun _ _ _ _ kk h => h) ?_ ?_
    · rintro j z H9 H10 hj _ hE9 hT9 ⟨rfl, hzj⟩ Q' hQ
      obtain ⟨t, htj, htx⟩ := hus3.at hzj
      obtain ⟨b, rfl, hb⟩ := at_tm.mp (At.mono hT9 _ _ htx)
      refine ⟨rfl, _, rfl, b, _, _, _, rfl, rfl, SqT.of hb, rfl, rfl, _, rfl, ?_⟩
      cases t with
      | var x =>
        refine iteT ⟨_, rfl, b, _, _, _, rfl, rfl, SqT.of hb, rfl, _, rfl, ln, _, rfl, .inl (SqL.of (hE9.ex _ _ hln)), rfl, flat_strs _, ?_⟩
        refine hQ _ _ ExS.refl TK.refl trivial ⟨_, htj, ?_⟩
        rw [if_neg Bool.false_ne_true, show arg (Tm.var x) = V.str x from rfl, inV_strs]
        rfl
      | val k => exact iteF (hQ _ _ ExS.refl TK.refl trivial ⟨_, htj, rfl⟩)
    · intro H4 bs _ hE4 hT4 hL4 hbl hbR
      have e4 := hE4.ex
      rw [ys_bls (f := inB (lawVars as)) (xs := r1.1.map fun x => ap m (.var x)) (by rw [List.length_map, hbl, hul]) fun i y h => hbR i y h] at hL4
      have e14 := e13.trans e4
      have kf4 := kf.step e14.but
      have hp4 := hp.ex e14
      refine ⟨L2, _, rfl, SqL.of hL4, _, rfl, ?_⟩
      refine ite2 (fun hall => ?_) (fun _ => ?_)
      · obtain ⟨hs, hs1, hs2⟩ := inB_all hall
        rw [hs1] at hus3
        have hsl : hs.length = r1.1.length := by
          have := congrArg List.length hs1
          rw [List.length_map, List.length_map] at this
          exact this.symm
        have hL34 := e4 _ _ hL3
        have hus4 := Ats.mono e4.tk _ _ hus3
        refine ⟨_, rfl, L, rfl, ⟨_, SqL.of hL34⟩, fun L5 nL5 => ?_⟩
        refine lc_map (walk_list (xs := us)) S0 (fun _ => True) (fun H i y => ∃ x, hs[i]? = some x ∧ y = .str x) nL5 (by rw [sizeLine_eq]; omega) (fun z => z) trivial (fun _ _ _ _ _ => trivial) (fun H9 _ hE _ => SqL.of (hE.ex _ _ hL34)) (fun _ _ _ _ kk h => h) ?_ ?_
        · rintro j z H9 H10 hj _ hE9 hT9 ⟨rfl, hzj⟩ Q' hQ
          obtain ⟨t, htj, htx⟩ := hus4.at hzj
          rw [List.getElem?_map] at htj
          cases hsj : hs[j]? with
          | none => rw [hsj] at htj; cases htj
          | some x =>
            rw [hsj] at htj
            cases htj
            obtain ⟨b, rfl, hb⟩ := at_var.mp (At.mono hT9 _ _ htx)
            exact ⟨rfl, _, rfl, b, _, _, _, rfl, rfl, SqT.of hb, rfl, hQ _ _ ExS.refl TK.refl trivial ⟨x, hsj, rfl⟩⟩
        · intro H5 ws _ hE5 hT5 hL5 hwl hwR
          have hws := ys_map (f := V.str) (xs := hs) (by omega) fun i y h => hwR i y h
          refine ⟨L5, _, rfl, .inl ⟨SqL.of hL5, fun t nt => ⟨_, rfl, two_le, fun p np => ?_⟩⟩⟩
          have e6 : Ex H5 (upd H5 t (.tup ws)) := Ex.new nt
          have k6 : At (upd H5 t (.tup ws)) (headK hs) (.ref t) := at_head.mpr ⟨t, rfl, by rw [upd_same, hws]⟩
          generalize upd H5 t (.tup ws) = H6 at e6 k6 np ⊢
          have e7 : Ex H6 (upd H6 p (.tup [.ref t, va])) := Ex.new np
          have e47 := hE5.ex.trans (e6.trans e7)
          refine kf4 _ _ (hs, as) e47.but (hp4.ex e47) (at_pair.mpr ⟨p, _, _, rfl, upd_same, At.mono e7.tk _ _ k6, At.mono (e14.trans e47).tk _ _ hva⟩) ⟨hok, a1, a5, fun x hx => (mem_lawVars hvn).mp (hs2 x hx), by show 1 ≤ hs.length; omega, by show hs.length ≤ 2; omega⟩ hsl
      · have hll : (((r1.1.map V.str).length : Nat) : Int) = (r1.1.length : Int) := by rw [List.length_map]
        refine ⟨_, rfl, _, rfl, hd, _, rfl, .inr (SqT.of (e14 _ _ hh)), q, sc, 3, _, rfl, hp4, by decide, by decide, by omega, by omega, fun H' v r e' hp' hr' okr hlen => kf4 H' v r e' hp' hr' okr (by omega)⟩
end
end
end Ew
set_option Elab.async false
set_option linter.all false
set_option maxRecDepth 100000
set_option maxHeartbeats 2000000
/-! the law's second rule: the new atoms -/
namespace Ew
open PySem PySem.Spec PyProof.Rows L2 RZ
section
variable {P : Program} {w : World} {K : PySem.W.Frag} {mg : Str → Option Value} {base : Heap} {C D : Addr}
variable {f : Addr} {cdv : Value} {A : Around} {outer : List Env} {s : Shared} {H : Hp} {E : XK} {q sc : Addr} {r1 : Rule}
theorem atoms_app (as bs : List Atom) : (as ++ bs).map atomK = as.map atomK ++ bs.map atomK := List.map_append
theorem second_10 (T : Txt K mg C D) (ok1 : RuleOk r1) (hr : Room 4 (A.deeper (envOfC "_law_second" (defScope sLawSecond) s.heap.objs.size f cdv))) : PSs (XLs P w K mg base f cdv A outer s H E) [stL 10, stL 11, stL 12, stL 13, stL 14] (tNewA q sc r1) := by
  have GA : Cal P w K mg base 3 "_law_atoms" spAtoms := ok_lawAtoms T
  refine pss_weak (pss_cons (ps_if (pt_cmpR op_eq (pv 2) pe_int (nomark _))
      (pss_one (ps_set (i := 8) sc_lawSecond.nd rfl (Or.inl rfl) (pe_slice sl_tupA (pe_op op_catA (pe_op op_catA (pv 8) (pe_slice sl_tupA (pv 8) po_none (po_some pe_int))) (pe_c (X := XLs P w K mg base f cdv A outer s H E) GA hr (by decide) (by rfl) (pa_cons (pv 0) (pa_cons pe_int pa_nil)))) po_none (po_some pe_int)))) pss_nil)
    (second_end (q := q) (sc := sc) T ok1 hr)) ?_
  rintro D' σ H1 ⟨v1, kd, hd, aa, tb, va, as, x5, x6, x9, x10, x11, x12, x13, m, rfl, hp, hh, hm, hmk, hmt, hva, hok, a1, a5, kf⟩
  refine ⟨_, rfl, rfl, _, rfl, ?_⟩
  refine ite2 (fun _ => ?_) (fun _ => ⟨v1, kd, hd, aa, tb, va, as, x5, x6, x9, x10, x11, x12, x13, m, rfl, hp, hh, hm, hmk, hmt, hva, hok, a1, a5, kf⟩)
  refine ⟨_, rfl, _, rfl, 1, rfl, slA_take (k := 1) hva fun H2 v2 e2 hv2 => ?_⟩
  refine catA_of (At.mono e2.tk _ _ hva) hv2 (by rw [List.length_take, List.length_map]; omega) fun H3 v3 e3 hv3 => ?_
  have e13 := e2.trans e3
  refine ⟨_, rfl, q, sc, 1, rfl, hp.ex e13, by decide, by decide, fun H4 v4 as4 e4 hp4 hv4 ok4 l4 m4 => ?_⟩
  refine catA_of (At.mono ((hp.ex e13).tk e4) _ _ hv3) hv4 (by rw [List.length_append, List.length_take, List.length_map, List.length_map]; omega) fun H5 v5 e5 hv5 => ?_
  refine ⟨5, rfl, slA_take (k := 5) hv5 fun H6 v6 e6 hv6 => ?_⟩
  have e46 := e5.trans e6
  have eB : ExB q H1 H6 := e13.but.trans (e4.trans e46.but)
  have hlst := hp.lst
  have nhd : hd ≠ q := fun z => by obtain ⟨xs, e⟩ := hlst; rw [z, e] at hh; cases hh
  have ntb : tb ≠ q := fun z => by obtain ⟨xs, e⟩ := hlst; obtain ⟨es, _, h, _⟩ := hm; rw [z, e] at h; cases h
  refine ⟨v1, kd, hd, aa, tb, v6, (as ++ as.take 1 ++ as4).take 5, x5, x6, x9, x10, x11, x12, x13, m, rfl, hp4.ex e46, eB _ _ nhd hh, hm.mono (hp.tk eB) fun o ho => eB _ _ ntb ho, hmk, hmt, ?_, fun a ha => ?_, ?_, ?_, kf.step eB⟩
  · have : (as ++ as.take 1 ++ as4).take 5 = (as ++ as.take 1 ++ as4).take 5 := rfl
    unfold atomsK
    rw [List.map_take, List.map_append, List.map_append, List.map_take]
    exact hv6
  · have ha := List.mem_of_mem_take ha
    rcases List.mem_append.mp ha with ha | ha
    · rcases List.mem_append.mp ha with ha | ha
      · exact hok a ha
      · exact hok a (List.mem_of_mem_take ha)
    · exact ok4 a ha
  · rw [List.length_take, List.length_append, List.length_append]
    omega
  · rw [List.length_take]
    omega
theorem second_8 (T : Txt K mg C D) (ok1 : RuleOk r1) (hr : Room 4 (A.deeper (envOfC "_law_second" (defScope sLawSecond) s.heap.objs.size f cdv))) : PSs (XLs P w K mg base f cdv A outer s H E) [stL 8, stL 9, stL 10, stL 11, stL 12, stL 13, stL 14] (tTabl q sc r1) := by
  have GP : Cal P w K mg base 1 "_law_put_in" spPut := ok_lawPutIn T
  refine pss_weak (pss_cons (ps_set (i := 8) sc_lawSecond.nd rfl (Or.inl rfl) (pe_callTy call_tuple_of (by rfl) T.n_tuple (by decide +kernel) (pa_cons (pe_lc (own := [("_law_atom", 11)]) (g := gName 11) (tt := tYes) rfl sc_lawSecond.nd (pi_tup (pv 4))
          (blkOk_by (N := NLs) (sc := defScope sLawSecond) (by decide +kernel)) (fun _ _ _ _ _ => pg_name (i := 11) sc_lawSecond.nd rfl (Or.inl rfl)) (fun _ _ _ _ _ => pts_nil)
          (fun _ _ _ _ _ => pe_tup (pa_cons (pe_ix (ixT K) (pv 11) pe_int (fun _ _ => rfl)) (pa_cons (pe_c (X := Cx.blk _ _ _ _ _ _) GP hr (by decide) (by rfl) (pa_cons (pe_ix (ixT K) (pv 11) pe_int (fun _ _ => rfl)) (pa_cons (pv 7) pa_nil))) pa_nil)))) pa_nil)))
    (pss_cons (ps_if (PW.pt (pw_and (pt_cmpR op_eq (pv 2) pe_int (nomark _)) (pw_and1 (pt_cmpR op_gt (pe_callB call_len_seq (by rfl) T.n_len (by decide +kernel) (pa_cons (pv 8) pa_nil)) pe_int (nomark _)))))
      (pss_one (ps_set (i := 8) sc_lawSecond.nd rfl (Or.inl rfl) (pe_slice sl_tupA (pv 8) (po_some pe_int) po_none))) pss_nil)
    (second_10 (q := q) (sc := sc) T ok1 hr))) ?_
  rintro D' σ H1 ⟨v1, kd, hd, aa, lo, ln, tb, y0, t0, yr, x8, x9, x10, x11, x12, x13, m, rfl, hp, hh, hat, hlo, hloq, hy0, ht0, hlnq, hln, hm, hmk, hmt, H0, kf0, e00, n0⟩
  have kf := kf0.step e00
  obtain ⟨_, xs, z, haa, hA⟩ := hat
  cases z
  have hl1 : xs.length = r1.2.length := by rw [hA.length, List.length_map]
  have b1 := ok1.low
  have b5 := ok1.high
  refine ⟨_, rfl, aa, rfl, ⟨_, SqT.of haa⟩, fun L nL => ?_⟩
  refine lc_map (walk_tup (xs := xs)) S0 (fun _ => True) (fun H i y => ∃ x, r1.2[i]? = some x ∧ At H (atomK (putA m x)) y) nL (by rw [sizeLine_eq]; omega) (fun z => z) trivial (fun _ _ _ _ _ => trivial) (fun H1 _ hE _ => SqT.of (hE.ex _ _ haa)) (fun _ _ _ _ kk ⟨t, h1, h2⟩ => ⟨t, h1, At.mono kk _ _ h2⟩) ?_ ?_
  · rintro i x H5 H6 hi _ hE hT ⟨rfl, hx⟩ Q' hQ
    obtain ⟨at1, hat, hatx⟩ := hA.at hx
    obtain ⟨c, tt, ts, rfl, hc, htt, hts⟩ := at_atom (At.mono hT _ _ hatx)
    have hmem := List.mem_of_getElem? hat
    refine ⟨rfl, _, rfl, c, _, _, _, rfl, rfl, SqT.of hc, rfl, _, rfl, c, _, _, _, rfl, rfl, SqT.of hc, rfl, _, rfl, .ref tt, tb, at1.2, m, rfl, ⟨tt, ts, rfl, htt, hts⟩, hm.ex hE.ex, by have := ok1.two at1 hmem; omega, fun x hx => ?_, fun H10 uu e12 huu => ⟨two_le, fun p np => ?_⟩⟩
    · obtain ⟨t, ht⟩ := lk_nms hmk (varsA_nms ok1 (varsA_mem hmem hx))
      rw [ht]
      rfl
    · have e14 := e12.trans (Ex.new (o := .tup [.str at1.1, uu]) np)
      exact hQ _ _ e14.exS e14.tk trivial ⟨at1, hat, at_pair.mpr ⟨p, _, _, rfl, upd_same, rfl, At.mono (tk_new np) _ _ huu⟩⟩
  · intro H5 us _ hE hT hL hul huR
    have hus : Ats H5 ((r1.2.map (putA m)).map atomK) us := by
      rw [List.map_map]
      exact ats_of (by omega) fun i y h => huR i y h
    refine ⟨L, us, rfl, .inl ⟨SqL.of hL, fun t nt => ?_⟩⟩
    have e6 : Ex H1 (upd H5 t (.tup us)) := hE.ex.trans (Ex.new nt)
    have k6 : At (upd H5 t (.tup us)) (atomsK (r1.2.map (putA m))) (.ref t) := ⟨t, us, rfl, upd_same, Ats.mono (tk_new nt) _ _ hus⟩
    have ht6 : upd H5 t (.tup us) t = some (.tup us) := upd_same
    generalize upd H5 t (.tup us) = H6 at e6 k6 ht6 ⊢
    have hok6 : ∀ a ∈ r1.2.map (putA m), AtomOk a := fun a ha => by
      obtain ⟨b, hb, rfl⟩ := List.mem_map.mp ha
      exact putA_ok hmk hmt (ok1.atoms b hb)
    have hlen6 : (r1.2.map (putA m)).length = r1.2.length := List.length_map _
    have go : ∀ (D'' : Ends) (H7 : Hp) (v7 : V) (as7 : List Atom) (x9 x10 x11 x12 x13 : Option V), D''.rt = D'.rt → Ex H6 H7 → At H7 (atomsK as7) v7 → (∀ a ∈ as7, AtomOk a) → 1 ≤ as7.length → as7.length ≤ 5 →
        tNewA q sc r1 D'' [some (.ref q), some v1, some (.int kd), some (.ref hd), some (.ref aa), some (.ref lo), some (.ref ln), some (.ref tb), some v7, x9, x10, x11, x12, x13] H7 := fun D'' H7 v7 as7 x9 x10 x11 x12 x13 hD e7 k7 ok7 l7 m7 => by
      have e17 := e6.trans e7
      exact ⟨v1, kd, hd, aa, tb, v7, as7, _, _, x9, x10, x11, x12, x13, m, rfl, hp.ex e17, e17 _ _ hh, hm.ex e17, hmk, hmt, k7, ok7, l7, m7, by rw [hD]; exact kf.step e17.but⟩
    refine ⟨_, rfl, rfl, _, rfl, ?_⟩
    refine ite2 (fun _ => ?_) (fun _ => iteF (go _ H6 _ _ _ _ _ _ _ rfl Ex.refl k6 hok6 (by omega) (by omega)))
    refine ⟨_, rfl, t, us, rfl, .inr (SqT.of ht6), _, _, rfl, rfl, _, rfl, ?_⟩
    refine ite2 (fun hgt => ?_) (fun _ => go _ H6 _ _ _ _ _ _ _ rfl Ex.refl k6 hok6 (by omega) (by omega))
    have hgt2 : 1 < us.length := by
      have := of_decide_eq_true hgt
      omega
    refine ⟨_, rfl, 1, rfl, ?_⟩
    unfold tNoPart
    refine slA_drop1 k6 fun H7 v7 e7 hv7 => ?_
    have hdl : ((r1.2.map (putA m)).drop 1).length = r1.2.length - 1 := by rw [List.length_drop, hlen6]
    refine go _ H7 v7 ((r1.2.map (putA m)).drop 1) _ _ _ _ _ rfl e7 (by unfold atomsK; rw [List.map_drop]; exact hv7) (fun a ha => hok6 a (List.mem_of_mem_drop ha)) (by omega) (by omega)
end
end Ew
set_option Elab.async false
set_option linter.all false
set_option maxRecDepth 100000
set_option maxHeartbeats 2000000
/-! the law's second rule: the tables, and the whole -/
namespace Ew
open PySem PySem.Spec PyProof.Rows L2 RZ
section
variable {P : Program} {w : World} {K : PySem.W.Frag} {mg : Str → Option Value} {base : Heap} {C D : Addr}
variable {f : Addr} {cdv : Value} {A : Around} {outer : List Env} {s : Shared} {H : Hp} {E : XK} {q sc : Addr} {r1 : Rule}
theorem lc_tab {i0 : Nat} {te : TE} {vs : List Nat} {σ : L2.St} {H1 : Hp} {L : Addr} {Qd : Hp → Prop} (nL : H1 L = none)
    (hw : ∀ x : V, wipe ((wipe σ vs).set i0 (some x)) vs = wipe σ vs)
    (turn : ∀ (i : Nat) (x : Str) (H : Hp) (Q : V → Hp → Prop), Nms[i]? = some x → Ex H1 H → (∀ (H' : Hp) (p b : Addr) (t : Tm), Ex H H' → H' p = some (.tup [.str x, .ref b]) → At H' (tmK t) (.ref b) → TmOk t → Q (.ref p) H') → te ((wipe σ vs).set i0 (some (.int (0 + (i : Int))))) H Q)
    (done : ∀ (H : Hp) (ps : List Addr) (es : List (Str × Addr × Tm)), Ex H1 H → H L = some (.lst (ps.map V.ref)) → Paired (fun (p : Addr) (kv : L2.Key × V) => SqT K H p [L2.kV kv.1, kv.2]) ps (es.map entT) → (∀ e ∈ es, At H (tmK e.2.2) (.ref e.2.1)) → es.map (·.1) = Nms → (∀ e ∈ es, TmOk e.2.2) → Qd H) :
    ∃ W : Nat → Nat → Hp → Prop, (∃ m, W 0 m (upd H1 L (.lst []))) ∧ ∀ i m H, W i m H →
      ((Itr 0 (4 : Int).toNat).stop i H ∧ Qd H) ∨ ((Itr 0 (4 : Int).toNat).go i H ∧ ∃ Nx : Hp → Prop, (∀ H', Nx H' → ∃ m', m' < m ∧ W (i + 1) m' H') ∧ ∀ x H', (Itr 0 (4 : Int).toNat).yld i H x H' → gName i0 x (wipe σ vs) H' fun σ2 H2 => wipe σ2 vs = wipe σ vs ∧ tYes σ2 H2 fun b H3 =>
        if b = true then te σ2 H3 fun y H4 => ∃ acc, H4 L = some (.lst acc) ∧ acc.length < sizeLine ∧ Nx (upd H4 L (.lst (acc ++ [y]))) else Nx H3) := by
  refine lc_map (walk_range (lo := 0) (n := (4 : Int).toNat)) S0 (fun _ => True) (fun H i y => ∃ (p b : Addr) (x : Str) (t : Tm), y = .ref p ∧ Nms[i]? = some x ∧ H p = some (.tup [.str x, .ref b]) ∧ At H (tmK t) (.ref b) ∧ TmOk t) nL (by rw [sizeLine_eq]; decide) (fun z => z) trivial (fun _ _ _ _ _ => trivial) (fun _ _ _ _ => trivial) (fun _ _ _ _ kk ⟨p, b, x, t, h1, h2, h3, h4, h5⟩ => ⟨p, b, x, t, h1, h2, kk _ _ h3, At.mono kk _ _ h4, h5⟩) ?_ ?_
  · rintro i y H H' hi _ hE hT ⟨rfl, rfl⟩ Q hQ
    have hi4 : i < Nms.length := hi
    refine ⟨hw _, turn i _ _ Q (List.getElem?_eq_getElem hi4) hE.ex fun H2 p b t e2 hp ht hok => hQ _ _ e2.exS e2.tk trivial ⟨p, b, _, t, rfl, List.getElem?_eq_getElem hi4, hp, ht, hok⟩⟩
  · intro H ys _ hE hT hL hly hR
    obtain ⟨ps, es, h1, h2, h3, h4, h5⟩ := tab_of (K := K) (ns := Nms) (ys := ys) hly fun i y h => hR i y h
    rw [h1] at hL
    exact done H ps es hE.ex hL h2 h3 h4 h5
theorem tab_at {H : Hp} {p : Addr} {es : List (Str × Addr × Tm)} (np : H p = none) (h3 : ∀ e ∈ es, At H (tmK e.2.2) (.ref e.2.1)) (h4 : es.map (·.1) = Nms) :
    MpAt (upd H p (.dK (mergeK [] (es.map entT)))) p (es.map mapT) := by
  have e1 : (es.map entT).map (·.1) = Nms.map Sum.inr := by
    rw [← h4, List.map_map, List.map_map]
    rfl
  have nd : (([] ++ es.map entT : List (L2.Key × V)).map (·.1)).Nodup := by
    rw [List.nil_append, e1]
    exact List.Pairwise.map _ (fun a b h z => h (Sum.inr.inj z)) nd_nms
  rw [mergeK_nd nd]
  exact ⟨es, rfl, upd_same, fun e he => At.mono (tk_new np) _ _ (h3 e he)⟩
theorem tab_keys {es : List (Str × Addr × Tm)} (h4 : es.map (·.1) = Nms) : (es.map mapT).map (·.1) = Nms := by
  rw [← h4, List.map_map]
  rfl
theorem tab_tm {es : List (Str × Addr × Tm)} (h5 : ∀ e ∈ es, TmOk e.2.2) : ∀ e ∈ es.map mapT, TmOk e.2 := fun e he => by
  obtain ⟨z, hz, rfl⟩ := List.mem_map.mp he
  exact h5 z hz
theorem second_7 (T : Txt K mg C D) (ok1 : RuleOk r1) (hr : Room 4 (A.deeper (envOfC "_law_second" (defScope sLawSecond) s.heap.objs.size f cdv))) : PSs (XLs P w K mg base f cdv A outer s H E) [stL 7, stL 8, stL 9, stL 10, stL 11, stL 12, stL 13, stL 14] (tTabl q sc r1) := by
  have GN : Cal P w K mg base 1 "_law_next" spNext := ok_lawNext T
  refine pss_weak (pss_cons (ps_if (pt_cmpR op_eq (pv 2) pe_int (nomark _))
      (pss_one (ps_dput (hu_of hr) (pv 7) (pe_ix (ixL K) (pv 6) (pe_c (X := XLs P w K mg base f cdv A outer s H E) GN hr (by decide) (by rfl) (pa_cons (pv 0) (pa_cons pe_int pa_nil))) (fun _ _ => rfl)) (pe_ix (ixL K) (pv 5) pe_int (fun _ _ => rfl)) (by rfl))) pss_nil)
    (second_8 (q := q) (sc := sc) T ok1 hr)) ?_
  rintro D' σ H1 ⟨v1, kd, hd, aa, lo, ln, tb, y0, t0, yr, x8, x9, x10, x11, x12, x13, m, rfl, hp, hh, hat, hlo, hloq, hy0, ht0, hlnq, hln, hm, hmk, hmt, H0, kf0, e00, n0⟩
  refine ⟨_, rfl, rfl, _, rfl, ?_⟩
  refine ite2 (fun _ => ?_) (fun _ => ⟨v1, kd, hd, aa, lo, ln, tb, y0, t0, yr, x8, x9, x10, x11, x12, x13, m, rfl, hp, hh, hat, hlo, hloq, hy0, ht0, hlnq, hln, hm, hmk, hmt, H0, kf0, e00, n0⟩)
  refine ⟨_, rfl, lo, _, _, y0, rfl, rfl, SqL.of hlo, atI_nat (j := 0) rfl, _, rfl, _, rfl, _, rfl, q, sc, 4, rfl, hp, by decide, by decide, fun H2 r e2 hp2 r0 r4 => ?_⟩
  obtain ⟨x, hx, hx4⟩ := at4 (a := V.str "x") (b := V.str "y") (c := V.str "z") (d := V.str "u") r0 r4
  obtain ⟨y, hy, rfl⟩ := List.mem_map.mp (show x ∈ Nms.map V.str from hx4)
  have hlst := hp.lst
  have nhd : hd ≠ q := fun z => by obtain ⟨xs, e⟩ := hlst; rw [z, e] at hh; cases hh
  have ntb : tb ≠ q := fun z => by obtain ⟨xs, e⟩ := hlst; obtain ⟨es, _, h, _⟩ := hm; rw [z, e] at h; cases h
  have tk2 := hp.tk e2
  have hm2 : MpAt H2 tb m := hm.mono tk2 fun o ho => e2 _ _ ntb ho
  obtain ⟨b, rfl, hb⟩ := at_tm.mp hy0
  obtain ⟨kvs, m', hkv, hkl, hmk', hm', hat'⟩ := hm2.set (x := y) (t := t0) (by rw [hmk]; exact hy) (At.mono tk2 _ _ hy0)
  have hml : m.length = 4 := by have := congrArg List.length hmk; rw [List.length_map] at this; exact this
  refine ⟨ln, _, _, _, rfl, rfl, SqL.of (e2 _ _ hlnq hln), hx, tb, _, rfl, DPut.k (k := Sum.inr y) hkv (by rw [sizeLine_eq]; omega), ?_⟩
  have tk3 : TK H2 (upd H2 tb (.dK (putK kvs (Sum.inr y) (.ref b)))) := ExB.upd.tk fun ys z => by rw [hkv] at z; cases z
  have o3 : ∀ c o, c ≠ tb → H2 c = some o → upd H2 tb (.dK (putK kvs (Sum.inr y) (.ref b))) c = some o := fun c o n e => by rw [upd_ne n]; exact e
  have nlo : lo ≠ tb := fun z => by obtain ⟨es, _, h, _⟩ := hm; rw [← z, hlo] at h; cases h
  have nln : ln ≠ tb := fun z => by obtain ⟨es, _, h, _⟩ := hm; rw [← z, hln] at h; cases h
  have nht : hd ≠ tb := fun z => by obtain ⟨es, _, h, _⟩ := hm; rw [← z, hh] at h; cases h
  have nst : sc ≠ tb := fun z => by obtain ⟨xs, e⟩ := hp.sc; obtain ⟨es, _, h, _⟩ := hm; rw [← z, e] at h; cases h
  have hp3 : PotAt (upd H2 tb (.dK (putK kvs (Sum.inr y) (.ref b)))) q sc := hp2.exS (S := S1 tb) (ExB.upd.exS) (Ne.symm ntb) nst
  refine ⟨v1, kd, hd, aa, lo, ln, tb, _, t0, yr, x8, x9, x10, x11, x12, x13, m', rfl, hp3, o3 _ _ nht (e2 _ _ nhd hh), At.mono (tk2.trans tk3) _ _ hat, o3 _ _ nlo (e2 _ _ hloq hlo), hloq, At.mono (tk2.trans tk3) _ _ hy0, ht0, hlnq, o3 _ _ nln (e2 _ _ hlnq hln), hat', by rw [hmk', hmk], fun e he => ?_, ?_⟩
  · rcases hm' e he with h | h
    · exact hmt e h
    · rw [h]; exact ht0
  · exact ⟨H0, kf0, fun c o n e => o3 _ _ (ne_of_none e n0) (e2 _ _ n (e00 _ _ n e)), n0⟩
end
end Ew
set_option Elab.async false
set_option linter.all false
set_option maxRecDepth 100000
set_option maxHeartbeats 2000000
/-! the law's second rule: the whole -/
namespace Ew
open PySem PySem.Spec PyProof.Rows L2 RZ
section
variable {P : Program} {w : World} {K : PySem.W.Frag} {mg : Str → Option Value} {base : Heap} {C D : Addr}
theorem nxt_nm (i : Nat) (h : i < 4) : ∃ y ∈ Nms, atI (Nms.map V.str) ((0 + (i : Int) + 1) % 4) = some (.str y) := by
  have : i = 0 ∨ i = 1 ∨ i = 2 ∨ i = 3 := by omega
  rcases this with rfl | rfl | rfl | rfl
  · exact ⟨"y", by simp [Nms], rfl⟩
  · exact ⟨"z", by simp [Nms], rfl⟩
  · exact ⟨"u", by simp [Nms], rfl⟩
  · exact ⟨"x", by simp [Nms], rfl⟩
theorem this_nm {i : Nat} {x : Str} (h : Nms[i]? = some x) : atI (Nms.map V.str) (0 + (i : Int)) = some (.str x) := by
  rw [Int.zero_add]
  exact atI_nat (by rw [List.getElem?_map, h]; rfl)
theorem ok_lawSecond (T : Txt K mg C D) : Cal P w K mg base 5 "_law_second" spSecond := by
  refine cal_of T.fLawSecond (fun _ _ _ _ _ _ us hl => match us, hl with | [_, _], _ => rfl) sc_lawSecond (fun vs H Q E h => ?_) (fun f cdv A outer s H vs Q E hr h => ?_)
  · obtain ⟨q, sc, v, r1, rfl, _⟩ := h
    rfl
  · obtain ⟨q, sc, v, r1, rfl, hp, hv, ok1, kf⟩ := h
    obtain ⟨a, hd, aa, xs, rfl, ha, hh, haa, hA⟩ := at_rule hv
    have GN : Cal P w K mg base 1 "_law_next" spNext := ok_lawNext T
    have GR : Cal P w K mg base 4 "_law_rule" spRule := ok_lawRule T
    have GT : Cal P w K mg base 2 "_law_term" spTerm := ok_lawTerm T
    have h1 := ok1.h1
    have h2 := ok1.h2
    refine ⟨_, pss_cons (ps_set (i := 2) sc_lawSecond.nd rfl (Or.inl rfl) (pe_c (X := XLs P w K mg base f cdv A outer s H E) GN hr (by decide) (by rfl) (pa_cons (pv 0) (pa_cons pe_int pa_nil))))
      (pss_cons (ps_asg (pv 1) (pgT K rfl (pgs_cons (pg_name (i := 3) sc_lawSecond.nd rfl (Or.inl rfl)) (pgs_cons (pg_name (i := 4) sc_lawSecond.nd rfl (Or.inl rfl)) pgs_nil))))
      (pss_cons (ps_if (pt_cmpR op_eq (pv 2) pe_int (nomark _))
        (pss_one (ps_ret (pe_c (X := XLs P w K mg base f cdv A outer s H E) GR hr (by decide) (by rfl) (pa_cons (pv 0) (pa_cons pe_int (pa_cons (pe_callB call_len_seq (by rfl) T.n_len (by decide +kernel) (pa_cons (pv 3) pa_nil)) pa_nil)))))) pss_nil)
      (pss_cons (ps_setLc (i := 5) (own := [("_law_k", 10)]) (g := gName 10) (tt := tYes) rfl sc_lawSecond.nd rfl rfl (sw_true rfl rfl rfl (by decide +kernel)) (pi_range1 (by rfl) T.n_range (pa_cons pe_int pa_nil))
        (blkOk_by (N := NLs) (sc := defScope sLawSecond) (by decide +kernel)) (fun _ _ _ _ _ => pg_name (i := 10) sc_lawSecond.nd rfl (Or.inl rfl)) (fun _ _ _ _ _ => pts_nil)
        (fun _ _ _ _ _ => pe_c (X := Cx.blk _ _ _ _ _ _) GT hr (by decide) (by rfl) (pa_cons (pv 0) pa_nil)))
      (pss_cons (ps_set (i := 6) sc_lawSecond.nd rfl (Or.inr rfl) (pe_lst (pa_cons pe_str (pa_cons pe_str (pa_cons pe_str (pa_cons pe_str pa_nil))))))
      (pss_cons (ps_set (i := 7) sc_lawSecond.nd rfl (Or.inr rfl) (pe_callTy (call_dictP rfl) (by rfl) T.n_dict (by decide +kernel) (pa_cons (pe_lc (own := [("_law_k", 10)]) (g := gName 10) (tt := tYes) rfl sc_lawSecond.nd (pi_range1 (by rfl) T.n_range (pa_cons pe_int pa_nil))
        (blkOk_by (N := NLs) (sc := defScope sLawSecond) (by decide +kernel)) (fun _ _ _ _ _ => pg_name (i := 10) sc_lawSecond.nd rfl (Or.inl rfl)) (fun _ _ _ _ _ => pts_nil)
        (fun _ _ _ _ _ => pe_tup (pa_cons (pe_ix (ixL K) (pv 6) (pv 10) (fun _ _ => rfl)) (pa_cons (pe_tup (pa_cons pe_str (pa_cons (pe_ix (ixL K) (pv 6) (pv 10) (fun _ _ => rfl)) pa_nil))) pa_nil)))) pa_nil)))
      (pss_cons (ps_if (pt_cmpR op_eq (pv 2) pe_int (nomark _))
        (pss_one (ps_set (i := 7) sc_lawSecond.nd rfl (Or.inr rfl) (pe_callTy (call_dictP rfl) (by rfl) T.n_dict (by decide +kernel) (pa_cons (pe_lc (own := [("_law_k", 10)]) (g := gName 10) (tt := tYes) rfl sc_lawSecond.nd (pi_range1 (by rfl) T.n_range (pa_cons pe_int pa_nil))
        (blkOk_by (N := NLs) (sc := defScope sLawSecond) (by decide +kernel)) (fun _ _ _ _ _ => pg_name (i := 10) sc_lawSecond.nd rfl (Or.inl rfl)) (fun _ _ _ _ _ => pts_nil)
        (fun _ _ _ _ _ => pe_tup (pa_cons (pe_ix (ixL K) (pv 6) (pv 10) (fun _ _ => rfl)) (pa_cons (pe_tup (pa_cons pe_str (pa_cons (pe_ix (ixL K) (pv 6) (pe_op op_mod (pe_callTy call_int1 (by rfl) T.n_int (by decide +kernel) (pa_cons (pe_op op_add (pv 10) pe_int) pa_nil)) pe_int) (fun _ _ => rfl)) pa_nil))) pa_nil)))) pa_nil)))) pss_nil)
      (second_7 (q := q) (sc := sc) (r1 := r1) (H := H) (E := E) T ok1 hr))))))), ?_⟩
    have hlst := hp.lst
    have nhd : hd ≠ q := fun z => by obtain ⟨ys, e⟩ := hlst; rw [z, e] at hh; cases hh
    have na : a ≠ q := fun z => by obtain ⟨ys, e⟩ := hlst; rw [z, e] at ha; cases ha
    refine ⟨_, rfl, q, sc, 5, rfl, hp, by decide, by decide, fun H1 kd e1 hp1 k0 k5 => ?_⟩
    have tk1 := hp.tk e1
    have hh1 := e1 _ _ nhd hh
    have hat1 : At H1 (atomsK r1.2) (.ref aa) := At.mono tk1 _ _ ⟨aa, xs, rfl, haa, hA⟩
    refine ⟨_, rfl, a, _, rfl, SqT.of (e1 _ _ na ha), rfl, _, _, rfl, _, _, rfl, rfl, ?_⟩
    refine ⟨_, rfl, rfl, _, rfl, ?_⟩
    have hll : (((r1.1.map V.str).length : Nat) : Int) = (r1.1.length : Int) := by rw [List.length_map]
    refine ite2 (fun _ => ?_) (fun _ => ?_)
    · refine ⟨_, rfl, _, rfl, hd, _, rfl, .inr (SqT.of hh1), q, sc, 4, _, rfl, hp1, by decide, by decide, by omega, by omega, fun H' v r e' hp' hr' okr hlen => kf H' v r (e1.trans e') hp' hr' okr (by omega)⟩
    refine ⟨_, rfl, by decide, by decide, fun L nL => ?_⟩
    have nLq := hp1.nq nL
    refine lc_map (walk_range (lo := 0) (n := (4 : Int).toNat)) (S1 q) (fun H => PotAt H q sc) (fun H _ y => ∃ t, TmOk t ∧ At H (tmK t) y) nL (by rw [sizeLine_eq]; decide) nLq.1 (potI hp1 nLq.1 nLq.2) (fun H6 zs ys h6 _ => potI h6 nLq.1 nLq.2) (fun _ _ _ _ => trivial) (fun _ _ _ _ kk ⟨t, k1, k2⟩ => ⟨t, k1, At.mono kk _ _ k2⟩) ?_ ?_
    · rintro j y H6 H7 hj hp6 e6 tk6 ⟨rfl, rfl⟩ Q' hQ
      refine ⟨rfl, _, rfl, q, sc, rfl, hp6, fun H8 v t e8 hp8 ht hto => hQ _ _ e8.exS (hp6.tk e8) hp8 ⟨t, hto, ht⟩⟩
    · intro H2 ys hp2 e2 tk2 hL2 hyl hyR
      obtain ⟨y0, yr, rfl⟩ : ∃ y0 yr, ys = y0 :: yr := by
        cases ys with
        | nil => exact absurd hyl (by decide)
        | cons y0 yr => exact ⟨y0, yr, rfl⟩
      obtain ⟨t0, ht0, hy0⟩ := hyR 0 y0 rfl
      have eB2 : ExB q H H2 := e1.trans (ExS.exB e2)
      have hh2 := (ExS.exB e2) _ _ nhd hh1
      have hat2 := At.mono tk2 _ _ hat1
      refine ⟨by show 4 ≤ sizeLine; rw [sizeLine_eq]; decide, fun ln nln => ?_⟩
      have e3 : Ex H2 (upd H2 ln (.lst [V.str "x", V.str "y", V.str "z", V.str "u"])) := Ex.new nln
      have hln : upd H2 ln (.lst [V.str "x", V.str "y", V.str "z", V.str "u"]) ln = some (.lst (Nms.map V.str)) := upd_same
      have nlq := hp2.nq nln
      generalize upd H2 ln (.lst [V.str "x", V.str "y", V.str "z", V.str "u"]) = H3 at e3 hln ⊢
      have eB3 : ExB q H H3 := eB2.trans e3.but
      have hp3 := hp2.ex e3
      refine ⟨_, rfl, by decide, by decide, fun L3 nL3 => ?_⟩
      refine lc_tab (K := K) nL3 (fun _ => rfl) ?_ ?_
      · intro i x H4 Q' hx e4 hQ
        refine ⟨_, rfl, _, rfl, ln, _, _, _, rfl, rfl, SqL.of (e4 _ _ hln), this_nm hx, _, rfl, _, rfl, ln, _, _, _, rfl, rfl, SqL.of (e4 _ _ hln), this_nm hx, two_le, fun b nb => ⟨two_le, fun p np => ?_⟩⟩
        exact hQ _ p b (.var x) ((Ex.new nb).trans (Ex.new np)) upd_same (At.mono (tk_new np) _ _ (at_var.mpr ⟨b, rfl, upd_same⟩)) (List.mem_of_getElem? hx)
      · intro H4 ps es e4 hL4 hps hes hk ht
        refine ⟨L3, ps, _, rfl, SqL.of hL4, hps, fun tb ntb => ?_⟩
        have hm := tab_at ntb hes hk
        have e5 : Ex H3 (upd H4 tb (.dK (mergeK [] (es.map entT)))) := e4.trans (Ex.new ntb)
        have f5 : H3 tb = none := e4.free ntb
        have go : ∀ (D' : Ends) (H5 : Hp) (tb : Addr) (m : Mp) (x8 x9 x10 x11 x12 x13 : Option V), D'.rt = Q → Ex H3 H5 → H3 tb = none → MpAt H5 tb m → m.map (·.1) = Nms → (∀ e ∈ m, TmOk e.2) →
            tTabl q sc r1 D' [some (.ref q), some (.ref a), some (.int kd), some (.ref hd), some (.ref aa), some (.ref L), some (.ref ln), some (.ref tb), x8, x9, x10, x11, x12, x13] H5 := fun D' H5 tb m x8 x9 x10 x11 x12 x13 hD e5 ntb hm hk ht =>
          ⟨_, kd, hd, aa, L, ln, tb, y0, t0, yr, x8, x9, x10, x11, x12, x13, m, rfl, hp3.ex e5, e5 _ _ (e3 _ _ hh2), At.mono (e3.trans e5).tk _ _ hat2, e5 _ _ (e3 _ _ hL2), nLq.1, At.mono (e3.trans e5).tk _ _ hy0, ht0, nlq.1, e5 _ _ hln, hm, hk, ht, H3, fun H' u r e' hp' hr' okr hl => by rw [hD]; exact kf H' u r (eB3.trans e') hp' hr' okr hl, e5.but, ntb⟩
        generalize upd H4 tb (.dK (mergeK [] (es.map entT))) = H5 at hm e5 ⊢
        refine ⟨_, rfl, rfl, _, rfl, ?_⟩
        refine ite2 (fun _ => ?_) (fun _ => go _ H5 tb _ _ _ _ _ _ _ rfl e5 f5 hm (tab_keys hk) (tab_tm ht))
        refine ⟨_, rfl, by decide, by decide, fun L5 nL5 => ?_⟩
        refine lc_tab (K := K) nL5 (fun _ => rfl) ?_ ?_
        · intro i x H6 Q' hx e6 hQ
          obtain ⟨y, hy, hyi⟩ := nxt_nm i (List.getElem?_eq_some_iff.mp hx).1
          have hln6 := e6 _ _ (e5 _ _ hln)
          refine ⟨_, rfl, _, rfl, ln, _, _, _, rfl, rfl, SqL.of hln6, this_nm hx, _, rfl, _, rfl, _, _, rfl, rfl, .inl ⟨_, rfl, _, _, rfl, rfl, (by show (0 : Int) < 4; decide), ln, _, _, _, rfl, rfl, SqL.of hln6, hyi, two_le, fun b nb => ⟨two_le, fun p np => ?_⟩⟩⟩
          exact hQ _ p b (.var y) ((Ex.new nb).trans (Ex.new np)) upd_same (At.mono (tk_new np) _ _ (at_var.mpr ⟨b, rfl, upd_same⟩)) hy
        · intro H6 ps' es' e6 hL6 hps' hes' hk' ht'
          refine ⟨L5, ps', _, rfl, SqL.of hL6, hps', fun tb' ntb' => ?_⟩
          exact go _ _ tb' _ _ _ _ _ _ _ rfl (e5.trans (e6.trans (Ex.new ntb'))) ((e5.trans e6).free ntb') (tab_at ntb' hes' hk') (tab_keys hk') (tab_tm ht')
end
end Ew
set_option Elab.async false
set_option linter.all false
set_option maxRecDepth 100000
set_option maxHeartbeats 2000000
/-! what a rule means over rows: plain -/
namespace Ew
open PySem PySem.Spec PyProof.Rows L2 RZ
abbrev Kn : Type := List (Str × L2.Key)
def VOk (k : L2.Key) : Prop := (∃ i : Int, k = .inl i ∧ 0 ≤ i ∧ i ≤ 100) ∨ k = .inr "a"
theorem rpr_nat : ∀ i : Fin 101, ∀ j : Fin 101, rpr (.inl ((i.val : Nat) : Int)) = rpr (.inl ((j.val : Nat) : Int)) → i = j := by decide +kernel
theorem rpr_a : ∀ i : Fin 101, ¬ rpr (.inl ((i.val : Nat) : Int)) = rpr (.inr "a") := by decide +kernel
theorem rpr_inj {a b : L2.Key} (ha : VOk a) (hb : VOk b) (h : rpr a = rpr b) : a = b := by
  rcases ha with ⟨i, rfl, i0, i1⟩ | rfl <;> rcases hb with ⟨j, rfl, j0, j1⟩ | rfl
  · have e1 : ((i.toNat : Nat) : Int) = i := Int.toNat_of_nonneg i0
    have e2 : ((j.toNat : Nat) : Int) = j := Int.toNat_of_nonneg j0
    have := rpr_nat ⟨i.toNat, by omega⟩ ⟨j.toNat, by omega⟩ (by
      show rpr (.inl ((i.toNat : Nat) : Int)) = rpr (.inl ((j.toNat : Nat) : Int))
      rw [e1, e2]; exact h)
    have e3 : i.toNat = j.toNat := congrArg Fin.val this
    rw [← e1, ← e2, e3]
  · have e1 : ((i.toNat : Nat) : Int) = i := Int.toNat_of_nonneg i0
    exact absurd (by show rpr (.inl ((i.toNat : Nat) : Int)) = _; rw [e1]; exact h) (rpr_a ⟨i.toNat, by omega⟩)
  · have e1 : ((j.toNat : Nat) : Int) = j := Int.toNat_of_nonneg j0
    exact absurd (by show rpr (.inl ((j.toNat : Nat) : Int)) = _; rw [e1]; exact h.symm) (rpr_a ⟨j.toNat, by omega⟩)
  · rfl
theorem rpr_len {a : L2.Key} (h : VOk a) : (rpr a).length ≤ sizeLine := by
  have l1 : ∀ i : Fin 101, (rpr (.inl ((i.val : Nat) : Int))).length ≤ 10 := by decide +kernel
  have l2 : (rpr (.inr "a")).length ≤ 10 := by decide +kernel
  have z : (10 : Nat) ≤ sizeLine := by rw [sizeLine_eq]; decide
  rcases h with ⟨i, rfl, i0, i1⟩ | rfl
  · have e1 : ((i.toNat : Nat) : Int) = i := Int.toNat_of_nonneg i0
    have := l1 ⟨i.toNat, by omega⟩
    have this : (rpr (.inl ((i.toNat : Nat) : Int))).length ≤ 10 := this
    rw [e1] at this
    exact Nat.le_trans this z
  · exact Nat.le_trans l2 z
theorem rpr_log {a : L2.Key} (h : VOk a) : ∀ i, a = Sum.inl i → i.natAbs.log2 < 1920 := fun i e => by
  rcases h with ⟨j, rfl, j0, j1⟩ | rfl
  · cases e
    have : i.natAbs ≤ 100 := by omega
    have h2 : i.natAbs.log2 ≤ i.natAbs := Nat.log2_le_self _
    omega
  · cases e
theorem vls_vok {k : L2.Key} (h : k ∈ Vls) : VOk k := by
  simp only [Vls, List.mem_cons, List.not_mem_nil, or_false] at h
  rcases h with rfl | rfl | rfl
  · exact .inl ⟨0, rfl, by decide, by decide⟩
  · exact .inl ⟨1, rfl, by decide, by decide⟩
  · exact .inr rfl
def fitO : List Tm → List L2.Key → Kn → Option Kn
  | .val k :: ts, v :: vs, m => if k = v then fitO ts vs m else none
  | .var x :: ts, v :: vs, m => match lk m x with
    | some t => if t = v then fitO ts vs m else none
    | none => fitO ts vs (m ++ [(x, v)])
  | _, _, m => some m
def evT (σ : Str → L2.Key) : Tm → L2.Key
  | .var x => σ x
  | .val k => k
def Ext (m : Kn) (σ : Str → L2.Key) : Prop := ∀ x k, lk m x = some k → σ x = k
theorem lk_app {α : Type} {m : List (Str × α)} {x y : Str} {v : α} (h : lk m x = none) : lk (m ++ [(x, v)]) y = if x = y then some v else lk m y := by
  induction m with
  | nil => by_cases e : x = y <;> simp [lk, e]
  | cons e m ih =>
    by_cases q : e.1 = x
    · simp [lk, q] at h
    · have h2 : lk m x = none := by simpa [lk, q] using h
      have ih := ih h2
      rw [List.cons_append]
      by_cases r : e.1 = y
      · have : ¬ x = y := fun z => q (r.trans z.symm)
        have a1 : lk (e :: (m ++ [(x, v)])) y = some e.2 := by simp [lk, r]
        have a2 : lk (e :: m) y = some e.2 := by simp [lk, r]
        rw [a1, a2, if_neg this]
      · have a1 : lk (e :: (m ++ [(x, v)])) y = lk (m ++ [(x, v)]) y := by simp [lk, r]
        have a2 : lk (e :: m) y = lk m y := by simp [lk, r]
        rw [a1, a2, ih]
theorem Ext.app {m : Kn} {σ : Str → L2.Key} {x : Str} {v : L2.Key} (h : Ext m σ) (e : lk m x = none) (hx : σ x = v) : Ext (m ++ [(x, v)]) σ := fun y k z => by
  rw [lk_app e] at z
  split at z
  · rename_i q
    cases z
    rw [← q, hx]
  · exact h y k z
theorem Ext.of_app {m : Kn} {σ : Str → L2.Key} {x : Str} {v : L2.Key} (h : Ext (m ++ [(x, v)]) σ) (e : lk m x = none) : Ext m σ ∧ σ x = v := by
  refine ⟨fun y k z => h y k ?_, h x v ?_⟩
  · rw [lk_app e]
    split
    · rename_i q
      rw [← q, e] at z
      cases z
    · exact z
  · rw [lk_app e, if_pos rfl]
theorem fitO_sound : ∀ {ts : List Tm} {vs : List L2.Key} {m m' : Kn}, fitO ts vs m = some m' → ts.length = vs.length → ∀ σ, Ext m' σ → Ext m σ ∧ ts.map (evT σ) = vs
  | [], [], m, m', h, _, σ, k => by
    rw [fitO] at h
    · cases h; exact ⟨k, rfl⟩
    · intros; contradiction
    · intros; contradiction
  | [], _ :: _, _, _, _, h, _, _ => by simp at h
  | _ :: _, [], _, _, _, h, _, _ => by simp at h
  | .val k0 :: ts, v :: vs, m, m', h, hl, σ, k => by
    rw [fitO] at h
    split at h
    · rename_i e
      obtain ⟨h1, h2⟩ := fitO_sound h (by simpa using hl) σ k
      refine ⟨h1, ?_⟩
      rw [List.map_cons, h2]
      show k0 :: vs = v :: vs
      rw [e]
    · cases h
  | .var x :: ts, v :: vs, m, m', h, hl, σ, k => by
    rw [fitO] at h
    split at h
    · rename_i t e
      split at h
      · rename_i e2
        obtain ⟨h1, h2⟩ := fitO_sound h (by simpa using hl) σ k
        refine ⟨h1, ?_⟩
        rw [List.map_cons, h2]
        show σ x :: vs = v :: vs
        rw [h1 x t e, e2]
      · cases h
    · rename_i e
      obtain ⟨h1, h2⟩ := fitO_sound h (by simpa using hl) σ k
      obtain ⟨h3, h4⟩ := h1.of_app e
      refine ⟨h3, ?_⟩
      rw [List.map_cons, h2]
      show σ x :: vs = v :: vs
      rw [h4]
theorem fitO_complete : ∀ {ts : List Tm} {vs : List L2.Key} {m : Kn} {σ : Str → L2.Key}, Ext m σ → ts.map (evT σ) = vs → ∃ m', fitO ts vs m = some m' ∧ Ext m' σ
  | [], vs, m, σ, h, e => by
    subst e
    refine ⟨m, ?_, h⟩
    show fitO [] [] m = some m
    rw [fitO] <;> (intros; contradiction)
  | .val k :: ts, vs, m, σ, h, e => by
    subst e
    obtain ⟨m', h1, h2⟩ := fitO_complete (ts := ts) h rfl
    refine ⟨m', ?_, h2⟩
    rw [List.map_cons]
    show fitO (.val k :: ts) (k :: _) m = _
    rw [fitO, if_pos rfl, h1]
  | .var x :: ts, vs, m, σ, h, e => by
    subst e
    rw [List.map_cons]
    show ∃ m', fitO (.var x :: ts) (σ x :: _) m = _ ∧ _
    rw [fitO]
    cases q : lk m x with
    | some t =>
      have : t = σ x := (h x t q).symm
      obtain ⟨m', h1, h2⟩ := fitO_complete (ts := ts) h rfl
      exact ⟨m', by simp [this, h1], h2⟩
    | none =>
      obtain ⟨m', h1, h2⟩ := fitO_complete (ts := ts) (h.app q rfl) rfl
      exact ⟨m', h1, h2⟩
structure KnOk (n : Nat) (m : Kn) : Prop where
  nd : (m.map (·.1)).Nodup
  ok : ∀ e ∈ m, VOk e.2
  len : m.length ≤ n
theorem fitO_ok : ∀ {ts : List Tm} {vs : List L2.Key} {m m' : Kn} {n : Nat}, fitO ts vs m = some m' → ts.length = vs.length → (∀ v ∈ vs, VOk v) → KnOk n m → KnOk (n + ts.length) m' ∧ (∀ x, x ∈ m.map (·.1) → x ∈ m'.map (·.1)) ∧ ∀ x, Tm.var x ∈ ts → x ∈ m'.map (·.1)
  | [], [], m, m', n, h, _, _, k => by
    rw [fitO] at h
    · cases h; exact ⟨k, fun _ h => h, fun x h => by simp at h⟩
    · intros; contradiction
    · intros; contradiction
  | [], _ :: _, _, _, _, _, h, _, _ => by simp at h
  | _ :: _, [], _, _, _, _, h, _, _ => by simp at h
  | .val k0 :: ts, v :: vs, m, m', n, h, hl, hv, k => by
    rw [fitO] at h
    split at h
    · obtain ⟨z, h2, h3⟩ := fitO_ok h (by simpa using hl) (fun v hv' => hv v (List.mem_cons_of_mem _ hv')) k
      refine ⟨⟨z.nd, z.ok, by have := z.len; rw [List.length_cons]; omega⟩, h2, fun x hx => ?_⟩
      rcases List.mem_cons.mp hx with e | hx
      · cases e
      · exact h3 x hx
    · cases h
  | .var y :: ts, v :: vs, m, m', n, h, hl, hv, k => by
    rw [fitO] at h
    split at h
    · rename_i t e
      split at h
      · obtain ⟨z, h2, h3⟩ := fitO_ok h (by simpa using hl) (fun v hv' => hv v (List.mem_cons_of_mem _ hv')) k
        refine ⟨⟨z.nd, z.ok, by have := z.len; rw [List.length_cons]; omega⟩, h2, fun x hx => ?_⟩
        rcases List.mem_cons.mp hx with e2 | hx
        · cases e2
          exact h2 y (List.mem_map.mpr ⟨_, lk_mem e, rfl⟩)
        · exact h3 x hx
      · cases h
    · rename_i e
      have k2 : KnOk (n + 1) (m ++ [(y, v)]) := by
        refine ⟨?_, fun e' he => ?_, by have := k.len; rw [List.length_append, List.length_singleton]; omega⟩
        · rw [List.map_append]
          exact nd_snoc k.nd (lk_none.mp e)
        · rcases List.mem_append.mp he with he | he
          · exact k.ok _ he
          · rw [List.mem_singleton.mp he]; exact hv v List.mem_cons_self
      obtain ⟨z, h2, h3⟩ := fitO_ok h (by simpa using hl) (fun v hv' => hv v (List.mem_cons_of_mem _ hv')) k2
      refine ⟨⟨z.nd, z.ok, by have := z.len; rw [List.length_cons]; omega⟩, fun x hx => h2 x (by rw [List.map_append]; exact List.mem_append_left _ hx), fun x hx => ?_⟩
      rcases List.mem_cons.mp hx with e2 | hx
      · cases e2
        exact h2 y (by simp)
      · exact h3 x hx
/-- the rows that a rule gives, where names are known already -/
def Ans (R : Str → List (Int × List L2.Key)) (hd : List Str) (as : List Atom) (m : Kn) (row : List L2.Key) : Prop :=
  ∃ σ, Ext m σ ∧ (∀ a ∈ as, ∃ pr ∈ R a.1, a.2.map (evT σ) = pr.2) ∧ row = hd.map σ
theorem ans_cons {R : Str → List (Int × List L2.Key)} {hd : List Str} {a : Atom} {as : List Atom} {m : Kn} {row : List L2.Key} (hl : ∀ pr ∈ R a.1, a.2.length = pr.2.length) :
    Ans R hd (a :: as) m row ↔ ∃ pr ∈ R a.1, ∃ m', fitO a.2 pr.2 m = some m' ∧ Ans R hd as m' row := by
  constructor
  · rintro ⟨σ, h1, h2, h3⟩
    obtain ⟨pr, hp, e⟩ := h2 a List.mem_cons_self
    obtain ⟨m', k1, k2⟩ := fitO_complete h1 e
    exact ⟨pr, hp, m', k1, σ, k2, fun b hb => h2 b (List.mem_cons_of_mem _ hb), h3⟩
  · rintro ⟨pr, hp, m', k1, σ, k2, h2, h3⟩
    obtain ⟨h1, e⟩ := fitO_sound k1 (hl pr hp) σ k2
    refine ⟨σ, h1, fun b hb => ?_, h3⟩
    rcases List.mem_cons.mp hb with rfl | hb
    · exact ⟨pr, hp, e⟩
    · exact h2 b hb
theorem ans_nil {R : Str → List (Int × List L2.Key)} {hd : List Str} {m : Kn} {row : List L2.Key} (hh : ∀ x ∈ hd, x ∈ m.map (·.1)) : Ans R hd [] m row ↔ row = hd.map fun x => (lk m x).getD (.inl 0) := by
  have key : ∀ σ, Ext m σ → hd.map σ = hd.map fun x => (lk m x).getD (.inl 0) := fun σ hσ => List.map_congr_left fun x hx => by
    cases e : lk m x with
    | none => exact absurd (hh x hx) (lk_none.mp e)
    | some k => exact hσ x k e
  constructor
  · rintro ⟨σ, h1, _, h3⟩
    rw [h3, key σ h1]
  · intro h
    refine ⟨fun x => (lk m x).getD (.inl 0), fun x k e => by simp [e], fun a ha => by simp at ha, h⟩
end Ew
set_option Elab.async false
set_option linter.all false
set_option maxRecDepth 100000
set_option maxHeartbeats 2000000
/-! _law_means: the walk of the fit -/
namespace Ew
open PySem PySem.Spec PyProof.Rows L2 RZ
abbrev entV (e : Str × L2.Key) : L2.Key × V := (Sum.inr e.1, L2.kV e.2)
theorem valV_kn {m : Kn} {x : Str} : valV (m.map entV) (Sum.inr x : L2.Key) = (lk m x).map L2.kV := by
  induction m with
  | nil => rfl
  | cons e m ih =>
    rw [List.map_cons]
    by_cases q : e.1 = x
    · have q2 : (entV e).1 = (Sum.inr x : L2.Key) := by rw [← q]
      rw [valV_pos q2]
      simp [lk, q]
    · have q2 : ¬ (entV e).1 = (Sum.inr x : L2.Key) := fun z => q (Sum.inr.inj z)
      rw [valV_neg q2, ih]
      simp [lk, q]
theorem lk_uniq {α : Type} {x : Str} {v : α} : ∀ {m : List (Str × α)}, (m.map (·.1)).Nodup → lk m x = some v → ∀ e ∈ m, e.1 = x → e.2 = v
  | [], _, _, e, he, _ => by simp at he
  | f :: m, nd, h, e, he, q => by
    rw [List.map_cons, List.nodup_cons] at nd
    by_cases r : f.1 = x
    · have a1 : lk (f :: m) x = some f.2 := by simp [lk, r]
      rw [a1] at h
      cases h
      rcases List.mem_cons.mp he with rfl | he
      · rfl
      · exact absurd (List.mem_map.mpr ⟨e, he, q.trans r.symm⟩) nd.1
    · have a1 : lk (f :: m) x = lk m x := by simp [lk, r]
      rw [a1] at h
      rcases List.mem_cons.mp he with rfl | he
      · exact absurd q r
      · exact lk_uniq nd.2 h e he q
theorem putK_same {m : Kn} {x : Str} {v : L2.Key} (nd : (m.map (·.1)).Nodup) (h : lk m x = some v) : putK (m.map entV) (Sum.inr x) (L2.kV v) = m.map entV := by
  unfold putK
  rw [valV_any, valV_kn, h]
  simp only [Option.map_some, Option.isSome_some, if_true, List.map_map]
  refine List.map_congr_left fun y hy => ?_
  show (if (Sum.inr y.1 : L2.Key) = Sum.inr x then _ else _) = _
  by_cases e : y.1 = x
  · rw [if_pos (by rw [e])]
    show ((Sum.inr y.1 : L2.Key), L2.kV v) = (Sum.inr y.1, L2.kV y.2)
    rw [lk_uniq nd h y hy e]
  · rw [if_neg fun z => e (Sum.inr.inj z)]
theorem putK_app {m : Kn} {x : Str} {v : L2.Key} (h : lk m x = none) : putK (m.map entV) (Sum.inr x) (L2.kV v) = (m ++ [(x, v)]).map entV := by
  rw [putK_new _ (by rw [valV_kn, h]; rfl), List.map_append]
  rfl
theorem length_putK (kvs : List (L2.Key × V)) (k : L2.Key) (v : V) : (putK kvs k v).length ≤ kvs.length + 1 := by
  unfold putK
  split
  · rw [List.length_map]; omega
  · rw [List.length_append]; exact Nat.le_refl _
def forBody : Stmt → List Stmt
  | .For _ _ b _ _ => b
  | _ => []
def mS (i : Nat) : Stmt := (defBody sLawMeans).getD i default
def mB (i : Nat) : Stmt := (forBody (mS 3)).getD i default
abbrev NLm : List Str := ["_law_rule_here", "_law_rows", "_law_known_here", "_law_found", "_law_table", "_law_terms", "_law_pair", "_law_new", "_law_fits_here", "_law_k", "_law_value", "_law_way", "_law_name"]
theorem sc_lawMeans : FnScope NLm ["_law_rule_here", "_law_rows", "_law_known_here"] (defScope sLawMeans) := ⟨rfl, rfl, rfl, by decide +kernel, rfl, by decide +kernel, by decide +kernel⟩
section
variable {P : Program} {w : World} {K : PySem.W.Frag} {mg : Str → Option Value} {base : Heap} {C D : Addr}
variable {f : Addr} {cdv : Value} {A : Around} {outer : List Env} {s : Shared} {H : Hp} {E : XK} {n : Nat}
abbrev XLm (P : Program) (w : World) (K : PySem.W.Frag) (mg : Str → Option Value) (base : Heap) (f : Addr) (cdv : Value) (A : Around) (outer : List Env) (s : Shared) (H : Hp) (E : XK) : Cx := (cxOf CX0 P w K mg base NLm "_law_means" (defScope sLawMeans) f cdv A outer s H E).nox
/-- how the loop over the terms ends -/
def FitEnd (a : Atom) (row : List L2.Key) (m : Kn) (F : Addr) (H : Hp) (b : Bool) : Prop :=
  (b = true ∧ ∃ m', H F = some (.dK (m'.map entV)) ∧ fitO a.2 row m = some m') ∨ (b = false ∧ fitO a.2 row m = none)
def tFit (a : Atom) (pr : Int × List L2.Key) (m : Kn) : TS := fun D σ H => ∃ (s0 s1 s2 s3 s4 x9 x10 x11 x12 : Option V) (tt pa F : Addr), σ = [s0, s1, s2, s3, s4, some (.ref tt), some (.ref pa), some (.ref F), some (.bl true), x9, x10, x11, x12] ∧
  At H (.tup (a.2.map tmK)) (.ref tt) ∧ At H (nrK pr) (.ref pa) ∧ H F = some (.dK (m.map entV)) ∧ KnOk 150 m ∧ (∀ t ∈ a.2, TmOk t) ∧ a.2.length = pr.2.length ∧ a.2.length ≤ 2 ∧ (∀ v ∈ pr.2, VOk v) ∧
  ∀ (H' : Hp) (b : Bool) (x9 x10 : Option V), ExB F H H' → FitEnd a pr.2 m F H' b → D.nx [s0, s1, s2, s3, s4, some (.ref tt), some (.ref pa), some (.ref F), some (.bl b), x9, x10, x11, x12] H'
theorem means_fit (T : Txt K mg C D) (hr : Room n (A.deeper (envOfC "_law_means" (defScope sLawMeans) s.heap.objs.size f cdv))) {a : Atom} {pr : Int × List L2.Key} {m : Kn} : PS (XLm P w K mg base f cdv A outer s H E) (mB 2) (tFit a pr m) := by
  refine ps_weak (ps_for PassesOwn.never rfl (pi_range1 (by rfl) T.n_range (pa_cons (pe_callB call_len_seq (by rfl) T.n_len (by decide +kernel) (pa_cons (pv 5) pa_nil)) pa_nil)) (pg_name (i := 9) sc_lawMeans.nd rfl (Or.inl rfl))
      (pss_cons (ps_set (i := 10) sc_lawMeans.nd rfl (Or.inl rfl) (pe_ix (ixT K) (pe_ix (ixT K) (pv 5) (pv 9) (fun _ _ => rfl)) pe_int (fun _ _ => rfl)))
      (pss_cons (ps_if (pt_cmpR op_eq (pe_ix (ixT K) (pe_ix (ixT K) (pv 5) (pv 9) (fun _ _ => rfl)) pe_int (fun _ _ => rfl)) pe_str (nomark _))
        (pss_cons (ps_set (i := 10) sc_lawMeans.nd rfl (Or.inl rfl) (pe_dget2 (hu_of hr) (pv 7) (pe_ix (ixT K) (pe_ix (ixT K) (pv 5) (pv 9) (fun _ _ => rfl)) pe_int (fun _ _ => rfl)) (pe_ix (ixT K) (pe_ix (ixT K) (pv 6) pe_int (fun _ _ => rfl)) (pv 9) (fun _ _ => rfl)) ⟨by rfl, by rfl, by rfl, by rfl⟩))
        (pss_one (ps_dput (hu_of hr) (pv 7) (pe_ix (ixT K) (pe_ix (ixT K) (pv 5) (pv 9) (fun _ _ => rfl)) pe_int (fun _ _ => rfl)) (pe_ix (ixT K) (pe_ix (ixT K) (pv 6) pe_int (fun _ _ => rfl)) (pv 9) (fun _ _ => rfl)) (by rfl)))) pss_nil)
      (pss_one (ps_set (i := 8) sc_lawMeans.nd rfl (Or.inl rfl) (pe_and (pv 8) (pe_one (pe_cmpR op_eq (pe_callB cr_repr (by rfl) T.n_repr (by decide +kernel) (pa_cons (pv 10) pa_nil)) (pe_callB cr_repr (by rfl) T.n_repr (by decide +kernel) (pa_cons (pe_ix (ixT K) (pe_ix (ixT K) (pv 6) pe_int (fun _ _ => rfl)) (pv 9) (fun _ _ => rfl)) pa_nil)) (nomark _))))))))) ?_
  rintro D' σ H1 ⟨s0, s1, s2, s3, s4, x9, x10, x11, x12, tt, pa, F, rfl, htt, hpa, hF, kn, htm, hlen, h2, hv, k⟩
  obtain ⟨_, xs, z, hxt, hts⟩ := htt
  cases z
  obtain ⟨_, _, _, z, hpa1, hp1, hp2⟩ := at_pair.mp hpa
  cases z
  cases hp1
  obtain ⟨rwa, rfl, hrw⟩ := at_row.mp hp2
  have hxl : xs.length = a.2.length := by rw [hts.length, List.length_map]
  refine ⟨_, rfl, tt, _, rfl, .inr (SqT.of hxt), _, rfl, by omega, by omega, ?_⟩
  refine for_range (fun j σ H2 => ∃ (b : Bool) (x9 x10 : Option V), σ = [s0, s1, s2, s3, s4, some (.ref tt), some (.ref pa), some (.ref F), some (.bl b), x9, x10, x11, x12] ∧ ExB F H1 H2 ∧
      ((b = true ∧ ∃ mj, H2 F = some (.dK (mj.map entV)) ∧ KnOk (150 + j) mj ∧ fitO a.2 pr.2 m = fitO (a.2.drop j) (pr.2.drop j) mj) ∨ (b = false ∧ fitO a.2 pr.2 m = none ∧ ∃ kvs, H2 F = some (.dK kvs) ∧ kvs.length ≤ 200 + j)))
    ⟨true, _, _, rfl, fun _ _ _ e => e, .inl ⟨rfl, m, hF, kn, rfl⟩⟩ ?_ ?_
  · rintro j σ H2 hj ⟨b, x9, x10, rfl, e2, inv⟩
    have hj1 : j < a.2.length := by omega
    have hj2 : j < pr.2.length := by omega
    have tk2 : TK H1 H2 := e2.tk fun ys z => by rw [hF] at z; cases z
    have hxt2 := tk2 _ _ hxt
    have hpa2 := tk2 _ _ hpa1
    have hrw2 := tk2 _ _ hrw
    have hxj : xs[j]? = some xs[j] := List.getElem?_eq_getElem (by omega)
    obtain ⟨t, htj, htx⟩ := hts.at hxj
    have hvj : pr.2[j]? = some pr.2[j] := List.getElem?_eq_getElem hj2
    have hvok := hv _ (List.getElem_mem hj2)
    have hdt : a.2.drop j = t :: a.2.drop (j + 1) := List.drop_eq_getElem?_toList_append.trans (by rw [htj]; rfl)
    have hdv : pr.2.drop j = pr.2[j] :: pr.2.drop (j + 1) := List.drop_eq_getElem?_toList_append.trans (by rw [hvj]; rfl)
    generalize pr.2[j] = vj at hvj hvok hdv
    obtain ⟨c, hxc, hc⟩ := at_tm.mp (At.mono tk2 _ _ htx)
    have z0 : (0 : Int) + (j : Int) = (j : Int) := by omega
    have hix : atI xs (0 + (j : Int)) = some (.ref c) := by rw [z0]; exact atI_nat (by rw [hxj, hxc])
    have hrix : atI (pr.2.map L2.kV) (0 + (j : Int)) = some (L2.kV vj) := by rw [z0]; exact atI_nat (by rw [List.getElem?_map, hvj]; rfl)
    have htok := htm t (List.mem_of_getElem? htj)
    rw [hdt, hdv] at inv
    refine ⟨_, rfl, _, rfl, tt, _, _, _, rfl, rfl, SqT.of hxt2, hix, c, _, _, _, rfl, rfl, SqT.of hc, rfl, ?_⟩
    refine ⟨_, rfl, _, rfl, tt, _, _, _, rfl, rfl, SqT.of hxt2, hix, c, _, _, _, rfl, rfl, SqT.of hc, rfl, rfl, _, rfl, ?_⟩
    cases t with
    | val k0 =>
      refine iteF ⟨_, rfl, b, rfl, ?_⟩
      rcases inv with ⟨rfl, mj, hFj, knj, hfj⟩ | ⟨rfl, hno, kvs, hFj, hkl⟩
      · have hk0 : VOk k0 := vls_vok htok
        refine iteT ⟨_, rfl, k0, rfl, rpr_log hk0, rpr_len hk0, _, rfl, pa, _, _, _, rfl, rfl, SqT.of hpa2, rfl, _, rfl, rwa, _, _, _, rfl, rfl, SqT.of hrw2, hrix, vj, rfl, rpr_log hvok, rpr_len hvok, rfl, ?_⟩
        by_cases e : k0 = vj
        · subst e
          rw [show decide (V.str (rpr k0) = V.str (rpr k0)) = true from decide_eq_true rfl]
          refine ⟨true, _, _, rfl, e2, .inl ⟨rfl, mj, hFj, ⟨knj.nd, knj.ok, by have := knj.len; omega⟩, by rw [hfj, fitO, if_pos rfl]⟩⟩
        · rw [show decide (V.str (rpr k0) = V.str (rpr vj)) = false from decide_eq_false fun z => e (rpr_inj hk0 hvok (V.str.inj z))]
          refine ⟨false, _, _, rfl, e2, .inr ⟨rfl, by rw [hfj, fitO, if_neg e], _, hFj, by have := knj.len; rw [List.length_map]; omega⟩⟩
      · exact iteF ⟨false, _, _, rfl, e2, .inr ⟨rfl, hno, kvs, hFj, by omega⟩⟩
    | var y =>
      refine iteT ?_
      have hFd : ∃ kvs, H2 F = some (.dK kvs) ∧ kvs.length ≤ 200 + j := by
        rcases inv with ⟨_, mj, hFj, knj, _⟩ | ⟨_, _, kvs, hFj, hkl⟩
        · exact ⟨_, hFj, by have := knj.len; rw [List.length_map]; omega⟩
        · exact ⟨kvs, hFj, hkl⟩
      obtain ⟨kvs0, hF0, hkl0⟩ := hFd
      refine ⟨_, rfl, F, rfl, .inl ⟨_, .inl hF0⟩, _, rfl, _, rfl, tt, _, _, _, rfl, rfl, SqT.of hxt2, hix, c, _, _, _, rfl, rfl, SqT.of hc, rfl, _, rfl, pa, _, _, _, rfl, rfl, SqT.of hpa2, rfl, _, rfl, rwa, _, _, _, rfl, rfl, SqT.of hrw2, hrix, _, DGet.k (k := Sum.inr y) hF0, ?_⟩
      refine ⟨_, rfl, pa, _, _, _, rfl, rfl, SqT.of hpa2, rfl, _, rfl, rwa, _, _, _, rfl, rfl, SqT.of hrw2, hrix, _, rfl, _, rfl, _, rfl, tt, _, _, _, rfl, rfl, SqT.of hxt2, hix, c, _, _, _, rfl, rfl, SqT.of hc, rfl, F, _, rfl, DPut.k (k := Sum.inr y) hF0 (by rw [sizeLine_eq]; omega), ?_⟩
      have tk3 : TK H2 (upd H2 F (.dK (putK kvs0 (Sum.inr y) (L2.kV vj)))) := ExB.upd.tk fun ys z => by rw [hF0] at z; cases z
      have hF3 : upd H2 F (.dK (putK kvs0 (Sum.inr y) (L2.kV vj))) F = some (.dK (putK kvs0 (Sum.inr y) (L2.kV vj))) := upd_same
      have e3 : ExB F H1 (upd H2 F (.dK (putK kvs0 (Sum.inr y) (L2.kV vj)))) := e2.trans ExB.upd
      have hlp := length_putK kvs0 (Sum.inr y) (L2.kV vj)
      refine ⟨_, rfl, b, rfl, ?_⟩
      rcases inv with ⟨rfl, mj, hFj, knj, hfj⟩ | ⟨rfl, hno, kvs, hFj, hkl⟩
      · rw [hF0] at hFj
        cases hFj
        rw [valV_kn]
        cases hy : lk mj y with
        | none =>
          refine iteT ⟨_, rfl, vj, rfl, rpr_log hvok, rpr_len hvok, _, rfl, pa, _, _, _, rfl, rfl, SqT.of (tk3 _ _ hpa2), rfl, _, rfl, rwa, _, _, _, rfl, rfl, SqT.of (tk3 _ _ hrw2), hrix, vj, rfl, rpr_log hvok, rpr_len hvok, rfl, ?_⟩
          rw [show decide (V.str (rpr vj) = V.str (rpr vj)) = true from decide_eq_true rfl]
          refine ⟨true, _, _, rfl, e3, .inl ⟨rfl, mj ++ [(y, vj)], by rw [hF3, putK_app hy], ⟨?_, fun e' he => ?_, by have := knj.len; rw [List.length_append, List.length_singleton]; omega⟩, by rw [hfj, fitO, hy]⟩⟩
          · rw [List.map_append]
            exact nd_snoc knj.nd (lk_none.mp hy)
          · rcases List.mem_append.mp he with he | he
            · exact knj.ok _ he
            · rw [List.mem_singleton.mp he]; exact hvok
        | some t0 =>
          have ht0 : VOk t0 := knj.ok _ (lk_mem hy)
          refine iteT ⟨_, rfl, t0, rfl, rpr_log ht0, rpr_len ht0, _, rfl, pa, _, _, _, rfl, rfl, SqT.of (tk3 _ _ hpa2), rfl, _, rfl, rwa, _, _, _, rfl, rfl, SqT.of (tk3 _ _ hrw2), hrix, vj, rfl, rpr_log hvok, rpr_len hvok, rfl, ?_⟩
          by_cases e : t0 = vj
          · subst e
            rw [show decide (V.str (rpr t0) = V.str (rpr t0)) = true from decide_eq_true rfl]
            refine ⟨true, _, _, rfl, e3, .inl ⟨rfl, mj, by rw [hF3, putK_same knj.nd hy], ⟨knj.nd, knj.ok, by have := knj.len; omega⟩, by rw [hfj, fitO, hy]; simp⟩⟩
          · rw [show decide (V.str (rpr t0) = V.str (rpr vj)) = false from decide_eq_false fun z => e (rpr_inj ht0 hvok (V.str.inj z))]
            refine ⟨false, _, _, rfl, e3, .inr ⟨rfl, by rw [hfj, fitO, hy]; simp [e], _, hF3, by omega⟩⟩
      · exact iteF ⟨false, _, _, rfl, e3, .inr ⟨rfl, hno, _, hF3, by omega⟩⟩
  · rintro σ H2 ⟨b, x9, x10, rfl, e2, inv⟩
    refine k H2 b _ _ e2 ?_
    rcases inv with ⟨rfl, mj, hFj, knj, hfj⟩ | ⟨rfl, hno, _⟩
    · refine .inl ⟨rfl, mj, hFj, ?_⟩
      have e1 : (((xs.length : Nat) : Int)).toNat = a.2.length := by rw [Int.toNat_natCast, hxl]
      rw [hfj, e1, List.drop_length, hlen, List.drop_length]
      rw [fitO] <;> (intros; contradiction)
    · exact .inr ⟨rfl, hno⟩
end
end Ew
set_option Elab.async false
set_option linter.all false
set_option maxRecDepth 100000
set_option maxHeartbeats 2000000
/-! _law_means: the walk -/
namespace Ew
open PySem PySem.Spec PyProof.Rows L2 RZ
abbrev Rws : Type := Str → List (Int × List L2.Key)
abbrev Way : Type := List L2.Key × List Int
def numsK (ns : List Int) : NK := .tup (ns.map .num)
def wayK (w : Way) : NK := .tup [rowK w.1, numsK w.2]
def LAt (H : Hp) (l : Addr) (rs : List (Int × List L2.Key)) : Prop := ∃ vs, H l = some (.lst vs) ∧ Ats H (rs.map nrK) vs
def RowsAt (H : Hp) (ra : Addr) (R : Rws) : Prop := ∃ le lp, H ra = some (.dK [(Sum.inr "e", .ref le), (Sum.inr "p", .ref lp)]) ∧ LAt H le (R "e") ∧ LAt H lp (R "p")
def RowsOk (R : Rws) : Prop := ∀ t, NmTab t → (R t).length ≤ 10 ∧ ∀ pr ∈ R t, (pr.2.length : Int) = arOf t ∧ ∀ v ∈ pr.2, VOk v
structure WaysOk (R : Rws) (hd : List Str) (as : List Atom) (m : Kn) (ws : List Way) : Prop where
  snd : ∀ w ∈ ws, Ans R hd as m w.1 ∧ w.2.length = as.length
  cpl : ∀ row, Ans R hd as m row → ∃ w ∈ ws, w.1 = row
  len : ws.length ≤ 10 ^ as.length
theorem LAt.ex {H H' : Hp} {l : Addr} {rs : List (Int × List L2.Key)} (h : LAt H l rs) (k : Ex H H') : LAt H' l rs := by
  obtain ⟨vs, h1, h2⟩ := h
  exact ⟨vs, k _ _ h1, Ats.mono k.tk _ _ h2⟩
theorem RowsAt.ex {H H' : Hp} {ra : Addr} {R : Rws} (h : RowsAt H ra R) (k : Ex H H') : RowsAt H' ra R := by
  obtain ⟨le, lp, h1, h2, h3⟩ := h
  exact ⟨le, lp, k _ _ h1, h2.ex k, h3.ex k⟩
theorem RowsAt.get {H : Hp} {ra : Addr} {R : Rws} (h : RowsAt H ra R) {t : Str} (ht : NmTab t) : ∃ l, DGet H ra (.str t) (some (.ref l)) ∧ LAt H l (R t) := by
  obtain ⟨le, lp, h1, h2, h3⟩ := h
  rcases ht with rfl | rfl
  · refine ⟨le, ?_, h2⟩
    have := DGet.k (k := Sum.inr "e") h1
    rw [valV_pos rfl] at this
    exact this
  · refine ⟨lp, ?_, h3⟩
    have := DGet.k (k := Sum.inr "p") h1
    rw [valV_neg ne_ep, valV_pos rfl] at this
    exact this
def appW (k : Int) (w : Way) : Way := (w.1, w.2 ++ [k])
structure WInv (R : Rws) (hd : List Str) (a : Atom) (as : List Atom) (m : Kn) (i : Nat) (ws : List Way) : Prop where
  snd : ∀ w ∈ ws, (∃ pr ∈ (R a.1).take i, ∃ m', fitO a.2 pr.2 m = some m' ∧ Ans R hd as m' w.1) ∧ w.2.length = as.length + 1
  cpl : ∀ pr ∈ (R a.1).take i, ∀ m', fitO a.2 pr.2 m = some m' → ∀ row, Ans R hd as m' row → ∃ w ∈ ws, w.1 = row
  len : ws.length ≤ i * 10 ^ as.length
theorem WInv.skip {R : Rws} {hd : List Str} {a : Atom} {as : List Atom} {m : Kn} {i : Nat} {ws : List Way} {pr : Int × List L2.Key} (h : WInv R hd a as m i ws) (e : (R a.1)[i]? = some pr) (hn : fitO a.2 pr.2 m = none) : WInv R hd a as m (i + 1) ws := by
  refine ⟨fun w hw => ?_, fun pr' hp m' hm row hr => ?_, Nat.le_trans h.len (Nat.mul_le_mul_right _ (Nat.le_succ i))⟩
  · obtain ⟨⟨pr', hp, z⟩, h2⟩ := h.snd w hw
    exact ⟨⟨pr', by rw [take_snoc e]; exact List.mem_append_left _ hp, z⟩, h2⟩
  · rw [take_snoc e] at hp
    rcases List.mem_append.mp hp with hp | hp
    · exact h.cpl pr' hp m' hm row hr
    · rw [List.mem_singleton.mp hp, hn] at hm
      cases hm
theorem WInv.add {R : Rws} {hd : List Str} {a : Atom} {as : List Atom} {m m' : Kn} {i : Nat} {ws ws' : List Way} {pr : Int × List L2.Key} {k : Int} (h : WInv R hd a as m i ws) (e : (R a.1)[i]? = some pr) (hm : fitO a.2 pr.2 m = some m') (hw : WaysOk R hd as m' ws') :
    WInv R hd a as m (i + 1) (ws ++ ws'.map (appW k)) := by
  refine ⟨fun w hw' => ?_, fun pr' hp m2 hm2 row hr => ?_, by have := h.len; have := hw.len; rw [List.length_append, List.length_map, Nat.succ_mul]; omega⟩
  · rcases List.mem_append.mp hw' with hw' | hw'
    · obtain ⟨⟨pr', hp, z⟩, h2⟩ := h.snd w hw'
      exact ⟨⟨pr', by rw [take_snoc e]; exact List.mem_append_left _ hp, z⟩, h2⟩
    · obtain ⟨w0, hw0, rfl⟩ := List.mem_map.mp hw'
      obtain ⟨k1, k2⟩ := hw.snd w0 hw0
      refine ⟨⟨pr, by rw [take_snoc e]; simp, m', hm, k1⟩, ?_⟩
      show (w0.2 ++ [k]).length = _
      rw [List.length_append, List.length_singleton, k2]
  · rw [take_snoc e] at hp
    rcases List.mem_append.mp hp with hp | hp
    · obtain ⟨w, h1, h2⟩ := h.cpl pr' hp m2 hm2 row hr
      exact ⟨w, List.mem_append_left _ h1, h2⟩
    · rw [List.mem_singleton.mp hp, hm] at hm2
      cases hm2
      obtain ⟨w, h1, h2⟩ := hw.cpl row hr
      exact ⟨appW k w, List.mem_append_right _ (List.mem_map.mpr ⟨w, h1, rfl⟩), h2⟩
theorem WInv.done {R : Rws} {hd : List Str} {a : Atom} {as : List Atom} {m : Kn} {ws : List Way} (h : WInv R hd a as m (R a.1).length ws) (hl : ∀ pr ∈ R a.1, a.2.length = pr.2.length) (h10 : (R a.1).length ≤ 10) : WaysOk R hd (a :: as) m ws := by
  refine ⟨fun w hw => ?_, fun row hr => ?_, ?_⟩
  · obtain ⟨⟨pr, hp, m', hm, hr⟩, h2⟩ := h.snd w hw
    rw [List.take_length] at hp
    exact ⟨(ans_cons hl).mpr ⟨pr, hp, m', hm, hr⟩, h2⟩
  · obtain ⟨pr, hp, m', hm, hr'⟩ := (ans_cons hl).mp hr
    exact h.cpl pr (by rw [List.take_length]; exact hp) m' hm row hr'
  · have := h.len
    have h2 := Nat.mul_le_mul_right (10 ^ as.length) h10
    rw [List.length_cons, Nat.pow_succ]
    omega
section
variable {P : Program} {w : World} {K : PySem.W.Frag} {mg : Str → Option Value} {base : Heap} {C D : Addr}
def spMeans (n : Nat) : Sp := fun vs H Q _ => ∃ (v : V) (ra ka : Addr) (hd : List Str) (as : List Atom) (m : Kn) (R : Rws), vs = [v, .ref ra, .ref ka] ∧ At H (ruleK (hd, as)) v ∧ as.length = n ∧ n ≤ 5 ∧ RowsAt H ra R ∧ RowsOk R ∧ H ka = some (.dK (m.map entV)) ∧ KnOk (100 - 2 * n) m ∧
  (∀ a ∈ as, AtomOk a) ∧ (∀ x ∈ hd, x ∈ m.map (·.1) ∨ x ∈ varsA as) ∧ hd.length ≤ 2 ∧
  ∀ (H' : Hp) (l : Addr) (ws : List Way) (xs : List V), Ex H H' → H l = none → H' l = some (.lst xs) → Ats H' (ws.map wayK) xs → WaysOk R hd as m ws → Q (.ref l) H'
theorem ok_means0 (T : Txt K mg C D) : Cal P w K mg base 1 "_law_means" (spMeans 0) := by
  refine cal_of T.fLawMeans (fun _ _ _ _ _ _ us hl => match us, hl with | [_, _, _], _ => rfl) sc_lawMeans (fun vs H Q E h => ?_) (fun f cdv A outer s H vs Q E hr h => ?_)
  · obtain ⟨v, ra, ka, _, _, _, _, rfl, _⟩ := h
    rfl
  · obtain ⟨v, ra, ka, hd, as, m, R, rfl, hv, has, hn5, hra, rok, hka, kn, aok, hh, hd2, kf⟩ := h
    obtain rfl : as = [] := List.length_eq_zero_iff.mp has
    obtain ⟨a, hda, aa, xs, rfl, ha, hhd, haa, hA⟩ := at_rule hv
    obtain rfl : xs = [] := hA
    refine ⟨_, pss_cons (ps_if (pt_cmpR op_eq (pe_callB call_len_seq (by rfl) T.n_len (by decide +kernel) (pa_cons (pe_ix (ixT K) (pv 0) pe_int (fun _ _ => rfl)) pa_nil)) pe_int (nomark _))
        (pss_one (ps_ret (pe_lst (pa_cons (pe_tup (pa_cons (pe_callTy call_tuple_of (by rfl) T.n_tuple (by decide +kernel) (pa_cons (pe_lc (own := [("_law_name", 12)]) (g := gName 12) (tt := tYes) rfl sc_lawMeans.nd (pi_tup (pe_ix (ixT K) (pv 0) pe_int (fun _ _ => rfl)))
          (blkOk_by (N := NLm) (sc := defScope sLawMeans) (by decide +kernel)) (fun _ _ _ _ _ => pg_name (i := 12) sc_lawMeans.nd rfl (Or.inl rfl)) (fun _ _ _ _ _ => pts_nil)
          (fun _ _ _ _ _ => pe_dget (hu_of hr) (pv 2) (pv 12) (fun _ _ => rfl))) pa_nil)) (pa_cons (pe_tup pa_nil) pa_nil))) pa_nil)))) pss_nil) pss_false, ?_⟩
    refine ⟨_, rfl, a, _, _, _, rfl, rfl, SqT.of ha, rfl, aa, _, rfl, .inr (SqT.of haa), rfl, _, rfl, ?_⟩
    refine iteT ?_
    refine ⟨_, rfl, a, _, _, _, rfl, rfl, SqT.of ha, rfl, hda, rfl, ⟨_, SqT.of hhd⟩, fun L nL => ?_⟩
    have hkeys : ∀ x ∈ hd, x ∈ m.map (·.1) := fun x hx => by
      rcases hh x hx with h | h
      · exact h
      · simp [varsA] at h
    refine lc_map (walk_tup (xs := hd.map V.str)) S0 (fun _ => True) (fun _ i y => ∃ x, hd[i]? = some x ∧ y = L2.kV ((lk m x).getD (.inl 0))) nL (by rw [List.length_map, sizeLine_eq]; omega) (fun z => z) trivial (fun _ _ _ _ _ => trivial) (fun H9 _ hE _ => SqT.of (hE.ex _ _ hhd)) (fun _ _ _ _ kk h => h) ?_ ?_
    · rintro j z H9 H10 hj _ hE hT ⟨rfl, hzj⟩ Q' hQ
      rw [List.length_map] at hj
      have hyj : hd[j]? = some hd[j] := List.getElem?_eq_getElem hj
      rw [List.getElem?_map, hyj] at hzj
      obtain rfl := (Option.some.inj hzj).symm
      obtain ⟨k, hk⟩ : ∃ k, lk m hd[j] = some k := by
        cases e : lk m hd[j] with
        | some k => exact ⟨k, rfl⟩
        | none => exact absurd (hkeys _ (List.getElem_mem hj)) (lk_none.mp e)
      have hg : DGet H10 ka (.str hd[j]) (some (L2.kV k)) := by
        have := DGet.k (k := Sum.inr hd[j]) (hE.ex _ _ hka)
        rw [valV_kn, hk] at this
        exact this
      refine ⟨rfl, _, rfl, _, rfl, ka, _, rfl, hg, hQ _ _ ExS.refl TK.refl trivial ⟨_, hyj, ?_⟩⟩
      rw [hk]
      rfl
    · intro H1 us _ hE hT hL hul huR
      rw [List.length_map] at hul
      have hus := ys_map (f := fun x => L2.kV ((lk m x).getD (.inl 0))) (xs := hd) (by omega) fun i y h => huR i y h
      refine ⟨L, us, rfl, .inl ⟨SqL.of hL, fun rw0 nrw => ⟨Nat.zero_le _, fun em nem => ⟨two_le, fun p np => ⟨by show 1 ≤ sizeLine; decide, fun l nl => ?_⟩⟩⟩⟩⟩
      have e1 := hE.ex
      have e2 : Ex H1 (upd H1 rw0 (.tup us)) := Ex.new nrw
      have k2 : At (upd H1 rw0 (.tup us)) (rowK (hd.map fun x => (lk m x).getD (.inl 0))) (.ref rw0) := at_row.mpr ⟨rw0, rfl, by rw [upd_same, hus, List.map_map]; rfl⟩
      generalize upd H1 rw0 (.tup us) = H2 at e2 k2 nem np nl ⊢
      have e3 : Ex H2 (upd H2 em (.tup [])) := Ex.new nem
      have k3 : At (upd H2 em (.tup [])) (numsK []) (.ref em) := ⟨em, [], rfl, upd_same, rfl⟩
      generalize upd H2 em (.tup []) = H3 at e3 k3 np nl ⊢
      have e4 : Ex H3 (upd H3 p (.tup [.ref rw0, .ref em])) := Ex.new np
      have k4 : At (upd H3 p (.tup [.ref rw0, .ref em])) (wayK (hd.map (fun x => (lk m x).getD (.inl 0)), [])) (.ref p) := at_pair.mpr ⟨p, _, _, rfl, upd_same, At.mono (e3.trans e4).tk _ _ k2, At.mono e4.tk _ _ k3⟩
      generalize upd H3 p (.tup [.ref rw0, .ref em]) = H4 at e4 k4 nl ⊢
      have e14 := e1.trans (e2.trans (e3.trans e4))
      refine kf _ l [(hd.map (fun x => (lk m x).getD (.inl 0)), [])] [.ref p] (e14.trans (Ex.new nl)) (e14.free nl) upd_same (Ats.one (At.mono (tk_new nl) _ _ k4)) ⟨fun w hw => ?_, fun row hrow => ⟨_, List.mem_singleton.mpr rfl, ((ans_nil hkeys).mp hrow).symm⟩, Nat.le_refl _⟩
      rw [List.mem_singleton.mp hw]
      exact ⟨(ans_nil hkeys).mpr rfl, rfl⟩
end
end Ew
set_option Elab.async false
set_option linter.all false
set_option maxRecDepth 100000
set_option maxHeartbeats 4000000
/-! _law_means: the step -/
namespace Ew
open PySem PySem.Spec PyProof.Rows L2 RZ
theorem Ats.nums {H : Hp} : ∀ {ns : List Int} {xs : List V}, Ats H (ns.map .num) xs ↔ xs = ns.map V.int
  | [], _ => Iff.rfl
  | k :: r, xs => by
    constructor
    · rintro ⟨v, ys, rfl, h1, h2⟩
      rw [Ats.nums.mp h2, List.map_cons]
      cases h1
      rfl
    · rintro rfl
      exact ⟨_, _, rfl, rfl, Ats.nums.mpr rfl⟩
theorem pow10 {n : Nat} (h : n ≤ 5) : 10 ^ n ≤ 100000 := Nat.le_trans (Nat.pow_le_pow_right (by decide) h) (by decide)
section
variable {P : Program} {w : World} {K : PySem.W.Frag} {mg : Str → Option Value} {base : Heap} {C D : Addr}
theorem ok_means1 (T : Txt K mg C D) {n : Nat} (GM : Cal P w K mg base (n + 1) "_law_means" (spMeans n)) : Cal P w K mg base (n + 2) "_law_means" (spMeans (n + 1)) := by
  refine cal_of T.fLawMeans (fun _ _ _ _ _ _ us hl => match us, hl with | [_, _, _], _ => rfl) sc_lawMeans (fun vs H Q E h => ?_) (fun f cdv A outer s H vs Q E hr h => ?_)
  · obtain ⟨v, ra, ka, _, _, _, _, rfl, _⟩ := h
    rfl
  · obtain ⟨v, ra, ka, hd, as0, m, R, rfl, hv, has, hn5, hra, rok, hka, kn, aok, hh, hd2, kf⟩ := h
    obtain ⟨a0, as, rfl⟩ : ∃ a0 as, as0 = a0 :: as := by
      cases as0 with
      | nil => simp at has
      | cons a0 as => exact ⟨a0, as, rfl⟩
    have hasn : as.length = n := by simpa using has
    obtain ⟨a, hda, aa, xs, rfl, ha, hhd, haa, hA⟩ := at_rule hv
    have hxl : xs.length = n + 1 := by rw [hA.length, List.length_map]; exact has
    have haok := aok a0 List.mem_cons_self
    have ht0 : NmTab a0.1 := by
      rcases haok.1 with h | h
      · exact .inl h.1
      · exact .inr h.1
    obtain ⟨h10, hrows⟩ := rok a0.1 ht0
    have hal : ∀ pr ∈ R a0.1, a0.2.length = pr.2.length := fun pr hp => by
      have h1 := (hrows pr hp).1
      rcases haok.1 with h | h
      · rw [h.1] at h1
        have : arOf "e" = 2 := by decide +kernel
        omega
      · rw [h.1] at h1
        have : arOf "p" = 1 := by decide +kernel
        omega
    have ha2 : a0.2.length ≤ 2 := by rcases haok.1 with h | h <;> omega
    refine ⟨_, pss_cons (ps_if (pt_cmpR op_eq (pe_callB call_len_seq (by rfl) T.n_len (by decide +kernel) (pa_cons (pe_ix (ixT K) (pv 0) pe_int (fun _ _ => rfl)) pa_nil)) pe_int (nomark _)) pss_false pss_nil)
      (pss_cons (ps_set (i := 3) sc_lawMeans.nd rfl (Or.inl rfl) (pe_lst pa_nil))
      (pss_cons (ps_asg (pe_ix (ixT K) (pe_ix (ixT K) (pv 0) pe_int (fun _ _ => rfl)) pe_int (fun _ _ => rfl)) (pgT K rfl (pgs_cons (pg_name (i := 4) sc_lawMeans.nd rfl (Or.inl rfl)) (pgs_cons (pg_name (i := 5) sc_lawMeans.nd rfl (Or.inl rfl)) pgs_nil))))
      (pss_cons (ps_for PassesOwn.never rfl (pi_list (pe_dget (hu_of hr) (pv 1) (pv 4) (fun _ _ => rfl))) (pg_name (i := 6) sc_lawMeans.nd rfl (Or.inl rfl))
        (pss_cons (ps_set (i := 7) sc_lawMeans.nd rfl (Or.inl rfl) (pe_callTy call_dictD (by rfl) T.n_dict (by decide +kernel) (pa_cons (pv 2) pa_nil)))
        (pss_cons (ps_set (i := 8) sc_lawMeans.nd rfl (Or.inl rfl) pe_bl)
        (pss_cons (ps_weak (t' := fun D σ H => ∃ pr m, tFit a0 pr m D σ H) (t := fun D σ H => ∃ pr m, tFit a0 pr m D σ H) ⟨fun pins s' σ H' D' I ⟨pr, m, q⟩ => (means_fit (s := s) (H := H) (E := E) T hr).run pins s' σ H' D' I q⟩ (fun _ _ _ h => h))
        (pss_one (ps_if (pt_val (pv 8))
          (pss_one (ps_for PassesOwn.never rfl (pi_list (pe_c (X := XLm P w K mg base f cdv A outer s H E) GM hr (Nat.le_refl _) (by rfl) (pa_cons (pe_tup (pa_cons (pe_ix (ixT K) (pv 0) pe_int (fun _ _ => rfl)) (pa_cons (pe_slice sl_tupA (pe_ix (ixT K) (pv 0) pe_int (fun _ _ => rfl)) (po_some pe_int) po_none) pa_nil))) (pa_cons (pv 1) (pa_cons (pv 7) pa_nil))))) (pg_name (i := 11) sc_lawMeans.nd rfl (Or.inl rfl))
            (pss_one (ps_expr (pe_bm PySem.F.plainAttrs_list PySem.F.slot_list_append PySem.F.type_list_append mt_append (pv 3) (pa_cons (pe_tup (pa_cons (pe_ix (ixT K) (pv 11) pe_int (fun _ _ => rfl)) (pa_cons (pe_op op_catA (pe_ix (ixT K) (pv 11) pe_int (fun _ _ => rfl)) (pe_tup (pa_cons (pe_ix (ixT K) (pv 6) pe_int (fun _ _ => rfl)) pa_nil))) pa_nil))) pa_nil)))))) pss_nil))))))
      (pss_one (ps_ret (pv 3)))))), ?_⟩
    refine ⟨_, rfl, a, _, _, _, rfl, rfl, SqT.of ha, rfl, aa, _, rfl, .inr (SqT.of haa), rfl, _, rfl, ?_⟩
    have d0 : decide (V.int ((xs.length : Nat) : Int) = V.int 0) = false := by
      rw [hxl]
      exact decide_eq_false fun z => by have := V.int.inj z; omega
    rw [d0]
    refine iteF ⟨Nat.zero_le _, fun fl nfl => ?_⟩
    have e0 : Ex H (upd H fl (.lst [])) := Ex.new nfl
    have hfl0 : upd H fl (.lst []) fl = some (.lst []) := upd_same
    generalize upd H fl (.lst []) = H0 at e0 hfl0 ⊢
    obtain ⟨x0, xr, rfl, hx0, hxr⟩ := id hA
    obtain ⟨c, tt, ys, rfl, hc, htt, hys⟩ := at_atom hx0
    refine ⟨_, rfl, a, _, _, _, rfl, rfl, SqT.of (e0 _ _ ha), rfl, aa, _, _, _, rfl, rfl, SqT.of (e0 _ _ haa), atI_nat (j := 0) rfl, c, _, rfl, SqT.of (e0 _ _ hc), rfl, _, _, rfl, _, _, rfl, rfl, ?_⟩
    obtain ⟨lr, _, vr, hvr, hvrs⟩ := hra.get ht0
    obtain ⟨lr, hg, vr, hvr, hvrs⟩ : ∃ l, DGet H0 ra (.str a0.1) (some (.ref l)) ∧ LAt H l (R a0.1) := by
      obtain ⟨le, lp, q1, q2, q3⟩ := hra
      have q4 := e0 _ _ q1
      rcases ht0 with h | h
      · rw [h]
        refine ⟨le, ?_, q2⟩
        have := DGet.k (k := Sum.inr "e") q4
        rw [valV_pos rfl] at this
        exact this
      · rw [h]
        refine ⟨lp, ?_, q3⟩
        have := DGet.k (k := Sum.inr "p") q4
        rw [valV_neg ne_ep, valV_pos rfl] at this
        exact this
    refine ⟨_, rfl, _, rfl, ra, _, rfl, hg, lr, rfl, ⟨_, SqL.of (e0 _ _ hvr)⟩, ?_⟩
    have hvl : vr.length = (R a0.1).length := by rw [hvrs.length, List.length_map]
    have p10 := pow10 (n := as.length) (by omega)
    refine for_list (xs := vr) (fun i σ H1 => ∃ (x6 x7 x8 x9 x10 x11 x12 : Option V) (ws : List Way) (vf : List V), σ = [some (.ref a), some (.ref ra), some (.ref ka), some (.ref fl), some (.str a0.1), some (.ref tt), x6, x7, x8, x9, x10, x11, x12] ∧ Ex H H1 ∧ H1 fl = some (.lst vf) ∧ Ats H1 (ws.map wayK) vf ∧ WInv R hd a0 as m i ws)
      ⟨_, _, _, _, _, _, _, [], [], rfl, e0, hfl0, rfl, ⟨fun w hw => by simp at hw, fun pr hp => by simp at hp, Nat.zero_le _⟩⟩ (fun i σ H1 _ ⟨_, _, _, _, _, _, _, _, _, _, e, _⟩ => SqL.of (e _ _ hvr)) ?_ ?_
    · rintro i x σ H1 hx ⟨x6, x7, x8, x9, x10, x11, x12, ws, vf, rfl, e1, hfl, hvf, winv⟩
      obtain ⟨pr, hpr, hpx⟩ := hvrs.at hx
      have hpmem := List.mem_of_getElem? hpr
      have hi10 : i < 10 := by have := (List.getElem?_eq_some_iff.mp hpr).1; omega
      obtain ⟨pa, _, _, rfl, hpa, z, hprow⟩ := at_pair.mp hpx
      cases z
      refine ⟨_, rfl, ka, _, rfl, .inl (e1 _ _ hka), fun F nF => ?_⟩
      have e2 : Ex H (upd H1 F (.dK (m.map entV))) := e1.trans (Ex.new nF)
      refine ⟨pr, m, _, _, _, _, _, _, _, _, _, tt, pa, F, rfl, ⟨tt, ys, rfl, e2 _ _ htt, Ats.mono e2.tk _ _ hys⟩, At.mono e2.tk _ _ hpx, upd_same, ⟨kn.nd, kn.ok, by have := kn.len; omega⟩, haok.2, hal pr hpmem, ha2, (hrows pr hpmem).2, fun H3 b x9 x10 e3 hend => ?_⟩
      have e13 : Ex H1 H3 := fun b' o q => e3 b' o (ne_of_none q nF) ((Ex.new nF) _ _ q)
      have e03 := e1.trans e13
      have hfl3 := e13 _ _ hfl
      refine ⟨_, rfl, b, rfl, ?_⟩
      rcases hend with ⟨rfl, m', hF3, hfit⟩ | ⟨rfl, hno⟩
      · have ha3 := e03 _ _ ha
        refine iteT ⟨_, rfl, a, _, _, _, rfl, rfl, SqT.of ha3, rfl, _, rfl, a, _, _, _, rfl, rfl, SqT.of ha3, rfl, 1, rfl, ?_⟩
        unfold tNoPart
        refine slA_drop1 (ks := (a0 :: as).map atomK) ⟨aa, _, rfl, e03 _ _ haa, Ats.mono e03.tk _ _ hA⟩ fun H4 v4 e4 hv4 => ⟨two_le, fun t nt => ?_⟩
        have e5 : Ex H3 (upd H4 t (.tup [.ref hda, v4])) := e4.trans (Ex.new nt)
        have k5 : At (upd H4 t (.tup [.ref hda, v4])) (ruleK (hd, as)) (.ref t) := at_pair.mpr ⟨t, _, _, rfl, upd_same, at_head.mpr ⟨hda, rfl, e5 _ _ (e03 _ _ hhd)⟩, At.mono (tk_new nt) _ _ hv4⟩
        generalize upd H4 t (.tup [.ref hda, v4]) = H5 at e5 k5 ⊢
        have e05 := e03.trans e5
        obtain ⟨kn', hkk, hkv⟩ := fitO_ok hfit (hal pr hpmem) (hrows pr hpmem).2 kn
        refine ⟨_, rfl, _, rfl, .ref t, ra, F, hd, as, m', R, rfl, k5, hasn, by omega, hra.ex e05, rok, e5 _ _ hF3, ⟨kn'.nd, kn'.ok, by have := kn'.len; omega⟩, fun b hb => aok b (List.mem_cons_of_mem _ hb), fun x hx => ?_, hd2, fun H6 l ws' xs' e6 nl hl hxs' hw' => ⟨l, rfl, ⟨_, SqL.of hl⟩, ?_⟩⟩
        · rcases hh x hx with h | h
          · exact .inl (hkk x h)
          · unfold varsA at h
            rw [List.flatMap_cons] at h
            rcases List.mem_append.mp h with h | h
            · obtain ⟨t', ht', et⟩ := List.mem_filterMap.mp h
              rw [varOf_ok et] at ht'
              exact .inl (hkv x ht')
            · exact .inr h
        · have e36 := e5.trans e6
          have hlfl : l ≠ fl := fun z => by rw [z, e5 _ _ hfl3] at nl; cases nl
          have hxl' : xs'.length = ws'.length := by rw [hxs'.length, List.length_map]
          have hfl6 := e36 _ _ hfl3
          refine for_list (xs := xs') (fun q σ H7 => ∃ (x11 : Option V) (vf' : List V), σ = [some (.ref a), some (.ref ra), some (.ref ka), some (.ref fl), some (.str a0.1), some (.ref tt), some (.ref pa), some (.ref F), some (.bl true), x9, x10, x11, x12] ∧ ExB fl H6 H7 ∧ H7 fl = some (.lst vf') ∧ Ats H7 ((ws ++ (ws'.take q).map (appW pr.1)).map wayK) vf')
            ⟨_, vf, rfl, fun _ _ _ e => e, hfl6, by simpa using Ats.mono (e13.trans e36).tk _ _ hvf⟩ (fun q σ H7 _ ⟨_, _, _, e, _⟩ => SqL.of (e _ _ hlfl hl)) ?_ ?_
          · rintro q y σ H7 hy ⟨x11, vf', rfl, e7, hfl7, hvf'⟩
            obtain ⟨w0, hw0, hwx⟩ := hxs'.at hy
            have tk7 : TK H6 H7 := e7.tk fun zs z => by rw [hfl6] at z; cases z
            obtain ⟨wa, rv, nv, rfl, hwa, hrv, hnv⟩ := at_pair.mp (At.mono tk7 _ _ hwx)
            have hw5 : w0.2.length = as.length := (hw'.snd w0 (List.mem_of_getElem? hw0)).2
            have hpa7 := tk7 _ _ (e36 _ _ (e03 _ _ hpa))
            refine ⟨_, rfl, .inl ⟨rfl, _, SqL.of hfl7⟩, _, rfl, wa, _, _, _, rfl, rfl, SqT.of hwa, rfl, _, rfl, wa, _, _, _, rfl, rfl, SqT.of hwa, rfl, _, rfl, pa, _, _, _, rfl, rfl, SqT.of hpa7, rfl, by show 1 ≤ sizeLine; decide, fun u nu => ?_⟩
            have e8 : Ex H7 (upd H7 u (.tup [.int pr.1])) := Ex.new nu
            have k8 : At (upd H7 u (.tup [.int pr.1])) (.tup [.num pr.1]) (.ref u) := ⟨u, _, rfl, upd_same, _, _, rfl, rfl, rfl⟩
            generalize upd H7 u (.tup [.int pr.1]) = H8 at e8 k8 ⊢
            refine catA_of (At.mono e8.tk _ _ hnv) k8 (by rw [List.length_map]; show _ + 1 ≤ _; omega) fun H9 v9 e9 hv9 => ⟨two_le, fun p np => ?_⟩
            have e10 : Ex H7 (upd H9 p (.tup [rv, v9])) := e8.trans (e9.trans (Ex.new np))
            have k10 : At (upd H9 p (.tup [rv, v9])) (wayK (appW pr.1 w0)) (.ref p) := at_pair.mpr ⟨p, _, _, rfl, upd_same, At.mono e10.tk _ _ hrv, by
              have : numsK (appW pr.1 w0).2 = .tup (w0.2.map .num ++ [.num pr.1]) := by
                show NestedKey.tup ((w0.2 ++ [pr.1]).map .num) = _
                rw [List.map_append]
                rfl
              rw [this]
              exact At.mono (tk_new np) _ _ hv9⟩
            generalize upd H9 p (.tup [rv, v9]) = H10 at e10 k10 ⊢
            have hfl10 := e10 _ _ hfl7
            have tk11 : TK H10 (upd H10 fl (.lst (vf' ++ [.ref p]))) := tk_lst hfl10
            have lvf : vf'.length ≤ 2000000 := by
              have z := hvf'.length
              rw [List.length_map, List.length_append, List.length_map, List.length_take] at z
              have := winv.len
              have := hw'.len
              have h9 : i * 10 ^ as.length ≤ 10 * 10 ^ as.length := Nat.mul_le_mul_right _ (by omega)
              omega
            refine ⟨fl, vf', _, rfl, rfl, hfl10, by rw [sizeLine_eq]; omega, _, vf' ++ [.ref p], rfl, fun b o nb q' => by rw [upd_ne nb]; exact e10 _ _ (e7 _ _ nb q'), upd_same, ?_⟩
            have key : ws ++ (ws'.take (q + 1)).map (appW pr.1) = (ws ++ (ws'.take q).map (appW pr.1)) ++ [appW pr.1 w0] := by
              rw [take_snoc hw0, List.map_append, List.append_assoc]
              rfl
            rw [key, List.map_append]
            exact Ats.append (Ats.mono (e10.tk.trans tk11) _ _ hvf') (Ats.one (At.mono tk11 _ _ k10))
          · rintro σ H7 ⟨x11, vf', rfl, e7, hfl7, hvf'⟩
            rw [hxl', List.take_length] at hvf'
            refine ⟨_, _, _, _, _, _, _, ws ++ ws'.map (appW pr.1), vf', rfl, fun b o q' => e7 b o (ne_of_none q' nfl) (e36 _ _ (e03 _ _ q')), hfl7, hvf', winv.add hpr hfit hw'⟩
      · exact iteF ⟨_, _, _, _, _, _, _, ws, vf, rfl, e03, hfl3, Ats.mono e13.tk _ _ hvf, winv.skip hpr hno⟩
    · rintro σ H1 ⟨x6, x7, x8, x9, x10, x11, x12, ws, vf, rfl, e1, hfl, hvf, winv⟩
      rw [hvl] at winv
      exact ⟨_, rfl, kf H1 fl ws vf e1 nfl hfl hvf (winv.done hal h10)⟩
end
end Ew
set_option Elab.async false
set_option linter.all false
set_option maxRecDepth 100000
set_option maxHeartbeats 4000000
/-! _law_ways -/
namespace Ew
open PySem PySem.Spec PyProof.Rows L2 RZ
theorem putK_keys {κ : Type} [DecidableEq κ] (kvs : List (κ × V)) (k : κ) (v : V) : (putK kvs k v).map (·.1) = if k ∈ kvs.map (·.1) then kvs.map (·.1) else kvs.map (·.1) ++ [k] := by
  unfold putK
  by_cases h : k ∈ kvs.map (·.1)
  · obtain ⟨e, he, ek⟩ := List.mem_map.mp h
    rw [if_pos h, if_pos (List.any_eq_true.mpr ⟨e, he, by simpa using ek⟩), List.map_map]
    refine List.map_congr_left fun y _ => ?_
    show (if y.1 = k then (y.1, v) else y).1 = y.1
    split <;> rfl
  · have : ¬ (kvs.any fun kv => decide (kv.1 = k)) = true := fun z => by
      obtain ⟨e, he, ek⟩ := List.any_eq_true.mp z
      exact h (List.mem_map.mpr ⟨e, he, by simpa using ek⟩)
    rw [if_neg h, if_neg this, List.map_append]
    rfl
theorem mem_putK {κ : Type} [DecidableEq κ] {kvs : List (κ × V)} {k : κ} {v : V} {e : κ × V} (h : e ∈ putK kvs k v) : e ∈ kvs ∨ e.2 = v := by
  unfold putK at h
  split at h
  · obtain ⟨y, hy, rfl⟩ := List.mem_map.mp h
    by_cases q : y.1 = k
    · rw [if_pos q]; exact .inr rfl
    · rw [if_neg q]; exact .inl hy
  · rcases List.mem_append.mp h with h | h
    · exact .inl h
    · rw [List.mem_singleton.mp h]; exact .inr rfl
theorem valV_mem {κ : Type} [DecidableEq κ] {k : κ} {v : V} : ∀ {kvs : List (κ × V)}, valV kvs k = some v → (k, v) ∈ kvs
  | [], h => by simp [valV] at h
  | e :: kvs, h => by
    by_cases q : e.1 = k
    · rw [valV_pos q] at h
      cases h
      rw [← q]
      exact List.mem_cons_self
    · rw [valV_neg q] at h
      exact List.mem_cons_of_mem _ (valV_mem h)
theorem valV_of {κ : Type} [DecidableEq κ] {k : κ} {v : V} : ∀ {kvs : List (κ × V)}, (kvs.map (·.1)).Nodup → (k, v) ∈ kvs → valV kvs k = some v
  | [], _, h => by simp at h
  | e :: kvs, nd, h => by
    rw [List.map_cons, List.nodup_cons] at nd
    by_cases q : e.1 = k
    · rw [valV_pos q]
      rcases List.mem_cons.mp h with h | h
      · rw [← h]
      · exact absurd (List.mem_map.mpr ⟨_, h, q.symm⟩) nd.1
    · rw [valV_neg q]
      rcases List.mem_cons.mp h with h | h
      · exact absurd (by rw [← h]) q
      · exact valV_of nd.2 h
theorem valV_isSome {κ : Type} [DecidableEq κ] {k : κ} {kvs : List (κ × V)} : (valV kvs k).isSome = true ↔ k ∈ kvs.map (·.1) := by
  rw [← valV_any k kvs]
  constructor
  · intro h
    obtain ⟨e, he, ek⟩ := List.any_eq_true.mp h
    exact List.mem_map.mpr ⟨e, he, by simpa using ek⟩
  · intro h
    obtain ⟨e, he, ek⟩ := List.mem_map.mp h
    exact List.any_eq_true.mpr ⟨e, he, by simpa using ek⟩
/-- the lists of ways, by rows -/
def WTab (H : Hp) (i : Nat) (kvs : List (List L2.Key × V)) : Prop := ∀ kv ∈ kvs, ∃ (l : Addr) (ts : List Addr), kv.2 = .ref l ∧ H l = some (.lst (ts.map V.ref)) ∧ ts.length ≤ i ∧ ∀ t ∈ ts, ∃ ns : List Int, ns ≠ [] ∧ H t = some (.tup (ns.map V.int))
theorem WTab.mono {H H' : Hp} {i j : Nat} {kvs : List (List L2.Key × V)} {F : Addr} {u : List (List L2.Key × V)} (h : WTab H i kvs) (hF : H F = some (.dT u)) (e : ExB F H H') (hij : i ≤ j) : WTab H' j kvs := fun kv hk => by
  obtain ⟨l, ts, h1, h2, h3, h4⟩ := h kv hk
  refine ⟨l, ts, h1, e _ _ (fun z => by rw [z, hF] at h2; cases h2) h2, by omega, fun t ht => ?_⟩
  obtain ⟨ns, h5, h6⟩ := h4 t ht
  exact ⟨ns, h5, e _ _ (fun z => by rw [z, hF] at h6; cases h6) h6⟩
theorem ers_of {H : Hp} : ∀ {kvs : List (List L2.Key × V)} {ys : List V}, ys.length = kvs.length → (∀ (i : Nat) (y : V), ys[i]? = some y → ∃ (e : ER) (v : V), kvs[i]? = some (e.2.1, v) ∧ y = .ref e.1 ∧ H e.1 = some (.tup [.ref e.2.2.1, e.2.2.2]) ∧ H e.2.2.1 = some (.tup (e.2.1.map L2.kV))) →
    ∃ es : List ER, ys = (es.map fun e => V.ref e.1) ∧ es.map (·.2.1) = kvs.map (·.1) ∧ ∀ e ∈ es, H e.1 = some (.tup [.ref e.2.2.1, e.2.2.2]) ∧ H e.2.2.1 = some (.tup (e.2.1.map L2.kV))
  | [], [], _, _ => ⟨[], rfl, rfl, fun e h => by simp at h⟩
  | [], _ :: _, h, _ => by simp at h
  | _ :: _, [], h, _ => by simp at h
  | kv :: kvs, y :: ys, h, g => by
    obtain ⟨es, h1, h2, h3⟩ := ers_of (kvs := kvs) (ys := ys) (by simpa using h) fun i z q => g (i + 1) z q
    obtain ⟨e, v, k1, rfl, k3, k4⟩ := g 0 y rfl
    cases k1
    refine ⟨e :: es, by rw [h1]; rfl, by rw [List.map_cons, List.map_cons, h2], fun e' he => ?_⟩
    rcases List.mem_cons.mp he with rfl | he
    · exact ⟨k3, k4⟩
    · exact h3 e' he
def FctsOk (F : List Fact) : Prop := F.length ≤ 10 ∧ ∀ f ∈ F, NmTab f.1 ∧ (f.2.length : Int) = arOf f.1 ∧ ∀ v ∈ f.2, VOk v
theorem rowsOf_mem {F : List Fact} {t : Str} {pr : Int × List L2.Key} (h : pr ∈ rowsOf F t) : (t, pr.2) ∈ F := by
  unfold rowsOf at h
  obtain ⟨e, he, q⟩ := List.mem_filterMap.mp h
  split at q
  · rename_i ht
    cases q
    have := List.fst_mem_of_mem_zipIdx he
    rw [← ht]
    exact this
  · cases q
theorem rowsOf_of {F : List Fact} {t : Str} {r : List L2.Key} (h : (t, r) ∈ F) : ∃ pr ∈ rowsOf F t, pr.2 = r := by
  obtain ⟨i, hi⟩ := List.mem_iff_getElem?.mp h
  refine ⟨((i : Int), r), List.mem_filterMap.mpr ⟨((t, r), i), ?_, by simp⟩, rfl⟩
  exact List.mem_iff_getElem?.mpr ⟨i, by rw [List.getElem?_zipIdx, hi]; simp⟩
theorem rowsOk_of {F : List Fact} (h : FctsOk F) : RowsOk (rowsOf F) := fun t ht => by
  refine ⟨?_, fun pr hp => ?_⟩
  · have z : (rowsOf F t).length ≤ F.zipIdx.length := List.length_filterMap_le _ _
    rw [List.length_zipIdx] at z
    have := h.1
    omega
  · obtain ⟨_, h2, h3⟩ := h.2 _ (rowsOf_mem hp)
    exact ⟨h2, h3⟩
abbrev rowsD (le lp : Addr) : List (L2.Key × V) := [(Sum.inr "e", .ref le), (Sum.inr "p", .ref lp)]
theorem merge_rows (le lp : Addr) : mergeK [] (rowsD le lp) = rowsD le lp := by
  rw [mergeK_nd (by
    show ((["e", "p"] : List Str).map Sum.inr : List L2.Key).Nodup
    decide +kernel)]
  rfl
theorem crSortTs {X : Cx} (K : PySem.W.Frag) (h : X.K = K := by rfl) : CallR X (.builtin "sorted") (rSortTs K) := by subst h; exact cr_sortTs
section
variable {P : Program} {w : World} {K : PySem.W.Frag} {mg : Str → Option Value} {base : Heap} {C D : Addr}
theorem ok_means (T : Txt K mg C D) : ∀ n, Cal P w K mg base (n + 1) "_law_means" (spMeans n)
  | 0 => ok_means0 T
  | n + 1 => ok_means1 T (ok_means T n)
def spWays (P : Program) (w : World) (C : Addr) : Sp := fun vs H Q _ => ∃ (v : V) (p ad kl tl pd : Addr) (r : Rule) (F : List Fact), vs = [v, .ref p] ∧ At H (ruleK r) v ∧ RuleOk r ∧ FcAt P w C H p ad kl tl pd F ∧ FctsOk F ∧
  ∀ (H' : Hp) (l : Addr) (kvs : List (List L2.Key × V)), Ex H H' → H' l = some (.dT kvs) → kvs.length ≤ 100000 → (∀ row, row ∈ kvs.map (·.1) ↔ Ans (rowsOf F) r.1 r.2 [] row) → Q (.ref l) H'
abbrev NLw : List Str := ["_law_rule_here", "_law_facts", "_law_rows", "_law_found", "_law_way", "_law_row"]
theorem sc_lawWays : FnScope NLw ["_law_rule_here", "_law_facts"] (defScope sLawWays) := ⟨rfl, rfl, rfl, by decide +kernel, rfl, by decide +kernel, by decide +kernel⟩
theorem ok_lawWays (T : Txt K mg C D) : Cal P w K mg base 7 "_law_ways" (spWays P w C) := by
  refine cal_of T.fLawWays (fun _ _ _ _ _ _ us hl => match us, hl with | [_, _], _ => rfl) sc_lawWays (fun vs H Q E h => ?_) (fun f cdv A outer s H vs Q E hr h => ?_)
  · obtain ⟨v, p, _, _, _, _, _, _, rfl, _⟩ := h
    rfl
  · obtain ⟨v, p, ad, kl, tl, pd, r, F, rfl, hv, ok, fc, fok, kf⟩ := h
    have i5 := ok.high
    have i1 := ok.low
    obtain ⟨dx, hp⟩ := id fc.ins
    have GM : Cal P w K mg base (r.2.length + 1) "_law_means" (spMeans r.2.length) := ok_means T r.2.length
    have GR : Met P w K mg base 2 C "rows" (spRows P w C) := ok_fRows T
    refine ⟨_, pss_cons (ps_set (i := 2) sc_lawWays.nd rfl (Or.inl rfl) (pe_disp (pps_cons pe_str (pe_mt (X := (cxOf CX0 P w K mg base NLw "_law_ways" (defScope sLawWays) f cdv A outer s H E).nox) GR hr (by decide) (pv 1) (pa_cons pe_str pa_nil)) (pps_cons pe_str (pe_mt (X := (cxOf CX0 P w K mg base NLw "_law_ways" (defScope sLawWays) f cdv A outer s H E).nox) GR hr (by decide) (pv 1) (pa_cons pe_str pa_nil)) pps_nil)) (by rfl) (by rfl) (by simp) (by decide)))
      (pss_cons (ps_set (i := 3) sc_lawWays.nd rfl (Or.inr rfl) pe_dnewT)
      (pss_cons (ps_for PassesOwn.never rfl (pi_list (pe_c (X := (cxOf CX0 P w K mg base NLw "_law_ways" (defScope sLawWays) f cdv A outer s H E).nox) GM hr (by omega) (by rfl) (pa_cons (pv 0) (pa_cons (pv 2) (pa_cons pe_dnewK pa_nil))))) (pg_name (i := 4) sc_lawWays.nd rfl (Or.inl rfl))
        (pss_one (ps_dput (hu_of hr) (pv 3) (pe_ix (ixT K) (pv 4) pe_int (fun _ _ => rfl))
          (pe_op op_cat (pe_dget2 (hu_of hr) (pv 3) (pe_ix (ixT K) (pv 4) pe_int (fun _ _ => rfl)) (pe_lst pa_nil) ⟨by rfl, by rfl, by rfl, by rfl⟩)
            (pe_lst (pa_cons (pe_callTy call_tuple_of (by rfl) T.n_tuple (by decide +kernel) (pa_cons (pe_callB cr_sortTi (by rfl) T.n_sorted (by decide +kernel) (pa_cons (pe_ix (ixT K) (pv 4) pe_int (fun _ _ => rfl)) pa_nil)) pa_nil)) pa_nil))) (by rfl))))
      (pss_one (ps_ret (pe_callTy (cr_dictT rfl hr.units) (by rfl) T.n_dict (by decide +kernel) (pa_cons (pe_lock (pe_lc (own := [("_law_row", 5)]) (g := gName 5) (tt := tYes) rfl sc_lawWays.nd (pi_keys (pv 3))
          (blkOk_by (N := NLw) (sc := defScope sLawWays) (by decide +kernel)) (fun _ _ _ _ _ => pg_name (i := 5) sc_lawWays.nd rfl (Or.inl rfl)) (fun _ _ _ _ _ => pts_nil)
          (fun _ _ _ _ _ => pe_tup (pa_cons (pv 5) (pa_cons (pe_callB (crSortTs K) (by rfl) T.n_sorted (by decide +kernel) (pa_cons (pe_dget (hu_of hr) (pv 3) (pv 5) (fun _ _ => rfl)) pa_nil)) pa_nil))))) pa_nil)))))), ?_⟩
    have l1000 : F.length ≤ 1000 := by have := fok.1; omega
    intro ra nra
    have e1 : Ex H (upd H ra (.dK [])) := Ex.new nra
    refine ⟨_, rfl, p, dx, _, rfl, e1 _ _ hp, rfl, p, ad, kl, tl, pd, "e", F, rfl, fc.ex e1, .inl rfl, l1000, fun H2 le ye e2 hle hye => ?_⟩
    have e12 := e1.trans e2
    refine ⟨_, rfl, p, dx, _, rfl, e12 _ _ hp, rfl, p, ad, kl, tl, pd, "p", F, rfl, fc.ex e12, .inr rfl, l1000, fun H3 lp yp e3 hlp hyp => ?_⟩
    have hra3 : H3 ra = some (.dK []) := (e2.trans e3) _ _ upd_same
    refine ⟨hra3, rowsD le lp, rfl, by show 2 ≤ 15; decide, ?_⟩
    rw [merge_rows]
    have hle3 := e3 _ _ hle
    have tk4 : TK H3 (upd H3 ra (.dK (rowsD le lp))) := ExB.upd.tk fun zs z => by rw [hra3] at z; cases z
    have o4 : ∀ b o, b ≠ ra → H3 b = some o → upd H3 ra (.dK (rowsD le lp)) b = some o := fun b o n e => by rw [upd_ne n]; exact e
    have hra4 : upd H3 ra (.dK (rowsD le lp)) ra = some (.dK [(Sum.inr "e", .ref le), (Sum.inr "p", .ref lp)]) := upd_same
    have e4 : Ex H (upd H3 ra (.dK (rowsD le lp))) := fun b o q => o4 _ _ (ne_of_none q nra) (e3 _ _ (e12 _ _ q))
    generalize upd H3 ra (.dK (rowsD le lp)) = H4 at tk4 o4 hra4 e4 ⊢
    have rows4 : RowsAt H4 ra (rowsOf F) := ⟨le, lp, hra4, ⟨ye, o4 _ _ (fun z => by rw [z, hra3] at hle3; cases hle3) hle3, Ats.mono (e3.tk.trans tk4) _ _ hye⟩, ⟨yp, o4 _ _ (fun z => by rw [z, hra3] at hlp; cases hlp) hlp, Ats.mono tk4 _ _ hyp⟩⟩
    intro Fd nFd
    have e5 : Ex H4 (upd H4 Fd (.dT [])) := Ex.new nFd
    have fFd : H Fd = none := e4.free nFd
    have hFd5 : upd H4 Fd (.dT []) Fd = some (.dT []) := upd_same
    generalize upd H4 Fd (.dT []) = H5 at e5 hFd5 ⊢
    refine ⟨_, rfl, _, rfl, fun ka nka => ?_⟩
    have e6 : Ex H5 (upd H5 ka (.dK [])) := Ex.new nka
    have e06 := (e4.trans e5).trans e6
    refine ⟨v, ra, ka, r.1, r.2, [], rowsOf F, rfl, At.mono e06.tk _ _ hv, rfl, i5, rows4.ex (e5.trans e6), rowsOk_of fok, upd_same, ⟨List.nodup_nil, fun e he => by simp at he, Nat.zero_le _⟩, ok.atoms, fun x hx => .inr (ok.head x hx), ok.h2, fun H7 l ws xs e7 nl hl hxs hw => ⟨l, rfl, ⟨_, SqL.of hl⟩, ?_⟩⟩
    have e07 := e06.trans e7
    have hFd7 : H7 Fd = some (.dT []) := (e6.trans e7) _ _ hFd5
    have hlF : l ≠ Fd := fun z => by rw [z, hFd7] at hl; cases hl
    have hxl : xs.length = ws.length := by rw [hxs.length, List.length_map]
    have hwl : ws.length ≤ 100000 := Nat.le_trans hw.len (pow10 i5)
    refine for_list (xs := xs) (fun i σ H8 => ∃ (x4 x5 : Option V) (kvs : List (List L2.Key × V)), σ = [some v, some (.ref p), some (.ref ra), some (.ref Fd), x4, x5] ∧ ExB Fd H7 H8 ∧ H8 Fd = some (.dT kvs) ∧ WTab H8 i kvs ∧ (kvs.map (·.1)).Nodup ∧ (∀ row, row ∈ kvs.map (·.1) ↔ ∃ w ∈ ws.take i, w.1 = row) ∧ kvs.length ≤ i)
      ⟨_, _, [], rfl, fun _ _ _ e => e, hFd7, fun kv hk => by simp at hk, List.nodup_nil, fun row => by simp, Nat.le_refl _⟩ (fun i σ H8 _ ⟨_, _, _, _, e, _⟩ => SqL.of (e _ _ hlF hl)) ?_ ?_
    · rintro i y σ H8 hy ⟨x4, x5, kvs, rfl, e8, hF8, wt, nd, hrow, hkl⟩
      obtain ⟨w0, hw0, hwx⟩ := hxs.at hy
      have hi : i < ws.length := (List.getElem?_eq_some_iff.mp hw0).1
      have tk8 : TK H7 H8 := e8.tk fun zs z => by rw [hFd7] at z; cases z
      obtain ⟨wa, _, _, rfl, hwa, hrv, hnv⟩ := at_pair.mp (At.mono tk8 _ _ hwx)
      obtain ⟨rw0, rfl, hrw⟩ := at_row.mp hrv
      obtain ⟨na, ys, rfl, hna, hys⟩ := hnv
      obtain rfl := Ats.nums.mp hys
      have hwlen := (hw.snd w0 (List.mem_of_getElem? hw0)).2
      refine ⟨_, rfl, Fd, rfl, .inr ⟨_, .inl hF8⟩, _, rfl, wa, _, _, _, rfl, rfl, SqT.of hwa, rfl, Nat.zero_le _, fun l0 nl0 => ?_⟩
      have e9 : Ex H8 (upd H8 l0 (.lst [])) := Ex.new nl0
      have hl0 : upd H8 l0 (.lst []) l0 = some (.lst []) := upd_same
      generalize upd H8 l0 (.lst []) = H9 at e9 hl0 ⊢
      have hv9 : ∃ (lx : Addr) (tsx : List Addr), (valV kvs w0.1).getD (.ref l0) = .ref lx ∧ H9 lx = some (.lst (tsx.map V.ref)) ∧ tsx.length ≤ i ∧ ∀ t ∈ tsx, ∃ ns : List Int, ns ≠ [] ∧ H9 t = some (.tup (ns.map V.int)) := by
        cases hvv : valV kvs w0.1 with
        | none => exact ⟨l0, [], rfl, hl0, Nat.zero_le _, fun t h => by simp at h⟩
        | some z =>
          obtain ⟨lx, tsx, h1, h2, h3, h4⟩ := wt _ (valV_mem hvv)
          refine ⟨lx, tsx, h1, e9 _ _ h2, h3, fun t ht => ?_⟩
          obtain ⟨ns, h5, h6⟩ := h4 t ht
          exact ⟨ns, h5, e9 _ _ h6⟩
      obtain ⟨lx, tsx, hlx, hlx2, hlx3, hlx4⟩ := hv9
      refine ⟨_, DGet.t (k := w0.1) (e9 _ _ hF8) (e9 _ _ hrw), ?_⟩
      rw [hlx]
      refine ⟨_, rfl, wa, _, _, _, rfl, rfl, SqT.of (e9 _ _ hwa), rfl, na, w0.2, rfl, SqT.of (e9 _ _ hna), by omega, fun ns' p1 hperm np1 => ?_⟩
      have e10 : Ex H9 (upd H9 p1 (.lst (ns'.map V.int))) := Ex.new np1
      have h10 : upd H9 p1 (.lst (ns'.map V.int)) p1 = some (.lst (ns'.map V.int)) := upd_same
      generalize upd H9 p1 (.lst (ns'.map V.int)) = H10 at e10 h10 ⊢
      refine ⟨p1, _, rfl, .inl ⟨SqL.of h10, fun t nt => ?_⟩⟩
      have e11 : Ex H10 (upd H10 t (.tup (ns'.map V.int))) := Ex.new nt
      have h11 : upd H10 t (.tup (ns'.map V.int)) t = some (.tup (ns'.map V.int)) := upd_same
      generalize upd H10 t (.tup (ns'.map V.int)) = H11 at e11 h11 ⊢
      refine ⟨by show 1 ≤ sizeLine; decide, fun l1 nl1 => ?_⟩
      have e12' : Ex H11 (upd H11 l1 (.lst [.ref t])) := Ex.new nl1
      have h12 : upd H11 l1 (.lst [.ref t]) l1 = some (.lst [.ref t]) := upd_same
      generalize upd H11 l1 (.lst [.ref t]) = H12 at e12' h12 ⊢
      have e9c := e10.trans (e11.trans e12')
      refine ⟨lx, l1, _, _, rfl, rfl, e9c _ _ hlx2, h12, by rw [List.length_map, sizeLine_eq]; show _ + 1 ≤ _; omega, fun l2 nl2 => ?_⟩
      have e13 : Ex H12 (upd H12 l2 (.lst (tsx.map V.ref ++ [.ref t]))) := Ex.new nl2
      have h13 : upd H12 l2 (.lst (tsx.map V.ref ++ [.ref t])) l2 = some (.lst ((tsx ++ [t]).map V.ref)) := by rw [upd_same, List.map_append]; rfl
      generalize upd H12 l2 (.lst (tsx.map V.ref ++ [.ref t])) = H13 at e13 h13 ⊢
      have e813 : Ex H8 H13 := e9.trans (e9c.trans e13)
      have hF13 := e813 _ _ hF8
      refine ⟨_, rfl, _, rfl, wa, _, _, _, rfl, rfl, SqT.of (e813 _ _ hwa), rfl, Fd, _, rfl, DPut.t (k := w0.1) hF13 (e813 _ _ hrw) (by rw [sizeLine_eq]; omega), ?_⟩
      have hne : ns' ≠ [] := fun z => by
        have := hperm.length_eq
        rw [z, List.length_nil] at this
        omega
      have eB : ExB Fd H8 (upd H13 Fd (.dT (putK kvs w0.1 (.ref l2)))) := fun b o nb e => by rw [upd_ne nb]; exact e813 _ _ e
      have wt13 : WTab (upd H13 Fd (.dT (putK kvs w0.1 (.ref l2)))) (i + 1) (putK kvs w0.1 (.ref l2)) := fun kv hk => by
        rcases mem_putK hk with hk | hk
        · exact (wt.mono hF8 eB (Nat.le_succ i)) kv hk
        · refine ⟨l2, tsx ++ [t], hk, by rw [upd_ne (fun z => by rw [z, hF13] at h13; cases h13)]; exact h13, by rw [List.length_append, List.length_singleton]; omega, fun t' ht' => ?_⟩
          have tk14 : TK H13 (upd H13 Fd (.dT (putK kvs w0.1 (.ref l2)))) := ExB.upd.tk fun zs z => by rw [hF13] at z; cases z
          rcases List.mem_append.mp ht' with ht' | ht'
          · obtain ⟨ns, h5, h6⟩ := hlx4 t' ht'
            exact ⟨ns, h5, tk14 _ _ ((e9c.trans e13) _ _ h6)⟩
          · rw [List.mem_singleton.mp ht']
            exact ⟨ns', hne, tk14 _ _ ((e12'.trans e13) _ _ h11)⟩
      refine ⟨_, _, putK kvs w0.1 (.ref l2), rfl, e8.trans eB, upd_same, wt13, ?_, fun row => ?_, ?_⟩
      · rw [putK_keys]
        split
        · exact nd
        · rename_i h
          exact List.nodup_append.mpr ⟨nd, by simp, fun a ha b hb => by
            rw [List.mem_singleton.mp hb]
            exact fun z => h (z ▸ ha)⟩
      · rw [putK_keys, take_snoc hw0]
        have hmem : (row ∈ kvs.map (·.1) ∨ row = w0.1) ↔ ∃ w ∈ ws.take i ++ [w0], w.1 = row := by
          rw [hrow row]
          constructor
          · rintro (⟨w, h1, h2⟩ | h)
            · exact ⟨w, List.mem_append_left _ h1, h2⟩
            · exact ⟨w0, by simp, h.symm⟩
          · rintro ⟨w, h1, h2⟩
            rcases List.mem_append.mp h1 with h1 | h1
            · exact .inl ⟨w, h1, h2⟩
            · rw [List.mem_singleton.mp h1] at h2
              exact .inr h2.symm
        rw [← hmem]
        split
        · rename_i h
          constructor
          · exact fun z => .inl z
          · rintro (z | z)
            · exact z
            · rw [z]; exact h
        · rw [List.mem_append, List.mem_singleton]
      · have z : (putK kvs w0.1 (V.ref l2)).length = ((putK kvs w0.1 (V.ref l2)).map (·.1)).length := (List.length_map _).symm
        rw [z, putK_keys]
        split
        · rw [List.length_map]; omega
        · rw [List.length_append, List.length_map, List.length_singleton]; omega
    · rintro σ H8 ⟨x4, x5, kvs, rfl, e8, hF8, wt, nd, hrow, hkl⟩
      rw [hxl, List.take_length] at hrow
      have e08 : Ex H H8 := fun b o q => e8 _ _ (ne_of_none q fFd) (e07 _ _ q)
      refine ⟨Fd, _, hF8, trivial, fun od => ⟨_, rfl, Fd, od, rfl, .inr ⟨kvs, upd_same, fun L nL => ?_⟩⟩⟩
      have hLF : L ≠ Fd := fun z => by rw [z, upd_same] at nL; cases nL
      have oL : ∀ b o, b ≠ Fd → H8 b = some o → upd H8 Fd (.frz od (.dT kvs)) b = some o := fun b o n e => by rw [upd_ne n]; exact e
      refine lc_map (walk_keysT (kvs := kvs)) S0 (fun _ => True) (fun H i y => ∃ (e : ER) (v : V), kvs[i]? = some (e.2.1, v) ∧ y = .ref e.1 ∧ H e.1 = some (.tup [.ref e.2.2.1, e.2.2.2]) ∧ H e.2.2.1 = some (.tup (e.2.1.map L2.kV))) nL (by rw [sizeLine_eq]; omega) (fun z => z) trivial (fun _ _ _ _ _ => trivial) (fun H9 _ hE _ => hE.ex _ _ upd_same) (fun _ _ _ _ kk ⟨e, v, h1, h2, h3, h4⟩ => ⟨e, v, h1, h2, kk _ _ h3, kk _ _ h4⟩) ?_ ?_
      · rintro i x H9 H10 hi _ hE hT ⟨rfl, k, v0, q0, hki, rfl, hq0⟩ Q' hQ
        have hF9 := hE.ex _ _ upd_same
        have hkm := List.mem_of_getElem? hki
        obtain ⟨lx, tsx, h1, h2, h3, h4⟩ := wt _ hkm
        have hvv := valV_of nd hkm
        have hlx : H10 lx = some (.lst (tsx.map V.ref)) := hE.ex _ _ (oL _ _ (fun z => by rw [z, hF8] at h2; cases h2) h2)
        refine ⟨rfl, _, rfl, _, rfl, _, rfl, Fd, v0, rfl, .inr ⟨kvs, k, q0, .inr ⟨od, hF9⟩, rfl, hq0, hvv.symm⟩, lx, tsx, h1 ▸ rfl, SqL.of hlx, fun t ht => ?_, fun ys p2 np2 => ⟨two_le, fun t nt => ?_⟩⟩
        · obtain ⟨ns, h5, h6⟩ := h4 t ht
          exact ⟨ns, h5, hE.ex _ _ (oL _ _ (fun z => by rw [z, hF8] at h6; cases h6) h6)⟩
        · have e11 : Ex H10 (upd (upd H10 p2 (.lst ys)) t (.tup [.ref q0, .ref p2])) := (Ex.new np2).trans (Ex.new nt)
          exact hQ _ _ e11.exS e11.tk trivial ⟨(t, k, q0, .ref p2), v0, hki, rfl, upd_same, e11 _ _ hq0⟩
      · intro H9 us _ hE hT hL hul huR
        have e9 := hE.ex
        have hF9 := e9 _ _ upd_same
        obtain ⟨es, h1, h2, h3⟩ := ers_of hul fun i y h => huR i y h
        have e89 : Ex H8 (upd H9 Fd (.dT kvs)) := ex_unlock hF8 e9
        have o9 : ∀ b o, b ≠ Fd → H9 b = some o → upd H9 Fd (.dT kvs) b = some o := fun b o n e => by rw [upd_ne n]; exact e
        have t9 : ∀ b zs, H9 b = some (.tup zs) → upd H9 Fd (.dT kvs) b = some (.tup zs) := fun b zs e => o9 _ _ (fun z => by rw [z, hF9] at e; cases e) e
        refine ⟨hF9, L, es, rfl, by rw [o9 _ _ hLF hL, h1], fun e he => ⟨t9 _ _ (h3 e he).1, t9 _ _ (h3 e he).2⟩, by rw [h2]; exact nd, fun q nq => ?_⟩
        refine kf _ q _ ((e08.trans e89).trans (Ex.new nq)) upd_same (by rw [List.length_map]; have z := congrArg List.length h2; rw [List.length_map, List.length_map] at z; omega) fun row => ?_
        have hk : (es.map fun e => (e.2.1, e.2.2.2)).map (·.1) = kvs.map (·.1) := by
          rw [← h2, List.map_map]
          rfl
        rw [hk, hrow row]
        constructor
        · rintro ⟨w0, h5, rfl⟩
          exact (hw.snd w0 h5).1
        · intro h
          exact hw.cpl row h
end
end Ew
set_option Elab.async false
set_option linter.all false
set_option maxRecDepth 100000
set_option maxHeartbeats 4000000
/-! _law_refused -/
namespace Ew
open PySem PySem.Spec PyProof.Rows L2 RZ
theorem opCatA {X : Cx} (K : PySem.W.Frag) (h : X.K = K := by rfl) : OpR X (binaryOp .Add) (rCatA K) := by subst h; exact op_catA
section
variable {P : Program} {w : World} {K : PySem.W.Frag} {mg : Str → Option Value} {base : Heap} {C D : Addr}
def spRefused : Sp := fun vs H Q _ => ∃ (v : V) (r : Rule), vs = [v] ∧ At H (ruleK r) v ∧ RuleOk r ∧ ∀ H', Ex H H' → Q (.bl true) H'
theorem sc_lawRefused : FnScope ["_law_first", "e"] ["_law_first"] (defScope sLawRefused) := ⟨rfl, rfl, rfl, by decide +kernel, rfl, by decide +kernel, by decide +kernel⟩
def tSuite (K : PySem.W.Frag) (D : Addr) : Addr → Value → Option Addr → TS := fun a cls d D' σ H => cls = .ref D ∧ d = none ∧ tRet (tCB (rIsE K D a) (tCons (tVar 1) (tCons (tC (.ref D)) tNil))) D' σ H
theorem ok_lawRefused (T : Txt K mg C D) : Cal P w K mg base 6 "_law_refused" spRefused := by
  refine cal_of T.fLawRefused (fun _ _ _ _ _ _ us hl => match us, hl with | [_], _ => rfl) sc_lawRefused (fun vs H Q E h => ?_) (fun f cdv A outer s H vs Q E hr h => ?_)
  · obtain ⟨v, r, rfl, _⟩ := h
    rfl
  · obtain ⟨v, r, rfl, hv, ok, kf⟩ := h
    obtain ⟨a, hd, aa, xs, rfl, ha, hh, haa, hA⟩ := at_rule hv
    obtain ⟨f0, fd0, ps0, F0, hm0, kp0, b0⟩ := (ok_contained (P := P) (w := w) (base := base) T).ex
    obtain ⟨W0, gW, eW⟩ := T.gW
    have h1 := ok.h1
    have h2 := ok.h2
    have i5 := ok.high
    refine ⟨_, pss_cons (ps_try_as (i := 1) (ts := tSuite K D) (Wout := fun _ _ _ _ => False) rfl rfl sc_lawRefused.nd rfl rfl ⟨rfl, by decide, .inl gW⟩ takes0
        (fun W pn xe tk _ => pss_one (ps_expr (pe_callS F0 hr rfl hm0 kp0 b0 (fun σ => passAt tk σ) (pa_cons (pv 0) (pa_cons (pe_tup (pa_cons (pe_op (opCatA K) (pe_ix (ixT K) (pv 0) pe_int (fun _ _ => rfl)) (pe_slice (slA K) (pe_ix (ixT K) (pv 0) pe_int (fun _ _ => rfl)) po_none (po_some pe_int))) (pa_cons (pe_ix (ixT K) (pv 0) pe_int (fun _ _ => rfl)) pa_nil))) (pa_cons (pe_lst (pa_cons (pe_tup (pa_cons pe_str (pa_cons pe_int pa_nil))) (pa_cons (pe_tup (pa_cons pe_str (pa_cons pe_int pa_nil))) pa_nil))) pa_nil))))))
        (fun a oe cls d pn hz hf => ⟨fun pins s' σ H' D' I ⟨c1, c2, q⟩ => by
          subst c1 c2
          exact (pss_one (ps_ret (pe_callB (call_isE T.eD hz hf) (by rfl) T.n_isinstance (by decide +kernel) (pa_cons (pv 1) (pa_cons (pe_glob (v := .ref D) (by rfl) T.gD rfl) pa_nil))))).run pins s' σ H' D' I q⟩))
      (pss_one (ps_ret pe_bl)), ?_⟩
    have hhead : At H (.tup (r.1.map .text)) (.ref hd) := at_head.mpr ⟨hd, rfl, hh⟩
    refine ⟨_, rfl, _, rfl, a, _, _, _, rfl, rfl, SqT.of ha, rfl, _, rfl, a, _, _, _, rfl, rfl, SqT.of ha, rfl, 1, rfl, slA_take (k := 1) hhead fun H1 v1 e1 hv1 => ?_⟩
    refine catA_of (At.mono e1.tk _ _ hhead) hv1 (by rw [List.length_take, List.length_map]; omega) fun H2 v2 e2 hv2 => ?_
    have e02 := e1.trans e2
    refine ⟨_, rfl, a, _, _, _, rfl, rfl, SqT.of (e02 _ _ ha), rfl, two_le, fun t nt => ?_⟩
    have e3 : Ex H (upd H2 t (.tup [v2, .ref aa])) := e02.trans (Ex.new nt)
    have k3 : At (upd H2 t (.tup [v2, .ref aa])) (ruleK (r.1 ++ r.1.take 1, r.2)) (.ref t) := by
      refine at_pair.mpr ⟨t, _, _, rfl, upd_same, ?_, ⟨aa, xs, rfl, e3 _ _ haa, Ats.mono e3.tk _ _ hA⟩⟩
      show At _ (.tup ((r.1 ++ r.1.take 1).map .text)) v2
      rw [List.map_append, List.map_take]
      exact At.mono (tk_new nt) _ _ hv2
    generalize upd H2 t (.tup [v2, .ref aa]) = H3 at e3 k3 ⊢
    refine ⟨two_le, fun t1 nt1 => ⟨two_le, fun t2 nt2 => ⟨two_le, fun tb ntb => ?_⟩⟩⟩
    have e4 := (Ex.new (o := .tup [.str "e", .int 2]) nt1).trans ((Ex.new (o := .tup [.str "p", .int 1]) nt2).trans (Ex.new (o := .lst [.ref t1, .ref t2]) ntb))
    have e5 := e3.trans e4
    refine ⟨.ref a, .ref t, tb, r, (r.1 ++ r.1.take 1, r.2), rfl, At.mono e5.tk _ _ hv, At.mono e4.tk _ _ k3, fun _ => ?_, fun he => ?_⟩
    · exact ⟨true, eW, fun _ a' na => ⟨rfl, rfl, _, rfl, .ref D, .ref D, true, rfl, fun u r => r, T.iD, kf _ e5⟩, fun q => nomatch q⟩
    · exfalso
      have : (r.1 ++ r.1.take 1).length = r.1.length + 1 := by rw [List.length_append, List.length_take]; omega
      have he' : r.1.length = (r.1 ++ r.1.take 1).length := he
      omega
end
end Ew
set_option Elab.async false
set_option linter.all false
set_option maxRecDepth 100000
set_option maxHeartbeats 4000000
/-! law: its end -/
namespace Ew
open PySem PySem.Spec PyProof.Rows L2 RZ
abbrev NLaw : List Str := ["_law_script", "_law_pot_here", "_law_first", "_law_second_here", "_law_tables", "_law_found", "_law_facts", "_law_values_here", "_law_k", "_law_table", "_law_arity", "_law_row", "_law_map_told", "_law_changed", "_law_name", "_law_mine", "_law_other", "_law_j"]
theorem sc_law : FnScope NLaw ["_law_script"] (defScope sLaw) := ⟨rfl, rfl, rfl, by decide +kernel, rfl, by decide +kernel, by decide +kernel⟩
def sL (i : Nat) : Stmt := (defBody sLaw).getD i default
section
variable {P : Program} {w : World} {K : PySem.W.Frag} {mg : Str → Option Value} {base : Heap} {C D : Addr}
variable {f : Addr} {cdv : Value} {A : Around} {outer : List Env} {s : Shared} {H : Hp} {E : XK}
abbrev XLw (P : Program) (w : World) (K : PySem.W.Frag) (mg : Str → Option Value) (base : Heap) (f : Addr) (cdv : Value) (A : Around) (outer : List Env) (s : Shared) (H : Hp) (E : XK) : Cx := (cxOf CX0 P w K mg base NLaw "law" (defScope sLaw) f cdv A outer s H E).nox
/-- the end: the ways of the first are ways of the second -/
def tEnd (P : Program) (w : World) (C : Addr) (r1 r2 : Rule) (F : List Fact) : TS := fun D σ H => ∃ (x0 x1 x4 x7 x8 x9 x10 x11 x12 x13 x14 x15 x16 x17 : Option V) (v1 v2 : V) (t p ad kl tl pd a : Addr), σ = [x0, x1, some v1, some v2, x4, some (.ref t), some (.ref p), x7, x8, x9, x10, x11, x12, x13, x14, x15, x16, x17] ∧
  At H (ruleK r1) v1 ∧ At H (ruleK r2) v2 ∧ RuleOk r1 ∧ RuleOk r2 ∧ FcAt P w C H p ad kl tl pd F ∧ FctsOk F ∧ H t = some (.tup [.str "yes", .ref a]) ∧ (∀ row, Ans (rowsOf F) r1.1 r1.2 [] row → Ans (rowsOf F) r2.1 r2.2 [] row) ∧ ∀ H', D.rt (.bl true) H'
theorem law_end (T : Txt K mg C D) (hr : Room 7 (A.deeper (envOfC "law" (defScope sLaw) s.heap.objs.size f cdv))) {r1 r2 : Rule} {F : List Fact} : PSs (XLw P w K mg base f cdv A outer s H E) [sL 16, sL 17, sL 18] (tEnd P w C r1 r2 F) := by
  have GW : Cal P w K mg base 7 "_law_ways" (spWays P w C) := ok_lawWays T
  refine pss_weak (pss_cons (ps_set (i := 15) sc_law.nd rfl (Or.inl rfl) (pe_c (X := XLw P w K mg base f cdv A outer s H E) GW hr (by decide) (by rfl) (pa_cons (pv 2) (pa_cons (pv 6) pa_nil))))
    (pss_cons (ps_set (i := 16) sc_law.nd rfl (Or.inr rfl) (pe_c (X := XLw P w K mg base f cdv A outer s H E) GW hr (by decide) (by rfl) (pa_cons (pv 3) (pa_cons (pv 6) pa_nil))))
    (pss_one (ps_ret (pe_and (pe_cmpR op_eq (pe_callB call_len_seq (by rfl) T.n_len (by decide +kernel) (pa_cons (pv 5) pa_nil)) pe_int (nomark _)) (pe_one (pe_callB (cr_all rfl) (by rfl) T.n_all (by decide +kernel) (pa_cons (pe_lock (pe_lc (own := [("_law_row", 11)]) (g := gName 11) (tt := tYes) rfl sc_law.nd (pi_keys (pv 15))
        (blkOk_by (N := NLaw) (sc := defScope sLaw) (by decide +kernel)) (fun _ _ _ _ _ => pg_name (i := 11) sc_law.nd rfl (Or.inl rfl)) (fun _ _ _ _ _ => pts_nil)
        (fun _ _ _ _ _ => pe_cmp (pc_din (hu_of hr) (pv 11) (pv 16)) (by rfl)))) pa_nil)))))))) ?_
  rintro D' σ H1 ⟨x0, x1, x4, x7, x8, x9, x10, x11, x12, x13, x14, x15, x16, x17, v1, v2, t, p, ad, kl, tl, pd, a, rfl, h1, h2, ok1, ok2, fc, fok, ht, hA, kf⟩
  refine ⟨_, rfl, _, rfl, v1, p, ad, kl, tl, pd, r1, F, rfl, h1, ok1, fc, fok, fun H2 l1 k1 e2 hl1 kl1 hk1 => ?_⟩
  refine ⟨_, rfl, _, rfl, v2, p, ad, kl, tl, pd, r2, F, rfl, At.mono e2.tk _ _ h2, ok2, fc.ex e2, fok, fun H3 l2 k2 e3 hl2 kl2 hk2 => ?_⟩
  have e23 := e2.trans e3
  refine ⟨_, rfl, t, _, rfl, .inr (SqT.of (e23 _ _ ht)), rfl, _, rfl, ?_⟩
  refine iteT ⟨l1, _, e3 _ _ hl1, trivial, fun od => ⟨_, rfl, l1, od, rfl, .inr ⟨k1, upd_same, fun L nL => ?_⟩⟩⟩
  refine lc_map (walk_keysT (kvs := k1)) S0 (fun _ => True) (fun _ i y => ∃ x, k1[i]? = some x ∧ y = .bl true) nL (by rw [sizeLine_eq]; omega) (fun z => z) trivial (fun _ _ _ _ _ => trivial) (fun H9 _ hE _ => hE.ex _ _ upd_same) (fun _ _ _ _ kk h => h) ?_ ?_
  · rintro i x H9 H10 hi _ hE hT ⟨rfl, k, v0, q0, hki, rfl, hq0⟩ Q' hQ
    have hrd : Rd H10 l2 (.dT k2) := by
      by_cases q : l2 = l1
      · subst q
        rw [e3 _ _ hl1] at hl2
        cases hl2
        exact .inr ⟨od, hE.ex _ _ upd_same⟩
      · exact .inl (hE.ex _ _ (by rw [upd_ne q]; exact hl2))
    have hmem : k ∈ k2.map (·.1) := (hk2 k).mpr (hA k ((hk1 k).mp (List.mem_map.mpr ⟨_, List.mem_of_getElem? hki, rfl⟩)))
    have hs := valV_isSome.mpr hmem
    refine ⟨rfl, _, rfl, _, rfl, l2, valV k2 k, rfl, .inr ⟨k2, k, q0, hrd, rfl, hq0, rfl⟩, hQ _ _ ExS.refl TK.refl trivial ⟨_, hki, by rw [hs]⟩⟩
  · intro H9 us _ hE hT hL hul huR
    have e9 := hE.ex
    have hF9 := e9 _ _ upd_same
    have hLl : L ≠ l1 := fun z => by rw [z, upd_same] at nL; cases nL
    have hus := ys_bls (f := fun _ => true) (xs := k1) hul fun i y h => huR i y h
    refine ⟨hF9, L, _, rfl, SqL.of (by rw [upd_ne hLl, hL, hus]), ?_⟩
    have hall : (k1.map fun _ => true).all id = true := by
      rw [List.all_map]
      exact List.all_eq_true.mpr fun _ _ => rfl
    rw [hall]
    exact kf _
end
end Ew
set_option Elab.async false
set_option linter.all false
set_option maxRecDepth 100000
set_option maxHeartbeats 4000000
/-! law: the changed map -/
namespace Ew
open PySem PySem.Spec PyProof.Rows L2 RZ
theorem FcAt.ne_pot {P : Program} {w : World} {C : Addr} {H : Hp} {p ad kl tl pd q sc : Addr} {F : List Fact} (f : FcAt P w C H p ad kl tl pd F) (h : PotAt H q sc) : ∀ b, b = p ∨ b = ad ∨ b = kl ∨ b = tl ∨ b = pd → b ≠ q := by
  obtain ⟨ns, i, c, s, hq, _⟩ := h
  obtain ⟨ne, ⟨dx, e1⟩, e2, ⟨vs, e3, e4⟩, e5, ⟨xs, e6, e7, e8⟩⟩ := f
  rintro b (rfl | rfl | rfl | rfl | rfl) rfl
  · rw [hq] at e1; cases e1
  · rw [hq] at e2; cases e2
  · rw [hq] at e3
    cases e3
    obtain ⟨k, hk, hat⟩ := e4.get' (i := 1) rfl
    rw [List.getElem?_map] at hk
    cases hf : F[1]? with
    | none => rw [hf] at hk; cases hk
    | some fk =>
      rw [hf] at hk
      cases hk
      obtain ⟨a, xs, z, _⟩ := hat
      cases z
  · rw [hq] at e5
    have z := Option.some.inj e5
    injection z with z
    cases F with
    | nil => simp at z
    | cons g F => simp at z
  · have := e6.at_
    rw [hq] at this
    cases this
theorem FcAt.pot {P : Program} {w : World} {C : Addr} {H H' : Hp} {p ad kl tl pd q sc : Addr} {F : List Fact} (f : FcAt P w C H p ad kl tl pd F) (h : PotAt H q sc) (e : ExB q H H') : FcAt P w C H' p ad kl tl pd F :=
  f.mono (h.tk e) fun b o hb ho => e _ _ (f.ne_pot h b hb) ho
theorem MpAt.pot {H H' : Hp} {a q sc : Addr} {m : Mp} (f : MpAt H a m) (h : PotAt H q sc) (e : ExB q H H') : MpAt H' a m :=
  f.mono (h.tk e) fun o ho => e _ _ (fun z => by
    obtain ⟨xs, hx⟩ := h.lst
    obtain ⟨es, _, hd, _⟩ := f
    rw [z, hx] at hd
    cases hd) ho
section
variable {P : Program} {w : World} {K : PySem.W.Frag} {mg : Str → Option Value} {base : Heap} {C D : Addr}
variable {f : Addr} {cdv : Value} {A : Around} {outer : List Env} {s : Shared} {H : Hp} {E : XK}
def tChanged (P : Program) (w : World) (C : Addr) (r1 r2 : Rule) (F : List Fact) : TS := fun D σ H => ∃ (x0 x4 x7 x8 x9 x10 x11 x12 x13 x14 x15 x16 x17 : Option V) (v1 v2 : V) (q sc t p ad kl tl pd a : Addr) (m : Mp), σ = [x0, some (.ref q), some v1, some v2, x4, some (.ref t), some (.ref p), x7, x8, x9, x10, x11, x12, x13, x14, x15, x16, x17] ∧
  PotAt H q sc ∧ At H (ruleK r1) v1 ∧ At H (ruleK r2) v2 ∧ RuleOk r1 ∧ RuleOk r2 ∧ r2.1.length = r1.1.length ∧ FcAt P w C H p ad kl tl pd F ∧ FctsOk F ∧ H t = some (.tup [.str "yes", .ref a]) ∧ MpAt H a m ∧ MapFor r2 m ∧ (∀ row, Ans (rowsOf F) r1.1 r1.2 [] row → Ans (rowsOf F) r2.1 r2.2 [] row) ∧ ∀ H', D.rt (.bl true) H'
theorem law_13 (T : Txt K mg C D) (hr : Room 7 (A.deeper (envOfC "law" (defScope sLaw) s.heap.objs.size f cdv))) {r1 r2 : Rule} {F : List Fact} : PSs (XLw P w K mg base f cdv A outer s H E) [sL 13, sL 14, sL 15, sL 16, sL 17, sL 18] (tChanged P w C r1 r2 F) := by
  have GV : Cal P w K mg base 1 "_law_variables" spLawVars := ok_lawVariables T
  have GN : Cal P w K mg base 1 "_law_next" spNext := ok_lawNext T
  have GT : Cal P w K mg base 2 "_law_term" spTerm := ok_lawTerm T
  have GI : Cal P w K mg base 4 "is_map" spIsMap := ok_isMap T
  have GL : Cal P w K mg base 2 "_law_is_map" spIsMap := ok_lawIsMap T
  refine pss_weak (pss_cons (ps_set (i := 13) sc_law.nd rfl (Or.inl rfl) (pe_callTy call_dictD (by rfl) T.n_dict (by decide +kernel) (pa_cons (pe_ix (ixT K) (pv 5) pe_int (fun _ _ => rfl)) pa_nil)))
    (pss_cons (ps_for PassesOwn.never rfl (pi_list (pe_c (X := XLw P w K mg base f cdv A outer s H E) GV hr (by decide) (by rfl) (pa_cons (pe_ix (ixT K) (pv 3) pe_int (fun _ _ => rfl)) pa_nil))) (pg_name (i := 14) sc_law.nd rfl (Or.inl rfl))
      (pss_one (ps_if (pt_cmpR op_eq (pe_c (X := XLw P w K mg base f cdv A outer s H E) GN hr (by decide) (by rfl) (pa_cons (pv 1) (pa_cons pe_int pa_nil))) pe_int (nomark _))
        (pss_one (ps_dput (hu_of hr) (pv 13) (pv 14) (pe_c (X := XLw P w K mg base f cdv A outer s H E) GT hr (by decide) (by rfl) (pa_cons (pv 1) pa_nil)) (by rfl))) pss_nil)))
    (pss_cons (ps_if (pt_cmpR op_ne (pe_c (X := XLw P w K mg base f cdv A outer s H E) GI hr (by decide) (by rfl) (pa_cons (pv 3) (pa_cons (pv 2) (pa_cons (pv 13) pa_nil)))) (pe_c (X := XLw P w K mg base f cdv A outer s H E) GL hr (by decide) (by rfl) (pa_cons (pv 3) (pa_cons (pv 2) (pa_cons (pv 13) pa_nil)))) (nomark _))
      (pss_one (ps_ret pe_bl)) pss_nil)
    (law_end T hr (r1 := r1) (r2 := r2) (F := F))))) ?_
  rintro D' σ H1 ⟨x0, x4, x7, x8, x9, x10, x11, x12, x13, x14, x15, x16, x17, v1, v2, q, sc, t, p, ad, kl, tl, pd, a, m, rfl, hp, h1, h2, ok1, ok2, hlen, fc, fok, ht, hm, mf, hA, kf⟩
  obtain ⟨es, hme, hmd, hmk⟩ := id hm
  refine ⟨_, rfl, t, _, _, _, rfl, rfl, SqT.of ht, rfl, a, _, rfl, .inl hmd, fun G nG => ?_⟩
  have e2 : Ex H1 (upd H1 G (.dK (es.map entT))) := Ex.new nG
  have hG : MpAt (upd H1 G (.dK (es.map entT))) G m := ⟨es, hme, upd_same, fun e he => At.mono e2.tk _ _ (hmk e he)⟩
  generalize upd H1 G (.dK (es.map entT)) = H2 at e2 hG ⊢
  obtain ⟨b, hd2, aa2, xs2, rfl, hb, hh2, haa2, hA2⟩ := at_rule h2
  have i5 := ok2.high
  refine ⟨_, rfl, b, _, _, _, rfl, rfl, SqT.of (e2 _ _ hb), rfl, _, r2.2, rfl, ⟨aa2, xs2, rfl, e2 _ _ haa2, Ats.mono e2.tk _ _ hA2⟩, ok2.atoms, by omega, fun H3 l e3 nl hl => ⟨l, rfl, ⟨_, SqL.of hl⟩, ?_⟩⟩
  have hp3 := hp.ex (e2.trans e3)
  have hlq : l ≠ q := ((hp.ex e2).nq nl).1
  refine for_list (xs := (lawVars r2.2).map V.str) (fun i σ H4 => ∃ (x14 : Option V) (m' : Mp), σ = [x0, some (.ref q), some v1, some (.ref b), x4, some (.ref t), some (.ref p), x7, x8, x9, x10, x11, x12, some (.ref G), x14, x15, x16, x17] ∧ ExB q H1 H4 ∧ PotAt H4 q sc ∧ MpAt H4 G m' ∧ MapFor r2 m' ∧ H4 l = some (.lst ((lawVars r2.2).map V.str)))
    ⟨_, m, rfl, (e2.trans e3).but, hp3, hG.ex e3, mf, hl⟩ (fun i σ H4 _ ⟨_, _, _, _, _, _, _, h⟩ => SqL.of h) ?_ ?_
  · rintro i x σ H4 hx ⟨x14, m', rfl, e4, hp4, hG4, mf4, hl4⟩
    rw [List.getElem?_map] at hx
    cases hxi : (lawVars r2.2)[i]? with
    | none => rw [hxi] at hx; cases hx
    | some y =>
      rw [hxi] at hx
      cases hx
      have hy : y ∈ varsA r2.2 := (mem_lawVars fun x hx => varsA_nms ok2 hx).mp (List.mem_of_getElem? hxi)
      refine ⟨_, rfl, q, sc, 3, rfl, hp4, by decide, by decide, fun H5 r e5 hp5 r0 r3 => ⟨rfl, _, rfl, ?_⟩⟩
      have hG5 := hG4.pot hp4 e5
      refine ite2 (fun _ => ?_) (fun _ => ⟨_, m', rfl, e4.trans e5, hp5, hG5, mf4, e5 _ _ hlq hl4⟩)
      refine ⟨_, rfl, q, sc, rfl, hp5, fun H6 u tm e6 hp6 hu htm => ?_⟩
      have hG6 := hG5.pot hp5 e6
      obtain ⟨c, rfl, hc⟩ := at_tm.mp hu
      obtain ⟨kvs, m'', hkv, hkl, hmk', hm', hat'⟩ := hG6.set (x := y) (t := tm) ((mf4.mem y).mpr hy) hu
      have l12 := mf4.len
      refine ⟨_, rfl, _, rfl, G, _, rfl, DPut.k (k := Sum.inr y) hkv (by rw [sizeLine_eq]; omega), ?_⟩
      have hGq : G ≠ q := fun z => by obtain ⟨xs, hx⟩ := hp6.lst; rw [z, hx] at hkv; cases hkv
      have hGs : G ≠ sc := fun z => by obtain ⟨xs, hx⟩ := hp6.sc; rw [z, hx] at hkv; cases hkv
      have hl6 := e6 _ _ hlq (e5 _ _ hlq hl4)
      have hlG : l ≠ G := fun z => by rw [z, hkv] at hl6; cases hl6
      have e16 := e4.trans (e5.trans e6)
      refine ⟨_, m'', rfl, fun d o nd' e => by rw [upd_ne (ne_of_none e nG)]; exact e16 _ _ nd' e, hp6.exS (S := S1 G) ExB.upd.exS (Ne.symm hGq) (Ne.symm hGs), hat', ⟨by rw [hmk']; exact mf4.nd, fun z => by rw [hmk']; exact mf4.mem z, fun e he => ?_, ?_⟩, by rw [upd_ne hlG]; exact hl6⟩
      · rcases hm' e he with h | h
        · exact mf4.tm e h
        · rw [h]; exact htm
      · have := congrArg List.length hmk'
        rw [List.length_map, List.length_map] at this
        omega
  · rintro σ H4 ⟨x14, m', rfl, e4, hp4, hG4, mf4, hl4⟩
    have tk4 := hp.tk e4
    have hv1 := At.mono tk4 _ _ h1
    have hv2 := At.mono tk4 _ _ h2
    refine ⟨_, rfl, _, rfl, _, rfl, .ref b, v1, G, r2, r1, m', rfl, hv2, hv1, ok2, ok1, hlen, hG4, mf4, fun H5 e5 => ?_⟩
    refine ⟨_, rfl, _, rfl, _, rfl, .ref b, v1, G, r2, r1, m', rfl, At.mono e5.tk _ _ hv2, At.mono e5.tk _ _ hv1, ok2, ok1, hlen, hG4.ex e5, mf4, fun H6 e6 => ⟨rfl, _, rfl, ?_⟩⟩
    rw [show (!decide (V.bl (isMapB r2 r1 m') = V.bl (isMapB r2 r1 m'))) = false by simp]
    have e46 := e5.trans e6
    refine iteF ?_
    exact ⟨_, _, _, _, _, _, _, _, _, _, _, _, _, _, v1, .ref b, t, p, ad, kl, tl, pd, a, rfl, At.mono e46.tk _ _ hv1, At.mono e46.tk _ _ hv2, ok1, ok2, (fc.pot hp e4).ex e46, fok, e46 _ _ (tk4 _ _ ht), hA, kf⟩
end
end Ew
set_option Elab.async false
set_option linter.all false
set_option maxRecDepth 100000
set_option maxHeartbeats 2000000
/-! the plain law: maps found are all there are -/
namespace Ew
open PySem PySem.Spec PyProof.Rows L2 RZ
def apx (h : Str → Tm) : Tm → Tm
  | .var x => h x
  | .val k => .val k
def Hom (r r' : Rule) (h : Str → Tm) : Prop := r.1.map h = r'.1.map Tm.var ∧ ∀ a ∈ r.2, (a.1, a.2.map (apx h)) ∈ r'.2
def ExtM (m : Mp) (h : Str → Tm) : Prop := ∀ x t, lk m x = some t → h x = t
theorem ExtM.app {m : Mp} {σ : Str → Tm} {x : Str} {v : Tm} (h : ExtM m σ) (e : lk m x = none) (hx : σ x = v) : ExtM (m ++ [(x, v)]) σ := fun y k z => by
  rw [lk_app e] at z
  split at z
  · rename_i q
    cases z
    rw [← q, hx]
  · exact h y k z
theorem ExtM.of_app {m : Mp} {σ : Str → Tm} {x : Str} {v : Tm} (h : ExtM (m ++ [(x, v)]) σ) (e : lk m x = none) : ExtM m σ ∧ σ x = v := by
  refine ⟨fun y k z => h y k ?_, h x v ?_⟩
  · rw [lk_app e]
    split
    · rename_i q
      rw [← q, e] at z
      cases z
    · exact z
  · rw [lk_app e, if_pos rfl]
theorem mtc_nil {os : List Tm} {m : Mp} : mtc [] os m = some m := by
  rw [mtc] <;> (intros; contradiction)
theorem mtc_sound : ∀ {ts vs : List Tm} {m m' : Mp}, mtc ts vs m = some m' → ts.length = vs.length → ∀ σ, ExtM m' σ → ExtM m σ ∧ ts.map (apx σ) = vs
  | [], [], m, m', h, _, σ, k => by
    rw [mtc_nil] at h
    cases h; exact ⟨k, rfl⟩
  | [], _ :: _, _, _, _, h, _, _ => by simp at h
  | _ :: _, [], _, _, _, h, _, _ => by simp at h
  | .val k0 :: ts, v :: vs, m, m', h, hl, σ, k => by
    rw [mtc] at h
    split at h
    · rename_i e
      obtain ⟨h1, h2⟩ := mtc_sound h (by simpa using hl) σ k
      refine ⟨h1, ?_⟩
      rw [List.map_cons, h2]
      show Tm.val k0 :: vs = v :: vs
      rw [e]
    · cases h
  | .var x :: ts, v :: vs, m, m', h, hl, σ, k => by
    rw [mtc] at h
    split at h
    · rename_i t e
      split at h
      · rename_i e2
        obtain ⟨h1, h2⟩ := mtc_sound h (by simpa using hl) σ k
        refine ⟨h1, ?_⟩
        rw [List.map_cons, h2]
        show σ x :: vs = v :: vs
        rw [h1 x t e, e2]
      · cases h
    · rename_i e
      obtain ⟨h1, h2⟩ := mtc_sound h (by simpa using hl) σ k
      obtain ⟨h3, h4⟩ := h1.of_app e
      refine ⟨h3, ?_⟩
      rw [List.map_cons, h2]
      show σ x :: vs = v :: vs
      rw [h4]
theorem mtc_complete : ∀ {ts vs : List Tm} {m : Mp} {σ : Str → Tm}, ExtM m σ → ts.map (apx σ) = vs → ∃ m', mtc ts vs m = some m' ∧ ExtM m' σ
  | [], vs, m, σ, h, e => ⟨m, mtc_nil, h⟩
  | .val k :: ts, vs, m, σ, h, e => by
    subst e
    obtain ⟨m', h1, h2⟩ := mtc_complete (ts := ts) h rfl
    refine ⟨m', ?_, h2⟩
    rw [List.map_cons]
    show mtc (.val k :: ts) (.val k :: _) m = _
    rw [mtc, if_pos rfl, h1]
  | .var x :: ts, vs, m, σ, h, e => by
    subst e
    rw [List.map_cons]
    show ∃ m', mtc (.var x :: ts) (σ x :: _) m = _ ∧ _
    rw [mtc]
    cases q : lk m x with
    | some t =>
      have : t = σ x := (h x t q).symm
      obtain ⟨m', h1, h2⟩ := mtc_complete (ts := ts) h rfl
      exact ⟨m', by simp [this, h1], h2⟩
    | none =>
      obtain ⟨m', h1, h2⟩ := mtc_complete (ts := ts) (h.app q rfl) rfl
      exact ⟨m', h1, h2⟩
theorem mtc_keys : ∀ {ts vs : List Tm} {m m' : Mp}, mtc ts vs m = some m' → ts.length = vs.length → (∀ x, x ∈ m'.map (·.1) ↔ x ∈ m.map (·.1) ∨ Tm.var x ∈ ts) ∧ ∀ e ∈ m', e ∈ m ∨ e.2 ∈ vs
  | [], [], m, m', h, _ => by
    rw [mtc_nil] at h
    cases h
    exact ⟨fun x => by simp, fun e he => .inl he⟩
  | [], _ :: _, _, _, _, h => by simp at h
  | _ :: _, [], _, _, _, h => by simp at h
  | .val k0 :: ts, v :: vs, m, m', h, hl => by
    rw [mtc] at h
    split at h
    · obtain ⟨h1, h2⟩ := mtc_keys h (by simpa using hl)
      refine ⟨fun x => ?_, fun e he => ?_⟩
      · rw [h1 x]
        simp
      · rcases h2 e he with h | h
        · exact .inl h
        · exact .inr (List.mem_cons_of_mem _ h)
    · cases h
  | .var y :: ts, v :: vs, m, m', h, hl => by
    rw [mtc] at h
    split at h
    · rename_i t e
      split at h
      · obtain ⟨h1, h2⟩ := mtc_keys h (by simpa using hl)
        have hy : y ∈ m.map (·.1) := List.mem_map.mpr ⟨_, lk_mem e, rfl⟩
        refine ⟨fun x => ?_, fun e he => ?_⟩
        · rw [h1 x]
          constructor
          · rintro (h | h)
            · exact .inl h
            · exact .inr (List.mem_cons_of_mem _ h)
          · rintro (h | h)
            · exact .inl h
            · rcases List.mem_cons.mp h with h | h
              · cases h; exact .inl hy
              · exact .inr h
        · rcases h2 e he with h | h
          · exact .inl h
          · exact .inr (List.mem_cons_of_mem _ h)
      · cases h
    · obtain ⟨h1, h2⟩ := mtc_keys h (by simpa using hl)
      refine ⟨fun x => ?_, fun e he => ?_⟩
      · rw [h1 x, List.map_append, List.mem_append]
        constructor
        · rintro ((h | h) | h)
          · exact .inl h
          · have : x = y := by simpa using h
            exact .inr (by rw [this]; exact List.mem_cons_self)
          · exact .inr (List.mem_cons_of_mem _ h)
        · rintro (h | h)
          · exact .inl (.inl h)
          · rcases List.mem_cons.mp h with h | h
            · cases h; exact .inl (.inr (by simp))
            · exact .inr h
      · rcases h2 e he with h | h
        · rcases List.mem_append.mp h with h | h
          · exact .inl h
          · rw [List.mem_singleton.mp h]
            exact .inr List.mem_cons_self
        · exact .inr (List.mem_cons_of_mem _ h)
theorem lk_of {α : Type} {x : Str} {t : α} : ∀ {m : List (Str × α)}, (m.map (·.1)).Nodup → (x, t) ∈ m → lk m x = some t
  | [], _, h => by simp at h
  | e :: m, nd, h => by
    rw [List.map_cons, List.nodup_cons] at nd
    by_cases q : e.1 = x
    · have a1 : lk (e :: m) x = some e.2 := by simp [lk, q]
      rw [a1]
      rcases List.mem_cons.mp h with h | h
      · rw [← h]
      · exact absurd (List.mem_map.mpr ⟨_, h, q.symm⟩) nd.1
    · have a1 : lk (e :: m) x = lk m x := by simp [lk, q]
      rw [a1]
      rcases List.mem_cons.mp h with h | h
      · exact absurd (by rw [← h]) q
      · exact lk_of nd.2 h
structure RInv (r r' : Rule) (j : Nat) (m : Mp) : Prop where
  snd : ∀ h, ExtM m h → r.1.map h = r'.1.map Tm.var ∧ ∀ a ∈ r.2.take j, (a.1, a.2.map (apx h)) ∈ r'.2
  keys : ∀ x, x ∈ m.map (·.1) ↔ x ∈ r.1 ∨ x ∈ varsA (r.2.take j)
  val : ∀ e ∈ m, TmOk e.2
theorem var_heads {h : Str → Tm} {ns ms : List Str} (e : (ns.map Tm.var).map (apx h) = ms.map Tm.var) : ns.map h = ms.map Tm.var := by
  rw [List.map_map] at e
  exact e
theorem reach_inv {r r' : Rule} (ok : RuleOk r) (ok' : RuleOk r') (hl : r.1.length = r'.1.length) {j : Nat} {ms : List Mp} (h : Reach r r' j ms) : ∀ m ∈ ms, RInv r r' j m := by
  induction h with
  | none _ => exact fun m h => by simp at h
  | @some m0 e =>
    intro m hm
    rw [List.mem_singleton.mp hm]
    have hll : (r.1.map Tm.var).length = (r'.1.map Tm.var).length := by rw [List.length_map, List.length_map, hl]
    obtain ⟨k1, k2⟩ := mtc_keys e hll
    refine ⟨fun h hx => ⟨var_heads (mtc_sound e hll h hx).2, fun a ha => by simp at ha⟩, fun x => ?_, fun e' he => ?_⟩
    · rw [k1 x]
      constructor
      · rintro (h | h)
        · simp at h
        · obtain ⟨y, hy, q⟩ := List.mem_map.mp h
          cases q
          exact .inl hy
      · rintro (h | h)
        · exact .inr (List.mem_map.mpr ⟨x, h, rfl⟩)
        · simp [varsA] at h
    · rcases k2 e' he with h | h
      · simp at h
      · exact head_tmOk ok' _ h
  | @step j ms ms' a _ ha h1 h2 h3 ih =>
    intro m hm
    obtain ⟨m0, hm0, o, ho, e1, e2⟩ := mem_prodA.mp (h1 m hm)
    have i0 := ih m0 hm0
    have oka := ok.atoms a (List.mem_of_getElem? ha)
    have oko := ok'.atoms o ho
    have hll := atoms_len oka oko e1
    obtain ⟨k1, k2⟩ := mtc_keys e2 hll
    refine ⟨fun h hx => ?_, fun x => ?_, fun e' he => ?_⟩
    · obtain ⟨q1, q2⟩ := mtc_sound e2 hll h hx
      obtain ⟨q3, q4⟩ := i0.snd h q1
      refine ⟨q3, fun b hb => ?_⟩
      rw [take_snoc ha] at hb
      rcases List.mem_append.mp hb with hb | hb
      · exact q4 b hb
      · rw [List.mem_singleton.mp hb, q2, ← e1]
        exact ho
    · rw [k1 x, i0.keys x, take_snoc ha]
      unfold varsA
      rw [List.flatMap_append, List.mem_append]
      have hv : Tm.var x ∈ a.2 ↔ x ∈ ([a].flatMap fun a => a.2.filterMap varOf) := by
        rw [List.flatMap_cons, List.flatMap_nil, List.append_nil]
        constructor
        · exact fun h => List.mem_filterMap.mpr ⟨_, h, rfl⟩
        · intro h
          obtain ⟨t, ht, e⟩ := List.mem_filterMap.mp h
          rw [varOf_ok e] at ht
          exact ht
      rw [hv, or_assoc]
    · rcases k2 e' he with h | h
      · exact i0.val e' h
      · exact oko.2 _ h
theorem reach_cpl {r r' : Rule} (ok : RuleOk r) (ok' : RuleOk r') {h : Str → Tm} (hh : Hom r r' h) {j : Nat} {ms : List Mp} (hr : Reach r r' j ms) : ∃ m ∈ ms, ExtM m h := by
  induction hr with
  | none e =>
    obtain ⟨m', h1, _⟩ := mtc_complete (ts := r.1.map Tm.var) (vs := r'.1.map Tm.var) (m := []) (σ := h) (fun x t z => by simp [lk] at z) (by rw [List.map_map]; exact hh.1)
    have e' : mtc (r.1.map Tm.var) (r'.1.map Tm.var) [] = none := e
    rw [e'] at h1
    cases h1
  | @some m0 e =>
    obtain ⟨m', h1, h2⟩ := mtc_complete (ts := r.1.map Tm.var) (vs := r'.1.map Tm.var) (m := []) (σ := h) (fun x t z => by simp [lk] at z) (by rw [List.map_map]; exact hh.1)
    have e' : mtc (r.1.map Tm.var) (r'.1.map Tm.var) [] = some m0 := e
    rw [e'] at h1
    cases h1
    exact ⟨m0, List.mem_singleton.mpr rfl, h2⟩
  | @step j ms ms' a hr0 ha h1 h2 h3 ih =>
    obtain ⟨m0, hm0, hx⟩ := ih
    have hmem := List.mem_of_getElem? ha
    obtain ⟨m1, q1, q2⟩ := mtc_complete (ts := a.2) (m := m0) hx rfl
    have hp : m1 ∈ prodA a r'.2 ms := mem_prodA.mpr ⟨m0, hm0, _, hh.2 a hmem, rfl, q1⟩
    obtain ⟨m2, hm2, pm⟩ := h2 m1 hp
    have mok := mtc_ok q1 (ok.atoms a hmem).2 ((hr0.ok ok ok').2 m0 hm0)
    exact ⟨m2, hm2, fun x t e => q2 x t (lk_of mok.nd (pm.mem_iff.mp (lk_mem e)))⟩
/-- a map, read of its dict -/
def hOf (m : Mp) : Str → Tm := fun x => (lk m x).getD (.var x)
theorem hOf_ext (m : Mp) : ExtM m (hOf m) := fun x t e => by
  show (lk m x).getD _ = t
  rw [e]
  rfl
theorem apx_ap (m : Mp) : apx (hOf m) = ap m := by
  funext t
  cases t <;> rfl
theorem told_hom {r r' : Rule} (ok : RuleOk r) (ok' : RuleOk r') (hl : r.1.length = r'.1.length) {m : Mp} (h : Told r r' (some m)) : Hom r r' (hOf m) ∧ MapFor r m := by
  obtain ⟨ms, hr, hm⟩ := h
  have i := reach_inv ok ok' hl hr m hm
  have mok := (hr.ok ok ok').2 m hm
  obtain ⟨h1, h2⟩ := i.snd _ (hOf_ext m)
  rw [List.take_length] at h2
  refine ⟨⟨h1, h2⟩, mok.nd, fun x => ?_, i.val, by have := mok.len; have := ok.high; omega⟩
  rw [i.keys x, List.take_length]
  constructor
  · rintro (h | h)
    · exact ok.head x h
    · exact h
  · exact fun h => .inr h
theorem told_one {r r' : Rule} (ok : RuleOk r) (ok' : RuleOk r') (hl : r.1.length = r'.1.length) {m : Mp} (h : Told r r' (some m)) (h0 : Told r r' none) : False := by
  obtain ⟨m', hm', _⟩ := reach_cpl ok ok' (told_hom ok ok' hl h).1 h0
  simp at hm'
theorem told_map {r r' : Rule} (ok : RuleOk r) (ok' : RuleOk r') (hl : r.1.length = r'.1.length) {m : Mp} (h : Told r r' (some m)) : MapFor r m ∧ isMapB r r' m = true := by
  obtain ⟨⟨h1, h2⟩, h3⟩ := told_hom ok ok' hl h
  refine ⟨h3, ?_⟩
  unfold isMapB
  rw [Bool.and_eq_true]
  refine ⟨decide_eq_true h1, List.all_eq_true.mpr fun a ha => decide_eq_true ?_⟩
  rw [← apx_ap]
  exact h2 a ha
/-- rows go over along a map -/
theorem map_rows {r r' : Rule} {m : Mp} {R : Rws} (h : isMapB r r' m = true) {row : List L2.Key} (ha : Ans R r'.1 r'.2 [] row) : Ans R r.1 r.2 [] row := by
  unfold isMapB at h
  rw [Bool.and_eq_true] at h
  have h1 := of_decide_eq_true h.1
  have h2 := List.all_eq_true.mp h.2
  obtain ⟨σ, _, k2, k3⟩ := ha
  have ev : ∀ t, evT (fun x => evT σ (ap m (.var x))) t = evT σ (ap m t) := fun t => by cases t <;> rfl
  refine ⟨fun x => evT σ (ap m (.var x)), fun x k e => by simp [lk] at e, fun a ha => ?_, ?_⟩
  · obtain ⟨pr, hp, e⟩ := k2 _ (of_decide_eq_true (h2 a ha))
    refine ⟨pr, hp, ?_⟩
    rw [← e]
    show _ = (a.2.map (ap m)).map (evT σ)
    rw [List.map_map]
    exact List.map_congr_left fun t _ => ev t
  · rw [k3]
    have e : r'.1.map σ = (r'.1.map Tm.var).map (evT σ) := by
      rw [List.map_map]
      rfl
    rw [e, ← h1, List.map_map]
    rfl
end Ew
set_option Elab.async false
set_option linter.all false
set_option maxRecDepth 100000
set_option maxHeartbeats 2000000
/-! the plain law: the frozen rule -/
namespace Ew
open PySem PySem.Spec PyProof.Rows L2 RZ
def unf (ν : Str → Int) (ys : List Str) (k : L2.Key) : Tm := match ys.find? (fun y => decide ((Sum.inl (ν y) : L2.Key) = k)) with
  | some y => .var y
  | none => .val k
theorem unf_var {ν : Str → Int} {ys : List Str} (inj : ∀ x ∈ ys, ∀ y ∈ ys, ν x = ν y → x = y) {y : Str} (hy : y ∈ ys) : unf ν ys (.inl (ν y)) = .var y := by
  unfold unf
  cases e : ys.find? (fun z => decide ((Sum.inl (ν z) : L2.Key) = .inl (ν y))) with
  | none =>
    have := List.find?_eq_none.mp e y hy
    simp at this
  | some z =>
    have h1 := List.mem_of_find?_eq_some e
    have h2 := List.find?_some e
    have h3 : (Sum.inl (ν z) : L2.Key) = .inl (ν y) := by simpa using h2
    have : z = y := inj z h1 y hy (Sum.inl.inj h3)
    rw [this]
theorem unf_val {ν : Str → Int} {ys : List Str} {k : L2.Key} (h : ∀ y ∈ ys, ¬ (Sum.inl (ν y) : L2.Key) = k) : unf ν ys k = .val k := by
  unfold unf
  rw [List.find?_eq_none.mpr fun y hy => by simpa using h y hy]
theorem num_mem {as : List Atom} {a : Atom} {n : Int} (ha : a ∈ as) (h : Tm.val (.inl n) ∈ a.2) : n ∈ numsA as :=
  List.mem_flatMap.mpr ⟨a, ha, List.mem_filterMap.mpr ⟨_, h, rfl⟩⟩
theorem not_num {ν : Str → Int} {as : List Atom} {a : Atom} {k : L2.Key} {y : Str} (hn : ∀ n ∈ numsA as, n < ν y) (ha : a ∈ as) (h : Tm.val k ∈ a.2) : ¬ (Sum.inl (ν y) : L2.Key) = k := fun z => by
  subst z
  have := hn _ (num_mem ha h)
  omega
theorem zip_map {ts us : List Tm} {f g : Tm → L2.Key} {u : Tm → Tm} (h : ts.map f = us.map g) (hx : ∀ t ∈ ts, ∀ s ∈ us, f t = g s → t = u s) : ts = us.map u := by
  induction ts generalizing us with
  | nil =>
    cases us with
    | nil => rfl
    | cons s us => simp at h
  | cons t ts ih =>
    cases us with
    | nil => simp at h
    | cons s us =>
      rw [List.map_cons, List.map_cons] at h
      injection h with h1 h2
      rw [List.map_cons, hx t List.mem_cons_self s List.mem_cons_self h1, ih h2 fun t' ht s' hs => hx t' (List.mem_cons_of_mem _ ht) s' (List.mem_cons_of_mem _ hs)]
theorem frozen_no {r1 r2 : Rule} (ok1 : RuleOk r1) (ok2 : RuleOk r2) (hl : r2.1.length = r1.1.length) {ν : Str → Int} {F : List Fact} (fz : Frz r1 r2 ν F) (h0 : Told r2 r1 none) :
    Ans (rowsOf F) r1.1 r1.2 [] (r1.1.map fun x => .inl (ν x)) ∧ ¬ Ans (rowsOf F) r2.1 r2.2 [] (r1.1.map fun x => .inl (ν x)) ∧ FctsOk F := by
  have inj : ∀ x ∈ varsA r1.2, ∀ y ∈ varsA r1.2, ν x = ν y → x = y := fz.inj
  refine ⟨⟨fun x => .inl (ν x), fun x k e => by simp [lk] at e, fun a ha => ?_, rfl⟩, ?_, ?_⟩
  · have hm : frzA ν a ∈ F := (fz.mem _).mpr (List.mem_map.mpr ⟨a, ha, rfl⟩)
    obtain ⟨pr, hp, e⟩ := rowsOf_of (t := a.1) (r := (frzA ν a).2) hm
    refine ⟨pr, hp, ?_⟩
    rw [e]
    show _ = a.2.map (frzT ν)
    exact List.map_congr_left fun t _ => by cases t <;> rfl
  · rintro ⟨σ, _, k2, k3⟩
    have hom : Hom r2 r1 (fun x => unf ν (varsA r1.2) (σ x)) := by
      refine ⟨?_, fun a ha => ?_⟩
      · refine List.ext_getElem? fun j => ?_
        have e := congrArg (fun l => l[j]?) k3
        simp only [List.getElem?_map] at e ⊢
        by_cases q : j < r2.1.length
        · have q1 : j < r1.1.length := by omega
          rw [List.getElem?_eq_getElem q, List.getElem?_eq_getElem q1] at e ⊢
          have e2 : (Sum.inl (ν r1.1[j]) : L2.Key) = σ r2.1[j] := Option.some.inj e
          show some (unf ν (varsA r1.2) (σ r2.1[j])) = some (Tm.var r1.1[j])
          rw [← e2, unf_var inj (ok1.head _ (List.getElem_mem q1))]
        · rw [List.getElem?_eq_none (by omega), List.getElem?_eq_none (by omega)]
          rfl
      · obtain ⟨pr, hp, e⟩ := k2 a ha
        have hF := rowsOf_mem hp
        obtain ⟨b, hb, eb⟩ := List.mem_map.mp ((fz.mem _).mp hF)
        have e1 : b.1 = a.1 := (Prod.mk.inj eb).1
        have e2 : b.2.map (frzT ν) = a.2.map (evT σ) := by
          rw [e]
          exact (Prod.mk.inj eb).2
        have e3 : b.2 = a.2.map (apx fun x => unf ν (varsA r1.2) (σ x)) := by
          refine zip_map e2 fun t ht s hs h => ?_
          cases s with
          | val k =>
            show t = .val k
            cases t with
            | val k' => rw [show k' = k from h]
            | var y => exact absurd h (not_num (fz.new2 y (varsA_mem hb ht)) ha hs)
          | var x =>
            show t = unf ν (varsA r1.2) (σ x)
            have h : frzT ν t = σ x := h
            rw [← h]
            cases t with
            | var y => exact (unf_var inj (varsA_mem hb ht)).symm
            | val k => exact (unf_val fun y hy => not_num (fz.new1 y hy) hb ht).symm
        rw [← e1, ← e3]
        exact hb
    obtain ⟨m, hm, _⟩ := reach_cpl ok2 ok1 hom h0
    simp at hm
  · refine ⟨by have := fz.len; omega, fun f hf => ?_⟩
    obtain ⟨a, ha, rfl⟩ := List.mem_map.mp ((fz.mem f).mp hf)
    have oka := ok1.atoms a ha
    refine ⟨?_, ?_, fun v hv => ?_⟩
    · rcases oka.1 with h | h
      · exact .inl h.1
      · exact .inr h.1
    · show ((a.2.map (frzT ν)).length : Int) = arOf a.1
      rw [List.length_map]
      rcases oka.1 with h | h
      · rw [h.1, h.2]; decide +kernel
      · rw [h.1, h.2]; decide +kernel
    · obtain ⟨t, ht, rfl⟩ := List.mem_map.mp hv
      cases t with
      | var x =>
        obtain ⟨h1, h2⟩ := fz.low x (varsA_mem ha ht)
        exact .inl ⟨ν x, rfl, by omega, h2⟩
      | val k => exact vls_vok (oka.2 _ ht)
end Ew
set_option Elab.async false
set_option linter.all false
set_option maxRecDepth 100000
set_option maxHeartbeats 4000000
/-! law: what is told of the maps -/
namespace Ew
open PySem PySem.Spec PyProof.Rows L2 RZ
section
variable {P : Program} {w : World} {K : PySem.W.Frag} {mg : Str → Option Value} {base : Heap} {C D : Addr}
variable {f : Addr} {cdv : Value} {A : Around} {outer : List Env} {s : Shared} {H : Hp} {E : XK}
def tTold (P : Program) (w : World) (C : Addr) (r1 r2 : Rule) (F : List Fact) : TS := fun D σ H => ∃ (x0 x4 x7 x8 x9 x10 x11 x12 x13 x14 x15 x16 x17 : Option V) (v1 v2 : V) (q sc t p ad kl tl pd : Addr), σ = [x0, some (.ref q), some v1, some v2, x4, some (.ref t), some (.ref p), x7, x8, x9, x10, x11, x12, x13, x14, x15, x16, x17] ∧
  PotAt H q sc ∧ At H (ruleK r1) v1 ∧ At H (ruleK r2) v2 ∧ RuleOk r1 ∧ RuleOk r2 ∧ r2.1.length = r1.1.length ∧ FcAt P w C H p ad kl tl pd F ∧ FctsOk F ∧ Held P w C r1 r2 H t ∧ ∀ H', D.rt (.bl true) H'
theorem law_9 (T : Txt K mg C D) (hr : Room 7 (A.deeper (envOfC "law" (defScope sLaw) s.heap.objs.size f cdv))) {r1 r2 : Rule} {F : List Fact} : PSs (XLw P w K mg base f cdv A outer s H E) [sL 9, sL 10, sL 11, sL 12, sL 13, sL 14, sL 15, sL 16, sL 17, sL 18] (tTold P w C r1 r2 F) := by
  have GM : Cal P w K mg base 4 "maps_to" spMapsTo := ok_mapsTo T
  have GR : Cal P w K mg base 6 "_law_refused" spRefused := ok_lawRefused T
  have GW : Cal P w K mg base 7 "_law_ways" (spWays P w C) := ok_lawWays T
  have GI : Cal P w K mg base 4 "is_map" spIsMap := ok_isMap T
  have GL : Cal P w K mg base 2 "_law_is_map" spIsMap := ok_lawIsMap T
  refine pss_weak (pss_cons (ps_set (i := 12) sc_law.nd rfl (Or.inl rfl) (pe_c (X := XLw P w K mg base f cdv A outer s H E) GM hr (by decide) (by rfl) (pa_cons (pv 3) (pa_cons (pv 2) pa_nil))))
    (pss_cons (ps_if (PW.pt (pw_or (pt_cmpR op_eq (pe_cmpR op_isN (pv 12) pe_non (nomark _)) (pe_cmpR op_eq (pe_ix (ixT K) (pv 5) pe_int (fun _ _ => rfl)) pe_str (nomark _)) (nomark _))
        (pw_or1 (pt_not (pt_val (pe_c (X := XLw P w K mg base f cdv A outer s H E) GR hr (by decide) (by rfl) (pa_cons (pv 2) pa_nil))))))) (pss_one (ps_ret pe_bl)) pss_nil)
    (pss_cons (ps_if (pt_cmpR op_eq (pe_ix (ixT K) (pv 5) pe_int (fun _ _ => rfl)) pe_str (nomark _))
      (pss_one (ps_ret (pe_and (pe_cmpR op_eq (pe_callB call_len_seq (by rfl) T.n_len (by decide +kernel) (pa_cons (pv 5) pa_nil)) pe_int (nomark _))
        (pe_and (pe_cmp (pc_din (hu_of hr) (pe_ix (ixT K) (pv 5) pe_int (fun _ _ => rfl)) (pe_c (X := XLw P w K mg base f cdv A outer s H E) GW hr (by decide) (by rfl) (pa_cons (pv 2) (pa_cons (pe_ix (ixT K) (pv 5) pe_int (fun _ _ => rfl)) pa_nil)))) (by rfl))
        (pe_one (pe_cmp (pc_dnotin (hu_of hr) (pe_ix (ixT K) (pv 5) pe_int (fun _ _ => rfl)) (pe_c (X := XLw P w K mg base f cdv A outer s H E) GW hr (by decide) (by rfl) (pa_cons (pv 3) (pa_cons (pe_ix (ixT K) (pv 5) pe_int (fun _ _ => rfl)) pa_nil)))) (by rfl))))))) pss_nil)
    (pss_cons (ps_for PassesOwn.never rfl (pi_list (pe_lst (pa_cons (pe_ix (ixT K) (pv 5) pe_int (fun _ _ => rfl)) (pa_cons (pv 12) pa_nil)))) (pg_name (i := 9) sc_law.nd rfl (Or.inl rfl))
      (pss_one (ps_if (PW.pt (pw_or (pt_not (pt_val (pe_c (X := XLw P w K mg base f cdv A outer s H E) GL hr (by decide) (by rfl) (pa_cons (pv 3) (pa_cons (pv 2) (pa_cons (pv 9) pa_nil))))))
        (pw_or1 (pt_cmpR op_notBl (pe_c (X := XLw P w K mg base f cdv A outer s H E) GI hr (by decide) (by rfl) (pa_cons (pv 3) (pa_cons (pv 2) (pa_cons (pv 9) pa_nil)))) pe_bl (nomark _))))) (pss_one (ps_ret pe_bl)) pss_nil)))
    (law_13 T hr (r1 := r1) (r2 := r2) (F := F)))))) ?_
  rintro D' σ H1 ⟨x0, x4, x7, x8, x9, x10, x11, x12, x13, x14, x15, x16, x17, v1, v2, q, sc, t, p, ad, kl, tl, pd, rfl, hp, h1, h2, ok1, ok2, hlen, fc, fok, held, kf⟩
  refine ⟨_, rfl, _, rfl, v2, v1, r2, r1, rfl, h2, h1, ok2, ok1, hlen, fun H2 st o e2 ho htold => ?_⟩
  have h1' := At.mono e2.tk _ _ h1
  have h2' := At.mono e2.tk _ _ h2
  rcases held with ⟨a, m, hm0, ht, hma⟩ | ⟨p0, rw0, ad0, kl0, tl0, pd0, ν, F0, hn0, fz, fc0, ht, hrow⟩
  · have ht2 := e2 _ _ ht
    cases o with
    | none => exact (told_one ok2 ok1 hlen hm0 htold).elim
    | some m' =>
      obtain ⟨a', rfl, ha'⟩ := ho
      refine ⟨_, rfl, rfl, _, rfl, t, _, _, _, rfl, rfl, SqT.of ht2, rfl, rfl, rfl, _, rfl, ?_⟩
      refine iteF ⟨_, rfl, v1, r1, rfl, h1', ok1, fun H3 e3 => ⟨_, rfl, ?_⟩⟩
      refine iteF ?_
      have ht3 := e3 _ _ ht2
      have h13 := At.mono e3.tk _ _ h1'
      have h23 := At.mono e3.tk _ _ h2'
      refine ⟨_, rfl, t, _, _, _, rfl, rfl, SqT.of ht3, rfl, rfl, _, rfl, ?_⟩
      refine iteF ?_
      refine ⟨_, rfl, t, _, _, _, rfl, rfl, SqT.of ht3, rfl, _, rfl, two_le, fun L nL => ⟨L, rfl, ⟨_, SqL.of upd_same⟩, ?_⟩⟩
      have e4 : Ex H3 (upd H3 L (.lst [.ref a, .ref a'])) := Ex.new nL
      have hL4 : upd H3 L (.lst [.ref a, .ref a']) L = some (.lst [.ref a, .ref a']) := upd_same
      have e14 := e2.trans (e3.trans e4)
      have tm := told_map ok2 ok1 hlen hm0
      have tm' := told_map ok2 ok1 hlen htold
      have hma4 : MpAt (upd H3 L (.lst [.ref a, .ref a'])) a m := hma.ex e14
      have ha4 : MpAt (upd H3 L (.lst [.ref a, .ref a'])) a' m' := ha'.ex (e3.trans e4)
      refine for_list (xs := [.ref a, .ref a']) (fun i σ H5 => ∃ x9 : Option V, σ = [x0, some (.ref q), some v1, some v2, x4, some (.ref t), some (.ref p), x7, x8, x9, x10, x11, some (.ref a'), x13, x14, x15, x16, x17] ∧ Ex (upd H3 L (.lst [.ref a, .ref a'])) H5) ⟨_, rfl, Ex.refl⟩ (fun i σ H5 _ ⟨_, _, e⟩ => SqL.of (e _ _ hL4)) ?_ ?_
      · rintro i x σ H5 hx ⟨x9, rfl, e5⟩
        have hxm : ∃ (b : Addr) (mb : Mp), x = .ref b ∧ MpAt (upd H3 L (.lst [.ref a, .ref a'])) b mb ∧ MapFor r2 mb ∧ isMapB r2 r1 mb = true := by
          match i, hx with
          | 0, hx => cases hx; exact ⟨a, m, rfl, hma4, tm.1, tm.2⟩
          | 1, hx => cases hx; exact ⟨a', m', rfl, ha4, tm'.1, tm'.2⟩
          | i + 2, hx => simp at hx
        obtain ⟨b, mb, rfl, hb, mf, hbt⟩ := hxm
        have h15 := At.mono (e4.trans e5).tk _ _ h13
        have h25 := At.mono (e4.trans e5).tk _ _ h23
        refine ⟨_, rfl, _, rfl, _, rfl, v2, v1, b, r2, r1, mb, rfl, h25, h15, ok2, ok1, hlen, hb.ex e5, mf, fun H6 e6 => ⟨_, rfl, ?_⟩⟩
        rw [hbt]
        refine iteF ⟨_, rfl, _, rfl, _, rfl, v2, v1, b, r2, r1, mb, rfl, At.mono e6.tk _ _ h25, At.mono e6.tk _ _ h15, ok2, ok1, hlen, hb.ex (e5.trans e6), mf, fun H7 e7 => ?_⟩
        rw [hbt]
        refine ⟨_, _, rfl, rfl, _, rfl, iteF ⟨_, rfl, e5.trans (e6.trans e7)⟩⟩
      · rintro σ H5 ⟨x9, rfl, e5⟩
        have e15 := e14.trans e5
        exact ⟨_, _, _, _, _, _, _, _, _, _, _, _, _, v1, v2, q, sc, t, p, ad, kl, tl, pd, a, m, rfl, hp.ex e15, At.mono e15.tk _ _ h1, At.mono e15.tk _ _ h2, ok1, ok2, hlen, fc.ex e15, fok, e15 _ _ ht, hma.ex e15, tm.1, fun row h => map_rows tm.2 h, kf⟩
  · have ht2 := e2 _ _ ht
    cases o with
    | some m' => exact (told_one ok2 ok1 hlen htold hn0).elim
    | none =>
      obtain rfl : st = .non := ho
      obtain ⟨fy, fn, fok0⟩ := frozen_no ok1 ok2 hlen fz hn0
      refine ⟨_, rfl, rfl, _, rfl, t, _, _, _, rfl, rfl, SqT.of ht2, rfl, rfl, rfl, _, rfl, ?_⟩
      refine iteF ⟨_, rfl, v1, r1, rfl, h1', ok1, fun H3 e3 => ⟨_, rfl, ?_⟩⟩
      refine iteF ?_
      have e13 := e2.trans e3
      have ht3 := e3 _ _ ht2
      refine ⟨_, rfl, t, _, _, _, rfl, rfl, SqT.of ht3, rfl, rfl, _, rfl, ?_⟩
      refine iteT ?_
      obtain ⟨rwa, hz, hrw⟩ := at_row.mp (At.mono e13.tk _ _ hrow)
      cases hz
      refine ⟨_, rfl, t, _, rfl, .inr (SqT.of ht3), rfl, _, rfl, ?_⟩
      refine iteT ⟨_, rfl, t, _, _, _, rfl, rfl, SqT.of ht3, rfl, _, rfl, _, rfl, t, _, _, _, rfl, rfl, SqT.of ht3, rfl, v1, p0, ad0, kl0, tl0, pd0, r1, F0, rfl, At.mono e13.tk _ _ h1, ok1, fc0.ex e13, fok0, fun H4 l1 k1 e4 hl1 _ hk1 => ?_⟩
      refine ⟨l1, _, rfl, DGet.t hl1 (e4 _ _ hrw), _, rfl, ?_⟩
      rw [valV_isSome.mpr ((hk1 _).mpr fy)]
      have e14 := e13.trans e4
      have ht4 := e4 _ _ ht3
      refine iteT ⟨_, rfl, t, _, _, _, rfl, rfl, SqT.of ht4, rfl, _, rfl, _, rfl, t, _, _, _, rfl, rfl, SqT.of ht4, rfl, v2, p0, ad0, kl0, tl0, pd0, r2, F0, rfl, At.mono e14.tk _ _ h2, ok2, fc0.ex e14, fok0, fun H5 l2 k2 e5 hl2 _ hk2 => ?_⟩
      refine ⟨l2, _, rfl, DGet.t hl2 ((e4.trans e5) _ _ hrw), ?_⟩
      have hno : (valV k2 (r1.1.map fun x => (Sum.inl (ν x) : L2.Key))).isSome = false := by
        cases hv : (valV k2 (r1.1.map fun x => (Sum.inl (ν x) : L2.Key))).isSome with
        | false => rfl
        | true => exact absurd ((hk2 _).mp (valV_isSome.mp hv)) fn
      rw [hno]
      exact kf _
end
end Ew
set_option Elab.async false
set_option linter.all false
set_option maxRecDepth 100000
set_option maxHeartbeats 4000000
/-! law: the facts, and the beginning -/
namespace Ew
open PySem PySem.Spec PyProof.Rows L2 RZ
theorem Held.pot {P : Program} {w : World} {C : Addr} {r1 r2 : Rule} {H H' : Hp} {t q sc : Addr} (h : Held P w C r1 r2 H t) (hp : PotAt H q sc) (e : ExB q H H') : Held P w C r1 r2 H' t := by
  have tk := hp.tk e
  rcases h with ⟨a, m, h1, h2, h3⟩ | ⟨p, rw0, ad, kl, tl, pd, ν, F, h1, h2, h3, h4, h5⟩
  · exact .inl ⟨a, m, h1, tk _ _ h2, h3.pot hp e⟩
  · exact .inr ⟨p, rw0, ad, kl, tl, pd, ν, F, h1, h2, h3.pot hp e, tk _ _ h4, At.mono tk _ _ h5⟩
theorem keys_of : ∀ {ys : List V}, (∀ (i : Nat) (y : V), ys[i]? = some y → ∃ k : L2.Key, k ∈ Vls ∧ y = L2.kV k) → ∃ ks : List L2.Key, ks.length = ys.length ∧ (∀ k ∈ ks, k ∈ Vls) ∧ ys = ks.map L2.kV
  | [], _ => ⟨[], rfl, fun k h => by simp at h, rfl⟩
  | y :: ys, h => by
    obtain ⟨ks, h1, h2, h3⟩ := keys_of (ys := ys) fun i z e => h (i + 1) z e
    obtain ⟨k, hk, rfl⟩ := h 0 y rfl
    refine ⟨k :: ks, by rw [List.length_cons, List.length_cons, h1], fun z hz => ?_, by rw [List.map_cons, h3]⟩
    rcases List.mem_cons.mp hz with rfl | hz
    · exact hk
    · exact h2 z hz
section
variable {P : Program} {w : World} {K : PySem.W.Frag} {mg : Str → Option Value} {base : Heap} {C D : Addr}
variable {f : Addr} {cdv : Value} {A : Around} {outer : List Env} {s : Shared} {H : Hp} {E : XK}
/-- behind the swap -/
def tSwapped : TS := fun D σ H => ∃ (x0 x4 x5 x6 x7 x8 x9 x10 x11 x12 x13 x14 x15 x16 x17 : Option V) (v1 v2 : V) (q sc : Addr) (r1 r2 : Rule), σ = [x0, some (.ref q), some v1, some v2, x4, x5, x6, x7, x8, x9, x10, x11, x12, x13, x14, x15, x16, x17] ∧
  PotAt H q sc ∧ At H (ruleK r1) v1 ∧ At H (ruleK r2) v2 ∧ RuleOk r1 ∧ RuleOk r2 ∧ r2.1.length = r1.1.length ∧ ∀ H', D.rt (.bl true) H'
theorem law_4 (T : Txt K mg C D) (hr : Room 7 (A.deeper (envOfC "law" (defScope sLaw) s.heap.objs.size f cdv))) : PSs (XLw P w K mg base f cdv A outer s H E) [sL 4, sL 5, sL 6, sL 7, sL 8, sL 9, sL 10, sL 11, sL 12, sL 13, sL 14, sL 15, sL 16, sL 17, sL 18] tSwapped := by
  have GC : CalX P w K mg base 5 "contained" (spContained P w C D) := ok_contained T
  have GF : Mak P w K mg base 2 "Facts" C (spInit P w C) := ok_fInit T
  have GN : Cal P w K mg base 1 "_law_next" spNext := ok_lawNext T
  have GI : Met P w K mg base 2 C "find" (spFind P w C) := ok_fFind T
  have GA : Met P w K mg base 2 C "add" (spAdd P w C) := ok_fAdd T
  refine pss_weak (pss_cons (ps_set (i := 4) sc_law.nd rfl (Or.inl rfl) (pe_lst (pa_cons (pe_tup (pa_cons pe_str (pa_cons pe_int pa_nil))) (pa_cons (pe_tup (pa_cons pe_str (pa_cons pe_int pa_nil))) pa_nil))))
    (pss_cons (ps_set (i := 5) sc_law.nd rfl (Or.inl rfl) (pe_cx (X := XLw P w K mg base f cdv A outer s H E) GC hr (by decide) (by rfl) (pa_cons (pv 2) (pa_cons (pv 3) (pa_cons (pe_callTy call_list_of (by rfl) T.n_list (by decide +kernel) (pa_cons (pv 4) pa_nil)) pa_nil)))))
    (pss_cons (ps_set (i := 6) sc_law.nd rfl (Or.inl rfl) (pe_mk (X := XLw P w K mg base f cdv A outer s H E) GF hr (by decide) (by rfl) (pa_cons (pv 4) pa_nil)))
    (pss_cons (ps_set (i := 7) sc_law.nd rfl (Or.inr rfl) (pe_lst (pa_cons pe_int (pa_cons pe_int (pa_cons pe_str pa_nil)))))
    (pss_cons (ps_for PassesOwn.never rfl (pi_range1 (by rfl) T.n_range (pa_cons (pe_c (X := XLw P w K mg base f cdv A outer s H E) GN hr (by decide) (by rfl) (pa_cons (pv 1) (pa_cons pe_int pa_nil))) pa_nil)) (pg_name (i := 8) sc_law.nd rfl (Or.inl rfl))
      (pss_cons (ps_asg (pe_ix (ixL K) (pv 4) (pe_c (X := XLw P w K mg base f cdv A outer s H E) GN hr (by decide) (by rfl) (pa_cons (pv 1) (pa_cons pe_int pa_nil))) (fun _ _ => rfl)) (pgT K rfl (pgs_cons (pg_name (i := 9) sc_law.nd rfl (Or.inl rfl)) (pgs_cons (pg_name (i := 10) sc_law.nd rfl (Or.inl rfl)) pgs_nil))))
      (pss_cons (ps_set (i := 11) sc_law.nd rfl (Or.inl rfl) (pe_callTy call_tuple_of (by rfl) T.n_tuple (by decide +kernel) (pa_cons (pe_lc (own := [("_law_j", 17)]) (g := gName 17) (tt := tYes) rfl sc_law.nd (pi_range1 (by rfl) T.n_range (pa_cons (pv 10) pa_nil))
        (blkOk_by (N := NLaw) (sc := defScope sLaw) (by decide +kernel)) (fun _ _ _ _ _ => pg_name (i := 17) sc_law.nd rfl (Or.inl rfl)) (fun _ _ _ _ _ => pts_nil)
        (fun _ _ _ _ _ => pe_ix (ixL K) (pv 7) (pe_c (X := Cx.blk _ _ _ _ _ _) GN hr (by decide) (by rfl) (pa_cons (pv 1) (pa_cons pe_int pa_nil))) (fun _ _ => rfl))) pa_nil)))
      (pss_one (ps_if (pt_cmpR op_isN (pe_mt (X := XLw P w K mg base f cdv A outer s H E) GI hr (by decide) (pv 6) (pa_cons (pv 9) (pa_cons (pv 11) pa_nil))) pe_non (nomark _))
        (pss_one (ps_expr (pe_mt (X := XLw P w K mg base f cdv A outer s H E) GA hr (by decide) (pv 6) (pa_cons (pv 9) (pa_cons (pv 11) pa_nil))))) pss_nil))))) 
    (show PSs _ _ (fun D σ H => ∃ r1 r2 F, tTold P w C r1 r2 F D σ H) from ⟨fun pins s' σ H' D' I ⟨r1, r2, F, q⟩ => (law_9 T hr (r1 := r1) (r2 := r2) (F := F)).run pins s' σ H' D' I q⟩)))))) ?_
  rintro D' σ H1 ⟨x0, x4, x5, x6, x7, x8, x9, x10, x11, x12, x13, x14, x15, x16, x17, v1, v2, q, sc, r1, r2, rfl, hp, h1, h2, ok1, ok2, hlen, kf⟩
  refine ⟨two_le, fun t1 nt1 => ?_⟩
  have a1 : Ex H1 (upd H1 t1 (.tup [.str "e", .int 2])) := Ex.new nt1
  have b1 : upd H1 t1 (.tup [.str "e", .int 2]) t1 = some (.tup [.str "e", .int 2]) := upd_same
  generalize upd H1 t1 (.tup [.str "e", .int 2]) = Ha at a1 b1 ⊢
  refine ⟨two_le, fun t2 nt2 => ?_⟩
  have a2 : Ex Ha (upd Ha t2 (.tup [.str "p", .int 1])) := Ex.new nt2
  have b2 : upd Ha t2 (.tup [.str "p", .int 1]) t2 = some (.tup [.str "p", .int 1]) := upd_same
  generalize upd Ha t2 (.tup [.str "p", .int 1]) = Hb at a2 b2 ⊢
  refine ⟨two_le, fun tb ntb => ?_⟩
  have htbq : tb ≠ q := ((hp.ex (a1.trans a2)).nq ntb).1
  have a3 : Ex Hb (upd Hb tb (.lst [.ref t1, .ref t2])) := Ex.new ntb
  have b3 : upd Hb tb (.lst [.ref t1, .ref t2]) tb = some (.lst [.ref t1, .ref t2]) := upd_same
  generalize upd Hb tb (.lst [.ref t1, .ref t2]) = H2 at a3 b3 ⊢
  have e12 := a1.trans (a2.trans a3)
  have c1 := (a2.trans a3) _ _ b1
  have c2 := a3 _ _ b2
  refine ⟨_, rfl, _, rfl, _, rfl, tb, _, rfl, .inl (SqL.of b3), fun tb2 ntb2 => ?_⟩
  have e23 : Ex H2 (upd H2 tb2 (.lst [.ref t1, .ref t2])) := Ex.new ntb2
  have e13 := e12.trans e23
  refine ⟨v1, v2, tb2, r1, r2, rfl, At.mono e13.tk _ _ h1, At.mono e13.tk _ _ h2, fun hne => (hne hlen.symm).elim, fun _ => ⟨ok1, ok2, ⟨t1, t2, upd_same, e23 _ _ c1, e23 _ _ c2⟩, fun H4 t e4 held => ?_⟩⟩
  have e24 := e23.trans e4
  have e14 := e12.trans e24
  have hp4 := hp.ex e14
  have d1 := e24 _ _ c1
  have d2 := e24 _ _ c2
  have d3 := e24 _ _ b3
  refine ⟨_, rfl, fun x dx nx ndx hne => ?_⟩
  have ef : Ex H4 (upd (upd H4 dx (.own x)) x (.ins C dx [])) := fun b o e => by
    rw [upd_ne (ne_of_none e nx), upd_ne (ne_of_none e ndx)]
    exact e
  refine ⟨x, tb, dx, rfl, upd_same, ⟨t1, t2, ef _ _ d3, ef _ _ d1, ef _ _ d2⟩, fun H6 ad kl tl pd e6 nad nkl ntl npd fc0 => ⟨rfl, ?_⟩⟩
  have e46 : Ex H4 H6 := fun b o e => e6 b o (ne_of_none e nx) (ef _ _ e)
  have fkl : H4 kl = none := ef.free nkl
  have ftl : H4 tl = none := ef.free ntl
  have fpd : H4 pd = none := ef.free npd
  refine ⟨by show 3 ≤ sizeLine; rw [sizeLine_eq]; decide, fun vl nvl => ?_⟩
  have e67 : Ex H6 (upd H6 vl (.lst (Vls.map L2.kV))) := Ex.new nvl
  have hvl : upd H6 vl (.lst [V.int 0, V.int 1, V.str "a"]) vl = some (.lst (Vls.map L2.kV)) := upd_same
  replace e67 : Ex H6 (upd H6 vl (.lst [V.int 0, V.int 1, V.str "a"])) := e67
  have nvk : vl ≠ kl := fun z => by obtain ⟨_, e, _⟩ := fc0.kno; rw [z, e] at nvl; cases nvl
  have nvt : vl ≠ tl := fun z => by rw [z, fc0.the] at nvl; cases nvl
  have nvp : vl ≠ pd := fun z => by obtain ⟨_, d, _⟩ := fc0.pla; rw [z, d.at_] at nvl; cases nvl
  have nvq := (hp4.ex e46).nq nvl
  generalize upd H6 vl (.lst [V.int 0, V.int 1, V.str "a"]) = H7 at e67 hvl ⊢
  have hp7 := hp4.ex (e46.trans e67)
  have fc7 := fc0.ex e67
  obtain ⟨xsq, hq4⟩ := hp4.lst
  obtain ⟨xss, hs4⟩ := hp4.sc
  have nq3 : ¬ S3 kl tl pd q := by
    rintro (z | z | z)
    · rw [z, fkl] at hq4; cases hq4
    · rw [z, ftl] at hq4; cases hq4
    · rw [z, fpd] at hq4; cases hq4
  have ns3 : ¬ S3 kl tl pd sc := by
    rintro (z | z | z)
    · rw [z, fkl] at hs4; cases hs4
    · rw [z, ftl] at hs4; cases hs4
    · rw [z, fpd] at hs4; cases hs4
  refine ⟨_, rfl, q, sc, 11, rfl, hp7, by decide, by decide, fun H8 r e8 hp8 r0 r11 => ⟨_, rfl, by omega, by omega, ?_⟩⟩
  refine for_range (fun i σ H9 => ∃ (x8 x9 x10 x11 x17 : Option V) (F : List Fact), σ = [x0, some (.ref q), some v1, some v2, some (.ref tb), some (.ref t), some (.ref x), some (.ref vl), x8, x9, x10, x11, x12, x13, x14, x15, x16, x17] ∧
      ExB q H4 H9 ∧ PotAt H9 q sc ∧ FcAt P w C H9 x ad kl tl pd F ∧ H9 vl = some (.lst (Vls.map L2.kV)) ∧ F.length ≤ i ∧ ∀ g ∈ F, NmTab g.1 ∧ (g.2.length : Int) = arOf g.1 ∧ ∀ v ∈ g.2, VOk v)
    ⟨_, _, _, _, _, [], rfl, (e46.trans e67).but.trans e8, hp8, fc7.pot hp7 e8, e8 _ _ nvq.1 hvl, Nat.zero_le _, fun g hg => by simp at hg⟩ ?_ ?_
  · rintro i σ H9 hi ⟨x8, x9, x10, x11, x17, F, rfl, e9, hp9, fc9, hvl9, hFl, hFo⟩
    have hi10 : i < 10 := by omega
    refine ⟨_, rfl, _, rfl, q, sc, 2, rfl, hp9, by decide, by decide, fun H10 r' e10 hp10 r0' r2' => ?_⟩
    have e410 := e9.trans e10
    have tk410 := hp4.tk e410
    have htt : ∃ (tt : Addr) (nm : Str), atI [V.ref t1, V.ref t2] r' = some (.ref tt) ∧ H10 tt = some (.tup [.str nm, .int (arOf nm)]) ∧ NmTab nm ∧ (arOf nm = 1 ∨ arOf nm = 2) := by
      have : r' = 0 ∨ r' = 1 := by omega
      rcases this with rfl | rfl
      · exact ⟨t1, "e", rfl, tk410 _ _ d1, .inl rfl, .inr (by decide +kernel)⟩
      · exact ⟨t2, "p", rfl, tk410 _ _ d2, .inr rfl, .inl (by decide +kernel)⟩
    obtain ⟨tt, nm, hidx, htt, hnm, har⟩ := htt
    refine ⟨tb, _, _, _, rfl, rfl, SqL.of (e410 _ _ htbq d3), hidx, tt, _, rfl, SqT.of htt, rfl, _, _, rfl, _, _, rfl, rfl, ?_⟩
    refine ⟨_, rfl, _, rfl, by omega, by omega, fun L nL => ?_⟩
    have nLq := hp10.nq nL
    have hvl10 := e10 _ _ nvq.1 hvl9
    have nLv : vl ≠ L := ne_of_none hvl10 nL
    have fc10 := fc9.pot hp9 e10
    refine lc_map (walk_range (lo := 0) (n := (arOf nm).toNat)) (S1 q) (fun H => PotAt H q sc) (fun _ _ y => ∃ k : L2.Key, k ∈ Vls ∧ y = L2.kV k) nL (by rw [sizeLine_eq]; omega) nLq.1 (potI hp10 nLq.1 nLq.2) (fun H6 zs ys h6 _ => potI h6 nLq.1 nLq.2) (fun _ _ _ _ => trivial) (fun _ _ _ _ kk h => h) ?_ ?_
    · rintro j y H11 H12 hj hp11 e11 tk11 ⟨rfl, rfl⟩ Q' hQ
      have hvl11 := (ExS.exB e11) _ _ nvq.1 hvl10
      refine ⟨rfl, _, rfl, _, rfl, q, sc, 3, rfl, hp11, by decide, by decide, fun H13 r3 e13 hp13 r30 r33 => ?_⟩
      obtain ⟨y, hy, hy3⟩ := at3 (a := V.int 0) (b := V.int 1) (c := V.str "a") r30 r33
      have hk : ∃ k : L2.Key, k ∈ Vls ∧ y = L2.kV k := by
        rcases hy3 with rfl | rfl | rfl
        · exact ⟨.inl 0, by simp [Vls], rfl⟩
        · exact ⟨.inl 1, by simp [Vls], rfl⟩
        · exact ⟨.inr "a", by simp [Vls], rfl⟩
      exact ⟨vl, _, _, _, rfl, rfl, SqL.of (e13 _ _ nvq.1 hvl11), hy, hQ _ _ e13.exS (hp11.tk e13) hp13 hk⟩
    · intro H11 ys hp11 e11 tk11 hL11 hyl hyR
      obtain ⟨ks, hk1, hk2, rfl⟩ := keys_of fun i y h => hyR i y h
      refine ⟨L, _, rfl, .inl ⟨SqL.of hL11, fun rt nrt => ?_⟩⟩
      have e12' : Ex H11 (upd H11 rt (.tup (ks.map L2.kV))) := Ex.new nrt
      have hrow : At (upd H11 rt (.tup (ks.map L2.kV))) (rowK ks) (.ref rt) := at_row.mpr ⟨rt, rfl, upd_same⟩
      generalize upd H11 rt (.tup (ks.map L2.kV)) = H12 at e12' hrow ⊢
      have fc12 := (fc10.pot hp10 (ExS.exB e11)).ex e12'
      have hp12 := hp11.ex e12'
      have e412 : ExB q H4 H12 := e410.trans ((ExS.exB e11).trans e12'.but)
      have hvl12 := e12' _ _ ((ExS.exB e11) _ _ nvq.1 hvl10)
      obtain ⟨dx', hxi⟩ := fc12.ins
      have hkl : (ks.length : Int) = arOf nm := by omega
      refine ⟨_, rfl, x, dx', _, rfl, hxi, rfl, _, rfl, _, rfl, x, ad, kl, tl, pd, nm, ks, .ref rt, F, rfl, fc12, hnm, hrow, fun hin H13 j e13 => ?_, fun hnin H13 e13 => ?_⟩
      · exact ⟨rfl, _, rfl, iteF ⟨_, _, _, _, _, F, rfl, e412.trans e13.but, hp12.ex e13, fc12.ex e13, e13 _ _ hvl12, by omega, hFo⟩⟩
      · refine ⟨rfl, _, rfl, iteT ⟨_, rfl, x, dx', _, rfl, e13 _ _ hxi, rfl, _, rfl, _, rfl, x, ad, kl, tl, pd, nm, ks, .ref rt, F, rfl, fc12.ex e13, hnm, At.mono e13.tk _ _ hrow, hkl, hnin, by omega, fun H14 v e14 fc14 => ?_⟩⟩
        refine ⟨_, _, _, _, _, F ++ [(nm, ks)], rfl, fun b o nb e => e14 _ _ ?_ (e13 _ _ (e412 _ _ nb e)), (hp12.ex e13).exS e14 nq3 ns3, fc14, e14 _ _ ?_ (e13 _ _ hvl12), by rw [List.length_append, List.length_singleton]; omega, fun g hg => ?_⟩
        · rintro (z | z | z)
          · exact ne_of_none e fkl z
          · exact ne_of_none e ftl z
          · exact ne_of_none e fpd z
        · rintro (z | z | z)
          · exact nvk z
          · exact nvt z
          · exact nvp z
        · rcases List.mem_append.mp hg with hg | hg
          · exact hFo g hg
          · rw [List.mem_singleton.mp hg]
            exact ⟨hnm, hkl, fun v hv => vls_vok (hk2 v hv)⟩
  · rintro σ H9 ⟨x8, x9, x10, x11, x17, F, rfl, e9, hp9, fc9, hvl9, hFl, hFo⟩
    have tk := hp4.tk e9
    exact ⟨r1, r2, F, _, _, _, _, _, _, _, _, _, _, _, _, _, v1, v2, q, sc, t, x, ad, kl, tl, pd, rfl, hp9, At.mono tk _ _ (At.mono e14.tk _ _ h1), At.mono tk _ _ (At.mono e14.tk _ _ h2), ok1, ok2, hlen, fc9, ⟨by omega, hFo⟩, held.pot hp4 e9, kf⟩
end
end Ew
set_option Elab.async false
set_option linter.all false
set_option maxRecDepth 100000
set_option maxHeartbeats 4000000
/-! law -/
namespace Ew
open PySem PySem.Spec PyProof.Rows L2 RZ
theorem SqL.ex {K : PySem.W.Frag} {H H' : Hp} {a : Addr} {xs : List V} (h : SqL K H a xs) (e : Ex H H') : SqL K H' a xs := by
  rcases h with (h | ⟨o, h⟩) | h
  · exact .inl (.inl (e _ _ h))
  · exact .inl (.inr ⟨o, e _ _ h⟩)
  · exact .inr h
section
variable {P : Program} {w : World} {K : PySem.W.Frag} {mg : Str → Option Value} {base : Heap} {C D : Addr}
def spLaw (K : PySem.W.Frag) : Sp := fun vs H Q _ => ∃ (a : Addr) (ns : List Int), vs = [.ref a] ∧ SqL K H a (ns.map V.int) ∧ ns.length ≤ 1000 ∧ ∀ H', Q (.bl true) H'
theorem ok_law (T : Txt K mg C D) {f : Addr} {fd : FuncData} (F : FunD K "law" "law" (defArgs sLaw) (defBody sLaw) (defScope sLaw) [] [] f fd) : FnOk P w K mg base CX0 20 f fd ["_law_script"] (spLaw K) := by
  have hb : Body P w K mg base "law" sLaw NLaw 19 (spLaw K) := fun f cdv A outer s H vs Q E hr19 h => by
    have hr : Room 7 (A.deeper (envOfC "law" (defScope sLaw) s.heap.objs.size f cdv)) := hr19.mono (by decide)
    obtain ⟨a, ns, rfl, ha, hn, kf⟩ := h
    have GP : Cal P w K mg base 1 "_law_pot" (spPot K) := ok_lawPot T
    have GN : Cal P w K mg base 1 "_law_next" spNext := ok_lawNext T
    have GR : Cal P w K mg base 4 "_law_rule" spRule := ok_lawRule T
    have GS : Cal P w K mg base 5 "_law_second" spSecond := ok_lawSecond T
    refine ⟨_, pss_cons (ps_set (i := 1) sc_law.nd rfl (Or.inr rfl) (pe_c (X := XLw P w K mg base f cdv A outer s H E) GP hr (by decide) (by rfl) (pa_cons (pv 0) pa_nil)))
      (pss_cons (ps_set (i := 2) sc_law.nd rfl (Or.inl rfl) (pe_c (X := XLw P w K mg base f cdv A outer s H E) GR hr (by decide) (by rfl) (pa_cons (pv 1) (pa_cons pe_int (pa_cons (pe_op op_add pe_int (pe_c (X := XLw P w K mg base f cdv A outer s H E) GN hr (by decide) (by rfl) (pa_cons (pv 1) (pa_cons pe_int pa_nil)))) pa_nil)))))
      (pss_cons (ps_set (i := 3) sc_law.nd rfl (Or.inl rfl) (pe_c (X := XLw P w K mg base f cdv A outer s H E) GS hr (by decide) (by rfl) (pa_cons (pv 1) (pa_cons (pv 2) pa_nil))))
      (pss_cons (ps_if (pt_cmpR op_eq (pe_c (X := XLw P w K mg base f cdv A outer s H E) GN hr (by decide) (by rfl) (pa_cons (pv 1) (pa_cons pe_int pa_nil))) pe_int (nomark _))
        (pss_one (ps_par (i := 2) (j := 3) rfl sc_law.nd rfl rfl (by decide) rfl rfl (pa_cons (pv 3) (pa_cons (pv 2) pa_nil)) (by rfl))) pss_nil)
      (law_4 T hr)))), ?_⟩
    refine ⟨_, rfl, a, ns, rfl, ha, hn, fun H' e => SqL.ex ha e, fun H1 q sc e1 hp1 => ?_⟩
    refine ⟨_, rfl, _, rfl, q, sc, 2, rfl, hp1, by decide, by decide, fun H2 r e2 hp2 r0 r2 => ⟨_, _, rfl, rfl, ?_⟩⟩
    refine ⟨q, sc, 4, _, rfl, hp2, by decide, by decide, by omega, by omega, fun H3 v1 r1 e3 hp3 h1 ok1 hl1 => ?_⟩
    refine ⟨_, rfl, _, rfl, q, sc, v1, r1, rfl, hp3, h1, ok1, fun H4 v2 r2 e4 hp4 h2 ok2 hl2 => ?_⟩
    have h14 := At.mono (hp3.tk e4) _ _ h1
    refine ⟨_, rfl, q, sc, 2, rfl, hp4, by decide, by decide, fun H5 r' e5 hp5 r0' r2' => ⟨rfl, _, rfl, ?_⟩⟩
    have tk5 := hp4.tk e5
    refine ite2 (fun _ => ?_) (fun _ => ?_)
    · exact ⟨_, rfl, _, rfl, v2, v1, rfl, _, _, _, _, _, _, _, _, _, _, _, _, _, _, _, v2, v1, q, sc, r2, r1, rfl, hp5, At.mono tk5 _ _ h2, At.mono tk5 _ _ h14, ok2, ok1, hl2.symm, kf⟩
    · exact ⟨_, _, _, _, _, _, _, _, _, _, _, _, _, _, _, v1, v2, q, sc, r1, r2, rfl, hp5, At.mono tk5 _ _ h14, At.mono tk5 _ _ h2, ok1, ok2, hl2, kf⟩
  exact FunD.ok (CX := CX0) F sc_law (fun vs H Q E h => by obtain ⟨a, ns, rfl, _⟩ := h; rfl) fun cdv A outer s H vs Q E hr h => (let ⟨t, h1, h2⟩ := hb f cdv A outer s H vs Q E hr h; ⟨t, h1.nox, h2⟩)
end
end Ew
set_option Elab.async false
set_option linter.all false
set_option maxRecDepth 100000
set_option maxHeartbeats 4000000
open PySem PySem.W PySem.Calls PyProof.Rows
theorem PySem.Challenge.cw_everyworth_k38_whole_rules_within_one_an_holds : PySem.Challenge.rw_everyworth_k38_whole_rules_within_one_an.Holds := by
  w_on; o_law
  refine HandSHeadRun.head_any (r := OpenLaw.row PySem.Challenge.rw_everyworth_k38_whole_rules_within_one_an) (q := view (OpenLaw.row PySem.Challenge.rw_everyworth_k38_whole_rules_within_one_an).prog [62]) (H := Ew.hk) (ob := Ew.ob) (M := 4000) (loose := Ew.names) (d := HandSHeadRun.topDef (OpenLaw.row PySem.Challenge.rw_everyworth_k38_whole_rules_within_one_an).prog 62) (kwd := []) Ew.ob_eq
    (by kernel_rfl) (fun s => by kernel_rfl) Ew.run (by kernel_rfl) (by kernel_rfl) (by kernel_rfl) (by rfl) (by first | assumption | decide +kernel) (by decide +kernel) ⟨rfl, rfl, rfl, rfl, rfl, by decide +kernel⟩ ?hw ?hc
  case hw => w_witness2
  case hc =>
    refine L2.walk_ofE (l := PySem.Challenge.rw_everyworth_k38_whole_rules_within_one_an) (n := 63) (k := 20) (x := "_law_script") (CX := L2.CX0) rfl (by decide) (by kernel_rfl) ⟨rfl, by decide, by decide⟩ ?F (fun _ _ _ _ z => z)
    intro w mg fa h Y G hmg0
    obtain ⟨K, KX, c⟩ := Y
    have hmg : mg ("law" : PySem.Str) = some (.ref fa) := by
      have e : (HandSHeadRun.topDef (OpenLaw.row PySem.Challenge.rw_everyworth_k38_whole_rules_within_one_an).prog 62).name = ("law" : PySem.Str) := by kernel_rfl
      rw [← e]
      exact hmg0
    have T := Ew.txt_of KX G c
    obtain ⟨fd, F⟩ := c.t.d.def_ 27 (d := Ew.dLaw) rfl
    have hg := He.glo_ok KX G (c.t.d.fact 27 (f := .glo "law") rfl)
    have efa : fa = He.fAd K Ew.dLaw.at_ := by
      have e := hmg.symm.trans hg
      cases e
      rfl
    subst efa
    refine ⟨K, fd, Ew.spLaw K, KX, fun s u => L2.FunD.bindsA (ps := ["_law_script"]) F (fun _ _ _ _ _ _ us hl => match us, hl with | [_], _ => rfl) s [u] rfl, fun H a ns hl _ ha => ⟨a, ns, rfl, ha, Nat.le_trans hl (by decide), fun _ => rfl⟩, fun base _ _ => Ew.ok_law T F⟩
