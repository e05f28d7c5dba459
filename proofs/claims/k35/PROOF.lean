import PyProof.Rows.All
import Wide.All
import OpenK.AllK
import Wide.FinOn
import HandS.ForMost
import HandS.OwnEq
import HandS.Defaults
import KE.KStateDown
import HandS.Exc
import HandS.WordsExc
import HandS.Head0
import HandS.Head1
import HandS.Head2
import HandS.HeadEnd
import HandS.HeadHook1
import HandS.HeadHook2
import HandS.Wide
import HandS.IsInst
import KE.KExcSuper
import HandS.ExcOwn
import HandS.ExcField
import HandS.TryMany
import HandS.RaiseMore
import HandS.Star
import HandS.EndBits
import HandS.Head3
import HandS.Comp
import HandS.Conv
import HandS.Walk
import HandS.Style
import HandS.AnyAll
import HandS.Dict
import HandS.WordsDict
import HandS.DictComp
import HandS.More
import KE.SortData
import HandS.TupSets
import PyProof.TupleOfSeq
import PyProof.DictDisplay
import KE.GoesEnum
import HandS.Iter
import HandS.MakeKwOnly
import KE.GoesZip
import KE.KIndexOf
import PySem.Challenge.RW_classtable_k35_whole_restriction_and_ind
set_option Elab.async false
set_option linter.all false
set_option maxRecDepth 100000
set_option maxHeartbeats 4000000
namespace L2.KL
open PySem PySem.Spec PyProof.Rows
section
variable {X : Cx} {CX : CXT} {k : Nat} {f C : Addr} {fd : FuncData} {ps : List Str} {sp : Sp} {E : XK}
/-- a def run from wherever there is room, the same frames around -/
theorem run_near {A : Around} {pins : List (Addr × Obj)} {σ : St} {H : Hp} {s : Shared} {Q : VK} {us : List Value} {vs : List V} (F : FnOk X.prog X.w X.K X.mg X.base CX k f fd ps sp) (hr : Room k A) (fr : A.frames = X.A.frames)
    (hb : Binds X.K fd ps []) (hx : Passes CX X E) (I : Inv X pins σ H s) (r : Vals vs us) (h : sp vs H Q E) : wpAny (model X.prog X.w) A (call (.ref f) us) (EP X pins σ Q) X.xe s := by
  have e := I.env0
  have e0 : Env0 X.prog X.w X.K X.mg X.base A X.stack s H := ⟨fr.trans e.frames, e.mod, e.bs, e.bsz, e.funs, e.frf, e.hok, e.bare⟩
  have hl : us.length = ps.length := by rw [← r.length]; exact F.len _ _ _ _ h
  have hbt : BindsTo s fd ⟨us, []⟩ (ps.zip us) := by
    have z := hb s us I.kIn (by rw [List.append_nil]; exact hl)
    rw [List.append_nil] at z
    exact z
  refine wpAny_call (codeAny_mono (F.run A X.stack s H ⟨us, []⟩ us vs Q E hr e0 hbt r h) fun res s' hq => ?_)
  match res, hq with
  | .error e, hq => exact hx pins σ H s e s' I hq
  | .ok (.ret u), hq => exact I.after hq
  | .ok .next, hq => exact False.elim hq
  | .ok .brk, hq => exact False.elim hq
  | .ok .cont, hq => exact False.elim hq
theorem inst_of {pins : List (Addr × Obj)} {σ : St} {H : Hp} {s : Shared} {a dx : Addr} {fs : List (Str × V)} (I : Inv X pins σ H s) (ha : H a = some (.ins C dx fs)) : ∃ od, PySem.W.InstAt s.heap a (PySem.W.instObj C dx) C od := by
  obtain ⟨mA, J, _⟩ := ins_get I.hok ha
  obtain ⟨od, J, _⟩ := J.look
  exact ⟨_, J⟩

/-- len(o) by the class's own __len__ -/
def rLenO (C : Addr) (sp : Sp) (E : XK) : List V → Hp → VK → Prop := fun xs H Q => ∃ a dx fs, xs = [V.ref a] ∧ H a = some (.ins C dx fs) ∧ sp [V.ref a] H (fun v H' => ∃ n : Int, v = .int n ∧ (0 ≤ n ∧ n < 2 ^ 63) ∧ Q v H') E
theorem call_lenO (F : FnOk X.prog X.w X.K X.mg X.base CX k f fd ps sp) (hr : Room (k + 1) X.A) (hs : PySem.W.findIn X.K (.ref C) "__len__" = some (some (.ref f))) (hf : PySem.W.isFn X.K (.ref f) = true)
    (hb : Binds X.K fd ps []) (hx : Passes CX X E) : CallR X (.builtin "len") (rLenO C sp E) := by
  intro pins s σ H xs us Q I r h
  obtain ⟨a, dx, fs, rfl, ha, q⟩ := h
  obtain ⟨u, rfl, ru⟩ := vals1 r
  cases ru
  obtain ⟨od, J⟩ := inst_of I ha
  obtain ⟨m, hF⟩ := I.fr
  have r1 : Vals [V.ref a] [Value.ref a] := .cons rfl .nil
  have z0 := run_near (A := X.A.in1) F hr.in1 rfl hb hx I r1 q
  refine PySem.W.len_K hF I.ok.mod.kin J hs hf (thn z0 ?_)
  intro v s' z
  obtain ⟨v', H', I', rv, n, rfl, hn, q'⟩ := z
  obtain ⟨t, rfl⟩ := rv
  exact ⟨hn, ⟨V.int n, H', I'.tok _, ⟨_, rfl⟩, q'⟩⟩
/-- x == y by the class's own __eq__, both of the class -/
def rEqO (C : Addr) (sp : Sp) (E : XK) : R2 := fun x y H Q => ∃ a b dx dy fs gs, x = V.ref a ∧ y = V.ref b ∧ H a = some (.ins C dx fs) ∧ H b = some (.ins C dy gs) ∧ sp [x, y] H (fun v H' => ∃ c, v = .bl c ∧ Q v H') E
theorem op_eqO (F : FnOk X.prog X.w X.K X.mg X.base CX k f fd ps sp) (hr : Room k X.A) (hs : PySem.W.findIn X.K (.ref C) "__eq__" = some (some (.ref f))) (hf : PySem.W.isFn X.K (.ref f) = true)
    (hb : Binds X.K fd ps []) (hx : Passes CX X E) : OpR X (compareOp .Eq) (rEqO C sp E) := by
  intro pins s σ H x y v u Q I rx ry h
  obtain ⟨a, b, dx, dy, fs, gs, rfl, rfl, ha, hb', q⟩ := h
  cases rx
  cases ry
  obtain ⟨od, J⟩ := inst_of I ha
  obtain ⟨od', J'⟩ := inst_of I hb'
  obtain ⟨m, hF⟩ := I.fr
  have r2 : Vals [V.ref a, V.ref b] [Value.ref a, Value.ref b] := .cons rfl (.cons rfl .nil)
  have z0 := run_near F hr rfl hb hx I r2 q
  show wpAny (model X.prog X.w) X.A (richCompare .Eq _ _) (EP X pins σ Q) X.xe s
  refine PySem.W.cmp_K (op := .Eq) (tb := .ref C) hr.units0 hF I.ok.mod.kin J J'.type (by simp [PySem.W.notFirst]) hs hf (thn z0 ?_)
  intro v s' z
  obtain ⟨v', H', I', rv, c, rfl, q'⟩ := z
  cases rv
  exact ⟨V.bl c, H', I', rfl, q'⟩
/-- x op y by the class's own method, both of the class -/
def rBinO (C : Addr) (sp : Sp) (E : XK) : R2 := fun x y H Q => ∃ a b dx dy fs gs, x = V.ref a ∧ y = V.ref b ∧ H a = some (.ins C dx fs) ∧ H b = some (.ins C dy gs) ∧ sp [x, y] H (fun v H' => v ≠ .non ∧ (∀ n, v ≠ .ty n) ∧ Q v H') E
theorem op_binO {op : Operator} (F : FnOk X.prog X.w X.K X.mg X.base CX k f fd ps sp) (hr : Room k X.A) (hc : PySem.W.selfFirst X.K C = true) (hs : PySem.W.findIn X.K (.ref C) (PySem.dunder op.info.2) = some (some (.ref f))) (hf : PySem.W.isFn X.K (.ref f) = true)
    (hb : Binds X.K fd ps []) (hx : Passes CX X E) : OpR X (binaryOp op) (rBinO C sp E) := by
  intro pins s σ H x y v u Q I rx ry h
  obtain ⟨a, b, dx, dy, fs, gs, rfl, rfl, ha, hb', q⟩ := h
  cases rx
  cases ry
  obtain ⟨od, J⟩ := inst_of I ha
  obtain ⟨od', J'⟩ := inst_of I hb'
  obtain ⟨m, hF⟩ := I.fr
  have r2 : Vals [V.ref a, V.ref b] [Value.ref a, Value.ref b] := .cons rfl (.cons rfl .nil)
  have z0 := run_near F hr rfl hb hx I r2 q
  refine PySem.W.binop_K hF I.ok.mod.kin J J'.type hc hs hf (thn z0 ?_)
  intro v s' z
  obtain ⟨v', H', I', rv, h1, h2, q'⟩ := z
  have e : EP X pins σ Q v s' := ⟨v', H', I', rv, q'⟩
  cases v' with
  | non => exact (h1 rfl).elim
  | ty n => exact (h2 n rfl).elim
  | ref b => cases rv; exact e
  | bl b => cases rv; exact e
  | _ => obtain ⟨t, rfl⟩ := rv; exact e
end
end L2.KL
set_option Elab.async false
set_option linter.all false
set_option maxRecDepth 100000
set_option maxHeartbeats 0
namespace HD
open PySem PySem.Spec PyProof.Rows L2
def top (i : Nat) : Stmt := PySem.Challenge.pw_classtable_k35_whole_restriction_and_ind.main.body.getD i (.Pass ⟨0, 0, 0, 0⟩)
abbrev s_pis_integer : Stmt := top 9
abbrev s_identity : Stmt := top 11
abbrev s_checked_rows : Stmt := top 14
abbrev s_generators : Stmt := top 15
abbrev s_reached : Stmt := top 16
abbrev s_check : Stmt := top 17
abbrev s_cyclic : Stmt := top 19
abbrev s_direct : Stmt := top 20
abbrev s_closure : Stmt := top 21
abbrev s_from_permutations : Stmt := top 22
abbrev s_classes : Stmt := top 24
abbrev s_is_subgroup : Stmt := top 25
abbrev s_as_group : Stmt := top 26
abbrev s_is_integer : Stmt := top 28
abbrev s_common : Stmt := top 29
abbrev s_multiple : Stmt := top 30
abbrev s_prime_powers : Stmt := top 31
abbrev s_inverse_modulo : Stmt := top 32
abbrev s_spread : Stmt := top 35
abbrev s_divided : Stmt := top 36
abbrev s_cyclotomic : Stmt := top 37
abbrev s_folded : Stmt := top 38
abbrev s_lowered : Stmt := top 39
abbrev s_least_form : Stmt := top 40
abbrev s_of_integer : Stmt := top 44
abbrev s_added : Stmt := top 45
abbrev s_everywhere : Stmt := top 48
abbrev s_restricted : Stmt := top 50
abbrev s_induced : Stmt := top 51
abbrev s_coset_function : Stmt := top 52
abbrev s_law_state : Stmt := top 54
abbrev s_law_take : Stmt := top 55
abbrev s_law_images : Stmt := top 56
abbrev s_law_group : Stmt := top 57
abbrev s_law_inverse : Stmt := top 58
abbrev s_law_order : Stmt := top 59
abbrev s_law_classes : Stmt := top 60
abbrev s_law_number : Stmt := top 61
abbrev s_law_function : Stmt := top 62
abbrev s_law_at : Stmt := top 63
abbrev s_law_subgroup : Stmt := top 64
abbrev s_law_refused : Stmt := top 65
abbrev s_law : Stmt := top 66
abbrev sRefused_init : Stmt := inClass (top 6) 0
abbrev sPermutation_init : Stmt := inClass (top 10) 0
abbrev sPermutation_mul : Stmt := inClass (top 10) 2
abbrev sGroup_init : Stmt := inClass (top 18) 0
abbrev sGroup_len : Stmt := inClass (top 18) 1
abbrev sGroup_eq : Stmt := inClass (top 18) 2
abbrev sGroup_product : Stmt := inClass (top 18) 3
abbrev sGroup_inverse : Stmt := inClass (top 18) 4
abbrev sGroup_order_of : Stmt := inClass (top 18) 6
abbrev sGroup_conjugated : Stmt := inClass (top 18) 7
abbrev sCyclo_init : Stmt := inClass (top 43) 0
abbrev sCyclo_eq : Stmt := inClass (top 43) 1
abbrev sCyclo_add : Stmt := inClass (top 43) 3
abbrev sCyclo_mul : Stmt := inClass (top 43) 6
abbrev sCyclo_key : Stmt := inClass (top 43) 7
abbrev sCyclo_over : Stmt := inClass (top 43) 8
abbrev sCyclo_scaled : Stmt := inClass (top 43) 9
abbrev sCyclo_image : Stmt := inClass (top 43) 11
abbrev sCyclo_mirrored : Stmt := inClass (top 43) 12
abbrev sClassFunction_init : Stmt := inClass (top 47) 0
abbrev sClassFunction_eq : Stmt := inClass (top 47) 1
abbrev sClassFunction_call : Stmt := inClass (top 47) 6
abbrev sClassFunction_value_at : Stmt := inClass (top 47) 7
abbrev sClassFunction_inner : Stmt := inClass (top 47) 12
/-! the defs -/
def d_pis_integer : He.DefD := ⟨("_is_integer", none), "_is_integer", "_is_integer", defArgs s_pis_integer, defBody s_pis_integer, defScope s_pis_integer, [], []⟩
def d_identity : He.DefD := ⟨("identity", none), "identity", "identity", defArgs s_identity, defBody s_identity, defScope s_identity, [], []⟩
def d_checked_rows : He.DefD := ⟨("_checked_rows", none), "_checked_rows", "_checked_rows", defArgs s_checked_rows, defBody s_checked_rows, defScope s_checked_rows, [], []⟩
def d_generators : He.DefD := ⟨("_generators", none), "_generators", "_generators", defArgs s_generators, defBody s_generators, defScope s_generators, [], []⟩
def d_reached : He.DefD := ⟨("_reached", none), "_reached", "_reached", defArgs s_reached, defBody s_reached, defScope s_reached, [], []⟩
def d_check : He.DefD := ⟨("_check", none), "_check", "_check", defArgs s_check, defBody s_check, defScope s_check, [], []⟩
def d_cyclic : He.DefD := ⟨("cyclic", none), "cyclic", "cyclic", defArgs s_cyclic, defBody s_cyclic, defScope s_cyclic, [], []⟩
def d_direct : He.DefD := ⟨("direct", none), "direct", "direct", defArgs s_direct, defBody s_direct, defScope s_direct, [], []⟩
def d_closure : He.DefD := ⟨("_closure", none), "_closure", "_closure", defArgs s_closure, defBody s_closure, defScope s_closure, [], []⟩
def d_from_permutations : He.DefD := ⟨("from_permutations", none), "from_permutations", "from_permutations", defArgs s_from_permutations, defBody s_from_permutations, defScope s_from_permutations, [], []⟩
def d_classes : He.DefD := ⟨("classes", none), "classes", "classes", defArgs s_classes, defBody s_classes, defScope s_classes, [], []⟩
def d_is_subgroup : He.DefD := ⟨("is_subgroup", none), "is_subgroup", "is_subgroup", defArgs s_is_subgroup, defBody s_is_subgroup, defScope s_is_subgroup, [], []⟩
def d_as_group : He.DefD := ⟨("as_group", none), "as_group", "as_group", defArgs s_as_group, defBody s_as_group, defScope s_as_group, [], []⟩
def d_is_integer : He.DefD := ⟨("is_integer", none), "is_integer", "is_integer", defArgs s_is_integer, defBody s_is_integer, defScope s_is_integer, [], []⟩
def d_common : He.DefD := ⟨("common", none), "common", "common", defArgs s_common, defBody s_common, defScope s_common, [], []⟩
def d_multiple : He.DefD := ⟨("multiple", none), "multiple", "multiple", defArgs s_multiple, defBody s_multiple, defScope s_multiple, [], []⟩
def d_prime_powers : He.DefD := ⟨("prime_powers", none), "prime_powers", "prime_powers", defArgs s_prime_powers, defBody s_prime_powers, defScope s_prime_powers, [], []⟩
def d_inverse_modulo : He.DefD := ⟨("inverse_modulo", none), "inverse_modulo", "inverse_modulo", defArgs s_inverse_modulo, defBody s_inverse_modulo, defScope s_inverse_modulo, [], []⟩
def d_spread : He.DefD := ⟨("spread", none), "spread", "spread", defArgs s_spread, defBody s_spread, defScope s_spread, [], []⟩
def d_divided : He.DefD := ⟨("divided", none), "divided", "divided", defArgs s_divided, defBody s_divided, defScope s_divided, [], []⟩
def d_cyclotomic : He.DefD := ⟨("cyclotomic", none), "cyclotomic", "cyclotomic", defArgs s_cyclotomic, defBody s_cyclotomic, defScope s_cyclotomic, [], []⟩
def d_folded : He.DefD := ⟨("folded", none), "folded", "folded", defArgs s_folded, defBody s_folded, defScope s_folded, [], []⟩
def d_lowered : He.DefD := ⟨("lowered", none), "lowered", "lowered", defArgs s_lowered, defBody s_lowered, defScope s_lowered, [], []⟩
def d_least_form : He.DefD := ⟨("least_form", none), "least_form", "least_form", defArgs s_least_form, defBody s_least_form, defScope s_least_form, [], []⟩
def d_of_integer : He.DefD := ⟨("of_integer", none), "of_integer", "of_integer", defArgs s_of_integer, defBody s_of_integer, defScope s_of_integer, [], []⟩
def d_added : He.DefD := ⟨("added", none), "added", "added", defArgs s_added, defBody s_added, defScope s_added, [], []⟩
def d_everywhere : He.DefD := ⟨("everywhere", none), "everywhere", "everywhere", defArgs s_everywhere, defBody s_everywhere, defScope s_everywhere, [], []⟩
def d_restricted : He.DefD := ⟨("restricted", none), "restricted", "restricted", defArgs s_restricted, defBody s_restricted, defScope s_restricted, [], []⟩
def d_induced : He.DefD := ⟨("induced", none), "induced", "induced", defArgs s_induced, defBody s_induced, defScope s_induced, [], []⟩
def d_coset_function : He.DefD := ⟨("coset_function", none), "coset_function", "coset_function", defArgs s_coset_function, defBody s_coset_function, defScope s_coset_function, [], []⟩
def d_law_state : He.DefD := ⟨("_law_state", none), "_law_state", "_law_state", defArgs s_law_state, defBody s_law_state, defScope s_law_state, [], []⟩
def d_law_take : He.DefD := ⟨("_law_take", none), "_law_take", "_law_take", defArgs s_law_take, defBody s_law_take, defScope s_law_take, [], []⟩
def d_law_images : He.DefD := ⟨("_law_images", none), "_law_images", "_law_images", defArgs s_law_images, defBody s_law_images, defScope s_law_images, [], []⟩
def d_law_group : He.DefD := ⟨("_law_group", none), "_law_group", "_law_group", defArgs s_law_group, defBody s_law_group, defScope s_law_group, [], []⟩
def d_law_inverse : He.DefD := ⟨("_law_inverse", none), "_law_inverse", "_law_inverse", defArgs s_law_inverse, defBody s_law_inverse, defScope s_law_inverse, [], []⟩
def d_law_order : He.DefD := ⟨("_law_order", none), "_law_order", "_law_order", defArgs s_law_order, defBody s_law_order, defScope s_law_order, [], []⟩
def d_law_classes : He.DefD := ⟨("_law_classes", none), "_law_classes", "_law_classes", defArgs s_law_classes, defBody s_law_classes, defScope s_law_classes, [], []⟩
def d_law_number : He.DefD := ⟨("_law_number", none), "_law_number", "_law_number", defArgs s_law_number, defBody s_law_number, defScope s_law_number, [], []⟩
def d_law_function : He.DefD := ⟨("_law_function", none), "_law_function", "_law_function", defArgs s_law_function, defBody s_law_function, defScope s_law_function, [], []⟩
def d_law_at : He.DefD := ⟨("_law_at", none), "_law_at", "_law_at", defArgs s_law_at, defBody s_law_at, defScope s_law_at, [], []⟩
def d_law_subgroup : He.DefD := ⟨("_law_subgroup", none), "_law_subgroup", "_law_subgroup", defArgs s_law_subgroup, defBody s_law_subgroup, defScope s_law_subgroup, [], []⟩
def d_law_refused : He.DefD := ⟨("_law_refused", none), "_law_refused", "_law_refused", defArgs s_law_refused, defBody s_law_refused, defScope s_law_refused, [], []⟩
def d_law : He.DefD := ⟨("law", none), "law", "law", defArgs s_law, defBody s_law, defScope s_law, [], []⟩
def dRefused_init : He.DefD := ⟨("Refused", some "__init__"), "__init__", "Refused.__init__", defArgs sRefused_init, defBody sRefused_init, defScope sRefused_init, [], []⟩
def dPermutation_init : He.DefD := ⟨("Permutation", some "__init__"), "__init__", "Permutation.__init__", defArgs sPermutation_init, defBody sPermutation_init, defScope sPermutation_init, [], []⟩
def dPermutation_mul : He.DefD := ⟨("Permutation", some "__mul__"), "__mul__", "Permutation.__mul__", defArgs sPermutation_mul, defBody sPermutation_mul, defScope sPermutation_mul, [], []⟩
def dGroup_init : He.DefD := ⟨("Group", some "__init__"), "__init__", "Group.__init__", defArgs sGroup_init, defBody sGroup_init, defScope sGroup_init, [], []⟩
def dGroup_len : He.DefD := ⟨("Group", some "__len__"), "__len__", "Group.__len__", defArgs sGroup_len, defBody sGroup_len, defScope sGroup_len, [], []⟩
def dGroup_eq : He.DefD := ⟨("Group", some "__eq__"), "__eq__", "Group.__eq__", defArgs sGroup_eq, defBody sGroup_eq, defScope sGroup_eq, [], []⟩
def dGroup_product : He.DefD := ⟨("Group", some "product"), "product", "Group.product", defArgs sGroup_product, defBody sGroup_product, defScope sGroup_product, [], []⟩
def dGroup_inverse : He.DefD := ⟨("Group", some "inverse"), "inverse", "Group.inverse", defArgs sGroup_inverse, defBody sGroup_inverse, defScope sGroup_inverse, [], []⟩
def dGroup_order_of : He.DefD := ⟨("Group", some "order_of"), "order_of", "Group.order_of", defArgs sGroup_order_of, defBody sGroup_order_of, defScope sGroup_order_of, [], []⟩
def dGroup_conjugated : He.DefD := ⟨("Group", some "conjugated"), "conjugated", "Group.conjugated", defArgs sGroup_conjugated, defBody sGroup_conjugated, defScope sGroup_conjugated, [], []⟩
def dCyclo_init : He.DefD := ⟨("Cyclo", some "__init__"), "__init__", "Cyclo.__init__", defArgs sCyclo_init, defBody sCyclo_init, defScope sCyclo_init, [.int 1], []⟩
def dCyclo_eq : He.DefD := ⟨("Cyclo", some "__eq__"), "__eq__", "Cyclo.__eq__", defArgs sCyclo_eq, defBody sCyclo_eq, defScope sCyclo_eq, [], []⟩
def dCyclo_add : He.DefD := ⟨("Cyclo", some "__add__"), "__add__", "Cyclo.__add__", defArgs sCyclo_add, defBody sCyclo_add, defScope sCyclo_add, [], []⟩
def dCyclo_mul : He.DefD := ⟨("Cyclo", some "__mul__"), "__mul__", "Cyclo.__mul__", defArgs sCyclo_mul, defBody sCyclo_mul, defScope sCyclo_mul, [], []⟩
def dCyclo_key : He.DefD := ⟨("Cyclo", some "key"), "key", "Cyclo.key", defArgs sCyclo_key, defBody sCyclo_key, defScope sCyclo_key, [], []⟩
def dCyclo_over : He.DefD := ⟨("Cyclo", some "over"), "over", "Cyclo.over", defArgs sCyclo_over, defBody sCyclo_over, defScope sCyclo_over, [], []⟩
def dCyclo_scaled : He.DefD := ⟨("Cyclo", some "scaled"), "scaled", "Cyclo.scaled", defArgs sCyclo_scaled, defBody sCyclo_scaled, defScope sCyclo_scaled, [], []⟩
def dCyclo_image : He.DefD := ⟨("Cyclo", some "image"), "image", "Cyclo.image", defArgs sCyclo_image, defBody sCyclo_image, defScope sCyclo_image, [], []⟩
def dCyclo_mirrored : He.DefD := ⟨("Cyclo", some "mirrored"), "mirrored", "Cyclo.mirrored", defArgs sCyclo_mirrored, defBody sCyclo_mirrored, defScope sCyclo_mirrored, [], []⟩
def dClassFunction_init : He.DefD := ⟨("ClassFunction", some "__init__"), "__init__", "ClassFunction.__init__", defArgs sClassFunction_init, defBody sClassFunction_init, defScope sClassFunction_init, [], [("known", .non)]⟩
def dClassFunction_eq : He.DefD := ⟨("ClassFunction", some "__eq__"), "__eq__", "ClassFunction.__eq__", defArgs sClassFunction_eq, defBody sClassFunction_eq, defScope sClassFunction_eq, [], []⟩
def dClassFunction_call : He.DefD := ⟨("ClassFunction", some "__call__"), "__call__", "ClassFunction.__call__", defArgs sClassFunction_call, defBody sClassFunction_call, defScope sClassFunction_call, [], []⟩
def dClassFunction_value_at : He.DefD := ⟨("ClassFunction", some "value_at"), "value_at", "ClassFunction.value_at", defArgs sClassFunction_value_at, defBody sClassFunction_value_at, defScope sClassFunction_value_at, [], []⟩
def dClassFunction_inner : He.DefD := ⟨("ClassFunction", some "inner"), "inner", "ClassFunction.inner", defArgs sClassFunction_inner, defBody sClassFunction_inner, defScope sClassFunction_inner, [], []⟩
def fn0 : List He.DefD := [d_pis_integer, d_identity, d_checked_rows, d_generators, d_reached, d_check, d_cyclic, d_direct, d_closure, d_from_permutations, d_classes, d_is_subgroup, d_as_group, d_is_integer, d_common, d_multiple, d_prime_powers, d_inverse_modulo, d_spread, d_divided, d_cyclotomic, d_folded, d_lowered, d_least_form, d_of_integer, d_added, d_everywhere, d_restricted, d_induced, d_coset_function]
def fn1 : List He.DefD := [d_law_state, d_law_take, d_law_images, d_law_group, d_law_inverse, d_law_order, d_law_classes, d_law_number, d_law_function, d_law_at, d_law_subgroup, d_law_refused, d_law, dPermutation_init, dPermutation_mul, dGroup_init, dGroup_len, dGroup_eq, dGroup_product, dGroup_inverse, dGroup_order_of, dGroup_conjugated, dCyclo_init, dCyclo_eq, dCyclo_add, dCyclo_mul, dCyclo_key, dCyclo_over, dCyclo_scaled]
def fn2 : List He.DefD := [dCyclo_image, dCyclo_mirrored, dClassFunction_init, dClassFunction_eq, dClassFunction_call, dClassFunction_value_at, dClassFunction_inner]
def fn : List He.DefD := fn0 ++ fn1 ++ fn2
def fa0 : List He.Fa := [.glo "_is_integer", .glo "identity", .glo "_checked_rows", .glo "_generators", .glo "_reached", .glo "_check", .glo "cyclic", .glo "direct", .glo "_closure", .glo "from_permutations", .glo "classes", .glo "is_subgroup", .glo "as_group", .glo "is_integer", .glo "common", .glo "multiple", .glo "prime_powers", .glo "inverse_modulo", .glo "spread", .glo "divided", .glo "cyclotomic", .glo "folded", .glo "lowered", .glo "least_form", .glo "of_integer"]
def fa1 : List He.Fa := [.glo "added", .glo "everywhere", .glo "restricted", .glo "induced", .glo "coset_function", .glo "_law_state", .glo "_law_take", .glo "_law_images", .glo "_law_group", .glo "_law_inverse", .glo "_law_order", .glo "_law_classes", .glo "_law_number", .glo "_law_function", .glo "_law_at", .glo "_law_subgroup", .glo "_law_refused", .glo "law", .glo "Refused", .glo "Permutation", .glo "Group", .glo "Cyclo", .glo "ClassFunction", .glo "Malformed", .glo "ZeroDivisor"]
def fa2 : List He.Fa := [.glo "Fault", .free "isinstance", .free "len", .free "sorted", .free "list", .free "range", .free "tuple", .free "enumerate", .free "zip", .free "any", .free "abs", .free "max", .free "min", .free "int", .free "ValueError", .free "bool", .free "super", .int "MOST_POINTS" 12, .int "MOST_ORDER" 60, .int "MOST" 5000, .keep "Refused", .cls "Permutation", .mkr "Permutation", .noat "Permutation" "images", .meth "Permutation" "__mul__"]
def fa3 : List He.Fa := [.keep "Permutation", .cls "Group", .mkr "Group", .noat "Group" "table", .meth "Group" "__len__", .meth "Group" "__eq__", .meth "Group" "product", .meth "Group" "inverse", .meth "Group" "order_of", .meth "Group" "conjugated", .keep "Group", .cls "Cyclo", .mkr "Cyclo", .noat "Cyclo" "e", .noat "Cyclo" "parts", .noat "Cyclo" "low", .meth "Cyclo" "__eq__", .meth "Cyclo" "__add__", .meth "Cyclo" "__mul__", .meth "Cyclo" "key", .meth "Cyclo" "over", .meth "Cyclo" "scaled", .meth "Cyclo" "image", .meth "Cyclo" "mirrored", .keep "Cyclo"]
def fa4 : List He.Fa := [.cls "ClassFunction", .mkr "ClassFunction", .noat "ClassFunction" "group", .noat "ClassFunction" "row", .noat "ClassFunction" "known", .meth "ClassFunction" "__eq__", .meth "ClassFunction" "__call__", .meth "ClassFunction" "value_at", .meth "ClassFunction" "inner", .keep "ClassFunction", .keep "Malformed", .exm "Refused" "Refused" true, .exm "Malformed" "Malformed" true]
def fa : List He.Fa := fa0 ++ fa1 ++ fa2 ++ fa3 ++ fa4
def loose0 : List PySem.Str := ["lcm", "_wall", "Fault", "ZeroDivisor", "Malformed", "Refused", "MOST_POINTS", "_is_integer", "Permutation", "identity", "MOST_ORDER", "_checked_rows", "_generators", "_reached", "_check", "Group", "cyclic", "direct", "_closure", "from_permutations", "classes", "is_subgroup", "as_group", "is_integer", "common", "multiple", "prime_powers", "inverse_modulo", "MOST", "spread"]
def loose1 : List PySem.Str := ["divided", "cyclotomic", "folded", "lowered", "least_form", "head_text", "low_text", "Cyclo", "of_integer", "added", "ClassFunction", "everywhere", "restricted", "induced", "coset_function", "_law_state", "_law_take", "_law_images", "_law_group", "_law_inverse", "_law_order", "_law_classes", "_law_number", "_law_function", "_law_at", "_law_subgroup", "_law_refused"]
def loose : List PySem.Str := loose0 ++ loose1

/-- an instance's class, as isinstance asks -/
def instB (x : Str) (K : PySem.W.Frag) : Bool := decide (PySem.W.findIn K (.ref (He.ga K x)) "__class__" = some (some (.builtin "object.__class__"))) && (decide (PySem.W.specialIn K (.builtin "object.__class__") "__get__" = some (some (.builtin "getset_descriptor.__get__"))) &&
  (decide (PySem.W.takesIn K (.builtin "object.__class__") = some true) && decide (PySem.W.mroIn K (He.ga K x) (.type "object") = some true)))
/-- facts beside -/
def exfs : List (PySem.W.Frag → Bool) := [fun K => PySem.W.selfFirst K (He.ga K "Permutation"), fun K => PySem.W.selfFirst K (He.ga K "Cyclo"), instB "Permutation", instB "Group", instB "Cyclo", instB "ClassFunction"]
def exf (K : PySem.W.Frag) : Bool := exfs.all fun f => f K
end HD
set_option Elab.async false
set_option linter.all false
set_option maxRecDepth 100000
set_option maxHeartbeats 4000000
namespace L2.KL
open PySem PySem.Spec PyProof.Rows

/-! ### heaps: what never changes once it is made -/
def froz : HO → Bool
  | .tup _ => true
  | .ins _ _ _ => true
  | _ => false
/-- tuples and instances stand as they stood -/
def Fz (H H' : Hp) : Prop := ∀ b o, H b = some o → froz o = true → H' b = some o
theorem Fz.refl (H : Hp) : Fz H H := fun _ _ h _ => h
theorem Fz.trans {H H1 H2 : Hp} (a : Fz H H1) (b : Fz H1 H2) : Fz H H2 := fun c o h f => b c o (a c o h f) f
theorem Fz.of {H H' : Hp} (s : Same H H') : Fz H H' := fun b o h _ => s b o h
/-- a list or dict that changes -/
theorem Fz.upd {H : Hp} {l : Addr} {u o : HO} (h : H l = some u) (hu : froz u = false) : Fz H (L2.upd H l o) := fun b x e f => by
  have : b ≠ l := by
    rintro rfl
    rw [h] at e
    rw [← Option.some.inj e] at f
    rw [hu] at f
    cases f
  rw [upd_ne this]
  exact e
theorem Same.new {H : Hp} {p : Addr} {o : HO} (h : H p = none) : Same H (upd H p o) := fun b x e => by
  rw [upd_ne (ne_of_none e h)]
  exact e
/-- what H does not know may change -/
theorem Same.mut {H H' : Hp} {p : Addr} {o : HO} (e : Same H H') (h : H p = none) : Same H (upd H' p o) := fun b x hb => by
  rw [upd_ne (ne_of_none hb h)]
  exact e b x hb
theorem Same.get {H H' : Hp} {a : Addr} {o : HO} (s : Same H H') (h : H a = some o) : H' a = some o := s a o h
theorem Same.tup {K : PySem.W.Frag} {H H' : Hp} {a : Addr} {xs : List V} (e : Same H H') (h : SqT K H a xs) : SqT K H' a xs := h.ext e
theorem upd_old {H : Hp} {l a : Addr} {o u : HO} (hn : H l = none) (ha : H a = some o) : upd H l u a = some o := by
  rw [upd_ne (ne_of_none ha hn)]
  exact ha
theorem upd_fz {H : Hp} {l a : Addr} {o u v : HO} (hl : H l = some v) (ha : H a = some o) (hv : froz v = false) (ho : froz o = true) : upd H l u a = some o := (Fz.upd (o := u) hl hv) a o ha ho

/-! ### numbers as values -/
abbrev nV (n : Nat) : V := .int ((n : Nat) : Int)
abbrev natsV (xs : List Nat) : List V := xs.map nV
abbrev intsV (xs : List Int) : List V := xs.map V.int
abbrev refsV (xs : List Addr) : List V := xs.map V.ref
theorem nats_ints (xs : List Nat) : natsV xs = intsV (xs.map fun n => ((n : Nat) : Int)) := by
  show xs.map nV = (xs.map fun n => ((n : Nat) : Int)).map V.int
  rw [List.map_map]
  rfl
theorem at_nats {xs : List Nat} {i : Nat} (h : i < xs.length) : atI (natsV xs) ((i : Nat) : Int) = some (nV (xs.getD i 0)) := by
  refine atI_nat ?_
  rw [List.getElem?_map, List.getElem?_eq_getElem h]
  simp [List.getD, List.getElem?_eq_getElem h]
theorem at_ints {xs : List Int} {i : Nat} (h : i < xs.length) : atI (intsV xs) ((i : Nat) : Int) = some (.int (xs.getD i 0)) := by
  refine atI_nat ?_
  rw [List.getElem?_map, List.getElem?_eq_getElem h]
  simp [List.getD, List.getElem?_eq_getElem h]
theorem at_intsE {xs : List Int} {i : Int} (j : Nat) (e : i = (j : Int)) (h : j < xs.length) : atI (intsV xs) i = some (.int (xs.getD j 0)) := by
  subst e
  exact at_ints h
theorem at_natsE {xs : List Nat} {i : Int} (j : Nat) (e : i = (j : Int)) (h : j < xs.length) : atI (natsV xs) i = some (nV (xs.getD j 0)) := by
  subst e
  exact at_nats h
theorem set_ints (xs : List Int) (j : Nat) (c : Int) : (intsV xs).set j (.int c) = intsV (xs.set j c) := (List.map_set).symm
theorem at_refs {xs : List Addr} {i : Nat} {a : Addr} (h : xs[i]? = some a) : atI (refsV xs) ((i : Nat) : Int) = some (.ref a) := by
  refine atI_nat ?_
  rw [List.getElem?_map, h]
  rfl
theorem flat_nats (xs : List Nat) : (natsV xs).all flatV = true := by
  rw [List.all_eq_true]
  intro v hv
  obtain ⟨n, _, rfl⟩ := List.mem_map.mp hv
  rfl
theorem flat_ints (xs : List Int) : (intsV xs).all flatV = true := by
  rw [List.all_eq_true]
  intro v hv
  obtain ⟨n, _, rfl⟩ := List.mem_map.mp hv
  rfl
theorem in_ints (x : Int) (xs : List Int) : inV (.int x) (intsV xs) = decide (x ∈ xs) := by
  induction xs with
  | nil => rfl
  | cons a r ih =>
    have e : inV (.int x) (intsV (a :: r)) = (eqV (.int a) (.int x) || inV (.int x) (intsV r)) := rfl
    rw [e, ih]
    have e2 : eqV (.int a) (.int x) = (a == x) := rfl
    rw [e2]
    by_cases h : a = x
    · subst h
      simp
    · have h2 : ¬ x = a := fun z => h z.symm
      simp [h, h2]
theorem in_nats (x : Nat) (xs : List Nat) : inV (nV x) (natsV xs) = decide (x ∈ xs) := by
  rw [nats_ints, in_ints]
  congr 1
  rw [List.mem_map]
  apply propext
  constructor
  · rintro ⟨a, h, e⟩
    have : a = x := by omega
    rw [← this]
    exact h
  · exact fun h => ⟨x, h, rfl⟩

/-! ### the text's facts -/
structure Tx (K : PySem.W.Frag) (mg : Str → Option Value) : Prop where
  x : ∃ h : Heap, K.In h ∧ h.Ns mainGlobals mg
  c : He.SaysD HD.fa HD.fn K
  e : HD.exf K = true
section
variable {K : PySem.W.Frag} {mg : Str → Option Value}
theorem Tx.glo (T : Tx K mg) {x : Str} (i : Nat) (h : HD.fa[i]? = some (.glo x) := by rfl) : mg x = some (.ref (He.ga K x)) :=
  let ⟨_, X, G⟩ := T.x; He.glo_ok X G (T.c.fact i h)
theorem Tx.free (T : Tx K mg) {x : Str} (i : Nat) (h : HD.fa[i]? = some (.free x) := by rfl) : mg x = none :=
  let ⟨_, X, G⟩ := T.x; He.free_ok X G (T.c.fact i h)
theorem Tx.int (T : Tx K mg) {x : Str} {n : Int} (i : Nat) (h : HD.fa[i]? = some (.int x n) := by rfl) : ∃ t, mg x = some (.int n t) :=
  let ⟨_, X, G⟩ := T.x; He.int_ok X G (T.c.fact i h)
theorem Tx.cls (T : Tx K mg) {x : Str} (i : Nat) (h : HD.fa[i]? = some (.cls x) := by rfl) : Cls K (He.ga K x) := He.cls_ok (T.c.fact i h)
theorem Tx.noat (T : Tx K mg) {x f : Str} (i : Nat) (h : HD.fa[i]? = some (.noat x f) := by rfl) : NoAttr K (He.ga K x) f := He.noat_ok (T.c.fact i h)
theorem Tx.meth (T : Tx K mg) {x m : Str} (i : Nat) (h : HD.fa[i]? = some (.meth x m) := by rfl) : Meth K (He.ga K x) m (He.ma K (He.ga K x) m) := He.meth_ok (T.c.fact i h)
theorem Tx.mkr (T : Tx K mg) {x : Str} (i : Nat) (h : HD.fa[i]? = some (.mkr x) := by rfl) : Mk K (He.ga K x) (He.ma K (He.ga K x) "__init__") := He.mkr_ok (T.c.fact i h)
theorem Tx.ex (T : Tx K mg) {f : PySem.W.Frag → Bool} (i : Nat) (h : HD.exfs[i]? = some f := by rfl) : f K = true := List.all_eq_true.mp T.e f (List.mem_of_getElem? h)
theorem Tx.fn (T : Tx K mg) {d : He.DefD} (i : Nat) (h : HD.fn[i]? = some d := by rfl) : ∃ fd, FunD K d.name d.qual d.params d.body d.scope (d.dvs K) (d.kws K) (He.fAd K d.at_) fd := T.c.def_ i h
end

theorem inst_ty {K : PySem.W.Frag} {x : Str} {H : Hp} {a dx : Addr} {fs : List (Str × V)} (c : Cls K (He.ga K x)) (h : HD.instB x K = true) (e : H a = some (.ins (He.ga K x) dx fs)) : TyX K H (.ref a) (.ref (He.ga K x)) := by
  obtain ⟨h1, h⟩ := Bool.and_eq_true_iff.mp h
  obtain ⟨h2, h⟩ := Bool.and_eq_true_iff.mp h
  obtain ⟨h3, h4⟩ := Bool.and_eq_true_iff.mp h
  exact .base (.ins e c (of_decide_eq_true h1) (of_decide_eq_true h2) (of_decide_eq_true h3) (of_decide_eq_true h4))
section
variable {K : PySem.W.Frag} {H : Hp} {Q : VK} {x : Str} {a dx : Addr} {fs : List (Str × V)} {xs : List V} {i : Int}
/-- isinstance of an own instance, of a list, a tuple, an int -/
theorem isi_own (c : Cls K (He.ga K x)) (h : HD.instB x K = true) (e : H a = some (.ins (He.ga K x) dx fs)) (q : Q (.bl true) H) : rIsi K [.ref a, .ref (He.ga K x)] H Q :=
  ⟨_, _, _, _, true, rfl, .own _, inst_ty c h e, by unfold PySem.W.kitOne; rw [if_pos (by simp)], q⟩
theorem isi_int (q : Q (.bl true) H) : rIsi K [.int i, .ty "int"] H Q := ⟨_, _, _, _, true, rfl, .ty _, .base (.int i), kit_ty (by decide +kernel), q⟩
theorem isi_intB (q : Q (.bl false) H) : rIsi K [.int i, .ty "bool"] H Q := ⟨_, _, _, _, false, rfl, .ty _, .base (.int i), kit_ty (by decide +kernel), q⟩
theorem isi_tup (e : H a = some (.tup xs)) (q : Q (.bl true) H) : rIsi K [.ref a, .ty "tuple"] H Q := ⟨_, _, _, _, true, rfl, .ty _, .base (.tup e), kit_ty (by decide +kernel), q⟩
theorem isi_lstT (e : H a = some (.lst xs)) (q : Q (.bl false) H) : rIsi K [.ref a, .ty "tuple"] H Q := ⟨_, _, _, _, false, rfl, .ty _, .base (.lst e), kit_ty (by decide +kernel), q⟩
theorem isi_lt_lst {p : Addr} (hp : H p = some (.tup [.ty "list", .ty "tuple"])) (e : H a = some (.lst xs)) (q : Q (.bl true) H) : rIsiT K [.ref a, .ref p] H Q :=
  ⟨_, p, _, _, [.type "list", .type "tuple"], true, rfl, hp, .cons (.ty _) (.cons (.ty _) .nil), .base (.lst e), by
    unfold PySem.W.kitAny
    rw [kit_ty (K := K) (a := "list") (b := "list") (r := true) (by decide +kernel)], q⟩
theorem isi_lt_tup {p : Addr} (hp : H p = some (.tup [.ty "list", .ty "tuple"])) (e : H a = some (.tup xs)) (q : Q (.bl true) H) : rIsiT K [.ref a, .ref p] H Q :=
  ⟨_, p, _, _, [.type "list", .type "tuple"], true, rfl, hp, .cons (.ty _) (.cons (.ty _) .nil), .base (.tup e), by
    unfold PySem.W.kitAny
    rw [kit_ty (K := K) (a := "tuple") (b := "list") (r := false) (by decide +kernel)]
    show PySem.W.kitAny K (.type "tuple") [.type "tuple"] = some true
    unfold PySem.W.kitAny
    rw [kit_ty (K := K) (a := "tuple") (b := "tuple") (r := true) (by decide +kernel)], q⟩
end

/-! ### a def and its promise -/
structure Ok (P : Program) (w : World) (K : PySem.W.Frag) (mg : Str → Option Value) (base : Heap) (CX : CXT) (k : Nat) (d : He.DefD) (ps : List Str) (sp : Sp) : Prop where
  ex : ∃ fd, FnOk P w K mg base CX k (He.fAd K d.at_) fd ps sp ∧ Binds K fd ps []
  kp : PySem.W.keepIn K (.ref (He.fAd K d.at_)) = true
section
variable {P : Program} {w : World} {K : PySem.W.Frag} {mg : Str → Option Value} {base : Heap} {N ps : List Str} {k : Nat} {sp : Sp}
/-- a def of the text without defaults: its body's derivation and reading -/
theorem Ok.mk0 {d : He.DefD} {i : Nat} (T : Tx K mg) (hd : HD.fn[i]? = some d) (hdf : d.dfl = []) (S : FnScope N ps d.scope) (len : ∀ vs H Q E, sp vs H Q E → vs.length = ps.length)
    (hb : ∀ (kV doc pm : Value) (an : Option Addr) (cdv ct : Value) (us : List Value), us.length = ps.length → bindArgs (PySem.W.fnOf d.name d.qual d.params d.body d.scope .none kV doc pm an cdv ct) ⟨us, []⟩ = pure (ps.zip us))
    (hbody : ∀ (cdv : Value) (A : Around) (outer : List Env) (s : Shared) (H : Hp) (vs : List V) (Q : VK) (E : XK), Room k (A.deeper (envOfC d.qual d.scope s.heap.objs.size (He.fAd K d.at_) cdv)) → sp vs H Q E →
      ∃ t, PSs (cxOf CX0 P w K mg base N d.qual d.scope (He.fAd K d.at_) cdv A outer s H E).nox d.body t ∧ t { nx := fun _ H' => Q .non H', rt := Q } (start N vs) H) : Ok P w K mg base CX0 (k + 1) d ps sp := by
  obtain ⟨fd, F⟩ := T.fn i hd
  have e : d.dvs K = [] := by
    unfold He.DefD.dvs
    rw [hdf]
    rfl
  have F2 := F
  rw [e] at F2
  exact ⟨⟨fd, F.ok S len fun cdv A outer s H vs Q E hr h => let ⟨t, p, q⟩ := hbody cdv A outer s H vs Q E hr h; ⟨t, PSs.nox p, q⟩, F2.bindsN hb⟩, F.kp⟩
theorem Ok.mono {CX : CXT} {j : Nat} {d : He.DefD} (G : Ok P w K mg base CX j d ps sp) (h : j ≤ k) : Ok P w K mg base CX k d ps sp :=
  let ⟨fd, F, b⟩ := G.ex; ⟨⟨fd, F.mono h, b⟩, G.kp⟩
theorem Ok.imp {CX : CXT} {d : He.DefD} {sp' : Sp} (G : Ok P w K mg base CX k d ps sp) (h : ∀ vs H Q E, sp' vs H Q E → sp vs H Q E) : Ok P w K mg base CX k d ps sp' :=
  let ⟨fd, F, b⟩ := G.ex; ⟨⟨fd, F.imp h, b⟩, G.kp⟩
end
section
variable {X : Cx} {CX : CXT} {k : Nat} {d : He.DefD} {ps : List Str} {sp : Sp} {E : XK} {x m : Str} {p pos apos : Pos} {e o : Expr} {es : List Expr} {ta : TE} {t : TA} {C : Addr}
/-- f(e, ..) -/
theorem pe_f (G : Ok X.prog X.w X.K X.mg X.base CX k d ps sp) (hr : Room k X.A) (hm : X.mg x = some (.ref (He.fAd X.K d.at_))) (hx : Passes CX X E) (ha : PA X (e :: es) t) (hg : Gl X x := by rfl) (hdb : (x == ("__debug__" : Str)) = false := by decide)
    (he : starEach (e :: es) X.env = (false, eval e X.env) :: starEach es X.env := by rfl) (hpl : (backTo pos (starEach es X.env)).any (·.1) = false := by rfl) : PE X (.Call (.Name x p) (e :: es) [] pos) (tCall sp [] E t) := by
  obtain ⟨fd, F, b⟩ := G.ex
  exact pe_call F hr hg hm G.kp b .nil hx ha hdb he hpl
/-- o.m(e, ..) -/
theorem pe_m {pl : Sem Bool} (he : PE X o ta) (c : Cls X.K C) (G : Ok X.prog X.w X.K X.mg X.base CX k d ps sp) (hm : Meth X.K C m (He.fAd X.K d.at_)) (hr : Room k X.A) (hx : Passes CX X E) (ha : PA X (e :: es) t)
    (hst : starEach (e :: es) X.env = (false, eval e X.env) :: starEach es X.env := by rfl) (hpl : (backTo pos (starEach es X.env)).any (·.1) = false := by rfl)
    (ht : eval (.Call (.Attribute o m apos) (e :: es) [] pos) X.env = (do
      let ov ← eval o X.env
      standAt apos.atName
      let (f, first) ← holding [ov] (getMethod ov m pl)
      callWith pos f first (backTo pos (starEach (e :: es) X.env)) (backToKw pos (keywordEach [] X.env))) := by rfl) : PE X (.Call (.Attribute o m apos) (e :: es) [] pos) (tMeth C m sp [] E ta t) := by
  obtain ⟨fd, F, b⟩ := G.ex
  exact pe_meth he c hm F hr b .nil hx ha hst hpl ht
end

/-! ### readings, one step -/
section
variable {K : PySem.W.Frag} {σ : St} {H : Hp} {Q : VK} {ta tb te tv : TE} {t u : TT} {ts tw : TS} {tr : TA} {D : Ends} {x y z v : V} {i j : Nat} {f : Str} {E : XK} {sp : Sp} {dvs : List V} {C : Addr} {m : Str}
theorem rd_var (h : σ[i]? = some (some v)) (q : Q v H) : tVar i σ H Q := ⟨v, h, q⟩
theorem rd_c (q : Q v H) : tC v σ H Q := q
theorem rd_op {r : R2} (h : ta σ H fun x H1 => tb σ H1 fun y H2 => r x y H2 Q) : tOp r ta tb σ H Q := h
theorem rd_un {r : V → Hp → VK → Prop} (h : ta σ H fun x H1 => r x H1 Q) : tUn r ta σ H Q := h
theorem rd_fld (h : ta σ H fun x H1 => ∃ a C dx fs v, x = .ref a ∧ H1 a = some (.ins C dx fs) ∧ Cls K C ∧ NoAttr K C f ∧ fs.lookup f = some v ∧ Q v H1) : tFld K ta f σ H Q := h
theorem rd_cb {r : List V → Hp → VK → Prop} (h : tr σ H fun vs H1 => r vs H1 Q) : tCB r tr σ H Q := h
theorem rd_nil {Q : List V → Hp → Prop} (h : Q [] H) : tNil σ H Q := h
theorem rd_cons {Q : List V → Hp → Prop} (h : ta σ H fun x H1 => tr σ H1 fun xs H2 => Q (x :: xs) H2) : tCons ta tr σ H Q := h
theorem rd_call (h : tr σ H fun vs H1 => sp (vs ++ dvs) H1 Q E) : tCall sp dvs E tr σ H Q := h
theorem rd_meth (h : ta σ H fun x H1 => ∃ a dx fs, x = .ref a ∧ H1 a = some (.ins C dx fs) ∧ fs.lookup m = none ∧ tr σ H1 fun vs H2 => sp (x :: (vs ++ dvs)) H2 Q E) : tMeth C m sp dvs E ta tr σ H Q := h
theorem rd_make (h : tr σ H fun vs H1 => ∀ x dx, H1 x = none → H1 dx = none → dx ≠ x → sp (.ref x :: (vs ++ dvs)) (upd (upd H1 dx (.own x)) x (.ins C dx [])) (fun v H2 => v = .non ∧ Q (.ref x) H2) E) : tMake C sp dvs E tr σ H Q := h
theorem rd_tup (h : tr σ H fun xs H1 => xs.length ≤ sizeLine ∧ ∀ p, H1 p = none → Q (.ref p) (upd H1 p (.tup xs))) : tTup tr σ H Q := h
theorem rd_lst (h : tr σ H fun xs H1 => xs.length ≤ sizeLine ∧ ∀ p, H1 p = none → Q (.ref p) (upd H1 p (.lst xs))) : tLst tr σ H Q := h
theorem rd_bm {T : String} {r : V → List V → Hp → VK → Prop} (h : ta σ H fun x H1 => tyV K T x H1 ∧ tr σ H1 fun xs H2 => r x xs H2 Q) : tBM K T r ta tr σ H Q := h
theorem rd_bm0 {T : String} {r : V → List V → Hp → VK → Prop} (h : ta σ H fun x H1 => tyV K T x H1 ∧ r x [] H1 Q) : tBM0 K T r ta σ H Q := h
theorem tyL {l : Addr} {xs : List V} (h : H l = some (.lst xs)) : tyV K "list" (.ref l) H := Or.inl ⟨rfl, _, SqL.of h⟩
theorem rd_seq (h : ts { D with nx := tw D } σ H) : tSeq ts tw D σ H := h
theorem rd_next (h : D.nx σ H) : tNext D σ H := h
theorem rd_asg {g : TG} (h : te σ H fun x H1 => g x σ H1 D.nx) : tAsg te g D σ H := h
theorem rd_name {Q : St → Hp → Prop} (h : Q (σ.set i (some v)) H) : gName i v σ H Q := h
theorem rd_ret (h : te σ H D.rt) : tRet te D σ H := h
theorem rd_drop (h : te σ H fun _ H1 => D.nx σ H1) : tDrop te D σ H := h
theorem rd_if (h : t σ H fun b H1 => if b = true then ts D σ H1 else tw D σ H1) : tIfS t ts tw D σ H := h
theorem rd_test {Q : Bool → Hp → Prop} (h : te σ H fun x H' => ∃ k, x = .bl k ∧ Q k H') : tTest te σ H Q := h
theorem rd_B {Q : Bool → Hp → Prop} (h : te σ H fun x H' => ∃ k, x = .bl k ∧ Q k H') : tB te σ H Q := h
theorem rd_and {Q : Bool → Hp → Prop} (h : t σ H fun c H1 => if c = true then u σ H1 Q else Q false H1) : tAnd t u σ H Q := h
theorem rd_or {Q : Bool → Hp → Prop} (h : t σ H fun c H1 => if c = true then Q true H1 else u σ H1 Q) : tOr t u σ H Q := h
theorem rd_not {Q : Bool → Hp → Prop} (h : t σ H fun c H1 => Q (!c) H1) : tNot t σ H Q := h
theorem or_tl {p : Addr} {ys : List V} {A B : Prop} (h : H p = some (.lst ys)) (q : A) : (SqL K H p ys ∧ A) ∨ B := .inl ⟨SqL.of h, q⟩
theorem or_tt {p : Addr} {ys : List V} {A B : Prop} (h : H p = some (.tup ys)) (q : A) : B ∨ (SqT K H p ys ∧ A) := .inr ⟨SqT.of h, q⟩
theorem rd_gsub {tset : TSet} {Q : St → Hp → Prop} (h : ta σ H fun o H1 => tb σ H1 fun i H2 => tset o i v H2 fun H3 => Q σ H3) : gSub ta tb tset v σ H Q := h
theorem rd_set {l : Addr} {xs : List V} {k : Int} {Q : Hp → Prop} (j : Nat) (h : H l = some (.lst xs)) (e : k = (j : Int)) (hj : j < xs.length) (q : Q (upd H l (.lst (xs.set j v)))) : rSetL (.ref l) (.int k) v H Q :=
  ⟨l, xs, k, j, rfl, rfl, h, by subst e; unfold ixN; rw [if_pos (by omega), if_pos (by omega)]; simp, q⟩
theorem rd_par {i j : Nat} (h : tr σ H fun vs H1 => ∃ v w, vs = [v, w] ∧ D.nx ((σ.set i (some v)).set j (some w)) H1) : tPar i j tr D σ H := h
theorem rd_slice {r : V → Option Int → Option Int → Hp → VK → Prop} {tl th : TO} (h : ta σ H fun x H1 => tl σ H1 fun l H2 => th σ H2 fun u H3 => r x l u H3 Q) : tSl r ta tl th σ H Q := h
theorem rd_part {Q : Option Int → Hp → Prop} (h : ta σ H fun x H1 => ∃ i, x = .int i ∧ Q (some i) H1) : tPart ta σ H Q := h
theorem rd_nopart {Q : Option Int → Hp → Prop} (h : Q none H) : tNoPart σ H Q := h
theorem rd_gtup {n : Nat} {t : TGs} {Q : St → Hp → Prop} (h : ∃ a xs, v = .ref a ∧ SqT K H a xs ∧ xs.length = n ∧ t xs σ H Q) : gTup K n t v σ H Q := h
theorem rd_gcons {t : TG} {u : TGs} {vs : List V} {Q : St → Hp → Prop} (h : t v σ H fun σ' H' => u vs σ' H' Q) : gCons t u (v :: vs) σ H Q := ⟨v, vs, rfl, h⟩
theorem rd_gnil {Q : St → Hp → Prop} (h : Q σ H) : gNil [] σ H Q := ⟨rfl, h⟩
theorem rd_andV (h : ta σ H fun x H1 => ∃ c, x = .bl c ∧ if c = true then tb σ H1 Q else Q (.bl false) H1) : tAndV ta tb σ H Q := h
theorem rd_orV (h : ta σ H fun x H1 => ∃ c, x = .bl c ∧ if c = true then Q (.bl true) H1 else tb σ H1 Q) : tOrV ta tb σ H Q := h
theorem rd_notV (h : ta σ H fun x H1 => ∃ c, x = .bl c ∧ Q (.bl (!c)) H1) : tNotV ta σ H Q := h
theorem iteNT {A B : Prop} (h : B) : if (!true) = true then A else B := h
theorem iteNF {A B : Prop} (h : A) : if (!false) = true then A else B := h
theorem rd_sfld (h : tv σ H fun y H1 => ta σ H1 fun x H2 => ∃ a C dx fs, x = .ref a ∧ H2 a = some (.ins C dx fs) ∧ Cls K C ∧ NoAttr K C f ∧ fs.length < 1000 ∧ D.nx σ (upd H2 a (.ins C dx (putF f y fs)))) : sFld K ta tv f D σ H := h
theorem rd_I0 {g : Int → Int → V} {i j : Int} (q : Q (g i j) H) : rI0 g (.int i) (.int j) H Q := ⟨i, j, rfl, rfl, q⟩
theorem rd_I {c : Int → Int → Prop} {g : Int → Int → V} {i j : Int} (h : c i j) (q : Q (g i j) H) : rI c g (.int i) (.int j) H Q := ⟨i, j, rfl, rfl, h, q⟩
theorem rd_eq (h : scal x y = true) (q : Q (.bl (decide (x = y))) H) : rEq x y H Q := ⟨h, q⟩
theorem rd_ne (h : scal x y = true) (q : Q (.bl (!decide (x = y))) H) : rNe x y H Q := ⟨h, q⟩
theorem rd_ixT {p : Addr} {xs : List V} {i : Int} (h : H p = some (.tup xs)) (ha : atI xs i = some v) (q : Q v H) : rIxT K (.ref p) (.int i) H Q := ⟨p, xs, i, v, rfl, rfl, SqT.of h, ha, q⟩
theorem rd_ixL {p : Addr} {xs : List V} {i : Int} (h : H p = some (.lst xs)) (ha : atI xs i = some v) (q : Q v H) : rIxL K (.ref p) (.int i) H Q := ⟨p, xs, i, v, rfl, rfl, SqL.of h, ha, q⟩
end
/-- what stands between two turns -/
def At (Pv : Nat → St → Hp → Prop) (i : Nat) : St → Hp → Prop := Pv i
theorem at_i {Pv : Nat → St → Hp → Prop} {i : Nat} {σ : St} {H : Hp} (h : Pv i σ H) : At Pv i σ H := h
def WN (Pv : Nat → St → Hp → Prop) (m : Nat) : St → Hp → Prop := fun σ' H' => ∃ m', m' < m ∧ Pv m' σ' H'
theorem wn {Pv : Nat → St → Hp → Prop} {m : Nat} {σ : St} {H : Hp} (m' : Nat) (h : m' < m) (p : Pv m' σ H) : WN Pv m σ H := ⟨m', h, p⟩
def WStep (Pv : Nat → St → Hp → Prop) (m : Nat) (tb : TS) (D : Ends) (σ : St) (H1 : Hp) : Prop := ∃ N : St → Hp → Prop, (∀ σ' H', N σ' H' → ∃ m', m' < m ∧ Pv m' σ' H') ∧ tb { D with nx := N, ct := N, bk := D.nx } σ H1
theorem wstep {Pv : Nat → St → Hp → Prop} {m : Nat} {tb : TS} {D : Ends} {σ : St} {H1 : Hp} (h : tb { D with nx := WN Pv m, ct := WN Pv m, bk := D.nx } σ H1) : WStep Pv m tb D σ H1 := ⟨_, fun _ _ z => z, h⟩
/-- a while by a word and what falls -/
theorem wh {c : TT} {tb : TS} {D : Ends} {σ : St} {H : Hp} (Pv : Nat → St → Hp → Prop) (m0 : Nat) (h0 : Pv m0 σ H)
    (hs : ∀ m σ H, Pv m σ H → c σ H fun b H1 => if b = true then WStep Pv m tb D σ H1 else D.nx σ H1) : tWhile c tb D σ H := ⟨Pv, ⟨m0, h0⟩, hs⟩
/-- the turns of a for over J -/
def ForJ (J : It) (g : TG) (tb : TS) (D : Ends) (σ : St) (H : Hp) : Prop := ∃ W : Nat → Nat → St → Hp → Prop, (∃ m, W 0 m σ H) ∧ ∀ i m σ H, W i m σ H →
  (J.stop i H ∧ D.nx σ H) ∨ (J.go i H ∧ ∃ N : St → Hp → Prop, (∀ σ' H', N σ' H' → ∃ m', m' < m ∧ W (i + 1) m' σ' H') ∧ ∀ x H', J.yld i H x H' → g x σ H' fun σ2 H2 => tb { D with nx := N, ct := N, bk := D.nx } σ2 H2)
section
variable {K : PySem.W.Frag} {a : Addr} {xs : List V} {g : TG} {tb : TS} {D : Ends} {σ : St} {H : Hp} {tl : TE} {ta : TA} {wi : TI}
theorem rd_for (h : wi σ H fun J H1 => ForJ J g tb D σ H1) : tFor wi g tb D σ H := h
theorem rd_iList {R : It → Hp → Prop} (h : tl σ H fun x H1 => ∃ a, x = .ref a ∧ (∃ xs, SqL K H1 a xs) ∧ R (Itl K a) H1) : iList K tl σ H R := h
theorem rd_iTup {R : It → Hp → Prop} (h : tl σ H fun x H1 => ∃ a, x = .ref a ∧ (∃ xs, SqT K H1 a xs) ∧ R (Itt K a) H1) : iTup K tl σ H R := h
theorem rd_iRng1 {R : It → Hp → Prop} (h : ta σ H fun vs H1 => ∃ j : Int, vs = [.int j] ∧ -(2 ^ 62) ≤ j ∧ j < 2 ^ 62 ∧ R (Itr 0 j.toNat) H1) : iRng1 ta σ H R := h
theorem exL (h : H a = some (.lst xs)) : ∃ ys, SqL K H a ys := ⟨_, SqL.of h⟩
theorem exT (h : H a = some (.tup xs)) : ∃ ys, SqT K H a ys := ⟨_, SqT.of h⟩
theorem fj_list (Pv : Nat → St → Hp → Prop) (h0 : Pv 0 σ H) (hl : ∀ i σ H, i ≤ xs.length → Pv i σ H → SqL K H a xs)
    (hs : ∀ i x σ H, xs[i]? = some x → Pv i σ H → g x σ H fun σ2 H2 => tb { D with nx := At Pv (i + 1), ct := At Pv (i + 1), bk := D.nx } σ2 H2) (hd : ∀ σ H, Pv xs.length σ H → D.nx σ H) : ForJ (Itl K a) g tb D σ H :=
  for_list (K := K) (a := a) (xs := xs) Pv h0 hl hs hd
theorem fj_tup (Pv : Nat → St → Hp → Prop) (h0 : Pv 0 σ H) (hl : ∀ i σ H, i ≤ xs.length → Pv i σ H → SqT K H a xs)
    (hs : ∀ i x σ H, xs[i]? = some x → Pv i σ H → g x σ H fun σ2 H2 => tb { D with nx := At Pv (i + 1), ct := At Pv (i + 1), bk := D.nx } σ2 H2) (hd : ∀ σ H, Pv xs.length σ H → D.nx σ H) : ForJ (Itt K a) g tb D σ H :=
  for_tup (K := K) (a := a) (xs := xs) Pv h0 hl hs hd
theorem fj_rangeE (n : Nat) {m : Int} (hm : m.toNat = n) (Pv : Nat → St → Hp → Prop) (h0 : Pv 0 σ H) (hs : ∀ (i : Nat) σ H, i < n → Pv i σ H → g (nV i) σ H fun σ2 H2 => tb { D with nx := At Pv (i + 1), ct := At Pv (i + 1), bk := D.nx } σ2 H2)
    (hd : ∀ σ H, Pv n σ H → D.nx σ H) : ForJ (Itr 0 m.toNat) g tb D σ H := by
  rw [hm]
  refine for_range (lo := 0) (n := n) Pv h0 (fun i σ H hi p => ?_) hd
  have e : (0 : Int) + (i : Int) = (i : Int) := Int.zero_add _
  rw [e]
  exact hs i σ H hi p
theorem fj_down (n : Nat) {lo : Int} (hl : lo = (n : Int) - 1) (Pv : Nat → St → Hp → Prop) (h0 : Pv 0 σ H) (hs : ∀ (i : Nat) σ H, i < n → Pv i σ H → g (nV (n - 1 - i)) σ H fun σ2 H2 => tb { D with nx := At Pv (i + 1), ct := At Pv (i + 1), bk := D.nx } σ2 H2)
    (hd : ∀ σ H, Pv n σ H → D.nx σ H) : ForJ (Itc lo (-1) n) g tb D σ H := by
  subst hl
  refine for_rangeC (lo := (n : Int) - 1) (c := -1) (n := n) Pv h0 (fun i σ H hi p => ?_) hd
  have e : ((n : Int) - 1) + (i : Nat) * (-1) = ((n - 1 - i : Nat) : Int) := by omega
  rw [e]
  exact hs i σ H hi p
theorem fj_range (n : Nat) (Pv : Nat → St → Hp → Prop) (h0 : Pv 0 σ H) (hs : ∀ (i : Nat) σ H, i < n → Pv i σ H → g (nV i) σ H fun σ2 H2 => tb { D with nx := At Pv (i + 1), ct := At Pv (i + 1), bk := D.nx } σ2 H2)
    (hd : ∀ σ H, Pv n σ H → D.nx σ H) : ForJ (Itr 0 ((n : Nat) : Int).toNat) g tb D σ H := by
  show ForJ (Itr 0 n) g tb D σ H
  refine for_range (lo := 0) (n := n) Pv h0 (fun i σ H hi p => ?_) hd
  have e : (0 : Int) + (i : Int) = (i : Int) := Int.zero_add _
  rw [e]
  exact hs i σ H hi p
end
section
variable {K : PySem.W.Frag} {l : Addr} {xs : List V} {H : Hp} {Q : VK} {y : V}
theorem rd_append (h : H l = some (.lst xs)) (hl : xs.length < 16777216) (q : Q .non (upd H l (.lst (xs ++ [y])))) : rAppend (.ref l) [y] H Q := ⟨l, xs, y, rfl, rfl, h, by rw [sizeLine_eq]; exact hl, q⟩
theorem rd_index {ys : List V} {j : Nat} {z : V} (h : H l = some (.lst ys)) (fy : flatV y = true) (fys : ys.all flatV = true) (hj : ys[j]? = some z) (hz : eqV z y = true) (hf : ∀ (m : Nat) (z' : V), m < j → ys[m]? = some z' → eqV z' y = false)
    (q : Q (.int (j : Nat)) H) : rIndex K (.ref l) [y] H Q := ⟨l, ys, y, j, z, rfl, rfl, SqL.of h, fy, fys, hj, hz, hf, q⟩
theorem sz_nat {n : Nat} (h : n ≤ 100000) : n ≤ sizeLine := by rw [sizeLine_eq]; omega
end
section
variable {A B : Prop} {i j : Int}
theorem if_ne (h1 : i ≠ j → A) (h2 : i = j → B) : if (!decide (V.int i = V.int j)) = true then A else B := by
  by_cases h : i = j
  · rw [if_neg (by simp [h])]
    exact h2 h
  · rw [if_pos (by simp [h])]
    exact h1 h
theorem if_eq (h1 : i = j → A) (h2 : i ≠ j → B) : if decide (V.int i = V.int j) = true then A else B := by
  by_cases h : i = j
  · rw [if_pos (by simp [h])]
    exact h1 h
  · rw [if_neg (by simp [h])]
    exact h2 h
theorem if_d {p : Prop} [Decidable p] (h1 : p → A) (h2 : ¬ p → B) : if decide p = true then A else B := by
  by_cases h : p
  · rw [if_pos (by simp [h])]
    exact h1 h
  · rw [if_neg (by simp [h])]
    exact h2 h
theorem if_nd {p : Prop} [Decidable p] (h1 : ¬ p → A) (h2 : p → B) : if (!decide p) = true then A else B := by
  by_cases h : p
  · rw [if_neg (by simp [h])]
    exact h2 h
  · rw [if_pos (by simp [h])]
    exact h1 h
end
end L2.KL

namespace L2.KL
open PySem PySem.Spec PyProof.Rows
section
variable {X : Cx} {CX : CXT} {k : Nat} {d : He.DefD} {ps : List Str} {sp : Sp} {E : XK} {x m : Str} {p pos apos : Pos} {e o : Expr} {es : List Expr} {ta : TE} {t : TA} {C : Addr}
/-- o.m() -/
theorem pe_m0 {pl : Sem Bool} (he : PE X o ta) (c : Cls X.K C) (G : Ok X.prog X.w X.K X.mg X.base CX k d ps sp) (hm : Meth X.K C m (He.fAd X.K d.at_)) (hr : Room k X.A) (hx : Passes CX X E)
    (ht : eval (.Call (.Attribute o m apos) [] [] pos) X.env = (do
      let ov ← eval o X.env
      standAt apos.atName
      let (f, first) ← holding [ov] (getMethod ov m pl)
      callWith pos f first (backTo pos (starEach [] X.env)) (backToKw pos (keywordEach [] X.env))) := by rfl) : PE X (.Call (.Attribute o m apos) [] [] pos) (tMeth C m sp [] E ta tNil) := by
  obtain ⟨fd, F, b⟩ := G.ex
  exact pe_meth0 he c hm F hr b .nil hx ht
/-- C(e, ..) -/
theorem pe_mk (G : Ok X.prog X.w X.K X.mg X.base CX k d ps sp) (hr : Room (k + 1) X.A) (M : Mk X.K C (He.fAd X.K d.at_)) (hm : X.mg x = some (.ref C)) (hx : Passes CX X E) (ha : PA X (e :: es) t) (hg : Gl X x := by rfl)
    (hdb : (x == ("__debug__" : Str)) = false := by decide) (he : starEach (e :: es) X.env = (false, eval e X.env) :: starEach es X.env := by rfl) (hpl : (backTo pos (starEach es X.env)).any (·.1) = false := by rfl) :
    PE X (.Call (.Name x p) (e :: es) [] pos) (tMake C sp [] E t) := by
  obtain ⟨fd, F, b⟩ := G.ex
  exact pe_make M F hr hg hm b .nil hx ha hdb he hpl
theorem op_eqK (G : Ok X.prog X.w X.K X.mg X.base CX k d ps sp) (hm : Meth X.K C "__eq__" (He.fAd X.K d.at_)) (hr : Room k X.A) (hx : Passes CX X E) : OpR X (compareOp .Eq) (rEqO C sp E) := by
  obtain ⟨fd, F, b⟩ := G.ex
  exact op_eqO F hr hm.at_ hm.fn b hx
theorem call_lenK (G : Ok X.prog X.w X.K X.mg X.base CX k d ps sp) (hm : Meth X.K C "__len__" (He.fAd X.K d.at_)) (hr : Room (k + 1) X.A) (hx : Passes CX X E) : CallR X (.builtin "len") (rLenO C sp E) := by
  obtain ⟨fd, F, b⟩ := G.ex
  exact call_lenO F hr hm.at_ hm.fn b hx
theorem op_binK {op : Operator} (G : Ok X.prog X.w X.K X.mg X.base CX k d ps sp) (hm : Meth X.K C m (He.fAd X.K d.at_)) (hn : PySem.dunder op.info.2 = m) (hc : PySem.W.selfFirst X.K C = true) (hr : Room k X.A) (hx : Passes CX X E) : OpR X (binaryOp op) (rBinO C sp E) := by
  obtain ⟨fd, F, b⟩ := G.ex
  exact op_binO F hr hc (by rw [hn]; exact hm.at_) hm.fn b hx
end
end L2.KL
set_option Elab.async false
set_option linter.all false
set_option maxRecDepth 100000
set_option maxHeartbeats 4000000
namespace L2.KL
open PySem PySem.Spec PyProof.Rows
section
variable {K : PySem.W.Frag} {mg : Str → Option Value}
theorem Tx.g_pis_integer (T : Tx K mg) : mg "_is_integer" = some (.ref (He.ga K "_is_integer")) := T.glo 0
theorem Tx.g_identity (T : Tx K mg) : mg "identity" = some (.ref (He.ga K "identity")) := T.glo 1
theorem Tx.g_checked_rows (T : Tx K mg) : mg "_checked_rows" = some (.ref (He.ga K "_checked_rows")) := T.glo 2
theorem Tx.g_generators (T : Tx K mg) : mg "_generators" = some (.ref (He.ga K "_generators")) := T.glo 3
theorem Tx.g_reached (T : Tx K mg) : mg "_reached" = some (.ref (He.ga K "_reached")) := T.glo 4
theorem Tx.g_check (T : Tx K mg) : mg "_check" = some (.ref (He.ga K "_check")) := T.glo 5
theorem Tx.g_cyclic (T : Tx K mg) : mg "cyclic" = some (.ref (He.ga K "cyclic")) := T.glo 6
theorem Tx.g_direct (T : Tx K mg) : mg "direct" = some (.ref (He.ga K "direct")) := T.glo 7
theorem Tx.g_closure (T : Tx K mg) : mg "_closure" = some (.ref (He.ga K "_closure")) := T.glo 8
theorem Tx.g_from_permutations (T : Tx K mg) : mg "from_permutations" = some (.ref (He.ga K "from_permutations")) := T.glo 9
theorem Tx.g_classes (T : Tx K mg) : mg "classes" = some (.ref (He.ga K "classes")) := T.glo 10
theorem Tx.g_is_subgroup (T : Tx K mg) : mg "is_subgroup" = some (.ref (He.ga K "is_subgroup")) := T.glo 11
theorem Tx.g_as_group (T : Tx K mg) : mg "as_group" = some (.ref (He.ga K "as_group")) := T.glo 12
theorem Tx.g_is_integer (T : Tx K mg) : mg "is_integer" = some (.ref (He.ga K "is_integer")) := T.glo 13
theorem Tx.g_common (T : Tx K mg) : mg "common" = some (.ref (He.ga K "common")) := T.glo 14
theorem Tx.g_multiple (T : Tx K mg) : mg "multiple" = some (.ref (He.ga K "multiple")) := T.glo 15
theorem Tx.g_prime_powers (T : Tx K mg) : mg "prime_powers" = some (.ref (He.ga K "prime_powers")) := T.glo 16
theorem Tx.g_inverse_modulo (T : Tx K mg) : mg "inverse_modulo" = some (.ref (He.ga K "inverse_modulo")) := T.glo 17
theorem Tx.g_spread (T : Tx K mg) : mg "spread" = some (.ref (He.ga K "spread")) := T.glo 18
theorem Tx.g_divided (T : Tx K mg) : mg "divided" = some (.ref (He.ga K "divided")) := T.glo 19
theorem Tx.g_cyclotomic (T : Tx K mg) : mg "cyclotomic" = some (.ref (He.ga K "cyclotomic")) := T.glo 20
theorem Tx.g_folded (T : Tx K mg) : mg "folded" = some (.ref (He.ga K "folded")) := T.glo 21
theorem Tx.g_lowered (T : Tx K mg) : mg "lowered" = some (.ref (He.ga K "lowered")) := T.glo 22
theorem Tx.g_least_form (T : Tx K mg) : mg "least_form" = some (.ref (He.ga K "least_form")) := T.glo 23
theorem Tx.g_of_integer (T : Tx K mg) : mg "of_integer" = some (.ref (He.ga K "of_integer")) := T.glo 24
theorem Tx.g_added (T : Tx K mg) : mg "added" = some (.ref (He.ga K "added")) := T.glo 25
theorem Tx.g_everywhere (T : Tx K mg) : mg "everywhere" = some (.ref (He.ga K "everywhere")) := T.glo 26
theorem Tx.g_restricted (T : Tx K mg) : mg "restricted" = some (.ref (He.ga K "restricted")) := T.glo 27
theorem Tx.g_induced (T : Tx K mg) : mg "induced" = some (.ref (He.ga K "induced")) := T.glo 28
theorem Tx.g_coset_function (T : Tx K mg) : mg "coset_function" = some (.ref (He.ga K "coset_function")) := T.glo 29
theorem Tx.g_law_state (T : Tx K mg) : mg "_law_state" = some (.ref (He.ga K "_law_state")) := T.glo 30
theorem Tx.g_law_take (T : Tx K mg) : mg "_law_take" = some (.ref (He.ga K "_law_take")) := T.glo 31
theorem Tx.g_law_images (T : Tx K mg) : mg "_law_images" = some (.ref (He.ga K "_law_images")) := T.glo 32
theorem Tx.g_law_group (T : Tx K mg) : mg "_law_group" = some (.ref (He.ga K "_law_group")) := T.glo 33
theorem Tx.g_law_inverse (T : Tx K mg) : mg "_law_inverse" = some (.ref (He.ga K "_law_inverse")) := T.glo 34
theorem Tx.g_law_order (T : Tx K mg) : mg "_law_order" = some (.ref (He.ga K "_law_order")) := T.glo 35
theorem Tx.g_law_classes (T : Tx K mg) : mg "_law_classes" = some (.ref (He.ga K "_law_classes")) := T.glo 36
theorem Tx.g_law_number (T : Tx K mg) : mg "_law_number" = some (.ref (He.ga K "_law_number")) := T.glo 37
theorem Tx.g_law_function (T : Tx K mg) : mg "_law_function" = some (.ref (He.ga K "_law_function")) := T.glo 38
theorem Tx.g_law_at (T : Tx K mg) : mg "_law_at" = some (.ref (He.ga K "_law_at")) := T.glo 39
theorem Tx.g_law_subgroup (T : Tx K mg) : mg "_law_subgroup" = some (.ref (He.ga K "_law_subgroup")) := T.glo 40
theorem Tx.g_law_refused (T : Tx K mg) : mg "_law_refused" = some (.ref (He.ga K "_law_refused")) := T.glo 41
theorem Tx.g_law (T : Tx K mg) : mg "law" = some (.ref (He.ga K "law")) := T.glo 42
theorem Tx.g_Refused (T : Tx K mg) : mg "Refused" = some (.ref (He.ga K "Refused")) := T.glo 43
theorem Tx.g_Permutation (T : Tx K mg) : mg "Permutation" = some (.ref (He.ga K "Permutation")) := T.glo 44
theorem Tx.g_Group (T : Tx K mg) : mg "Group" = some (.ref (He.ga K "Group")) := T.glo 45
theorem Tx.g_Cyclo (T : Tx K mg) : mg "Cyclo" = some (.ref (He.ga K "Cyclo")) := T.glo 46
theorem Tx.g_ClassFunction (T : Tx K mg) : mg "ClassFunction" = some (.ref (He.ga K "ClassFunction")) := T.glo 47
theorem Tx.g_Malformed (T : Tx K mg) : mg "Malformed" = some (.ref (He.ga K "Malformed")) := T.glo 48
theorem Tx.g_ZeroDivisor (T : Tx K mg) : mg "ZeroDivisor" = some (.ref (He.ga K "ZeroDivisor")) := T.glo 49
theorem Tx.g_Fault (T : Tx K mg) : mg "Fault" = some (.ref (He.ga K "Fault")) := T.glo 50
theorem Tx.b_isinstance (T : Tx K mg) : mg "isinstance" = none := T.free 51
theorem Tx.b_len (T : Tx K mg) : mg "len" = none := T.free 52
theorem Tx.b_sorted (T : Tx K mg) : mg "sorted" = none := T.free 53
theorem Tx.b_list (T : Tx K mg) : mg "list" = none := T.free 54
theorem Tx.b_range (T : Tx K mg) : mg "range" = none := T.free 55
theorem Tx.b_tuple (T : Tx K mg) : mg "tuple" = none := T.free 56
theorem Tx.b_enumerate (T : Tx K mg) : mg "enumerate" = none := T.free 57
theorem Tx.b_zip (T : Tx K mg) : mg "zip" = none := T.free 58
theorem Tx.b_any (T : Tx K mg) : mg "any" = none := T.free 59
theorem Tx.b_abs (T : Tx K mg) : mg "abs" = none := T.free 60
theorem Tx.b_max (T : Tx K mg) : mg "max" = none := T.free 61
theorem Tx.b_min (T : Tx K mg) : mg "min" = none := T.free 62
theorem Tx.b_int (T : Tx K mg) : mg "int" = none := T.free 63
theorem Tx.b_ValueError (T : Tx K mg) : mg "ValueError" = none := T.free 64
theorem Tx.b_bool (T : Tx K mg) : mg "bool" = none := T.free 65
theorem Tx.b_super (T : Tx K mg) : mg "super" = none := T.free 66
theorem Tx.i_MOST_POINTS (T : Tx K mg) : ∃ t, mg "MOST_POINTS" = some (.int 12 t) := T.int 67
theorem Tx.i_MOST_ORDER (T : Tx K mg) : ∃ t, mg "MOST_ORDER" = some (.int 60 t) := T.int 68
theorem Tx.i_MOST (T : Tx K mg) : ∃ t, mg "MOST" = some (.int 5000 t) := T.int 69
theorem Tx.c_Permutation (T : Tx K mg) : Cls K (He.ga K "Permutation") := T.cls 71
theorem Tx.mk_Permutation (T : Tx K mg) : Mk K (He.ga K "Permutation") (He.ma K (He.ga K "Permutation") "__init__") := T.mkr 72
theorem Tx.na_Permutation_images (T : Tx K mg) : NoAttr K (He.ga K "Permutation") "images" := T.noat 73
theorem Tx.me_Permutation_mul (T : Tx K mg) : Meth K (He.ga K "Permutation") "__mul__" (He.ma K (He.ga K "Permutation") "__mul__") := T.meth 74
theorem Tx.c_Group (T : Tx K mg) : Cls K (He.ga K "Group") := T.cls 76
theorem Tx.mk_Group (T : Tx K mg) : Mk K (He.ga K "Group") (He.ma K (He.ga K "Group") "__init__") := T.mkr 77
theorem Tx.na_Group_table (T : Tx K mg) : NoAttr K (He.ga K "Group") "table" := T.noat 78
theorem Tx.me_Group_len (T : Tx K mg) : Meth K (He.ga K "Group") "__len__" (He.ma K (He.ga K "Group") "__len__") := T.meth 79
theorem Tx.me_Group_eq (T : Tx K mg) : Meth K (He.ga K "Group") "__eq__" (He.ma K (He.ga K "Group") "__eq__") := T.meth 80
theorem Tx.me_Group_product (T : Tx K mg) : Meth K (He.ga K "Group") "product" (He.ma K (He.ga K "Group") "product") := T.meth 81
theorem Tx.me_Group_inverse (T : Tx K mg) : Meth K (He.ga K "Group") "inverse" (He.ma K (He.ga K "Group") "inverse") := T.meth 82
theorem Tx.me_Group_order_of (T : Tx K mg) : Meth K (He.ga K "Group") "order_of" (He.ma K (He.ga K "Group") "order_of") := T.meth 83
theorem Tx.me_Group_conjugated (T : Tx K mg) : Meth K (He.ga K "Group") "conjugated" (He.ma K (He.ga K "Group") "conjugated") := T.meth 84
theorem Tx.c_Cyclo (T : Tx K mg) : Cls K (He.ga K "Cyclo") := T.cls 86
theorem Tx.mk_Cyclo (T : Tx K mg) : Mk K (He.ga K "Cyclo") (He.ma K (He.ga K "Cyclo") "__init__") := T.mkr 87
theorem Tx.na_Cyclo_e (T : Tx K mg) : NoAttr K (He.ga K "Cyclo") "e" := T.noat 88
theorem Tx.na_Cyclo_parts (T : Tx K mg) : NoAttr K (He.ga K "Cyclo") "parts" := T.noat 89
theorem Tx.na_Cyclo_low (T : Tx K mg) : NoAttr K (He.ga K "Cyclo") "low" := T.noat 90
theorem Tx.me_Cyclo_eq (T : Tx K mg) : Meth K (He.ga K "Cyclo") "__eq__" (He.ma K (He.ga K "Cyclo") "__eq__") := T.meth 91
theorem Tx.me_Cyclo_add (T : Tx K mg) : Meth K (He.ga K "Cyclo") "__add__" (He.ma K (He.ga K "Cyclo") "__add__") := T.meth 92
theorem Tx.me_Cyclo_mul (T : Tx K mg) : Meth K (He.ga K "Cyclo") "__mul__" (He.ma K (He.ga K "Cyclo") "__mul__") := T.meth 93
theorem Tx.me_Cyclo_key (T : Tx K mg) : Meth K (He.ga K "Cyclo") "key" (He.ma K (He.ga K "Cyclo") "key") := T.meth 94
theorem Tx.me_Cyclo_over (T : Tx K mg) : Meth K (He.ga K "Cyclo") "over" (He.ma K (He.ga K "Cyclo") "over") := T.meth 95
theorem Tx.me_Cyclo_scaled (T : Tx K mg) : Meth K (He.ga K "Cyclo") "scaled" (He.ma K (He.ga K "Cyclo") "scaled") := T.meth 96
theorem Tx.me_Cyclo_image (T : Tx K mg) : Meth K (He.ga K "Cyclo") "image" (He.ma K (He.ga K "Cyclo") "image") := T.meth 97
theorem Tx.me_Cyclo_mirrored (T : Tx K mg) : Meth K (He.ga K "Cyclo") "mirrored" (He.ma K (He.ga K "Cyclo") "mirrored") := T.meth 98
theorem Tx.c_ClassFunction (T : Tx K mg) : Cls K (He.ga K "ClassFunction") := T.cls 100
theorem Tx.mk_ClassFunction (T : Tx K mg) : Mk K (He.ga K "ClassFunction") (He.ma K (He.ga K "ClassFunction") "__init__") := T.mkr 101
theorem Tx.na_ClassFunction_group (T : Tx K mg) : NoAttr K (He.ga K "ClassFunction") "group" := T.noat 102
theorem Tx.na_ClassFunction_row (T : Tx K mg) : NoAttr K (He.ga K "ClassFunction") "row" := T.noat 103
theorem Tx.na_ClassFunction_known (T : Tx K mg) : NoAttr K (He.ga K "ClassFunction") "known" := T.noat 104
theorem Tx.me_ClassFunction_eq (T : Tx K mg) : Meth K (He.ga K "ClassFunction") "__eq__" (He.ma K (He.ga K "ClassFunction") "__eq__") := T.meth 105
theorem Tx.me_ClassFunction_call (T : Tx K mg) : Meth K (He.ga K "ClassFunction") "__call__" (He.ma K (He.ga K "ClassFunction") "__call__") := T.meth 106
theorem Tx.me_ClassFunction_value_at (T : Tx K mg) : Meth K (He.ga K "ClassFunction") "value_at" (He.ma K (He.ga K "ClassFunction") "value_at") := T.meth 107
theorem Tx.me_ClassFunction_inner (T : Tx K mg) : Meth K (He.ga K "ClassFunction") "inner" (He.ma K (He.ga K "ClassFunction") "inner") := T.meth 108
theorem Tx.sf_Permutation (T : Tx K mg) : PySem.W.selfFirst K (He.ga K "Permutation") = true := T.ex 0
theorem Tx.sf_Cyclo (T : Tx K mg) : PySem.W.selfFirst K (He.ga K "Cyclo") = true := T.ex 1
theorem Tx.in_Permutation (T : Tx K mg) : HD.instB "Permutation" K = true := T.ex 2
theorem Tx.in_Group (T : Tx K mg) : HD.instB "Group" K = true := T.ex 3
theorem Tx.in_Cyclo (T : Tx K mg) : HD.instB "Cyclo" K = true := T.ex 4
theorem Tx.in_ClassFunction (T : Tx K mg) : HD.instB "ClassFunction" K = true := T.ex 5
end
theorem fn__pis_integer : HD.fn[0]? = some HD.d_pis_integer := rfl
theorem fn__identity : HD.fn[1]? = some HD.d_identity := rfl
theorem fn__checked_rows : HD.fn[2]? = some HD.d_checked_rows := rfl
theorem fn__generators : HD.fn[3]? = some HD.d_generators := rfl
theorem fn__reached : HD.fn[4]? = some HD.d_reached := rfl
theorem fn__check : HD.fn[5]? = some HD.d_check := rfl
theorem fn__cyclic : HD.fn[6]? = some HD.d_cyclic := rfl
theorem fn__direct : HD.fn[7]? = some HD.d_direct := rfl
theorem fn__closure : HD.fn[8]? = some HD.d_closure := rfl
theorem fn__from_permutations : HD.fn[9]? = some HD.d_from_permutations := rfl
theorem fn__classes : HD.fn[10]? = some HD.d_classes := rfl
theorem fn__is_subgroup : HD.fn[11]? = some HD.d_is_subgroup := rfl
theorem fn__as_group : HD.fn[12]? = some HD.d_as_group := rfl
theorem fn__is_integer : HD.fn[13]? = some HD.d_is_integer := rfl
theorem fn__common : HD.fn[14]? = some HD.d_common := rfl
theorem fn__multiple : HD.fn[15]? = some HD.d_multiple := rfl
theorem fn__prime_powers : HD.fn[16]? = some HD.d_prime_powers := rfl
theorem fn__inverse_modulo : HD.fn[17]? = some HD.d_inverse_modulo := rfl
theorem fn__spread : HD.fn[18]? = some HD.d_spread := rfl
theorem fn__divided : HD.fn[19]? = some HD.d_divided := rfl
theorem fn__cyclotomic : HD.fn[20]? = some HD.d_cyclotomic := rfl
theorem fn__folded : HD.fn[21]? = some HD.d_folded := rfl
theorem fn__lowered : HD.fn[22]? = some HD.d_lowered := rfl
theorem fn__least_form : HD.fn[23]? = some HD.d_least_form := rfl
theorem fn__of_integer : HD.fn[24]? = some HD.d_of_integer := rfl
theorem fn__added : HD.fn[25]? = some HD.d_added := rfl
theorem fn__everywhere : HD.fn[26]? = some HD.d_everywhere := rfl
theorem fn__restricted : HD.fn[27]? = some HD.d_restricted := rfl
theorem fn__induced : HD.fn[28]? = some HD.d_induced := rfl
theorem fn__coset_function : HD.fn[29]? = some HD.d_coset_function := rfl
theorem fn__law_state : HD.fn[30]? = some HD.d_law_state := rfl
theorem fn__law_take : HD.fn[31]? = some HD.d_law_take := rfl
theorem fn__law_images : HD.fn[32]? = some HD.d_law_images := rfl
theorem fn__law_group : HD.fn[33]? = some HD.d_law_group := rfl
theorem fn__law_inverse : HD.fn[34]? = some HD.d_law_inverse := rfl
theorem fn__law_order : HD.fn[35]? = some HD.d_law_order := rfl
theorem fn__law_classes : HD.fn[36]? = some HD.d_law_classes := rfl
theorem fn__law_number : HD.fn[37]? = some HD.d_law_number := rfl
theorem fn__law_function : HD.fn[38]? = some HD.d_law_function := rfl
theorem fn__law_at : HD.fn[39]? = some HD.d_law_at := rfl
theorem fn__law_subgroup : HD.fn[40]? = some HD.d_law_subgroup := rfl
theorem fn__law_refused : HD.fn[41]? = some HD.d_law_refused := rfl
theorem fn__law : HD.fn[42]? = some HD.d_law := rfl
theorem fn_Permutation_init : HD.fn[43]? = some HD.dPermutation_init := rfl
theorem fn_Permutation_mul : HD.fn[44]? = some HD.dPermutation_mul := rfl
theorem fn_Group_init : HD.fn[45]? = some HD.dGroup_init := rfl
theorem fn_Group_len : HD.fn[46]? = some HD.dGroup_len := rfl
theorem fn_Group_eq : HD.fn[47]? = some HD.dGroup_eq := rfl
theorem fn_Group_product : HD.fn[48]? = some HD.dGroup_product := rfl
theorem fn_Group_inverse : HD.fn[49]? = some HD.dGroup_inverse := rfl
theorem fn_Group_order_of : HD.fn[50]? = some HD.dGroup_order_of := rfl
theorem fn_Group_conjugated : HD.fn[51]? = some HD.dGroup_conjugated := rfl
theorem fn_Cyclo_init : HD.fn[52]? = some HD.dCyclo_init := rfl
theorem fn_Cyclo_eq : HD.fn[53]? = some HD.dCyclo_eq := rfl
theorem fn_Cyclo_add : HD.fn[54]? = some HD.dCyclo_add := rfl
theorem fn_Cyclo_mul : HD.fn[55]? = some HD.dCyclo_mul := rfl
theorem fn_Cyclo_key : HD.fn[56]? = some HD.dCyclo_key := rfl
theorem fn_Cyclo_over : HD.fn[57]? = some HD.dCyclo_over := rfl
theorem fn_Cyclo_scaled : HD.fn[58]? = some HD.dCyclo_scaled := rfl
theorem fn_Cyclo_image : HD.fn[59]? = some HD.dCyclo_image := rfl
theorem fn_Cyclo_mirrored : HD.fn[60]? = some HD.dCyclo_mirrored := rfl
theorem fn_ClassFunction_init : HD.fn[61]? = some HD.dClassFunction_init := rfl
theorem fn_ClassFunction_eq : HD.fn[62]? = some HD.dClassFunction_eq := rfl
theorem fn_ClassFunction_call : HD.fn[63]? = some HD.dClassFunction_call := rfl
theorem fn_ClassFunction_value_at : HD.fn[64]? = some HD.dClassFunction_value_at := rfl
theorem fn_ClassFunction_inner : HD.fn[65]? = some HD.dClassFunction_inner := rfl
abbrev CP (K : PySem.W.Frag) : Addr := He.ga K "Permutation"
abbrev CG (K : PySem.W.Frag) : Addr := He.ga K "Group"
abbrev CY (K : PySem.W.Frag) : Addr := He.ga K "Cyclo"
abbrev CF (K : PySem.W.Frag) : Addr := He.ga K "ClassFunction"
end L2.KL
set_option Elab.async false
set_option linter.all false
set_option maxRecDepth 100000
set_option maxHeartbeats 4000000
namespace L2.KL
open PySem PySem.Spec PyProof.Rows PySem.W
/-! the class Refused: its __init__ says super().__init__(reason) -/
def rfA : Arguments := { posonlyargs := [], args := [⟨"self", none, ⟨14, 17, 14, 21⟩⟩, ⟨"reason", none, ⟨14, 23, 14, 29⟩⟩], vararg := none, kwonlyargs := [], kw_defaults := [], kwarg := none, defaults := [] }
def rfB1 : Stmt := .Expr (.Call (.Attribute (.Call (.Name "super" ⟨15, 8, 15, 13⟩) [] [] ⟨15, 8, 15, 15⟩) "__init__" ⟨15, 8, 15, 24⟩) [.Name "reason" ⟨15, 25, 15, 31⟩] [] ⟨15, 8, 15, 32⟩) ⟨15, 8, 15, 32⟩
def rfB2 : Stmt := .Assign [.Attribute (.Name "self" ⟨16, 8, 16, 12⟩) "reason" ⟨16, 8, 16, 19⟩] (.Name "reason" ⟨16, 22, 16, 28⟩) ⟨16, 8, 16, 28⟩
def rfS : Scope := { kind := .function, names := [("self", .local), ("reason", .local), ("__class__", .free), ("super", .globalImplicit)], isGenerator := false, isCoroutine := false }
theorem rfA_eq : defArgs HD.sRefused_init = rfA := rfl
theorem rfB_eq : defBody HD.sRefused_init = [rfB1, rfB2] := rfl
theorem rfS_eq : defScope HD.sRefused_init = rfS := rfl
structure RefTxt (P : Program) (K : PySem.W.Frag) (C fI : Addr) : Prop where
  cls : ∃ nm q N bs bm sn sub ab col dd k0 k1 k2 k3 k5, K.lookup C = some (excClassObj nm q C N bs bm true sn sub ab col dd k0 k1 k2 k3 k5 "ValueError.__new__") ∧ HandSPX.refsVE bm = true
  sa : findIn K (.ref C) "__setattr__" = some (some (.builtin "object.__setattr__"))
  noN : findIn K (.ref C) "reason" = some none
  iC : findIn K (.ref C) "__init__" = some (some (.ref fI))
  tC : typeIn K (.ref fI) = some (.type "function")
  kC : keepIn K (.ref C) = true
  exC : subIn K (.ref C) (.type "BaseException") = some true
  veC : subIn K (.ref C) (.type "ValueError") = some true
  tyC : typeIn K (.ref C) = some (.type "type")
  mC : mroIn K C (.ref C) = some true
  any_ : nsIn K cStatics "thirdparty.any" = some none
  si : ks_superIn K C C "__init__" = some (some (.builtin "ValueError.__init__"))
  fn : ∃ (oc : Value) (od : Option Addr) (doc pm : Value) (an : Option Addr) (cda : Addr) (ct : Value) (cc : Addr) (osl : Array (Option Value)),
    K.lookup fI = some ⟨oc, od, .func (ksFn "__init__" "Refused.__init__" rfA [rfB1, rfB2] rfS .none .none doc pm an (.ref cda) ct cc), osl⟩ ∧ codeIn K (.ref cda) "Refused.__init__" = true ∧
    (∃ (ccl : Value) (cdd : Option Addr) (vs : Array Value) (ccs : Array (Option Value)) (file : Str) (tf : Tok), K.lookup cda = some ⟨ccl, cdd, .fields vs, ccs⟩ ∧ vs[2]? = some (.str file tf) ∧ ((P.main.file : Str) == file) = true) ∧
    ∃ (cl : Value) (cld : Option Addr) (csl : Array (Option Value)), K.lookup cc = some ⟨cl, cld, .cell (some (.ref C)), csl⟩
  top : (P.main.scope.names.lookup ("super" : Str)).isSome = false
/-- what __init__ leaves of a new exception at x -/
structure RefEnd (h h' : Heap) (x C dx t1 : Addr) (v : Value) : Prop where
  keep : ∀ b o, b ≠ x → h.get? b = some o → h'.get? b = some o
  obj : h'.get? x = some { cls := .ref C, dict := some dx, data := .fields #[.ref t1, .none, .none, .none, .bool false, .none] }
  dbig : h.objs.size ≤ dx
  dne : dx ≠ x
  ns : h'.Ns1 dx (fun y => if y = "reason" then some v else none)
theorem in_but {K : PySem.W.Frag} {h h' : Heap} {x : Addr} (X : K.In h) (hx : K.lookup x = none) (k : ∀ b o, b ≠ x → h.get? b = some o → h'.get? b = some o) : K.In h' := fun a o e => by
  have e1 := X a o e
  refine k a o ?_ e1
  rintro rfl
  rw [hx] at e
  cases e
section
variable {P : Program} {w : World} {A : Around} {E : Value → Shared → Prop} {K : PySem.W.Frag} {C fI : Addr}
variable {h : Heap} {g : Array GenState} {d : Drawn} {t : Nat} {os : OsState}
theorem ref_mw {nm q : Str} {N u e t0 : Addr} {bs bm sub : List Value} {hdct : Bool} {sn : List Str} {ab : Bool} {col : Option Bool} {dd : Option Addr} {k0 k1 k2 k3 k5 : Option Value} {rest : List Value} {Q : Value → Shared → Prop}
    (hC : h.get? C = some (excClassObj nm q C N bs bm hdct sn sub ab col dd k0 k1 k2 k3 k5 "ValueError.__new__")) (he : h.get? e = some (HandSPX.excO C t0)) (hu : h.get? u = some (kxs_mw "ValueError.__init__" e)) (hz : rest.length ≤ sizeLine)
    (hq : ∀ h' t1, (∀ b o, b ≠ e → h.get? b = some o → h'.get? b = some o) → h'.get? e = some (HandSPX.excO C t1) → Q .none ⟨h', g, d, t, os⟩) :
    wpAny (model P w) A (call (.ref u) rest) Q E ⟨h, g, d, t, os⟩ := by
  refine wpAny_call (codeAny_of_tree ?_)
  show wpAny (model P w) A.in1 (callAny (Value.ref u) ⟨rest, []⟩) _ _ ⟨h, g, d, t, os⟩
  simp only [callAny]
  refine wpAny_bind (wpAny_load hu ?_)
  simp only [kxs_mw, show (Value.type "method-wrapper" == Value.type "method" || Value.type "method-wrapper" == Value.type "builtin_function_or_method" || Value.type "method-wrapper" == Value.type "method-wrapper") = true by decide, if_true]
  refine KFB.if_so (by decide) ?_
  refine wpAny_bind (check_bound_init F.excBase_ValueError.toExcCallFacts hC he rfl ?_)
  refine wpAny_bind (wpAny_pure (wpAny_pure ?_))
  refine ⟨plainId_quiet F.excBase_ValueError.init.plain _, codeAny_builtin F.excBase_ValueError.initEntry ?_⟩
  exact exc_init_tree (cls := .ref C) (t0 := t0) (dv := none) (c2 := .none) (c3 := .none) (b4 := .bool false) he hz fun h' k1 k2 _ => hq h' _ k1 k2
theorem ref_cw {M : Model} {s : Shared} {u x : Addr} {i : String} {pos : Pos} {env : Env} {e : Expr} {es : List Expr} {Q : Value → Shared → Prop} (hb : wpAny M A (spliced (backTo pos (starEach (e :: es) env))) (fun vs s₁ => KxsAt i u x s₁.heap ∧ wpAny M A (call (.ref u) vs) Q E s₁) E s)
    (he : starEach (e :: es) env = (false, eval e env) :: starEach es env := by rfl) (hp : (backTo pos (starEach es env)).any (·.1) = false := by rfl) :
    wpAny M A (callWith pos (.ref u) [] (backTo pos (starEach (e :: es) env)) []) Q E s := by
  rw [he] at hb ⊢
  refine kxs_callWith (i := i) (x := x) ?_ (Calls.evalArgs_plain hb)
  show (false || (backTo pos (starEach es env)).any (·.1)) = false
  rw [hp]
  rfl
theorem ref_ld {M : Model} {s : Shared} {env : Env} {m : Str → Option Value} {x : Str} {pos : Pos} {v : Value} {Q : Value → Shared → Prop} (hn : s.heap.Ns env.locals m) (hv : m x = some v) (q : Q v s)
    (hk : env.scope.kind = .function := by rfl) (hl : env.kindOf x = some .local := by rfl) (hd : (x == ("__debug__" : Str)) = false := by decide) : wpAny M A (eval (.Name x pos) env) Q E s := wpAny_Name (wpAny_loadName_local hk hl hn hv q) hd
theorem ref_init (T : RefTxt P K C fI) {R : Result → Shared → Prop} {s : Shared} {mg mb : Str → Option Value} {x t0 : Addr} {v : Value} (X : K.In s.heap) (hlim : s.heap.NoLimit) (G : s.heap.Ns mainGlobals mg) (hmg : mg "super" = none) (B : s.heap.Ns builtinsNs mb) (hmb : mb "super" = some (.type "super"))
    (hx : s.heap.get? x = some (HandSPX.excO C t0)) (hnx : K.lookup x = none) (hroom : A.depth < recursionLimit)
    (hq : ∀ h' tk dx t1, RefEnd s.heap h' x C dx t1 v → R (.ok (.ret .none)) { s with heap := h', toks := tk }) :
    codeAny (model P w) A (.call (.ref fI) ⟨[.ref x, v], []⟩) R s := by
  obtain ⟨oc, od, doc, pm, an, cda, ct, cc, osl, ho, hcd, ⟨ccl, cdd, vs, ccs, file, tf, hcode, hvs, hfile⟩, cl, cld, csl, hcell⟩ := T.fn
  obtain ⟨nm, q, N, bs, bm, sn, sub, ab, col, dd, k0, k1, k2, k3, k5, hC, hbm⟩ := T.cls
  have hcl : clsIn K C = some { name := nm, bases := bs, mro := .ref C :: bm, ns := N, qualname := q, hasDict := true, slotNames := sn, subclasses := sub, abstract := ab, collection := col, hasDel := false } := by unfold clsIn; rw [hC] <;> rfl
  obtain ⟨hp, gs, dr, tk, os⟩ := s
  refine ks_codeAny_call_defAt (binds := [("self", .ref x), ("reason", v)]) hroom (X _ _ ho) rfl hlim (codeRec_of X hcd) rfl (BindsTo.of_eq rfl) (show ∀ x ∈ rfS.names, x.2 ≠ .cell from by decide +kernel) (locs rfl) (fun h₁ hns kk => ?_)
  have hxL : hp.objs.size ≠ x := Nat.ne_of_gt (Heap.lt_size hx)
  have X₁ : K.In h₁ := X.keeps kk
  have hx₁ := kk _ _ hx
  refine ks_wpAt_execs_cons (ks_wpAt_Expr_any (ks_wpAt_MethodCall ?_))
  refine ks_wpAt_super_base (env := ksEnv "Refused.__init__" rfS hp.objs.size fI (.ref cda) cc) rfl rfl (by decide) rfl (X₁ _ _ ho) rfl rfl rfl (X₁ _ _ hcode) rfl hvs hfile T.top ?_
  refine ks_loadName_global rfl rfl (Calls.loadGlobal_builtin (env := ksEnv "Refused.__init__" rfS hp.objs.size fI (.ref cda) cc) (G.keeps kk) hmg (B.keeps kk) hmb ⟨rfl, ?_⟩)
  refine wpAny_loadName_free rfl rfl rfl ⟨_, X₁ _ _ hcell, rfl⟩ ?_
  refine wpAny_loadName_local rfl rfl hns (v := .ref x) (by first | rfl | with_unfolding_all rfl | kernel_rfl) ?_
  refine ks_wpAny_isType_cls (X₁ _ _ hC) rfl ⟨rfl, ?_⟩
  refine ks_wpAny_call_super (X₁ _ _ hC) rfl hx₁ rfl (fun c e => by cases e) (looks_mroIn X₁ T.mC) (fun h₂ e₂ k₂ => ?_)
  have X₂ : K.In h₂ := X₁.keeps k₂
  have hx₂ := k₂ _ _ hx₁
  have I₂ : InstAt h₂ x (HandSPX.excO C t0) C none := ⟨hx₂, rfl, rfl, trivial⟩
  have hI : Looks (model P w) h₂ (isInstance (.ref x) (.type "ValueError")) true := I₂.type.andThen (looks_subIn X₂ T.veC)
  have hsi := T.si
  unfold ks_superIn at hsi
  rw [hcl] at hsi
  have hmr : Looks (model P w) h₂ (mroOf (.ref C)) (.ref C :: bm) := fun A Q E s k q => wpAny_bind ((looks_clsIn X₂ hcl) A _ E s k (wpAny_pure q))
  have hxC : x ≠ C := ks_ne X₂ I₂ hcl
  refine kxs_getMethod kxs_ValueError e₂ (looks_opaque X₂ T.any_) hmr rfl X₂ hsi hI hxC (by decide) ?_
  have hns₂ := hns.keeps k₂
  have kp : ∀ b o, h₂.get? b = some o → (h₂.push (kxs_mw "ValueError.__init__" x)).get? b = some o := fun b o e => Heap.get?_push_of_some _ e
  have hu : (h₂.push (kxs_mw "ValueError.__init__" x)).get? h₂.objs.size = some (kxs_mw "ValueError.__init__" x) := Heap.get?_push_at rfl rfl
  have hns₃ := hns₂.keeps kp
  have hx₃ := kp _ _ hx₂
  have X₃ := X₂.keeps kp
  have k03 : ∀ b o, hp.get? b = some o → (h₂.push (kxs_mw "ValueError.__init__" x)).get? b = some o := fun b o e => kp b o (k₂ b o (kk b o e))
  have hL₃ : hp.objs.size < (h₂.push (kxs_mw "ValueError.__init__" x)).objs.size := hns₃.lt
  generalize h₂.push (kxs_mw "ValueError.__init__" x) = h₃ at kp hu hns₃ hx₃ X₃ k03 hL₃ ⊢
  refine ref_cw (i := "ValueError.__init__") (x := x) ?_
  refine Calls.spliced_cons (ref_ld (v := v) hns₃ (by first | rfl | with_unfolding_all rfl | kernel_rfl) ?_)
  refine Calls.spliced_nil ⟨hu, ?_⟩
  refine ref_mw (X₃ _ _ hC) hx₃ hu (by show 1 ≤ sizeLine; rw [sizeLine_eq]; exact (by decide : 1 ≤ 16777216)) (fun h₄ t1 k₄ hx₄ => ?_)
  have X₄ : K.In h₄ := in_but X₃ hnx k₄
  have hns₄ : h₄.Ns hp.objs.size (fun y => ([("self", .ref x), ("reason", v)] : List (Str × Value)).reverse.lookup y) := hns₃.at fun o q => k₄ _ _ hxL q
  refine ks_wpAt_execs_cons (wpAt_of_wpAny ?_)
  refine plainObj_wpAny_Assign_Attribute ?_
  refine ref_ld (v := v) hns₄ (by first | rfl | with_unfolding_all rfl | kernel_rfl) (ref_ld (v := .ref x) hns₄ (by first | rfl | with_unfolding_all rfl | kernel_rfl) ?_)
  refine set_plain X₄ (ox := HandSPX.excO C t1) (od := none) ⟨hx₄, rfl, rfl, trivial⟩ T.sa ?_
  refine HandSPX.exc_osa X₄ hx₄ hcl (show HandSPX.refsVE (.ref C :: bm) = true from hbm) rfl T.noN (fun h₅ tk₅ dx k₅ dn dne hx₅ hn₅ => ?_)
  refine wpAt_of_wpAny (wpAny_execs_nil ?_)
  refine hq h₅ tk₅ dx t1 ⟨fun b o hb e => k₅ b o hb (k₄ b o hb (k03 b o e)), hx₅, ?_, dne, hn₅⟩
  have z : hp.objs.size < h₄.objs.size := hns₄.lt
  have dn' : h₄.objs.size ≤ dx := dn
  show hp.objs.size ≤ dx
  omega
structure RefMade (h h' : Heap) (e C d : Addr) (v : Value) : Prop where
  keep : ∀ b o, h.get? b = some o → h'.get? b = some o
  new : h.objs.size ≤ e
  obj : ∃ oe vs, h'.get? e = some oe ∧ oe.cls = .ref C ∧ oe.dict = some d ∧ oe.data = .fields vs ∧ vs[1]? = some .none
  dbig : h.objs.size ≤ d
  dne : d ≠ e
  ns : h'.Ns1 d (fun y => if y = "reason" then some v else none)
theorem ref_made (T : RefTxt P K C fI) {R : Result → Shared → Prop} {s : Shared} {mg mb : Str → Option Value} {v : Value} (X : K.In s.heap) (hlim : s.heap.NoLimit) (G : s.heap.Ns mainGlobals mg) (hmg : mg "super" = none) (B : s.heap.Ns builtinsNs mb) (hmb : mb "super" = some (.type "super"))
    (hroom : A.depth + 1 < recursionLimit) (hq : ∀ h' tk e d, RefMade s.heap h' e C d v → R (.ok (.ret (.ref e))) { s with heap := h', toks := tk }) :
    codeAny (model P w) A (.call (.ref C) ⟨[v], []⟩) R s := by
  obtain ⟨nm, q, N, bs, bm, sn, sub, ab, col, dd, k0, k1, k2, k3, k5, hC, hbm⟩ := T.cls
  obtain ⟨hp, gs, dr, tk, os⟩ := s
  have kk : ∀ b o, hp.get? b = some o → ((hp.push (kdv_tup [v])).push (HandSPX.excO C hp.objs.size)).get? b = some o := fun b o e => Heap.get?_push_of_some _ (Heap.get?_push_of_some _ e)
  have hget : ((hp.push (kdv_tup [v])).push (HandSPX.excO C hp.objs.size)).get? (hp.objs.size + 1) = some (HandSPX.excO C hp.objs.size) := by heap_get
  have hnx : K.lookup (hp.objs.size + 1) = none := by
    cases e : K.lookup (hp.objs.size + 1) with
    | none => rfl
    | some o =>
      have z := Heap.lt_size (X _ _ e)
      have z2 : hp.objs.size + 1 < hp.objs.size := z
      omega
  refine HandSPX.call_own F.excBase_ValueError (fun Y => HandSPX.refsVE_contains Y bm hbm) (X _ _ hC) (looks_findIn X T.iC) (fun self => bind_fn X self T.tC) (by show 1 ≤ sizeLine; rw [sizeLine_eq]; exact (by decide : 1 ≤ 16777216)) ?_
  refine ref_init (s := ⟨(hp.push (kdv_tup [v])).push (HandSPX.excO C hp.objs.size), gs, dr, tk, os⟩) T (X.keeps kk) (hlim.keeps kk) (G.keeps kk) hmg (B.keeps kk) hmb hget hnx hroom (fun h' tk' dx t1 ⟨k', hx, dn, dne, hns⟩ => ?_)
  have old : ∀ b o, hp.get? b = some o → h'.get? b = some o := fun b o e => k' b o (Nat.ne_of_lt (Nat.lt_succ_of_lt (Heap.lt_size e))) (kk b o e)
  have z : hp.objs.size + 1 + 1 ≤ dx := by
    first
      | exact dn
      | (have q := dn; rw [Heap.size_push, Heap.size_push] at q; exact q)
  exact ⟨rfl, hq h' tk' (hp.objs.size + 1) dx ⟨old, Nat.le_succ _, ⟨_, _, hx, rfl, rfl, rfl, rfl⟩, (by show hp.objs.size ≤ dx; omega), dne, hns⟩⟩
end
theorem relO_ref {v : V} {v' : Value} (r : RelV v v') (f : Str) : RelO (List.lookup f [(("reason" : Str), v)]) (if f = "reason" then some v' else none) := by
  by_cases hw : f = "reason"
  · subst hw
    rw [if_pos rfl]
    have q : List.lookup ("reason" : Str) [(("reason" : Str), v)] = some v := by simp [List.lookup]
    rw [q]
    exact r
  · rw [if_neg hw]
    have qw : (f == ("reason" : Str)) = false := by simpa using hw
    have q2 : List.lookup f [(("reason" : Str), v)] = none := by simp [List.lookup, qw]
    rw [q2]
    trivial
section
variable {X : Cx} {C fI : Addr}
/-- Refused(e) -/
def tMkRef (C : Addr) (ta : TA) : St → Hp → XK → Prop := fun σ H Q => ta σ H fun vs H1 => ∃ v, vs = [v] ∧ ∀ d, H1 d = none → Q (.ref C) (some d) (upd H1 d (.xd [(("reason" : Str), v)]))
theorem pmk_ref {a : Expr} {ta : TA} {p pos : Pos} {k : Nat} (T : RefTxt X.prog X.K C fI) (hC : X.mg "Refused" = some (.ref C)) (hS : X.mg "super" = none) (hr : Room (k + 1) X.A) (ha : PA X [a] ta) (hg : Gl X "Refused" := by rfl)
    (he : starEach (a :: []) X.env = (false, eval a X.env) :: starEach [] X.env := by rfl) (hpl : (backTo pos (starEach [] X.env)).any (·.1) = false := by rfl) :
    PMk X (.Call (.Name "Refused" p) [a] [] pos) (tMkRef C ta) := by
  intro pins s σ H Q I h
  refine wpAny_Call_Name_kw (ld_glob I hg hC ?_)
  refine callWith_K (h₀ := X.base) I.ok.mod.kin T.kC (thn (ha.run pos pins s σ H _ I h) fun us s1 hh => ?_) he hpl
  obtain ⟨vs, H1, I1, r1, v, ev, q1⟩ := hh
  subst ev
  refine ⟨I1.kIn, ?_⟩
  cases r1 with
  | cons rv rn =>
    rename_i v' us'
    cases rn
    show wpAny (model X.prog X.w) X.A (call (Value.ref C) [v']) _ _ s1
    have hlim := I1.nolimit
    obtain ⟨mb, b1, b2⟩ := I1.mod.blt
    have hG := I1.mod.glob.keeps I1.bk
    have hB := b1.keeps I1.bk
    have hmb : mb "super" = some (.type "super") := (b2 _ (by decide +kernel)).trans (by first | rfl | kernel_rfl)
    have I2 := I1
    obtain ⟨hp, gs, dr, tk, os⟩ := s1
    refine wpAny_call (ref_made T I1.kIn hlim hG hS hB hmb (by have := hr.dp; omega) fun h' tk' e d M => ?_)
    show MkP X pins σ Q (.ref e) ⟨h', gs, dr, tk', os⟩
    obtain ⟨oe, fv, hoe, hc, hd, hdat, h1⟩ := M.obj
    have hns := M.ns
    obtain ⟨G', g1, g2⟩ := restrict h' fun b => decide (b ≠ e)
    have gk : ∀ b, b ≠ e → G'.get? b = h'.get? b := fun b hb => g1 b (decide_eq_true hb)
    have ge : G'.get? e = none := g2 e (by simp)
    have old : ∀ b o, hp.get? b = some o → G'.get? b = some o := fun b o q => (gk b (Nat.ne_of_lt (Nat.lt_of_lt_of_le (Heap.lt_size q) M.new))).trans (M.keep b o q)
    have ob : ObjOk X.prog X.w (upd H1 d (.xd [(("reason" : Str), v)])) G' d (.xd [(("reason" : Str), v)]) :=
      ⟨_, hns.at (fun o q => (gk d M.dne).trans q), fun f => relO_ref rv f⟩
    have J : Inv X pins σ (upd H1 d (.xd [(("reason" : Str), v)])) ⟨G', gs, dr, tk', os⟩ := I1.laid (t' := tk') old M.dbig ob
    refine ⟨e, oe, fv, ⟨G', gs, dr, tk', os⟩, _, .ref C, some d, rfl, J, fun b o q => ?_, ge, hoe, ⟨hc, hd⟩, hdat, h1, ?_, rfl, I1.bare, raises_own T.exC T.tyC, q1 d (I1.hok.fresh M.dbig)⟩
    · by_cases hb : b = e
      · have q' : G'.get? b = some o := q
        rw [hb, ge] at q'
        cases q'
      · exact (gk b hb).symm.trans q
    · rw [upd_ne (Ne.symm M.dne)]
      exact I1.hok.fresh M.new
end
end L2.KL
set_option Elab.async false
set_option linter.all false
set_option maxRecDepth 100000
set_option maxHeartbeats 4000000
namespace L2.KL
open PySem PySem.Spec PyProof.Rows PySem.W
abbrev CR (K : PySem.W.Frag) : Addr := He.ga K "Refused"
abbrev CM (K : PySem.W.Frag) : Addr := He.ga K "Malformed"
abbrev FI (K : PySem.W.Frag) : Addr := He.ma K (CR K) "__init__"
abbrev MalOk (K : PySem.W.Frag) : Prop := PySem.W.excIn K (CM K) He.veBase "ValueError.__new__" = true ∧ PySem.W.keepIn K (.ref (CM K)) = true ∧ PySem.W.subIn K (.ref (CM K)) (.type "BaseException") = some true ∧ PySem.W.typeIn K (.ref (CM K)) = some (.type "type")
section
variable {P : Program} {w : World} {K : PySem.W.Frag} {mg : Str → Option Value} {base : Heap} {N ps : List Str} {k : Nat} {sp : Sp}
/-- a def that may raise -/
theorem Ok.mkX {d : He.DefD} {i : Nat} (T : Tx K mg) (hd : HD.fn[i]? = some d) (hdf : d.dfl = []) (S : FnScope N ps d.scope) (len : ∀ vs H Q E, sp vs H Q E → vs.length = ps.length)
    (hb : ∀ (kV doc pm : Value) (an : Option Addr) (cdv ct : Value) (us : List Value), us.length = ps.length → bindArgs (PySem.W.fnOf d.name d.qual d.params d.body d.scope .none kV doc pm an cdv ct) ⟨us, []⟩ = pure (ps.zip us))
    (hbody : ∀ (cdv : Value) (A : Around) (outer : List Env) (s : Shared) (H : Hp) (vs : List V) (Q : VK) (E : XK), Room k (A.deeper (envOfC d.qual d.scope s.heap.objs.size (He.fAd K d.at_) cdv)) → sp vs H Q E →
      ∃ t, PSs (cxOf (L2.CX P w) P w K mg base N d.qual d.scope (He.fAd K d.at_) cdv A outer s H E) d.body t ∧ t { nx := fun _ H' => Q .non H', rt := Q } (start N vs) H) : Ok P w K mg base (L2.CX P w) (k + 1) d ps sp := by
  obtain ⟨fd, F⟩ := T.fn i hd
  have e : d.dvs K = [] := by
    unfold He.DefD.dvs
    rw [hdf]
    rfl
  have F2 := F
  rw [e] at F2
  exact ⟨⟨fd, F.ok S len hbody, F2.bindsN hb⟩, F.kp⟩
end
section
variable {X : Cx} {k : Nat} {d : He.DefD} {ps : List Str} {sp : Sp} {E : St → XK} {x : Str} {p pos : Pos} {e : Expr} {es : List Expr} {t : TA}
/-- a call in a try's body -/
theorem pe_fS (G : Ok X.prog X.w X.K X.mg X.base (L2.CX X.prog X.w) k d ps sp) (hr : Room k X.A) (hm : X.mg x = some (.ref (He.fAd X.K d.at_))) (hx : ∀ σ, PassesAt (L2.CX X.prog X.w) X σ (E σ)) (ha : PA X (e :: es) t) (hg : Gl X x := by rfl)
    (hdb : (x == ("__debug__" : Str)) = false := by decide) (he : starEach (e :: es) X.env = (false, eval e X.env) :: starEach es X.env := by rfl) (hpl : (backTo pos (starEach es X.env)).any (·.1) = false := by rfl) :
    PE X (.Call (.Name x p) (e :: es) [] pos) (tCallS sp E t) := by
  obtain ⟨fd, F, b⟩ := G.ex
  exact pe_callS F hr hg hm G.kp b hx ha hdb he hpl
end
end L2.KL
set_option Elab.async false
set_option linter.all false
set_option maxRecDepth 100000
set_option maxHeartbeats 4000000
namespace L2.KL
open PySem PySem.Spec PyProof.Rows PySem.W
/-! facts of the classes that are raised, of the instance that is called -/
def clsRB (K : PySem.W.Frag) (C : Addr) : Bool := match K.lookup C with
  | some ⟨.type t, _, .cls cd, sl⟩ => decide (t = "type") && (match cd.mro, sl.toList with
    | .ref C' :: bm, [_, _, _, _, some (.builtin n), _] => decide (C' = C) && (decide (n = "ValueError.__new__") && (!cd.hasDel && (cd.hasDict && HandSPX.refsVE bm)))
    | _, _ => false)
  | _ => false
theorem clsRB_ok {K : PySem.W.Frag} {C : Addr} (h : clsRB K C = true) : ∃ nm q N bs bm sn sub ab col dd k0 k1 k2 k3 k5, K.lookup C = some (excClassObj nm q C N bs bm true sn sub ab col dd k0 k1 k2 k3 k5 "ValueError.__new__") ∧ HandSPX.refsVE bm = true := by
  unfold clsRB at h
  split at h
  · rename_i t dd cd sl ho
    have h1 := (Bool.and_eq_true_iff.mp h).1
    have h2 := (Bool.and_eq_true_iff.mp h).2
    clear h
    have ht : t = "type" := of_decide_eq_true h1
    subst ht
    split at h2
    · rename_i C' bm k0 k1 k2 k3 n k5 hm hs
      have g1 := (Bool.and_eq_true_iff.mp h2).1
      have r1 := (Bool.and_eq_true_iff.mp h2).2
      have g2 := (Bool.and_eq_true_iff.mp r1).1
      have r2 := (Bool.and_eq_true_iff.mp r1).2
      have g3 := (Bool.and_eq_true_iff.mp r2).1
      have r3 := (Bool.and_eq_true_iff.mp r2).2
      have g4 := (Bool.and_eq_true_iff.mp r3).1
      have g5 := (Bool.and_eq_true_iff.mp r3).2
      clear h2 r1 r2 r3 h1
      have e1 : C' = C := of_decide_eq_true g1
      have e2 : n = "ValueError.__new__" := of_decide_eq_true g2
      subst e1 e2
      obtain ⟨nm, bs, mro, ns, qn, hd, sn, sub, ab, col, del⟩ := cd
      dsimp only at hm g3 g4
      have e3 : del = false := by simpa using g3
      subst hm e3 g4
      have hsl : sl = #[k0, k1, k2, k3, some (.builtin "ValueError.__new__"), k5] := by
        obtain ⟨l⟩ := sl
        simp only at hs
        rw [hs]
      subst hsl
      exact ⟨nm, qn, ns, bs, bm, sn, sub, ab, col, dd, k0, k1, k2, k3, k5, ho, g5⟩
    · cases h2
  · cases h
def fileS : Str := "/claim/cut.py"
def fileOf (vs : Array Value) : Bool := match vs[2]? with
  | some (Value.str f _) => decide (f = fileS)
  | _ => false
theorem fileOf_ok {vs : Array Value} (h : fileOf vs = true) : ∃ tf, vs[2]? = some (.str fileS tf) := by
  unfold fileOf at h
  split at h
  · rename_i f tf hv
    have e : f = fileS := of_decide_eq_true h
    subst e
    exact ⟨tf, hv⟩
  · cases h
def fnRB (K : PySem.W.Frag) : Bool := match K.lookup (FI K) with
  | some ⟨_, _, .func fd, _⟩ => (match fd.defaults, fd.kwdefaults, fd.code, fd.closure with
    | .none, .none, .ref cda, [(_, cc)] => codeIn K (.ref cda) "Refused.__init__" && ((match K.lookup cda with
        | some ⟨_, _, .fields vs, _⟩ => fileOf vs
        | _ => false) && (match K.lookup cc with
        | some ⟨_, _, .cell (some (.ref D)), _⟩ => decide (D = CR K)
        | _ => false))
    | _, _, _, _ => false)
  | _ => false
abbrev FnR : Type := Option (Str × Str × Arguments × FuncBody × Scope × Addr × List Str × Addr)
def fnR (K : PySem.W.Frag) : FnR := match K.lookup (FI K) with
  | some ⟨_, _, .func fd, _⟩ => some (fd.name, fd.qualname, fd.params, fd.body, fd.scope, fd.globals, fd.closure.map (·.1), fd.builtins)
  | _ => none
def valR : FnR := some ("__init__", "Refused.__init__", defArgs HD.sRefused_init, .stmts (defBody HD.sRefused_init), defScope HD.sRefused_init, mainGlobals, ["__class__"], builtinsNs)
theorem fnR_ok {P : Program} {K : PySem.W.Frag} (hf : (P.main.file : Str) = fileS) (h : fnRB K = true) (e : fnR K = valR) : ∃ (oc : Value) (od : Option Addr) (doc pm : Value) (an : Option Addr) (cda : Addr) (ct : Value) (cc : Addr) (osl : Array (Option Value)),
    K.lookup (FI K) = some ⟨oc, od, .func (ksFn "__init__" "Refused.__init__" rfA [rfB1, rfB2] rfS .none .none doc pm an (.ref cda) ct cc), osl⟩ ∧ codeIn K (.ref cda) "Refused.__init__" = true ∧
    (∃ (ccl : Value) (cdd : Option Addr) (vs : Array Value) (ccs : Array (Option Value)) (file : Str) (tf : Tok), K.lookup cda = some ⟨ccl, cdd, .fields vs, ccs⟩ ∧ vs[2]? = some (.str file tf) ∧ ((P.main.file : Str) == file) = true) ∧
    ∃ (cl : Value) (cld : Option Addr) (csl : Array (Option Value)), K.lookup cc = some ⟨cl, cld, .cell (some (.ref (CR K))), csl⟩ := by
  unfold fnRB at h
  unfold fnR at e
  cases q : K.lookup (FI K) with
  | none =>
    rw [q] at h
    cases h
  | some o =>
    obtain ⟨oc, od, dt, osl⟩ := o
    rw [q] at h e
    cases dt with
    | func fd =>
      obtain ⟨m1, m2, m3, m4, m5, m6, m7, m8, m9, m10, m11, m12, m13, m14, m15⟩ := fd
      dsimp only at h e
      split at h
      · rename_i d1 d2 d3 d4 cda x cc
        have e2 : (some (m1, m2, m3, m4, m5, m6, [x], m15) : FnR) = (some (("__init__" : Str), ("Refused.__init__" : Str), rfA, FuncBody.stmts [rfB1, rfB2], rfS, mainGlobals, [("__class__" : Str)], builtinsNs) : FnR) := e
        simp only [Option.some.injEq, Prod.mk.injEq, List.cons.injEq, and_true] at e2
        obtain ⟨a1, a2, a3, a4, a5, a6, a7, a8⟩ := e2
        subst a1 a2 a3 a4 a5 a6 a7 a8
        obtain ⟨g1, h⟩ := Bool.and_eq_true_iff.mp h
        obtain ⟨g2, g3⟩ := Bool.and_eq_true_iff.mp h
        refine ⟨oc, od, m10, m11, m12, cda, m14, cc, osl, rfl, g1, ?_, ?_⟩
        · split at g2
          · rename_i ccl cdd vs ccs hv
            obtain ⟨tf, hv2⟩ := fileOf_ok g2
            refine ⟨ccl, cdd, vs, ccs, fileS, tf, hv, hv2, ?_⟩
            rw [hf]
            exact beq_self_eq_true _
          · cases g2
        · split at g3
          · rename_i cl cld D csl hv
            rw [of_decide_eq_true g3] at hv
            exact ⟨cl, cld, csl, hv⟩
          · cases g3
      · cases h
    | _ => cases h
/-- the facts beside -/
def exr (K : PySem.W.Frag) : Bool :=
  clsRB K (CR K) && (fnRB K && (decide (findIn K (.ref (CR K)) "__setattr__" = some (some (.builtin "object.__setattr__"))) && (decide (findIn K (.ref (CR K)) "reason" = some none) && (decide (findIn K (.ref (CR K)) "__init__" = some (some (.ref (FI K)))) &&
  (decide (typeIn K (.ref (FI K)) = some (.type "function")) && (keepIn K (.ref (CR K)) && (decide (subIn K (.ref (CR K)) (.type "BaseException") = some true) && (decide (subIn K (.ref (CR K)) (.type "ValueError") = some true) && (decide (typeIn K (.ref (CR K)) = some (.type "type")) &&
  (decide (mroIn K (CR K) (.ref (CR K)) = some true) && (decide (nsIn K cStatics "thirdparty.any" = some none) && (decide (ks_superIn K (CR K) (CR K) "__init__" = some (some (.builtin "ValueError.__init__"))) && (xfB K (CR K) && ((He.Fa.exc "Malformed").ok K &&
  (decide (findIn K (.ref (CF K)) "__call__" = some (some (.ref (He.fAd K HD.dClassFunction_call.at_)))) && (isFn K (.ref (He.fAd K HD.dClassFunction_call.at_)) && fnIn K (He.fAd K HD.dClassFunction_call.at_)))))))))))))))))
theorem exr_ok {P : Program} {K : PySem.W.Frag} (hf : (P.main.file : Str) = fileS) (ht : (P.main.scope.names.lookup ("super" : Str)).isSome = false) (h : exr K = true) (e : fnR K = valR) :
    RefTxt P K (CR K) (FI K) ∧ MalOk K ∧ XfC K (CR K) ∧ StX.CallO K (CF K) (He.fAd K HD.dClassFunction_call.at_) := by
  obtain ⟨h1, h⟩ := Bool.and_eq_true_iff.mp h
  obtain ⟨h2, h⟩ := Bool.and_eq_true_iff.mp h
  obtain ⟨h3, h⟩ := Bool.and_eq_true_iff.mp h
  obtain ⟨h4, h⟩ := Bool.and_eq_true_iff.mp h
  obtain ⟨h5, h⟩ := Bool.and_eq_true_iff.mp h
  obtain ⟨h6, h⟩ := Bool.and_eq_true_iff.mp h
  obtain ⟨h7, h⟩ := Bool.and_eq_true_iff.mp h
  obtain ⟨h8, h⟩ := Bool.and_eq_true_iff.mp h
  obtain ⟨h9, h⟩ := Bool.and_eq_true_iff.mp h
  obtain ⟨h10, h⟩ := Bool.and_eq_true_iff.mp h
  obtain ⟨h11, h⟩ := Bool.and_eq_true_iff.mp h
  obtain ⟨h12, h⟩ := Bool.and_eq_true_iff.mp h
  obtain ⟨h13, h⟩ := Bool.and_eq_true_iff.mp h
  obtain ⟨h14, h⟩ := Bool.and_eq_true_iff.mp h
  obtain ⟨h15, h⟩ := Bool.and_eq_true_iff.mp h
  obtain ⟨h16, h⟩ := Bool.and_eq_true_iff.mp h
  obtain ⟨h17, h18⟩ := Bool.and_eq_true_iff.mp h
  exact ⟨⟨clsRB_ok h1, of_decide_eq_true h3, of_decide_eq_true h4, of_decide_eq_true h5, of_decide_eq_true h6, h7, of_decide_eq_true h8, of_decide_eq_true h9, of_decide_eq_true h10, of_decide_eq_true h11, of_decide_eq_true h12, of_decide_eq_true h13, fnR_ok hf h2 e, ht⟩,
    He.exc_ok h15, xfB_ok h14, ⟨of_decide_eq_true h16, h17, h18⟩⟩
/-- a law's end: the facts of the head, the script's bits told -/
theorem walk_ofEB {l : PySem.W.OpenLaw} {n k : Nat} {q : Program} {loose : List Str} {XP : (Str → Option Value) → Heap → Prop} {YP : World → Heap → Prop} {d : DefRec} {CX : CXT} {x : Str}
    (hn : l.most = some n) (hn2 : n ≤ sizeLine) (hdf : d.params.defaults = []) (hr : Room k callerA)
    (F : ∀ (w : World) (mg : Str → Option Value) (fa : Addr) (h : Heap), YP w h → h.Ns mainGlobals mg → mg d.name = some (.ref fa) →
      ∃ (K : PySem.W.Frag) (fd : FuncData) (sp : Sp), K.In h ∧ (∀ (s : Shared) (u : Value), BindsTo s fd ⟨[u], []⟩ [(x, u)]) ∧
        (∀ (H : Hp) (a : Addr) (ns : List Int), ns.length ≤ n → (∀ z ∈ ns, Builtin.Int.intBits z ≤ 1048576) → SqL K H a (ns.map V.int) → sp [.ref a] H (fun v _ => v = .bl true) fun _ _ _ => False) ∧
        ∀ base : Heap, K.In base → base.Ns mainGlobals mg → FnOk l.prog w K mg base CX k fa fd [x] sp)
    (hCX : ∀ (H : Hp) (s : Shared) (e : Value) (s' : Shared), CX [] H s (fun _ _ _ => False) e s' → False) :
    PySem.W.WalkO q loose XP YP l.row.toRowW d [] (fun f vs => PySem.call f vs) := by
  refine Att.attach_callB hn hdf fun w s₀ s₁ mg mb fa o pm cd doc a vs ns G Y ho hd hcd hmg hobj hints hlen hbits hg => ?_
  obtain ⟨K, fd, sp, KX, hb, hsp, hF⟩ := F w mg fa _ Y G.T.g hmg
  exact law_call KX G.T.g G.T.b G.T.builtins G.T.nolimit hg hobj hints (Nat.le_trans hlen hn2) hr hF hb (fun H _ hS => hsp H a ns hlen hbits hS) fun H e s' => hCX H s₁ e s'
end L2.KL
set_option Elab.async false
set_option linter.all false
set_option maxRecDepth 100000
set_option maxHeartbeats 0
namespace HD
open PySem PySem.Spec PyProof.Rows L2
/-! the reach: the addresses are forced to numerals level by level -/
def forceL {α : Type} : List Nat → (List Nat → α) → α
  | [], k => k []
  | a :: r, k => HandSHeadRun.frNat a fun a => forceL r fun r => k (a :: r)
theorem forceL_eq {α : Type} : ∀ (l : List Nat) (k : List Nat → α), forceL l k = k l
  | [], _ => rfl
  | a :: r, k => by
    show HandSHeadRun.frNat a (fun a => forceL r fun r => k (a :: r)) = k (a :: r)
    rw [HandSHeadRun.frNat_eq, forceL_eq r]
def refN : Value → List Nat
  | .ref a => [a]
  | _ => []
def refsF (o : Option Obj) : List Nat := match o with
  | some ⟨_, _, .func fd, _⟩ => refN fd.code ++ (refN fd.defaults ++ (refN fd.kwdefaults ++ fd.closure.map (·.2)))
  | some ⟨_, _, .cls cd, _⟩ => cd.ns :: cd.mro.flatMap refN
  | _ => []
def refsN (o : Option Obj) : List Nat := match o with
  | some ⟨_, _, .dict es _, _⟩ => es.toList.flatMap fun e => refN e.val
  | _ => []
def reach {α : Type} (g : Addr → Option Obj) (k : List Nat → α) : α :=
  forceL (refsN (g mainGlobals)) fun a1 => forceL (a1.flatMap fun a => refsF (g a)) fun a2 => forceL (a2.flatMap fun a => refsN (g a)) fun a3 => forceL (a3.flatMap fun a => refsF (g a)) fun a4 =>
    k (mainGlobals :: cStatics :: (a1 ++ (a2 ++ (a3 ++ a4))))
theorem reach_eq {α : Type} (g : Addr → Option Obj) : ∃ L : List Nat, ∀ k : List Nat → α, reach g k = k L :=
  ⟨_, fun k => by
    unfold reach
    rw [forceL_eq, forceL_eq, forceL_eq, forceL_eq]⟩
abbrev AlX : Type := He.AlD × Bool × Bool × KL.FnR
def obsK (fa : List He.Fa) (fn : List He.DefD) (K : PySem.W.Frag) : AlX := (He.obsD fa fn K, exf K, KL.exr K, KL.fnR K)
def obsX (fa : List He.Fa) (fn : List He.DefD) (g : Addr → Option Obj) : AlX := reach g fun L => obsK fa fn (He.frG g L)
def hookX (fa : List He.Fa) (fn : List He.DefD) : PySem.W.Hook where
  α := AlX
  obs := fun s => obsX fa fn s.heap.get?
  val := fun _ => (He.valD fn, true, true, KL.valR)
  says := fun _ h => ∃ K : PySem.W.Frag, K.In h ∧ He.SaysD fa fn K ∧ exf K = true ∧ KL.exr K = true ∧ KL.fnR K = KL.valR
  of := fun _ s e => by
    obtain ⟨L, hL⟩ := reach_eq (α := AlX) s.heap.get?
    have e2 : obsX fa fn s.heap.get? = obsK fa fn (He.frG s.heap.get? L) := hL _
    have e3 := e2.symm.trans e
    exact ⟨_, He.frG_in, congrArg (fun z : AlX => z.1) e3, congrArg (fun z : AlX => z.2.1) e3, congrArg (fun z : AlX => z.2.2.1) e3, congrArg (fun z : AlX => z.2.2.2) e3⟩
  keeps := fun _ _ _ ⟨K, hK, c⟩ k => ⟨K, PySem.W.Frag.In.keeps hK k, c⟩
theorem obsX_eq {fa : List He.Fa} {fn : List He.DefD} {g : Addr → Option Obj} {s : Shared} (h : ∀ a, g a = s.heap.get? a) : obsX fa fn g = (hookX fa fn).obs s := by
  have e : g = s.heap.get? := funext h
  rw [e] <;> rfl
abbrev R : PySem.W.OpenRow := PySem.W.OpenLaw.row PySem.Challenge.rw_classtable_k35_whole_restriction_and_ind
abbrev qv : Program := PySem.W.view R.prog [0, 66]
abbrev hk : PySem.W.Hook := hookX fa fn
def ob (s : PySem.W.SharedT) : AlX := obsX fa fn (HandSHeadRun.getT s)
theorem ob_eq (s : PySem.W.SharedT) : ob s = hk.obs s.abs := obsX_eq (HandSHeadRun.getT_eq s)
def loose2 : List PySem.Str := loose.tail
theorem run (w : World) : HandSHeadRun.RunEqI R qv hk ob 12000 loose2 w := by
  unfold HandSHeadRun.RunEqI
  kernel_rfl
end HD
set_option Elab.async false
set_option linter.all false
namespace L2.KL
open PySem PySem.Spec PyProof.Rows PySem.W
abbrev prg : Program := (PySem.Challenge.rw_classtable_k35_whole_restriction_and_ind).prog
theorem prg_file : (prg.main.file : Str) = fileS := by kernel_rfl
theorem prg_super : (prg.main.scope.names.lookup ("super" : Str)).isSome = false := by decide +kernel
/-- what is asked of the def of the law at the end -/
abbrev LawDef (sp : PySem.W.Frag → Sp) : Prop := ∀ (w : World) (K : PySem.W.Frag) (h : Heap) (mg : Str → Option Value) (f : Addr), K.In h → h.Ns mainGlobals mg → mg ("law" : Str) = some (.ref f) →
    He.SaysD HD.fa HD.fn K → HD.exf K = true → exr K = true → fnR K = valR →
    ∃ fd : FuncData, (∀ (s : Shared) (v : Value), BindsTo s fd ⟨[v], []⟩ [(("_law_script" : Str), v)]) ∧ ∀ base : Heap, K.In base → base.Ns mainGlobals mg → FnOk prg w K mg base CX0 12 f fd ["_law_script"] (sp K)
abbrev LawSp (sp : PySem.W.Frag → Sp) : Prop := ∀ (K : PySem.W.Frag) (H : Hp) (a : Addr) (ns : List Int), ns.length ≤ 63 → (∀ z ∈ ns, Builtin.Int.intBits z ≤ 1048576) → SqL K H a (ns.map V.int) →
    sp K [.ref a] H (fun v _ => v = .bl true) fun _ _ _ => False
end L2.KL
section
open PySem PySem.W PySem.Calls PyProof.Rows
set_option maxRecDepth 100000 in
set_option maxHeartbeats 0 in
theorem L2.KL.end_of {sp : PySem.W.Frag → L2.Sp} (h1 : L2.KL.LawSp sp) (h2 : L2.KL.LawDef sp) : PySem.Challenge.rw_classtable_k35_whole_restriction_and_ind.Holds := by
  w_on; o_law
  refine HandSHeadRun.head_imp (r := OpenLaw.row PySem.Challenge.rw_classtable_k35_whole_restriction_and_ind) (q := HD.qv) (H := HD.hk) (ob := HD.ob) (M := 12000) (loose := HD.loose2) (d := HandSHeadRun.topDef (OpenLaw.row PySem.Challenge.rw_classtable_k35_whole_restriction_and_ind).prog 66) (kwd := []) HD.ob_eq
    HD.run (by kernel_rfl) (by kernel_rfl) (by kernel_rfl) (by rfl) (by first | assumption | decide +kernel) (by decide +kernel) ⟨rfl, rfl, rfl, rfl, rfl, by decide +kernel⟩ ?hw ?hc
  case hw => w_witness2
  case hc =>
    refine L2.KL.walk_ofEB (l := PySem.Challenge.rw_classtable_k35_whole_restriction_and_ind) (n := 63) (k := 12) (x := "_law_script") (CX := L2.CX0) rfl (by decide) (by kernel_rfl) ⟨rfl, by decide, by decide⟩ ?F (fun _ _ _ _ z => z)
    intro w mg fa h Y G hmg0
    obtain ⟨K, KX, c, e1, e2, e3⟩ := Y
    have hmg : mg ("law" : PySem.Str) = some (.ref fa) := by
      have e : (HandSHeadRun.topDef (OpenLaw.row PySem.Challenge.rw_classtable_k35_whole_restriction_and_ind).prog 66).name = ("law" : PySem.Str) := by kernel_rfl
      rw [← e]
      exact hmg0
    obtain ⟨fd, hb, hF⟩ := h2 w K h mg fa KX G hmg c e1 e2 e3
    exact ⟨K, fd, sp K, KX, hb, fun H a ns hl hbits hS => h1 K H a ns hl hbits hS, hF⟩
end
set_option Elab.async false
set_option linter.all false
set_option maxRecDepth 100000
set_option maxHeartbeats 4000000
namespace L2.KL
open PySem PySem.Spec PyProof.Rows

abbrev Tab := List (List Nat)
def tm (T : Tab) (x y : Nat) : Nat := (T.getD x []).getD y 0
def fsG (t : Addr) : List (Str × V) := [("table", .ref t)]
theorem lk_table {t : Addr} : (fsG t).lookup ("table" : Str) = some (.ref t) := by
  unfold fsG
  rw [List.lookup_cons]
  rw [show (("table" : Str) == "table") = true by decide +kernel]
theorem nk_group {t : Addr} {m : Str} (h : (m == ("table" : Str)) = false) : (fsG t).lookup m = none := by
  unfold fsG
  rw [List.lookup_cons, h]
  rfl
/-- a tuple of tuples of numbers -/
def TabAt (H : Hp) (t : Addr) (T : Tab) : Prop := ∃ rs : List Addr, H t = some (.tup (refsV rs)) ∧ rs.length = T.length ∧ ∀ (i : Nat) (r : Addr) (row : List Nat), rs[i]? = some r → T[i]? = some row → H r = some (.tup (natsV row))
theorem TabAt.fz {H H' : Hp} {t : Addr} {T : Tab} (s : Fz H H') (h : TabAt H t T) : TabAt H' t T := by
  obtain ⟨rs, h1, h2, h3⟩ := h
  exact ⟨rs, s _ _ h1 rfl, h2, fun i r row a b => s _ _ (h3 i r row a b) rfl⟩
theorem TabAt.row {H : Hp} {t : Addr} {T : Tab} (h : TabAt H t T) {x : Nat} (hx : x < T.length) : ∃ (rs : List Addr) (r : Addr), H t = some (.tup (refsV rs)) ∧ rs[x]? = some r ∧ H r = some (.tup (natsV (T.getD x []))) := by
  obtain ⟨rs, h1, h2, h3⟩ := h
  have hr : x < rs.length := by omega
  exact ⟨rs, rs[x], h1, List.getElem?_eq_getElem hr, h3 x _ _ (List.getElem?_eq_getElem hr) (by simp [List.getD, List.getElem?_eq_getElem hx])⟩
theorem row_of {H : Hp} {rs : List Addr} {M : Tab} (h2 : rs.length = M.length) (h3 : ∀ (i : Nat) (r : Addr) (row : List Nat), rs[i]? = some r → M[i]? = some row → H r = some (.tup (natsV row))) {x : Nat} (hx : x < M.length) :
    ∃ r : Addr, rs[x]? = some r ∧ H r = some (.tup (natsV (M.getD x []))) := by
  have hr : x < rs.length := by omega
  exact ⟨rs[x], List.getElem?_eq_getElem hr, h3 x _ _ (List.getElem?_eq_getElem hr) (by simp [List.getD, List.getElem?_eq_getElem hx])⟩
def GrpAt (C : Addr) (H : Hp) (p : Addr) (T : Tab) : Prop := ∃ dx t, H p = some (.ins C dx (fsG t)) ∧ TabAt H t T
theorem GrpAt.fz {C : Addr} {H H' : Hp} {p : Addr} {T : Tab} (s : Fz H H') (h : GrpAt C H p T) : GrpAt C H' p T := by
  obtain ⟨dx, t, h1, h2⟩ := h
  exact ⟨dx, t, s _ _ h1 rfl, h2.fz s⟩
/-- a square table of numbers below its size -/
structure Sq (T : Tab) : Prop where
  row : ∀ x, x < T.length → (T.getD x []).length = T.length
  lt : ∀ x y, x < T.length → y < T.length → tm T x y < T.length
def inv (T : Tab) (x : Nat) : Nat := (T.getD x []).idxOf 0
def pw (T : Tab) (x : Nat) : Nat → Nat
  | 0 => x
  | k + 1 => tm T (pw T x k) x
theorem pw_lt {T : Tab} (S : Sq T) {x : Nat} (hx : x < T.length) : ∀ k, pw T x k < T.length
  | 0 => hx
  | k + 1 => S.lt _ _ (pw_lt S hx k) hx
structure OrdIs (T : Tab) (x n : Nat) : Prop where
  one : 1 ≤ n
  zero : pw T x (n - 1) = 0
  least : ∀ m, m < n - 1 → pw T x m ≠ 0
theorem OrdIs.uniq {T : Tab} {x n m : Nat} (a : OrdIs T x n) (b : OrdIs T x m) : n = m := by
  have h1 := a.one
  have h2 := b.one
  rcases Nat.lt_trichotomy n m with h | h | h
  · exact absurd a.zero (b.least (n - 1) (by omega))
  · exact h
  · exact absurd b.zero (a.least (m - 1) (by omega))
theorem idx_nats {xs : List Nat} (h : 0 ∈ xs) : (natsV xs)[xs.idxOf 0]? = some (nV 0) := by
  have h1 : xs.idxOf 0 < xs.length := List.idxOf_lt_length_of_mem h
  rw [List.getElem?_map, List.getElem?_eq_getElem h1, List.getElem_idxOf h1]
  rfl
theorem idx_first {xs : List Nat} (m : Nat) (z' : V) (h : m < xs.idxOf 0) (e : (natsV xs)[m]? = some z') : eqV z' (.int 0) = false := by
  rw [List.getElem?_map] at e
  cases q : xs[m]? with
  | none => rw [q] at e; cases e
  | some n =>
    rw [q] at e
    have e2 : nV n = z' := by simpa using e
    subst e2
    have hn : n ≠ 0 := by
      rintro rfl
      have hm : m < xs.length := (List.getElem?_eq_some_iff.mp q).1
      have hq : xs[m] = 0 := (List.getElem?_eq_some_iff.mp q).2
      have hz := List.not_of_lt_findIdx h
      exact absurd hq (by simpa using hz)
    show ((n : Int) == 0) = false
    simp [hn]
local macro_rules | `(tactic| walk_at "hp") => `(tactic| first
  | assumption
  | (with_reducible exact upd_same))
local macro_rules | `(tactic| walk_at "cl") => `(tactic| first
  | (with_reducible rfl)
  | assumption
  | (with_reducible exact lk_table)
  | (apply tyL; walk_at "hp")
  | (apply Or.inr; apply SqT.of; walk_at "hp"))
local macro_rules | `(tactic| walk_at "r1") => `(tactic| first
  | (with_reducible refine rd_seq ?_)
  | ((with_reducible apply rd_var); (· exact rfl))
  | (with_reducible refine rd_c ?_)
  | (with_reducible refine rd_op ?_)
  | (with_reducible refine rd_fld ?_)
  | (with_reducible refine rd_cb ?_)
  | (with_reducible refine rd_cons ?_)
  | (with_reducible refine rd_nil ?_)
  | (with_reducible refine rd_asg ?_)
  | (with_reducible refine rd_name ?_)
  | (with_reducible refine rd_ret ?_)
  | (with_reducible refine rd_test ?_)
  | (with_reducible refine rd_bm ?_)
  | (with_reducible refine rd_I0 ?_)
  | ((with_reducible apply rd_ixT); (· walk_at "hp"); (· walk_at "at"))
  | ((with_reducible apply rd_ne); (· exact rfl))
  | (with_reducible apply Exists.intro)
  | ((with_reducible refine And.intro ?_ ?_); (· walk_at "cl")))
local macro_rules | `(tactic| walk_at "at") => `(tactic| first
  | (apply at_nats; first | assumption | omega)
  | (apply at_refs; assumption))
local macro_rules | `(tactic| walk_at "rd") => `(tactic| ((repeat walk_at "r1"); (try dsimp only [List.set])))
section
variable {P : Program} {w : World} {K : PySem.W.Frag} {mg : Str → Option Value} {base : Heap}
def spProd (C : Addr) : Sp := fun vs H Q _ => ∃ (p : Addr) (M : Tab) (x y : Nat), vs = [.ref p, nV x, nV y] ∧ GrpAt C H p M ∧ x < M.length ∧ y < (M.getD x []).length ∧ ∀ H', Same H H' → Q (nV (tm M x y)) H'
theorem sc_Group_product : FnScope ["self", "x", "y"] ["self", "x", "y"] HD.dGroup_product.scope := ⟨rfl, rfl, rfl, by decide +kernel, rfl, by decide +kernel, by decide +kernel⟩
theorem ok_prod (T : Tx K mg) : Ok P w K mg base CX0 1 HD.dGroup_product ["self", "x", "y"] (spProd (CG K)) := by
  have c1 := T.c_Group
  have n1 := T.na_Group_table
  have nd := sc_Group_product.nd
  refine Ok.mk0 T fn_Group_product rfl sc_Group_product (fun vs H Q E h => ?_) (fun _ _ _ _ _ _ us hl => match us, hl with | [_, _, _], _ => rfl) (fun cdv A outer s H vs Q E hr h => ?_)
  · obtain ⟨p, M, x, y, rfl, _⟩ := h
    rfl
  · obtain ⟨p, M, x, y, rfl, ⟨dx, t, hp, ht⟩, hx, hy, k⟩ := h
    obtain ⟨rs, r, h1, h2, h3⟩ := ht.row hx
    refine ⟨_, pss_one
          -- return self.table[x][y]
          (ps_ret (pe_ix ix_tup (pe_ix ix_tup (pe_fld (pv 0) rfl) (pv 1) (fun _ _ => rfl)) (pv 2) (fun _ _ => rfl))), ?_⟩
    dsimp only [cxOf, Cx.wish]
    walk_at "rd"
    exact k _ (Same.refl _)
def spInvG (C : Addr) : Sp := fun vs H Q _ => ∃ (p : Addr) (M : Tab) (x : Nat), vs = [.ref p, nV x] ∧ GrpAt C H p M ∧ x < M.length ∧ 0 ∈ M.getD x [] ∧ ∀ H', Same H H' → Q (nV (inv M x)) H'
theorem sc_Group_inverse : FnScope ["self", "x"] ["self", "x"] HD.dGroup_inverse.scope := ⟨rfl, rfl, rfl, by decide +kernel, rfl, by decide +kernel, by decide +kernel⟩
theorem ok_inverse (T : Tx K mg) : Ok P w K mg base CX0 1 HD.dGroup_inverse ["self", "x"] (spInvG (CG K)) := by
  have c1 := T.c_Group
  have n1 := T.na_Group_table
  have nd := sc_Group_inverse.nd
  refine Ok.mk0 T fn_Group_inverse rfl sc_Group_inverse (fun vs H Q E h => ?_) (fun _ _ _ _ _ _ us hl => match us, hl with | [_, _], _ => rfl) (fun cdv A outer s H vs Q E hr h => ?_)
  · obtain ⟨p, M, x, rfl, _⟩ := h
    rfl
  · obtain ⟨p, M, x, rfl, ⟨dx, t, hp, ht⟩, hx, hz, k⟩ := h
    obtain ⟨rs, r, h1, h2, h3⟩ := ht.row hx
    refine ⟨_, pss_one
          -- return list(self.table[x]).index(0)
          (ps_ret (pe_bm PySem.F.plainAttrs_list PySem.F.slot_list_index PySem.F.type_list_index mt_index (pe_callTy call_list_of (by rfl) T.b_list (by decide +kernel) (pa_cons (pe_ix ix_tup (pe_fld (pv 0) rfl) (pv 1) (fun _ _ => rfl)) pa_nil)) (pa_cons pe_int pa_nil))), ?_⟩
    dsimp only [cxOf, Cx.wish]
    walk_at "rd"
    intro l hl
    walk_at "rd"
    exact rd_index upd_same rfl (flat_nats _) (idx_nats hz) rfl (fun m z' h e => idx_first m z' h e) (k _ (Same.new hl))
def spOrd (C : Addr) : Sp := fun vs H Q _ => ∃ (p : Addr) (M : Tab) (x n : Nat), vs = [.ref p, nV x] ∧ GrpAt C H p M ∧ Sq M ∧ x < M.length ∧ OrdIs M x n ∧ ∀ H', Same H H' → Q (nV n) H'
theorem sc_Group_order_of : FnScope ["self", "x", "out", "y"] ["self", "x"] HD.dGroup_order_of.scope := ⟨rfl, rfl, rfl, by decide +kernel, rfl, by decide +kernel, by decide +kernel⟩
theorem ok_order (T : Tx K mg) : Ok P w K mg base CX0 1 HD.dGroup_order_of ["self", "x"] (spOrd (CG K)) := by
  have c1 := T.c_Group
  have n1 := T.na_Group_table
  have nd := sc_Group_order_of.nd
  refine Ok.mk0 T fn_Group_order_of rfl sc_Group_order_of (fun vs H Q E h => ?_) (fun _ _ _ _ _ _ us hl => match us, hl with | [_, _], _ => rfl) (fun cdv A outer s H vs Q E hr h => ?_)
  · obtain ⟨p, M, x, n, rfl, _⟩ := h
    rfl
  · obtain ⟨p, M, x, n, rfl, ⟨dx, t, hp, ht⟩, S, hx, ho, k⟩ := h
    refine ⟨_, pss_cons
          -- out = 1
          (ps_set (i := 2) nd rfl (.inl rfl) pe_int)
         (pss_cons
          -- y = x
          (ps_set (i := 3) nd rfl (.inl rfl) (pv 1))
         (pss_cons
          -- while y != 0:
          (ps_while PassesOwn.never (pt_cmpR op_ne (pv 3) pe_int (nomark _)) (pss_cons
            -- y = self.table[y][x]
            (ps_set (i := 3) nd rfl (.inl rfl) (pe_ix ix_tup (pe_ix ix_tup (pe_fld (pv 0) rfl) (pv 3) (fun _ _ => rfl)) (pv 1) (fun _ _ => rfl)))
           (pss_one
            -- out = out + 1
            (ps_set (i := 2) nd rfl (.inl rfl) (pe_op op_add (pv 2) pe_int)))))
         (pss_one
          -- return out
          (ps_ret (pv 2))))), ?_⟩
    dsimp only [cxOf, Cx.wish]
    walk_at "rd"
    have h1 := ho.one
    refine wh (fun m σ H' => ∃ j : Nat, m = n - 1 - j ∧ σ = [some (.ref p), some (nV x), some (nV (j + 1)), some (nV (pw M x j))] ∧ H' = H ∧ j ≤ n - 1) (n - 1) ⟨0, rfl, rfl, rfl, Nat.zero_le _⟩ ?_
    rintro m σ H' ⟨j, rfl, rfl, rfl, hj⟩
    walk_at "rd"
    refine if_ne (fun hne => ?_) (fun he => ?_)
    · have hj2 : j < n - 1 := by
        rcases Nat.lt_or_ge j (n - 1) with z | z
        · exact z
        · have e : j = n - 1 := by omega
          rw [e, ho.zero] at hne
          exact absurd rfl hne
      refine wstep ?_
      have hy := pw_lt S hx j
      obtain ⟨rs, r, g1, g2, g3⟩ := ht.row hy
      have hl := S.row _ hy
      walk_at "rd"
      refine wn (n - 1 - (j + 1)) (by omega) ⟨j + 1, rfl, rfl, rfl, by omega⟩
    · walk_at "rd"
      have e : j = n - 1 := by
        rcases Nat.lt_or_ge j (n - 1) with z | z
        · exact absurd (by omega) (ho.least j z)
        · omega
      have e2 : j + 1 = n := by omega
      rw [e2]
      exact k _ (Same.refl _)
end
end L2.KL
set_option Elab.async false
set_option linter.all false
set_option maxRecDepth 100000
set_option maxHeartbeats 4000000
namespace L2.KL
open PySem PySem.Spec PyProof.Rows
/-! == of lists of numbers, of tables, of keys -/
def dI (xs : List Int) : List PyData := xs.map PyData.int
theorem dI_eqv : ∀ xs ys : List Int, PyData.eqvAll (dI xs) (dI ys) = decide (xs = ys)
  | [], [] => rfl
  | [], _ :: _ => rfl
  | _ :: _, [] => rfl
  | x :: xs, y :: ys => by
    show ((x == y) && PyData.eqvAll (dI xs) (dI ys)) = _
    rw [dI_eqv xs ys]
    by_cases h : x = y
    · subst h
      simp
    · simp [h]
theorem dI_lay : ∀ xs : List Int, PyData.canLayAll0 (dI xs) = true
  | [] => rfl
  | x :: xs => by
    show (PyData.canLay0 (.int x) && PyData.canLayAll0 (dI xs)) = true
    rw [dI_lay xs]
    rfl
theorem dI_depth : ∀ xs : List Int, PyData.depthAll (dI xs) ≤ 1
  | [] => by show 0 ≤ 1; decide
  | x :: xs => by
    have h := dI_depth xs
    have e : PyData.depthAll (dI (x :: xs)) = max (PyData.depth (.int x)) (PyData.depthAll (dI xs)) := rfl
    have e2 : PyData.depth (.int x) = 0 := rfl
    rw [e, e2]
    omega
section
variable {K : PySem.W.Frag} {H : Hp} {a b : Addr} {Q : VK}
theorem dpI : ∀ xs : List Int, DpAll K H (intsV xs) (dI xs)
  | [] => .nil
  | x :: xs => .cons (.int x) (dpI xs)
theorem dpAll_of : ∀ (vs : List V) (ds : List PyData), vs.length = ds.length → (∀ (i : Nat) (v : V) (d : PyData), vs[i]? = some v → ds[i]? = some d → Dp K H v d) → DpAll K H vs ds
  | [], [], _, _ => .nil
  | [], _ :: _, h, _ => by cases h
  | _ :: _, [], h, _ => by cases h
  | v :: vs, d :: ds, h, f => .cons (f 0 v d rfl rfl) (dpAll_of vs ds (by simpa using h) fun i v' d' h1 h2 => f (i + 1) v' d' (by simpa using h1) (by simpa using h2))
theorem dp_lst {xs : List Int} (h : H a = some (.lst (intsV xs))) : Dp K H (.ref a) (.list (dI xs)) := .lst (SqL.of h) (dpI xs)
theorem dp_tup {xs : List Int} (h : H a = some (.tup (intsV xs))) : Dp K H (.ref a) (.tuple (dI xs)) := .tup (SqT.of h) (dpI xs)
theorem sh_lst (xs : List Int) : SeqAt.shaped (.list (dI xs)) = true := by
  have h1 := dI_lay xs
  have h2 := dI_depth xs
  have e1 : PyData.canLay0 (.list (dI xs)) = PyData.canLayAll0 (dI xs) := rfl
  have e2 : PyData.depth (.list (dI xs)) = PyData.depthAll (dI xs) + 1 := rfl
  unfold SeqAt.shaped
  rw [e1, e2, h1]
  simp
  omega
theorem sh_tup (xs : List Int) : SeqAt.shaped (.tuple (dI xs)) = true := by
  have h1 := dI_lay xs
  have h2 := dI_depth xs
  have e1 : PyData.canLay0 (.tuple (dI xs)) = PyData.canLayAll0 (dI xs) := rfl
  have e2 : PyData.depth (.tuple (dI xs)) = PyData.depthAll (dI xs) + 1 := rfl
  unfold SeqAt.shaped
  rw [e1, e2, h1]
  simp
  omega
theorem rd_neLL {xs ys : List Int} (h1 : H a = some (.lst (intsV xs))) (h2 : H b = some (.lst (intsV ys))) (q : Q (.bl (!decide (xs = ys))) H) : rNeD K (.ref a) (.ref b) H Q := by
  refine ⟨_, _, dp_lst h1, dp_lst h2, sh_lst xs, sh_lst ys, ?_⟩
  have e : PyData.eqv (.list (dI xs)) (.list (dI ys)) = PyData.eqvAll (dI xs) (dI ys) := rfl
  rw [e, dI_eqv]
  exact q
/-! tables -/
def iN (xs : List Nat) : List Int := xs.map fun n => ((n : Nat) : Int)
theorem iN_inj : ∀ {xs ys : List Nat}, iN xs = iN ys → xs = ys
  | [], [], _ => rfl
  | [], _ :: _, h => by cases h
  | _ :: _, [], h => by cases h
  | x :: xs, y :: ys, h => by
    have h' : ((x : Nat) : Int) :: iN xs = ((y : Nat) : Int) :: iN ys := h
    injection h' with h1 h2
    rw [iN_inj h2]
    congr 1
    omega
def dTab (M : Tab) : List PyData := M.map fun row => .tuple (dI (iN row))
theorem dTab_eqv : ∀ M M' : Tab, PyData.eqvAll (dTab M) (dTab M') = decide (M = M')
  | [], [] => rfl
  | [], _ :: _ => rfl
  | _ :: _, [] => rfl
  | x :: xs, y :: ys => by
    show (PyData.eqvAll (dI (iN x)) (dI (iN y)) && PyData.eqvAll (dTab xs) (dTab ys)) = _
    rw [dTab_eqv xs ys, dI_eqv]
    by_cases h : x = y
    · subst h
      simp
    · have h2 : ¬ iN x = iN y := fun z => h (iN_inj z)
      simp [h, h2]
theorem dTab_lay : ∀ M : Tab, PyData.canLayAll0 (dTab M) = true
  | [] => rfl
  | x :: xs => by
    show (PyData.canLayAll0 (dI (iN x)) && PyData.canLayAll0 (dTab xs)) = true
    rw [dTab_lay xs, dI_lay]
    rfl
theorem dTab_depth : ∀ M : Tab, PyData.depthAll (dTab M) ≤ 2
  | [] => by show 0 ≤ 2; decide
  | x :: xs => by
    have h := dTab_depth xs
    have h2 := dI_depth (iN x)
    have e : PyData.depthAll (dTab (x :: xs)) = max (PyData.depthAll (dI (iN x)) + 1) (PyData.depthAll (dTab xs)) := rfl
    rw [e]
    omega
theorem sh_tab (M : Tab) : SeqAt.shaped (.tuple (dTab M)) = true := by
  have h1 := dTab_lay M
  have h2 := dTab_depth M
  have e1 : PyData.canLay0 (.tuple (dTab M)) = PyData.canLayAll0 (dTab M) := rfl
  have e2 : PyData.depth (.tuple (dTab M)) = PyData.depthAll (dTab M) + 1 := rfl
  unfold SeqAt.shaped
  rw [e1, e2, h1]
  simp
  omega
theorem dp_tab {M : Tab} (h : TabAt H a M) : Dp K H (.ref a) (.tuple (dTab M)) := by
  obtain ⟨rs, h1, h2, h3⟩ := h
  refine .tup (SqT.of h1) (dpAll_of _ _ (by rw [List.length_map]; unfold dTab; rw [List.length_map]; exact h2) fun i v d e1 e2 => ?_)
  rw [List.getElem?_map] at e1
  unfold dTab at e2
  rw [List.getElem?_map] at e2
  cases q1 : rs[i]? with
  | none => rw [q1] at e1; cases e1
  | some r =>
    cases q2 : M[i]? with
    | none => rw [q2] at e2; cases e2
    | some row =>
      rw [q1] at e1
      rw [q2] at e2
      have e3 : V.ref r = v := by simpa using e1
      have e4 : PyData.tuple (dI (iN row)) = d := by simpa using e2
      subst e3 e4
      refine dp_tup ?_
      have z := h3 i r row q1 q2
      rw [nats_ints] at z
      exact z
theorem rd_eqTab {M M' : Tab} (h1 : TabAt H a M) (h2 : TabAt H b M') (q : Q (.bl (decide (M = M'))) H) : rEqD K (.ref a) (.ref b) H Q := by
  refine ⟨_, _, dp_tab h1, dp_tab h2, sh_tab M, sh_tab M', ?_⟩
  have e : PyData.eqv (.tuple (dTab M)) (.tuple (dTab M')) = PyData.eqvAll (dTab M) (dTab M') := rfl
  rw [e, dTab_eqv]
  exact q
/-! keys: (e, parts, low) -/
def dKey (e : Int) (ps : List Int) (l : Int) : PyData := .tuple [.int e, .tuple (dI ps), .int l]
theorem dKey_eqv (e e' l l' : Int) (ps ps' : List Int) : PyData.eqv (dKey e ps l) (dKey e' ps' l') = decide (e = e' ∧ ps = ps' ∧ l = l') := by
  show ((e == e') && (PyData.eqvAll (dI ps) (dI ps') && ((l == l') && true))) = _
  rw [dI_eqv]
  by_cases h1 : e = e' <;> by_cases h2 : ps = ps' <;> by_cases h3 : l = l' <;> simp [h1, h2, h3]
theorem sh_key (e l : Int) (ps : List Int) : SeqAt.shaped (dKey e ps l) = true := by
  have h1 := dI_lay ps
  have h2 := dI_depth ps
  have e1 : PyData.canLay0 (dKey e ps l) = (true && (PyData.canLayAll0 (dI ps) && (true && true))) := rfl
  have e2 : PyData.depth (dKey e ps l) = max 0 (max (PyData.depthAll (dI ps) + 1) (max 0 0)) + 1 := rfl
  unfold SeqAt.shaped
  rw [e1, e2, h1]
  simp
  omega
def KeyAt (H : Hp) (a : Addr) (e : Int) (ps : List Int) (l : Int) : Prop := ∃ b, H a = some (.tup [.int e, .ref b, .int l]) ∧ H b = some (.tup (intsV ps))
theorem dp_key {e l : Int} {ps : List Int} (h : KeyAt H a e ps l) : Dp K H (.ref a) (dKey e ps l) := by
  obtain ⟨b, h1, h2⟩ := h
  exact .tup (SqT.of h1) (.cons (.int e) (.cons (dp_tup h2) (.cons (.int l) .nil)))
theorem rd_eqKey {e e' l l' : Int} {ps ps' : List Int} (h1 : KeyAt H a e ps l) (h2 : KeyAt H b e' ps' l') (q : Q (.bl (decide (e = e' ∧ ps = ps' ∧ l = l'))) H) : rEqD K (.ref a) (.ref b) H Q := by
  refine ⟨_, _, dp_key h1, dp_key h2, sh_key e l ps, sh_key e' l' ps', ?_⟩
  rw [dKey_eqv]
  exact q
end
end L2.KL
set_option Elab.async false
set_option linter.all false
set_option maxRecDepth 100000
set_option maxHeartbeats 4000000
namespace L2.KL
open PySem PySem.Spec PyProof.Rows
local macro_rules | `(tactic| walk_at "hp") => `(tactic| first
  | assumption
  | (apply Same.get; (· assumption); (· walk_at "hp")))
local macro_rules | `(tactic| walk_at "cl") => `(tactic| first
  | (with_reducible rfl)
  | assumption
  | (with_reducible exact lk_table)
  | (with_reducible exact nk_group (by decide +kernel))
  | (walk_at "hp")
  | (apply Or.inr; apply SqT.of; walk_at "hp"))
local macro_rules | `(tactic| walk_at "r1") => `(tactic| first
  | ((with_reducible apply rd_var); (· exact rfl))
  | (with_reducible refine rd_c ?_)
  | (with_reducible refine rd_op ?_)
  | (with_reducible refine rd_fld ?_)
  | (with_reducible refine rd_cb ?_)
  | (with_reducible refine rd_cons ?_)
  | (with_reducible refine rd_nil ?_)
  | (with_reducible refine rd_meth ?_)
  | (with_reducible refine rd_ret ?_)
  | ((with_reducible apply rd_ixT); (· walk_at "hp"); (· walk_at "at"))
  | (with_reducible refine rd_andV ?_)
  | (with_reducible refine iteT ?_)
  | ((with_reducible apply isi_own); (· assumption); (· assumption); (· walk_at "hp"))
  | (with_reducible apply Exists.intro)
  | ((with_reducible refine And.intro ?_ ?_); (· walk_at "cl")))
local macro_rules | `(tactic| walk_at "at") => `(tactic| first
  | (apply at_nats; first | assumption | omega)
  | (apply at_refs; assumption))
local macro_rules | `(tactic| walk_at "rd") => `(tactic| ((repeat walk_at "r1"); (try dsimp only [List.set])))
/-- what conjugated asks of a table: each row holds the unit -/
structure Inv0 (M : Tab) : Prop where
  sq : Sq M
  zero : ∀ x, x < M.length → 0 ∈ M.getD x []
theorem Inv0.lt {M : Tab} (h : Inv0 M) {x : Nat} (hx : x < M.length) : inv M x < M.length := by
  have h1 := List.idxOf_lt_length_of_mem (h.zero x hx)
  rw [h.sq.row x hx] at h1
  exact h1
def conj (M : Tab) (x g : Nat) : Nat := tm M (inv M g) (tm M x g)
section
variable {P : Program} {w : World} {K : PySem.W.Frag} {mg : Str → Option Value} {base : Heap}
def spConj (C : Addr) : Sp := fun vs H Q _ => ∃ (p : Addr) (M : Tab) (x g : Nat), vs = [.ref p, nV x, nV g] ∧ GrpAt C H p M ∧ Inv0 M ∧ x < M.length ∧ g < M.length ∧ ∀ H', Same H H' → Q (nV (conj M x g)) H'
theorem sc_Group_conjugated : FnScope ["self", "x", "g"] ["self", "x", "g"] HD.dGroup_conjugated.scope := ⟨rfl, rfl, rfl, by decide +kernel, rfl, by decide +kernel, by decide +kernel⟩
theorem ok_conj (T : Tx K mg) : Ok P w K mg base CX0 2 HD.dGroup_conjugated ["self", "x", "g"] (spConj (CG K)) := by
  have c1 := T.c_Group
  have n1 := T.na_Group_table
  have G_Group_inverse : Ok P w K mg base CX0 1 _ _ _ := ok_inverse T
  have nd := sc_Group_conjugated.nd
  refine Ok.mk0 T fn_Group_conjugated rfl sc_Group_conjugated (fun vs H Q E h => ?_) (fun _ _ _ _ _ _ us hl => match us, hl with | [_, _, _], _ => rfl) (fun cdv A outer s H vs Q E hr h => ?_)
  · obtain ⟨p, M, x, g, rfl, _⟩ := h
    rfl
  · obtain ⟨p, M, x, g, rfl, ⟨dx, t, hp, ht⟩, I, hx, hg, k⟩ := h
    obtain ⟨rs, h1, h2, h3⟩ := id ht
    obtain ⟨r, e2, e3⟩ := row_of h2 h3 hx
    obtain ⟨r', g2, g3⟩ := row_of h2 h3 (I.lt hg)
    have hl := I.sq.row x hx
    have hl2 := I.sq.row _ (I.lt hg)
    have hlt : (M.getD x []).getD g 0 < M.length := I.sq.lt x g hx hg
    refine ⟨_, pss_one
          -- return self.table[self.inverse(g)][self.table[x][g]]
          (ps_ret (pe_ix ix_tup (pe_ix ix_tup (pe_fld (pv 0) rfl) (pe_m (pv 0) T.c_Group (G_Group_inverse) T.me_Group_inverse (hr.mono (by decide)) pass0 (pa_cons (pv 2) pa_nil)) (fun _ _ => rfl)) (pe_ix ix_tup (pe_ix ix_tup (pe_fld (pv 0) rfl) (pv 1) (fun _ _ => rfl)) (pv 2) (fun _ _ => rfl)) (fun _ _ => rfl))), ?_⟩
    dsimp only [cxOf, Cx.wish]
    walk_at "rd"
    refine ⟨p, M, g, rfl, ⟨dx, t, hp, ht⟩, hg, I.zero g hg, fun H1 s1 => ?_⟩
    walk_at "rd"
    exact k _ s1
def spLenG (C : Addr) : Sp := fun vs H Q _ => ∃ (p : Addr) (M : Tab), vs = [.ref p] ∧ GrpAt C H p M ∧ ∀ H', Same H H' → Q (nV M.length) H'
theorem sc_Group_len : FnScope ["self"] ["self"] HD.dGroup_len.scope := ⟨rfl, rfl, rfl, by decide +kernel, rfl, by decide +kernel, by decide +kernel⟩
theorem ok_lenG (T : Tx K mg) : Ok P w K mg base CX0 1 HD.dGroup_len ["self"] (spLenG (CG K)) := by
  have c1 := T.c_Group
  have n1 := T.na_Group_table
  have nd := sc_Group_len.nd
  refine Ok.mk0 T fn_Group_len rfl sc_Group_len (fun vs H Q E h => ?_) (fun _ _ _ _ _ _ us hl => match us, hl with | [_], _ => rfl) (fun cdv A outer s H vs Q E hr h => ?_)
  · obtain ⟨p, M, rfl, _⟩ := h
    rfl
  · obtain ⟨p, M, rfl, ⟨dx, t, hp, rs, h1, h2, h3⟩, k⟩ := h
    refine ⟨_, pss_one
          -- return len(self.table)
          (ps_ret (pe_callB call_len_seq (by rfl) T.b_len (by decide +kernel) (pa_cons (pe_fld (pv 0) rfl) pa_nil))), ?_⟩
    dsimp only [cxOf, Cx.wish]
    walk_at "rd"
    rw [List.length_map, h2]
    exact k _ (Same.refl _)
def spEqG (C : Addr) : Sp := fun vs H Q _ => ∃ (p q : Addr) (M M' : Tab), vs = [.ref p, .ref q] ∧ GrpAt C H p M ∧ GrpAt C H q M' ∧ ∀ H', Same H H' → Q (.bl (decide (M = M'))) H'
theorem sc_Group_eq : FnScope ["self", "other"] ["self", "other"] HD.dGroup_eq.scope := ⟨rfl, rfl, rfl, by decide +kernel, rfl, by decide +kernel, by decide +kernel⟩
theorem ok_eqG (T : Tx K mg) : Ok P w K mg base CX0 1 HD.dGroup_eq ["self", "other"] (spEqG (CG K)) := by
  have c1 := T.c_Group
  have n1 := T.na_Group_table
  have nd := sc_Group_eq.nd
  refine Ok.mk0 T fn_Group_eq rfl sc_Group_eq (fun vs H Q E h => ?_) (fun _ _ _ _ _ _ us hl => match us, hl with | [_, _], _ => rfl) (fun cdv A outer s H vs Q E hr h => ?_)
  · obtain ⟨p, q, M, M', rfl, _⟩ := h
    rfl
  · obtain ⟨p, q, M, M', rfl, ⟨dx, t, hp, ht⟩, ⟨dx', t', hp', ht'⟩, k⟩ := h
    refine ⟨_, pss_one
          -- return isinstance(other, Group) and self.table == other.table
          (ps_ret (pe_and (pe_callB call_isi (by rfl) T.b_isinstance (by decide +kernel) (pa_cons (pv 1) (pa_cons (pe_glob (v := .ref (He.ga K "Group")) rfl T.g_Group rfl) pa_nil))) (pe_one (pe_cmpR (op_eqD hr.units) (pe_fld (pv 0) rfl) (pe_fld (pv 1) rfl) (nomark _))))), ?_⟩
    dsimp only [cxOf, Cx.wish]
    have i1 := T.in_Group
    walk_at "rd"
    exact rd_eqTab ht ht' (k _ (Same.refl _))
end
end L2.KL
set_option Elab.async false
set_option linter.all false
set_option maxRecDepth 100000
set_option maxHeartbeats 4000000
namespace L2.KL
open PySem PySem.Spec PyProof.Rows
/-! comprehensions, by what each item comes to -/
/-- a word of the heap that tuples and instances alone bear -/
def Fm (R : Hp → Prop) : Prop := ∀ H H', Fz H H' → R H → R H'
/-- the turns of a comprehension over J -/
def LcJ (J : It) (g : TG) (tt : TT) (te : TE) (vs : List Nat) (σ : St) (Q : VK) (H1 : Hp) : Prop := ∀ D, H1 D = none → ∃ W : Nat → Nat → Hp → Prop, (∃ m, W 0 m (upd H1 D (.lst []))) ∧ ∀ i m H, W i m H →
  (J.stop i H ∧ Q (.ref D) H) ∨ (J.go i H ∧ ∃ Nx : Hp → Prop, (∀ H', Nx H' → ∃ m', m' < m ∧ W (i + 1) m' H') ∧ ∀ x H', J.yld i H x H' → g x (wipe σ vs) H' fun σ2 H2 => wipe σ2 vs = wipe σ vs ∧ tt σ2 H2 fun b H3 =>
    if b = true then te σ2 H3 fun y H4 => ∃ acc, H4 D = some (.lst acc) ∧ acc.length < sizeLine ∧ Nx (upd H4 D (.lst (acc ++ [y]))) else Nx H3)
section
variable {K : PySem.W.Frag} {a : Addr} {xs : List V} {g : TG} {tt : TT} {te : TE} {vs : List Nat} {σ : St} {H H1 : Hp} {Q : VK} {wi : TI} {j : Nat}
theorem rd_lc (h : wi σ H fun J H1 => LcJ J g tt te vs σ Q H1) : tLc wi g tt te vs σ H Q := h
/-- what stands behind i turns -/
structure LcW (H1 : Hp) (D : Addr) (R : Nat → V → Hp → Prop) (i : Nat) (H : Hp) : Prop where
  same : Same H1 H
  ex : ∃ ys : List V, H D = some (.lst ys) ∧ ys.length = i ∧ ∀ (k : Nat) v, ys[k]? = some v → R k v H
theorem lcw0 {D : Addr} {R : Nat → V → Hp → Prop} (hD : H1 D = none) : LcW H1 D R 0 (upd H1 D (.lst [])) :=
  ⟨Same.new hD, [], upd_same, rfl, fun k v h => by simp at h⟩
theorem lcw1 {D : Addr} {R : Nat → V → Hp → Prop} (hR : ∀ i v, Fm (R i v)) (hD : H1 D = none) {i : Nat} {H H2 : Hp} {v : V} (w : LcW H1 D R i H) (s : Same H H2) (r : R i v H2) (hi : i < 100000) :
    ∃ acc, H2 D = some (.lst acc) ∧ acc.length < sizeLine ∧ LcW H1 D R (i + 1) (upd H2 D (.lst (acc ++ [v]))) := by
  obtain ⟨s0, ys, h1, h2, h3⟩ := w
  have h4 := s D _ h1
  have fz : Fz H2 (upd H2 D (.lst (ys ++ [v]))) := Fz.upd h4 rfl
  refine ⟨ys, h4, by rw [sizeLine_eq]; omega, Same.mut (s0.trans s) hD, ys ++ [v], upd_same, by rw [List.length_append, h2]; rfl, fun k y hk => ?_⟩
  by_cases hkl : k < ys.length
  · rw [List.getElem?_append_left hkl] at hk
    exact hR _ _ _ _ fz (hR _ _ _ _ (Fz.of s) (h3 k y hk))
  · rw [List.getElem?_append_right (by omega)] at hk
    have e : k = i := by
      have := (List.getElem?_eq_some_iff.mp hk).1
      simp at this
      omega
    subst e
    have e2 : k - ys.length = 0 := by omega
    rw [e2] at hk
    have e3 : v = y := by simpa using hk
    subst e3
    exact hR _ _ _ _ fz r
theorem tyes {σ2 : St} {F G : Hp → Prop} (h : F H) : tYes σ2 H (fun b H3 => if b = true then F H3 else G H3) := by
  show if true = true then F H else G H
  rw [if_pos rfl]
  exact h
/-- each item of a range comes to a value of which R holds -/
theorem lcj_range (n : Nat) (R : Nat → V → Hp → Prop) (hR : ∀ i v, Fm (R i v)) (hn : n ≤ 100000) (hw : ∀ x, wipe ((wipe σ vs).set j (some x)) vs = wipe σ vs)
    (he : ∀ (i : Nat) (H : Hp), i < n → Same H1 H → ∀ Q' : VK, (∀ v H2, Same H H2 → R i v H2 → Q' v H2) → te ((wipe σ vs).set j (some (nV i))) H Q')
    (k : ∀ D H ys, H1 D = none → Same H1 H → H D = some (.lst ys) → ys.length = n → (∀ (i : Nat) v, ys[i]? = some v → R i v H) → Q (.ref D) H) : LcJ (Itr 0 ((n : Nat) : Int).toNat) (gName j) tYes te vs σ Q H1 := by
  intro D hD
  refine lc_range (lo := 0) (n := n) (LcW H1 D R) (lcw0 hD) (fun i H hi w => ?_) (fun H w => ?_)
  · have e : (0 : Int) + (i : Int) = (i : Int) := Int.zero_add _
    rw [e]
    refine ⟨hw _, ?_⟩
    refine tyes ?_
    exact he i H hi w.same _ fun v H2 s r => lcw1 hR hD w s r (by omega)
  · obtain ⟨s, ys, h1, h2, h3⟩ := w
    exact k D H ys hD s h1 h2 h3
theorem lcj_list (R : Nat → V → Hp → Prop) (hR : ∀ i v, Fm (R i v)) (hs : SqL K H1 a xs) (hn : xs.length ≤ 100000) (hw : ∀ x, wipe ((wipe σ vs).set j (some x)) vs = wipe σ vs)
    (he : ∀ (i : Nat) (x : V) (H : Hp), xs[i]? = some x → Same H1 H → ∀ Q' : VK, (∀ v H2, Same H H2 → R i v H2 → Q' v H2) → te ((wipe σ vs).set j (some x)) H Q')
    (k : ∀ D H ys, H1 D = none → Same H1 H → H D = some (.lst ys) → ys.length = xs.length → (∀ (i : Nat) v, ys[i]? = some v → R i v H) → Q (.ref D) H) : LcJ (Itl K a) (gName j) tYes te vs σ Q H1 := by
  intro D hD
  refine lc_list (K := K) (a := a) (xs := xs) (LcW H1 D R) (lcw0 hD) (fun i H _ w => w.same.seq hs) (fun i x H hi w => ?_) (fun H w => ?_)
  · refine ⟨hw _, ?_⟩
    refine tyes ?_
    have hlt := (List.getElem?_eq_some_iff.mp hi).1
    exact he i x H hi w.same _ fun v H2 s r => lcw1 hR hD w s r (by omega)
  · obtain ⟨s, ys, h1, h2, h3⟩ := w
    exact k D H ys hD s h1 h2 h3
theorem lcj_tup (R : Nat → V → Hp → Prop) (hR : ∀ i v, Fm (R i v)) (hs : SqT K H1 a xs) (hn : xs.length ≤ 100000) (hw : ∀ x, wipe ((wipe σ vs).set j (some x)) vs = wipe σ vs)
    (he : ∀ (i : Nat) (x : V) (H : Hp), xs[i]? = some x → Same H1 H → ∀ Q' : VK, (∀ v H2, Same H H2 → R i v H2 → Q' v H2) → te ((wipe σ vs).set j (some x)) H Q')
    (k : ∀ D H ys, H1 D = none → Same H1 H → H D = some (.lst ys) → ys.length = xs.length → (∀ (i : Nat) v, ys[i]? = some v → R i v H) → Q (.ref D) H) : LcJ (Itt K a) (gName j) tYes te vs σ Q H1 := by
  intro D hD
  refine lc_tup (K := K) (a := a) (xs := xs) (LcW H1 D R) (lcw0 hD) (fun i H _ w => Same.tup w.same hs) (fun i x H hi w => ?_) (fun H w => ?_)
  · refine ⟨hw _, ?_⟩
    refine tyes ?_
    have hlt := (List.getElem?_eq_some_iff.mp hi).1
    exact he i x H hi w.same _ fun v H2 s r => lcw1 hR hD w s r (by omega)
  · obtain ⟨s, ys, h1, h2, h3⟩ := w
    exact k D H ys hD s h1 h2 h3
theorem lcj_zeros {m : Int} (n : Nat) (hm : m.toNat = n) (hn : n ≤ 100000) (hw : ∀ x, wipe ((wipe σ vs).set j (some x)) vs = wipe σ vs)
    (k : ∀ D H, H1 D = none → Same H1 H → H D = some (.lst (intsV (List.replicate n 0))) → Q (.ref D) H) : LcJ (Itr 0 m.toNat) (gName j) tYes (tC (.int 0)) vs σ Q H1 := by
  rw [hm]
  intro D hD
  refine lc_range (lo := 0) (n := n) (fun i H => i ≤ n ∧ Same H1 H ∧ H D = some (.lst (intsV (List.replicate i 0)))) ⟨Nat.zero_le _, Same.new hD, upd_same⟩ (fun i H hi w => ?_) (fun H w => k D H hD w.2.1 w.2.2)
  obtain ⟨w1, w2, w3⟩ := w
  refine ⟨hw _, ?_⟩
  refine tyes ?_
  refine ⟨_, w3, ?_, hi, Same.mut w2 hD, ?_⟩
  · rw [List.length_map, List.length_replicate, sizeLine_eq]
    omega
  · rw [upd_same, List.replicate_succ']
    show some (HO.lst ((List.replicate i (0:Int)).map V.int ++ [V.int 0])) = some (HO.lst ((List.replicate i (0:Int) ++ [0]).map V.int))
    rw [List.map_append]
    rfl
/-- with a test: the items of a range that pass, each a plain value -/
theorem lcj_if (n : Nat) (b : Nat → Bool) (f : Nat → V) (hn : n ≤ 100000) (hw : ∀ x, wipe ((wipe σ vs).set j (some x)) vs = wipe σ vs)
    (ht : ∀ (i : Nat) (H : Hp), i < n → Same H1 H → ∀ Q' : Bool → Hp → Prop, (∀ H2, Same H H2 → Q' (b i) H2) → tt ((wipe σ vs).set j (some (nV i))) H Q')
    (he : ∀ (i : Nat) (H : Hp), i < n → b i = true → Same H1 H → ∀ Q' : VK, (∀ H2, Same H H2 → Q' (f i) H2) → te ((wipe σ vs).set j (some (nV i))) H Q')
    (k : ∀ D H, H1 D = none → Same H1 H → H D = some (.lst (((List.range n).filter b).map f)) → Q (.ref D) H) : LcJ (Itr 0 ((n : Nat) : Int).toNat) (gName j) tt te vs σ Q H1 := by
  intro D hD
  refine lc_range (lo := 0) (n := n) (fun i H => Same H1 H ∧ i ≤ n ∧ H D = some (.lst (((List.range i).filter b).map f))) ⟨Same.new hD, Nat.zero_le _, upd_same⟩ (fun i H hi w => ?_) (fun H w => k D H hD w.1 w.2.2)
  have e : (0 : Int) + (i : Int) = (i : Int) := Int.zero_add _
  rw [e]
  obtain ⟨w1, w2, w3⟩ := w
  refine ⟨hw _, ?_⟩
  refine ht i H hi w1 _ fun H2 s2 => ?_
  cases hb : b i with
  | true =>
    refine iteT ?_
    refine he i H2 hi hb (w1.trans s2) _ fun H3 s3 => ⟨_, s3 _ _ (s2 _ _ w3), ?_, Same.mut ((w1.trans s2).trans s3) hD, hi, ?_⟩
    · rw [List.length_map, sizeLine_eq]
      have := List.length_filter_le b (List.range i)
      rw [List.length_range] at this
      omega
    · rw [List.range_succ, List.filter_append, List.map_append]
      have e2 : [i].filter b = [i] := by simp [hb]
      rw [e2]
      exact upd_same
  | false =>
    refine iteF ?_
    refine ⟨w1.trans s2, hi, ?_⟩
    rw [List.range_succ, List.filter_append]
    have e2 : [i].filter b = [] := by simp [hb]
    rw [e2, List.append_nil]
    exact s2 _ _ w3
end
/-- a list of values each told by its place -/
theorem list_eq_map {ys : List V} {n : Nat} {f : Nat → V} (hl : ys.length = n) (h : ∀ (i : Nat) v, ys[i]? = some v → v = f i) : ys = (List.range n).map f := by
  apply List.ext_getElem?
  intro i
  by_cases hi : i < n
  · have h1 : i < ys.length := by omega
    rw [List.getElem?_eq_getElem h1]
    rw [List.getElem?_map, List.getElem?_range hi]
    simp only [Option.map_some]
    rw [h i ys[i] (List.getElem?_eq_getElem h1)]
  · rw [List.getElem?_eq_none (by omega), List.getElem?_eq_none (by simp; omega)]
/-- objects one by one -/
def AllAt {α : Type} (R : Addr → α → Hp → Prop) (H : Hp) (ts : List Addr) (xs : List α) : Prop := ts.length = xs.length ∧ ∀ (i : Nat) t x, ts[i]? = some t → xs[i]? = some x → R t x H
theorem AllAt.nil {α : Type} {R : Addr → α → Hp → Prop} {H : Hp} : AllAt R H [] [] := ⟨rfl, fun i t x h => by simp at h⟩
theorem AllAt.fz {α : Type} {R : Addr → α → Hp → Prop} {H H' : Hp} {ts : List Addr} {xs : List α} (hR : ∀ t x, Fm (R t x)) (s : Fz H H') (h : AllAt R H ts xs) : AllAt R H' ts xs := ⟨h.1, fun i t x a b => hR t x _ _ s (h.2 i t x a b)⟩
theorem AllAt.snoc {α : Type} {R : Addr → α → Hp → Prop} {H : Hp} {ts : List Addr} {xs : List α} {t : Addr} {x : α} (h : AllAt R H ts xs) (r : R t x H) : AllAt R H (ts ++ [t]) (xs ++ [x]) := by
  refine ⟨by rw [List.length_append, List.length_append, h.1]; rfl, fun i t' x' a b => ?_⟩
  by_cases hi : i < ts.length
  · rw [List.getElem?_append_left hi] at a
    rw [List.getElem?_append_left (by rw [← h.1]; exact hi)] at b
    exact h.2 i t' x' a b
  · rw [List.getElem?_append_right (by omega)] at a
    rw [List.getElem?_append_right (by rw [← h.1]; omega)] at b
    have hl := (List.getElem?_eq_some_iff.mp a).1
    simp at hl
    have e1 : i - ts.length = 0 := by omega
    have e2 : i - xs.length = 0 := by rw [← h.1]; omega
    rw [e1] at a
    rw [e2] at b
    have e3 : t = t' := by simpa using a
    have e4 : x = x' := by simpa using b
    subst e3 e4
    exact r
theorem AllAt.get {α : Type} {R : Addr → α → Hp → Prop} {H : Hp} {ts : List Addr} {xs : List α} (h : AllAt R H ts xs) {i : Nat} {x : α} (hx : xs[i]? = some x) : ∃ t, ts[i]? = some t ∧ R t x H := by
  have hl : i < ts.length := by rw [h.1]; exact (List.getElem?_eq_some_iff.mp hx).1
  exact ⟨ts[i], List.getElem?_eq_getElem hl, h.2 i _ _ (List.getElem?_eq_getElem hl) hx⟩
theorem fm_eq (v w : V) : Fm (fun _ => v = w) := fun _ _ _ h => h
end L2.KL
set_option Elab.async false
set_option linter.all false
set_option maxRecDepth 100000
set_option maxHeartbeats 4000000
namespace L2.KL
open PySem PySem.Spec PyProof.Rows
local macro_rules | `(tactic| walk_at "hp") => `(tactic| first
  | assumption)
local macro_rules | `(tactic| walk_at "cl") => `(tactic| first
  | (with_reducible rfl)
  | (apply exL; walk_at "hp")
  | (apply exT; walk_at "hp"))
local macro_rules | `(tactic| walk_at "r1") => `(tactic| first
  | (with_reducible refine rd_seq ?_)
  | ((with_reducible apply rd_var); (· exact rfl))
  | (with_reducible refine rd_c ?_)
  | (with_reducible refine rd_op ?_)
  | (with_reducible refine rd_cb ?_)
  | (with_reducible refine rd_cons ?_)
  | (with_reducible refine rd_nil ?_)
  | (with_reducible refine rd_asg ?_)
  | (with_reducible refine rd_name ?_)
  | (with_reducible refine rd_ret ?_)
  | (with_reducible refine rd_test ?_)
  | ((with_reducible apply rd_I); (· first | assumption | (dsimp only; omega) | omega))
  | ((with_reducible apply rd_ne); (· exact rfl))
  | (with_reducible refine rd_for ?_)
  | (with_reducible refine rd_iList ?_)
  | (with_reducible refine rd_iTup ?_)
  | (with_reducible refine rd_par ?_)
  | (with_reducible refine rd_andV ?_)
  | (with_reducible refine rd_notV ?_)
  | (with_reducible refine iteT ?_)
  | (with_reducible refine isi_int ?_)
  | (with_reducible refine isi_intB ?_)
  | (with_reducible apply Exists.intro)
  | ((with_reducible refine And.intro ?_ ?_); (· walk_at "cl")))
local macro_rules | `(tactic| walk_at "at") => `(tactic| fail)
local macro_rules | `(tactic| walk_at "rd") => `(tactic| ((repeat walk_at "r1"); (try dsimp only [List.set])))
def gcdL (xs : List Int) : Nat := xs.foldl (fun t n => Nat.gcd t n.natAbs) 0
theorem gcdL_snoc (xs : List Int) (x : Int) : gcdL (xs ++ [x]) = Nat.gcd (gcdL xs) x.natAbs := by
  unfold gcdL
  rw [List.foldl_append]
  rfl
theorem abs_if (n : Int) : (if n < 0 then -n else n) = ((n.natAbs : Nat) : Int) := by
  split <;> omega
theorem take_snoc {α : Type} {xs : List α} {i : Nat} {x : α} (h : xs[i]? = some x) : xs.take (i + 1) = xs.take i ++ [x] := by
  rw [List.take_add_one, h]
  rfl
theorem ints_get {xs : List Int} {i : Nat} {v : V} (h : (intsV xs)[i]? = some v) : ∃ n, v = .int n ∧ xs[i]? = some n := by
  rw [List.getElem?_map] at h
  cases q : xs[i]? with
  | none => rw [q] at h; cases h
  | some n =>
    rw [q] at h
    exact ⟨n, by simpa using h.symm, rfl⟩
section
variable {P : Program} {w : World} {K : PySem.W.Frag} {mg : Str → Option Value} {base : Heap}
def spIsInt : Sp := fun vs H Q _ => ∃ i : Int, vs = [.int i] ∧ ∀ H', Same H H' → Q (.bl true) H'
theorem sc_pis_integer : FnScope ["value"] ["value"] HD.d_pis_integer.scope := ⟨rfl, rfl, rfl, by decide +kernel, rfl, by decide +kernel, by decide +kernel⟩
theorem ok_pisint (T : Tx K mg) : Ok P w K mg base CX0 1 HD.d_pis_integer ["value"] spIsInt := by
  have nd := sc_pis_integer.nd
  refine Ok.mk0 T fn__pis_integer rfl sc_pis_integer (fun vs H Q E h => ?_) (fun _ _ _ _ _ _ us hl => match us, hl with | [_], _ => rfl) (fun cdv A outer s H vs Q E hr h => ?_)
  · obtain ⟨i, rfl, _⟩ := h
    rfl
  · obtain ⟨i, rfl, k⟩ := h
    refine ⟨_, pss_one
          -- return isinstance(value, int) and (not isinstance(value, bool))
          (ps_ret (pe_and (pe_callB call_isi (by rfl) T.b_isinstance (by decide +kernel) (pa_cons (pv 0) (pa_cons (pe_bltn (v := .ty "int") (by rfl) T.b_int (by decide +kernel) rfl) pa_nil))) (pe_one (pe_not (pe_callB call_isi (by rfl) T.b_isinstance (by decide +kernel) (pa_cons (pv 0) (pa_cons (pe_bltn (v := .ty "bool") (by rfl) T.b_bool (by decide +kernel) rfl) pa_nil))))))), ?_⟩
    dsimp only [cxOf, Cx.wish]
    walk_at "rd"
    exact k _ (Same.refl _)
theorem sc_is_integer : FnScope ["value"] ["value"] HD.d_is_integer.scope := ⟨rfl, rfl, rfl, by decide +kernel, rfl, by decide +kernel, by decide +kernel⟩
theorem ok_isint (T : Tx K mg) : Ok P w K mg base CX0 1 HD.d_is_integer ["value"] spIsInt := by
  have nd := sc_is_integer.nd
  refine Ok.mk0 T fn__is_integer rfl sc_is_integer (fun vs H Q E h => ?_) (fun _ _ _ _ _ _ us hl => match us, hl with | [_], _ => rfl) (fun cdv A outer s H vs Q E hr h => ?_)
  · obtain ⟨i, rfl, _⟩ := h
    rfl
  · obtain ⟨i, rfl, k⟩ := h
    refine ⟨_, pss_one
          -- return isinstance(value, int) and (not isinstance(value, bool))
          (ps_ret (pe_and (pe_callB call_isi (by rfl) T.b_isinstance (by decide +kernel) (pa_cons (pv 0) (pa_cons (pe_bltn (v := .ty "int") (by rfl) T.b_int (by decide +kernel) rfl) pa_nil))) (pe_one (pe_not (pe_callB call_isi (by rfl) T.b_isinstance (by decide +kernel) (pa_cons (pv 0) (pa_cons (pe_bltn (v := .ty "bool") (by rfl) T.b_bool (by decide +kernel) rfl) pa_nil))))))), ?_⟩
    dsimp only [cxOf, Cx.wish]
    walk_at "rd"
    exact k _ (Same.refl _)
def spCommon : Sp := fun vs H Q _ => ∃ (a : Addr) (xs : List Int), vs = [.ref a] ∧ (H a = some (.lst (intsV xs)) ∨ H a = some (.tup (intsV xs))) ∧ ∀ H', Same H H' → Q (nV (gcdL xs)) H'
theorem sc_common : FnScope ["numbers", "total", "n", "a"] ["numbers"] HD.d_common.scope := ⟨rfl, rfl, rfl, by decide +kernel, rfl, by decide +kernel, by decide +kernel⟩
theorem ok_common (T : Tx K mg) : Ok P w K mg base CX0 1 HD.d_common ["numbers"] spCommon := by
  have nd := sc_common.nd
  refine Ok.mk0 T fn__common rfl sc_common (fun vs H Q E h => ?_) (fun _ _ _ _ _ _ us hl => match us, hl with | [_], _ => rfl) (fun cdv A outer s H vs Q E hr h => ?_)
  · obtain ⟨a, xs, rfl, _⟩ := h
    rfl
  · obtain ⟨a, xs, rfl, hx, k⟩ := h
    have body : ∀ (D : Ends) (i : Nat) (x : V) (σ : St), (intsV xs)[i]? = some x → (∃ v2 v3, σ = [some (.ref a), some (nV (gcdL (xs.take i))), v2, v3]) →
        (∀ v2 v3, D.nx [some (.ref a), some (nV (gcdL (xs.take (i + 1)))), v2, v3] H) → (tSeq (tAsg (tCB (fun xs H Q => ∃ i, xs = [V.int i] ∧ Q (.int (if i < 0 then -i else i)) H) (tCons (tVar 2) tNil)) (gName 3))
          (tWhile (tTest (tOp rNe (tVar 3) (tC (.int 0)))) (tPar 1 3 (tCons (tVar 3) (tCons (tOp (rI (fun _ j => 0 < j) fun i j => .int (i % j)) (tVar 1) (tVar 3)) tNil))))) D (σ.set 2 (some x)) H := by
      rintro D i x σ hi ⟨v2, v3, rfl⟩ kk
      obtain ⟨n, rfl, hn⟩ := ints_get hi
      rw [take_snoc hn, gcdL_snoc] at kk
      walk_at "rd"
      rw [abs_if]
      refine wh (fun m σ H' => ∃ t : Nat, H' = H ∧ σ = [some (.ref a), some (nV t), some (.int n), some (nV m)] ∧ Nat.gcd t m = Nat.gcd (gcdL (xs.take i)) n.natAbs) n.natAbs ⟨_, rfl, rfl, rfl⟩ ?_
      rintro m σ H' ⟨t, rfl, rfl, hg⟩
      walk_at "rd"
      refine if_ne (fun hne => ?_) (fun he => ?_)
      · refine wstep ?_
        walk_at "rd"
        have hm : 0 < m := by omega
        refine wn (t % m) (Nat.mod_lt _ hm) ⟨m, rfl, rfl, ?_⟩
        rw [← hg, Nat.gcd_comm m, ← Nat.gcd_rec, Nat.gcd_comm]
      · have e : m = 0 := by omega
        subst e
        rw [Nat.gcd_zero_right] at hg
        rw [← hg] at kk
        exact kk _ _
    rcases hx with hx | hx
    · refine ⟨_, pss_cons
          -- total = 0
          (ps_set (i := 1) nd rfl (.inl rfl) pe_int)
         (pss_cons
          -- for n in numbers:
          (ps_for PassesOwn.never rfl (pi_list (pv 0)) (pg_name (i := 2) nd rfl (.inl rfl)) (pss_cons
            -- a = abs(n)
            (ps_set (i := 3) nd rfl (.inl rfl) (pe_callB call_abs (by rfl) T.b_abs (by decide +kernel) (pa_cons (pv 2) pa_nil)))
           (pss_one
            -- while a != 0:
            (ps_while PassesOwn.never (pt_cmpR op_ne (pv 3) pe_int (nomark _)) (pss_one
              -- total, a = (a, total % a)
              (ps_par (i := 1) (j := 3) (by rfl) nd rfl rfl (by decide) rfl rfl (pa_cons (pv 3) (pa_cons (pe_op op_mod (pv 1) (pv 3)) pa_nil)) (by rfl)))))))
         (pss_one
          -- return total
          (ps_ret (pv 1)))), ?_⟩
      dsimp only [cxOf, Cx.wish]
      walk_at "rd"
      refine fj_list (xs := intsV xs) (fun i σ H' => H' = H ∧ ∃ v2 v3, σ = [some (.ref a), some (nV (gcdL (xs.take i))), v2, v3]) ⟨rfl, none, none, rfl⟩ (fun i σ H' _ p => by rw [p.1]; exact SqL.of hx) ?_ ?_
      · rintro i x σ H' hi ⟨rfl, e⟩
        exact body _ i x σ hi e (fun v2 v3 => by dsimp only; exact at_i ⟨rfl, v2, v3, rfl⟩)
      · rintro σ H' ⟨rfl, v2, v3, rfl⟩
        walk_at "rd"
        rw [List.length_map, List.take_length]
        exact k _ (Same.refl _)
    · refine ⟨_, pss_cons
          -- total = 0
          (ps_set (i := 1) nd rfl (.inl rfl) pe_int)
         (pss_cons
          -- for n in numbers:
          (ps_for PassesOwn.never rfl (pi_tup (pv 0)) (pg_name (i := 2) nd rfl (.inl rfl)) (pss_cons
            -- a = abs(n)
            (ps_set (i := 3) nd rfl (.inl rfl) (pe_callB call_abs (by rfl) T.b_abs (by decide +kernel) (pa_cons (pv 2) pa_nil)))
           (pss_one
            -- while a != 0:
            (ps_while PassesOwn.never (pt_cmpR op_ne (pv 3) pe_int (nomark _)) (pss_one
              -- total, a = (a, total % a)
              (ps_par (i := 1) (j := 3) (by rfl) nd rfl rfl (by decide) rfl rfl (pa_cons (pv 3) (pa_cons (pe_op op_mod (pv 1) (pv 3)) pa_nil)) (by rfl)))))))
         (pss_one
          -- return total
          (ps_ret (pv 1)))), ?_⟩
      dsimp only [cxOf, Cx.wish]
      walk_at "rd"
      refine fj_tup (xs := intsV xs) (fun i σ H' => H' = H ∧ ∃ v2 v3, σ = [some (.ref a), some (nV (gcdL (xs.take i))), v2, v3]) ⟨rfl, none, none, rfl⟩ (fun i σ H' _ p => by rw [p.1]; exact SqT.of hx) ?_ ?_
      · rintro i x σ H' hi ⟨rfl, e⟩
        exact body _ i x σ hi e (fun v2 v3 => by dsimp only; exact at_i ⟨rfl, v2, v3, rfl⟩)
      · rintro σ H' ⟨rfl, v2, v3, rfl⟩
        walk_at "rd"
        rw [List.length_map, List.take_length]
        exact k _ (Same.refl _)
end
end L2.KL
set_option Elab.async false
set_option linter.all false
set_option maxRecDepth 100000
set_option maxHeartbeats 4000000
namespace L2.KL
open PySem PySem.Spec PyProof.Rows
local macro_rules | `(tactic| walk_at "hp") => `(tactic| first
  | assumption
  | (with_reducible exact upd_same)
  | (apply upd_old; (· assumption); (· walk_at "hp")))
local macro_rules | `(tactic| walk_at "cl") => `(tactic| first
  | (with_reducible rfl)
  | (apply tyL; walk_at "hp")
  | (apply exT; walk_at "hp")
  | (apply sz_nat; simp only [List.length_map, List.length_append, List.length_cons, List.length_nil]; omega))
local macro_rules | `(tactic| walk_at "r1") => `(tactic| first
  | (with_reducible refine rd_seq ?_)
  | ((with_reducible apply rd_var); (· exact rfl))
  | (with_reducible refine rd_c ?_)
  | (with_reducible refine rd_op ?_)
  | (with_reducible refine rd_cb ?_)
  | (with_reducible refine rd_cons ?_)
  | (with_reducible refine rd_nil ?_)
  | (with_reducible refine rd_call ?_)
  | (with_reducible refine rd_tup ?_)
  | (with_reducible refine rd_lst ?_)
  | (with_reducible refine rd_asg ?_)
  | (with_reducible refine rd_name ?_)
  | (with_reducible refine rd_ret ?_)
  | (with_reducible refine rd_drop ?_)
  | (with_reducible refine rd_if ?_)
  | (with_reducible refine rd_test ?_)
  | (with_reducible refine rd_bm ?_)
  | (with_reducible refine rd_next ?_)
  | (with_reducible refine rd_I0 ?_)
  | ((with_reducible apply rd_I); (· first | assumption | (dsimp only; omega) | omega | (unfold CMul; omega) | (unfold CDiv; omega)))
  | ((with_reducible apply rd_eq); (· exact rfl))
  | (with_reducible refine rd_for ?_)
  | (with_reducible refine rd_iTup ?_)
  | ((with_reducible apply rd_append); (· walk_at "hp"); (· simp only [List.length_map, List.length_append, List.length_cons, List.length_nil]; omega))
  | ((with_reducible apply or_tl); (· walk_at "hp"))
  | (with_reducible apply Exists.intro)
  | ((with_reducible refine And.intro ?_ ?_); (· walk_at "cl")))
local macro_rules | `(tactic| walk_at "at") => `(tactic| fail)
local macro_rules | `(tactic| walk_at "rd") => `(tactic| ((repeat walk_at "r1"); (try dsimp only [List.set])))
def lcmL (xs : List Nat) : Nat := xs.foldl (fun t n => t * n / Nat.gcd t n) 1
theorem lcmL_snoc (xs : List Nat) (x : Nat) : lcmL (xs ++ [x]) = lcmL xs * x / Nat.gcd (lcmL xs) x := by
  unfold lcmL
  rw [List.foldl_append]
  rfl
theorem nats_get {xs : List Nat} {i : Nat} {v : V} (h : (natsV xs)[i]? = some v) : ∃ n, v = nV n ∧ xs[i]? = some n := by
  rw [List.getElem?_map] at h
  cases q : xs[i]? with
  | none => rw [q] at h; cases h
  | some n =>
    rw [q] at h
    exact ⟨n, by simpa using h.symm, rfl⟩
theorem gcdL_two (a b : Nat) : gcdL [((a : Nat) : Int), ((b : Nat) : Int)] = Nat.gcd a b := by
  unfold gcdL
  simp
def ppIn : Nat → Nat → Nat → Nat → Option (Nat × Nat)
  | 0, _, _, _ => none
  | f + 1, n, p, k => if n % p = 0 then ppIn f (n / p) p (k + 1) else some (n, k)
def ppOut : Nat → Nat → Nat → List (Nat × Nat) → Option (List (Nat × Nat))
  | 0, _, _, _ => none
  | f + 1, n, p, fd => if p * p ≤ n then (match ppIn 100 n p 0 with
      | none => none
      | some (n', k) => ppOut f n' (p + 1) (if 0 < k then fd ++ [(p, k)] else fd)) else some (if 1 < n then fd ++ [(n, 1)] else fd)
def pp (n : Nat) : Option (List (Nat × Nat)) := ppOut 100 n 2 []
def PairR (t : Addr) (q : Nat × Nat) (H : Hp) : Prop := H t = some (.tup [nV q.1, nV q.2])
theorem pairR_fm (t : Addr) (q : Nat × Nat) : Fm (PairR t q) := fun _ _ s h => s _ _ h rfl
def PairsAt (H : Hp) (a : Addr) (ps : List (Nat × Nat)) : Prop := ∃ ts, H a = some (.tup (refsV ts)) ∧ AllAt PairR H ts ps
theorem pairs_fm (a : Addr) (ps : List (Nat × Nat)) : Fm (fun H => PairsAt H a ps) := fun _ _ s h => let ⟨ts, h1, h2⟩ := h; ⟨ts, s _ _ h1 rfl, h2.fz pairR_fm s⟩
section
variable {P : Program} {w : World} {K : PySem.W.Frag} {mg : Str → Option Value} {base : Heap}
def spMultiple : Sp := fun vs H Q _ => ∃ (a : Addr) (xs : List Nat), vs = [.ref a] ∧ H a = some (.tup (natsV xs)) ∧ (∀ x ∈ xs, 0 < x ∧ x ≤ 5000) ∧ ∀ H', Same H H' → Q (nV (lcmL xs)) H'
theorem sc_multiple : FnScope ["numbers", "total", "n"] ["numbers"] HD.d_multiple.scope := ⟨rfl, rfl, rfl, by decide +kernel, rfl, by decide +kernel, by decide +kernel⟩
theorem ok_multiple (T : Tx K mg) : Ok P w K mg base CX0 2 HD.d_multiple ["numbers"] spMultiple := by
  have G_common : Ok P w K mg base CX0 1 _ _ _ := ok_common T
  have nd := sc_multiple.nd
  refine Ok.mk0 T fn__multiple rfl sc_multiple (fun vs H Q E h => ?_) (fun _ _ _ _ _ _ us hl => match us, hl with | [_], _ => rfl) (fun cdv A outer s H vs Q E hr h => ?_)
  · obtain ⟨a, xs, rfl, _⟩ := h
    rfl
  · obtain ⟨a, xs, rfl, hx, hb, k⟩ := h
    refine ⟨_, pss_cons
          -- total = 1
          (ps_set (i := 1) nd rfl (.inl rfl) pe_int)
         (pss_cons
          -- for n in numbers:
          (ps_for PassesOwn.never rfl (pi_tup (pv 0)) (pg_name (i := 2) nd rfl (.inl rfl)) (pss_one
            -- total = total * n // common((total, n))
            (ps_set (i := 1) nd rfl (.inl rfl) (pe_op op_fdiv (pe_op op_mul (pv 1) (pv 2)) (pe_f (G_common) (hr.mono (by decide)) T.g_common pass0 (pa_cons (pe_tup (pa_cons (pv 1) (pa_cons (pv 2) pa_nil))) pa_nil))))))
         (pss_one
          -- return total
          (ps_ret (pv 1)))), ?_⟩
    dsimp only [cxOf, Cx.wish]
    walk_at "rd"
    refine fj_tup (xs := natsV xs) (fun i σ H' => Same H H' ∧ ∃ v2, σ = [some (.ref a), some (nV (lcmL (xs.take i))), v2]) ⟨Same.refl _, none, rfl⟩ (fun i σ H' _ p => SqT.of (p.1 _ _ hx)) ?_ ?_
    · rintro i x σ H' hi ⟨s, v2, rfl⟩
      obtain ⟨n, rfl, hn⟩ := nats_get hi
      obtain ⟨hn0, hn1⟩ := hb n (List.mem_of_getElem? hn)
      walk_at "rd"
      intro p hp
      walk_at "rd"
      refine ⟨p, [((lcmL (xs.take i) : Nat) : Int), ((n : Nat) : Int)], rfl, .inr upd_same, fun H2 s2 => ?_⟩
      rw [gcdL_two]
      have hg : 0 < Nat.gcd (lcmL (xs.take i)) n := Nat.gcd_pos_of_pos_right _ hn0
      have hg2 : Nat.gcd (lcmL (xs.take i)) n ≤ n := Nat.gcd_le_right _ hn0
      walk_at "rd"
      refine at_i ⟨(s.trans (Same.new hp)).trans s2, some (nV n), ?_⟩
      rw [take_snoc hn, lcmL_snoc]
      rfl
    · rintro σ H' ⟨s, v2, rfl⟩
      walk_at "rd"
      rw [List.length_map, List.take_length]
      exact k _ s
def spPP : Sp := fun vs H Q _ => ∃ (n : Nat) (ps : List (Nat × Nat)), vs = [nV n] ∧ n ≤ 5000 ∧ pp n = some ps ∧ ∀ a H', Same H H' → PairsAt H' a ps → Q (.ref a) H'
theorem sc_prime_powers : FnScope ["n", "found", "p", "k"] ["n"] HD.d_prime_powers.scope := ⟨rfl, rfl, rfl, by decide +kernel, rfl, by decide +kernel, by decide +kernel⟩
theorem ok_pp (T : Tx K mg) : Ok P w K mg base CX0 1 HD.d_prime_powers ["n"] spPP := by
  have nd := sc_prime_powers.nd
  refine Ok.mk0 T fn__prime_powers rfl sc_prime_powers (fun vs H Q E h => ?_) (fun _ _ _ _ _ _ us hl => match us, hl with | [_], _ => rfl) (fun cdv A outer s H vs Q E hr h => ?_)
  · obtain ⟨n, ps, rfl, _⟩ := h
    rfl
  · obtain ⟨n, ps, rfl, hn, hp, k⟩ := h
    refine ⟨_, pss_cons
          -- found = []
          (ps_set (i := 1) nd rfl (.inl rfl) (pe_lst pa_nil))
         (pss_cons
          -- p = 2
          (ps_set (i := 2) nd rfl (.inl rfl) pe_int)
         (pss_cons
          -- while p * p <= n:
          (ps_while PassesOwn.never (pt_cmpR op_le (pe_op op_mul (pv 2) (pv 2)) (pv 0) (nomark _)) (pss_cons
            -- k = 0
            (ps_set (i := 3) nd rfl (.inl rfl) pe_int)
           (pss_cons
            -- while n % p == 0:
            (ps_while PassesOwn.never (pt_cmpR op_eq (pe_op op_mod (pv 0) (pv 2)) pe_int (nomark _)) (pss_cons
              -- n = n // p
              (ps_set (i := 0) nd rfl (.inl rfl) (pe_op op_fdiv (pv 0) (pv 2)))
             (pss_one
              -- k = k + 1
              (ps_set (i := 3) nd rfl (.inl rfl) (pe_op op_add (pv 3) pe_int)))))
           (pss_cons
            -- if k > 0:
            (ps_if (pt_cmpR op_gt (pv 3) pe_int (nomark _)) (pss_one
              -- found.append((p, k))
              (ps_expr (pe_bm PySem.F.plainAttrs_list PySem.F.slot_list_append PySem.F.type_list_append mt_append (pv 1) (pa_cons (pe_tup (pa_cons (pv 2) (pa_cons (pv 3) pa_nil))) pa_nil)))) (pss_nil))
           (pss_one
            -- p = p + 1
            (ps_set (i := 2) nd rfl (.inl rfl) (pe_op op_add (pv 2) pe_int)))))))
         (pss_cons
          -- if n > 1:
          (ps_if (pt_cmpR op_gt (pv 0) pe_int (nomark _)) (pss_one
            -- found.append((n, 1))
            (ps_expr (pe_bm PySem.F.plainAttrs_list PySem.F.slot_list_append PySem.F.type_list_append mt_append (pv 1) (pa_cons (pe_tup (pa_cons (pv 0) (pa_cons pe_int pa_nil))) pa_nil)))) (pss_nil))
         (pss_one
          -- return tuple(found)
          (ps_ret (pe_callTy call_tuple_of (by rfl) T.b_tuple (by decide +kernel) (pa_cons (pv 1) pa_nil))))))), ?_⟩
    dsimp only [cxOf, Cx.wish]
    walk_at "rd"
    intro l hl
    walk_at "rd"
    refine wh (fun m σ H' => ∃ (n p : Nat) (fd : List (Nat × Nat)) (ts : List Addr) (v3 : Option V), σ = [some (nV n), some (.ref l), some (nV p), v3] ∧ n ≤ 5000 ∧ 2 ≤ p ∧ ppOut m n p fd = some ps ∧ Same H H' ∧ H' l = some (.lst (refsV ts)) ∧ AllAt PairR H' ts fd ∧ ts.length + m ≤ 100 ∧ p + m ≤ 102)
      100 ⟨n, 2, [], [], none, rfl, hn, Nat.le_refl _, hp, Same.new hl, upd_same, AllAt.nil, Nat.le_refl _, Nat.le_refl _⟩ ?_
    rintro m σ H' ⟨n, p, fd, ts, v3, rfl, hn, hp2, hpp, s, hl', ha, hm, hpm⟩
    cases m with
    | zero => cases hpp
    | succ m =>
    unfold ppOut at hpp
    walk_at "rd"
    refine if_d (fun hle => ?_) (fun hgt => ?_)
    · have hle' : p * p ≤ n := by
        have : ((p * p : Nat) : Int) ≤ (n : Int) := by push_cast; exact hle
        omega
      rw [if_pos hle'] at hpp
      refine wstep ?_
      walk_at "rd"
      obtain ⟨n', k', hin⟩ : ∃ n' k', ppIn 100 n p 0 = some (n', k') := by
        cases q : ppIn 100 n p 0 with
        | none => rw [q] at hpp; cases hpp
        | some z => exact ⟨z.1, z.2, rfl⟩
      rw [hin] at hpp
      have hpp' : ppOut m n' (p + 1) (if 0 < k' then fd ++ [(p, k')] else fd) = some ps := hpp
      refine wh (fun f σ H2 => ∃ (n1 k1 : Nat), H2 = H' ∧ σ = [some (nV n1), some (.ref l), some (nV p), some (nV k1)] ∧ n1 ≤ n ∧ ppIn f n1 p k1 = some (n', k')) 100 ⟨n, 0, rfl, rfl, Nat.le_refl _, hin⟩ ?_
      rintro f σ H2 ⟨n1, k1, rfl, rfl, hn1, hf⟩
      cases f with
      | zero => cases hf
      | succ f =>
      unfold ppIn at hf
      walk_at "rd"
      refine if_eq (fun he => ?_) (fun hne => ?_)
      · have he' : n1 % p = 0 := by
          have : ((n1 % p : Nat) : Int) = 0 := by push_cast; exact he
          omega
        rw [if_pos he'] at hf
        refine wstep ?_
        walk_at "rd"
        refine wn f (Nat.lt_succ_self _) ⟨n1 / p, k1 + 1, rfl, rfl, Nat.le_trans (Nat.div_le_self _ _) hn1, hf⟩
      · have hne' : ¬ n1 % p = 0 := fun z => hne (by
          have : ((n1 % p : Nat) : Int) = 0 := by rw [z]; rfl
          push_cast at this
          exact this)
        rw [if_neg hne'] at hf
        have e := Option.some.inj hf
        injection e with e1 e2
        subst e1 e2
        walk_at "rd"
        refine if_d (fun hk => ?_) (fun hk => ?_)
        · have hk' : 0 < k1 := by omega
          rw [if_pos hk'] at hpp'
          walk_at "rd"
          intro t ht
          walk_at "rd"
          have hl2 : upd H2 t (.tup [nV p, nV k1]) l = some (.lst (refsV ts)) := upd_old ht hl'
          have fz := Fz.upd (o := .lst (refsV ts ++ [V.ref t])) hl2 rfl
          have fz1 : Fz H2 (upd H2 t (.tup [nV p, nV k1])) := Fz.of (Same.new ht)
          refine wn m (Nat.lt_succ_self _) ⟨n1, p + 1, fd ++ [(p, k1)], ts ++ [t], _, rfl, by omega, by omega, hpp', Same.mut (s.trans (Same.new ht)) hl, ?_, ?_, ?_, by omega⟩
          · rw [upd_same]
            show some (HO.lst (refsV ts ++ [V.ref t])) = some (HO.lst ((ts ++ [t]).map V.ref))
            rw [List.map_append]
            rfl
          · exact ((ha.fz pairR_fm fz1).snoc (x := (p, k1)) upd_same).fz pairR_fm fz
          · rw [List.length_append]
            show ts.length + 1 + m ≤ 100
            omega
        · have hk' : ¬ 0 < k1 := by omega
          rw [if_neg hk'] at hpp'
          walk_at "rd"
          exact wn m (Nat.lt_succ_self _) ⟨n1, p + 1, fd, ts, _, rfl, by omega, by omega, hpp', s, hl', ha, by omega, by omega⟩
    · have hgt' : ¬ p * p ≤ n := fun z => hgt (by
        have : ((p * p : Nat) : Int) ≤ (n : Int) := by omega
        push_cast at this
        exact this)
      rw [if_neg hgt'] at hpp
      have hps := Option.some.inj hpp
      walk_at "rd"
      refine if_d (fun h1 => ?_) (fun h1 => ?_)
      · have h1' : 1 < n := by omega
        rw [if_pos h1'] at hps
        walk_at "rd"
        intro t ht
        walk_at "rd"
        have hl2 : upd H' t (.tup [nV n, nV 1]) l = some (.lst (refsV ts)) := upd_old ht hl'
        have fz := Fz.upd (o := .lst (refsV ts ++ [V.ref t])) hl2 rfl
        have fz1 : Fz H' (upd H' t (.tup [nV n, nV 1])) := Fz.of (Same.new ht)
        intro q hq
        refine k q _ ((Same.mut (s.trans (Same.new ht)) hl).trans (Same.new hq)) ⟨ts ++ [t], ?_, ?_⟩
        · rw [upd_same]
          show some (HO.tup (refsV ts ++ [V.ref t])) = some (HO.tup ((ts ++ [t]).map V.ref))
          rw [List.map_append]
          rfl
        · rw [← hps]
          exact (((ha.fz pairR_fm fz1).snoc (x := (n, 1)) upd_same).fz pairR_fm fz).fz pairR_fm (Fz.of (Same.new hq))
      · have h1' : ¬ 1 < n := by omega
        rw [if_neg h1'] at hps
        walk_at "rd"
        intro q hq
        refine k q _ (s.trans (Same.new hq)) ⟨ts, upd_same, ?_⟩
        rw [← hps]
        exact ha.fz pairR_fm (Fz.of (Same.new hq))
end
end L2.KL
set_option Elab.async false
set_option linter.all false
set_option maxRecDepth 100000
set_option maxHeartbeats 4000000
namespace L2.KL
open PySem PySem.Spec PyProof.Rows
local macro_rules | `(tactic| walk_at "hp") => `(tactic| first
  | (with_reducible exact upd_same))
local macro_rules | `(tactic| walk_at "cl") => `(tactic| first
  | (with_reducible rfl)
  | (apply SqT.of; walk_at "hp")
  | (apply sz_nat; simp only [List.length_map, List.length_append, List.length_cons, List.length_nil]; omega)
  | exact rfl)
local macro_rules | `(tactic| walk_at "r1") => `(tactic| first
  | (with_reducible refine rd_seq ?_)
  | ((with_reducible apply rd_var); (· exact rfl))
  | (with_reducible refine rd_c ?_)
  | (with_reducible refine rd_op ?_)
  | (with_reducible refine rd_cons ?_)
  | (with_reducible refine rd_nil ?_)
  | (with_reducible refine rd_tup ?_)
  | (with_reducible refine rd_asg ?_)
  | (with_reducible refine rd_name ?_)
  | (with_reducible refine rd_ret ?_)
  | (with_reducible refine rd_if ?_)
  | (with_reducible refine rd_test ?_)
  | (with_reducible refine rd_next ?_)
  | (with_reducible refine rd_I0 ?_)
  | ((with_reducible apply rd_I); (· first | assumption | (dsimp only; omega) | omega | (unfold CMul; omega) | (unfold CDiv; omega)))
  | ((with_reducible apply rd_ne); (· exact rfl))
  | (with_reducible refine rd_par ?_)
  | (with_reducible refine rd_gtup ?_)
  | (with_reducible refine rd_gcons ?_)
  | (with_reducible refine rd_gnil ?_)
  | (with_reducible apply Exists.intro)
  | ((with_reducible refine And.intro ?_ ?_); (· walk_at "cl")))
local macro_rules | `(tactic| walk_at "at") => `(tactic| fail)
local macro_rules | `(tactic| walk_at "rd") => `(tactic| ((repeat walk_at "r1"); (try dsimp only [List.set])))
def invGo : Nat → Int → Int → Int → Int → Option (Int × Int)
  | 0, _, _, _, _ => none
  | f + 1, old, new, u, v => if new = 0 then some (old, u) else invGo f new (old - old / new * new) v (u - old / new * v)
def invM (a p : Nat) : Option Int := match invGo 100 (p : Int) ((a : Int) % (p : Int)) 0 1 with
  | some (old, u) => if old = 1 then some (u % (p : Int)) else none
  | none => none
section
variable {P : Program} {w : World} {K : PySem.W.Frag} {mg : Str → Option Value} {base : Heap}
def spInvM : Sp := fun vs H Q _ => ∃ (a p : Nat) (r : Int), vs = [nV a, nV p] ∧ 0 < p ∧ p ≤ 5000 ∧ invM a p = some r ∧ ∀ H', Same H H' → Q (.int r) H'
theorem sc_inverse_modulo : FnScope ["a", "p", "old", "new", "u", "v", "q"] ["a", "p"] HD.d_inverse_modulo.scope := ⟨rfl, rfl, rfl, by decide +kernel, rfl, by decide +kernel, by decide +kernel⟩
theorem ok_invM (T : Tx K mg) : Ok P w K mg base CX0 1 HD.d_inverse_modulo ["a", "p"] spInvM := by
  have nd := sc_inverse_modulo.nd
  refine Ok.mk0 T fn__inverse_modulo rfl sc_inverse_modulo (fun vs H Q E h => ?_) (fun _ _ _ _ _ _ us hl => match us, hl with | [_, _], _ => rfl) (fun cdv A outer s H vs Q E hr h => ?_)
  · obtain ⟨a, p, r, rfl, _⟩ := h
    rfl
  · obtain ⟨a, p, r, rfl, hp0, hp1, hr', k⟩ := h
    have hpi : (0 : Int) < (p : Int) := by omega
    refine ⟨_, pss_cons
          -- old, new = (p, a % p)
          (ps_par (i := 2) (j := 3) (by rfl) nd rfl rfl (by decide) rfl rfl (pa_cons (pv 1) (pa_cons (pe_op op_mod (pv 0) (pv 1)) pa_nil)) (by rfl))
         (pss_cons
          -- u, v = (0, 1)
          (ps_asg (pe_tup (pa_cons pe_int (pa_cons pe_int pa_nil))) (pg_tup rfl (pgs_cons (pg_name (i := 4) nd rfl (.inl rfl)) (pgs_cons (pg_name (i := 5) nd rfl (.inl rfl)) pgs_nil))))
         (pss_cons
          -- while new != 0:
          (ps_while PassesOwn.never (pt_cmpR op_ne (pv 3) pe_int (nomark _)) (pss_cons
            -- q = old // new
            (ps_set (i := 6) nd rfl (.inl rfl) (pe_op op_fdiv (pv 2) (pv 3)))
           (pss_cons
            -- old, new = (new, old - q * new)
            (ps_par (i := 2) (j := 3) (by rfl) nd rfl rfl (by decide) rfl rfl (pa_cons (pv 3) (pa_cons (pe_op op_sub (pv 2) (pe_op op_mul (pv 6) (pv 3))) pa_nil)) (by rfl))
           (pss_one
            -- u, v = (v, u - q * v)
            (ps_par (i := 4) (j := 5) (by rfl) nd rfl rfl (by decide) rfl rfl (pa_cons (pv 5) (pa_cons (pe_op op_sub (pv 4) (pe_op op_mul (pv 6) (pv 5))) pa_nil)) (by rfl))))))
         (pss_cons
          -- if old != 1:
          (ps_if (pt_cmpR op_ne (pv 2) pe_int (nomark _)) (pss_one
            -- raise ZeroDivisor('not coprime')
            (ps_never)) (pss_nil))
         (pss_one
          -- return u % p
          (ps_ret (pe_op op_mod (pv 4) (pv 1))))))), ?_⟩
    dsimp only [cxOf, Cx.wish]
    walk_at "rd"
    intro t ht
    walk_at "rd"
    obtain ⟨old, u, hg⟩ : ∃ old u, invGo 100 (p : Int) ((a : Int) % (p : Int)) 0 1 = some (old, u) := by
      unfold invM at hr'
      cases q : invGo 100 (p : Int) ((a : Int) % (p : Int)) 0 1 with
      | none => rw [q] at hr'; cases hr'
      | some z => exact ⟨z.1, z.2, rfl⟩
    have hr2 : (if old = 1 then some (u % (p : Int)) else none) = some r := by
      unfold invM at hr'
      rw [hg] at hr'
      exact hr'
    have h0 := Int.emod_nonneg (a : Int) (show (p : Int) ≠ 0 by omega)
    have h1 := Int.emod_lt_of_pos (a : Int) hpi
    refine wh (fun m σ H' => ∃ (o n u1 v1 : Int) (vq : Option V), Same H H' ∧ σ = [some (nV a), some (nV p), some (.int o), some (.int n), some (.int u1), some (.int v1), vq] ∧ 0 ≤ o ∧ o ≤ 5000 ∧ 0 ≤ n ∧ n ≤ 5000 ∧ invGo m o n u1 v1 = some (old, u))
      100 ⟨(p : Int), (a : Int) % (p : Int), 0, 1, none, Same.new ht, rfl, by omega, by omega, by omega, by omega, hg⟩ ?_
    rintro m σ H' ⟨o, n, u1, v1, vq, s1, rfl, ho0, ho1, hn0, hn1, hgo⟩
    cases m with
    | zero => cases hgo
    | succ m =>
    unfold invGo at hgo
    walk_at "rd"
    refine if_ne (fun hne => ?_) (fun he => ?_)
    · rw [if_neg hne] at hgo
      refine wstep ?_
      have hnp : 0 < n := by omega
      have q0 : 0 ≤ o / n := Int.ediv_nonneg ho0 hn0
      have q1 : o / n ≤ o := Int.ediv_le_self _ ho0
      have e : o - o / n * n = o % n := by rw [Int.emod_def, Int.mul_comm]
      have m0 := Int.emod_nonneg o hne
      have m1 := Int.emod_lt_of_pos o hnp
      walk_at "rd"
      exact wn m (Nat.lt_succ_self _) ⟨n, _, v1, _, some (.int (o / n)), s1, rfl, hn0, hn1, by omega, by omega, hgo⟩
    · rw [if_pos he] at hgo
      have e := Option.some.inj hgo
      injection e with e1 e2
      subst e1 e2
      have ho : o = 1 := by
        by_cases z : o = 1
        · exact z
        · rw [if_neg z] at hr2
          cases hr2
      rw [if_pos ho] at hr2
      subst ho
      walk_at "rd"
      refine if_ne (fun z => absurd rfl z) (fun _ => ?_)
      walk_at "rd"
      rw [Option.some.inj hr2]
      exact k _ s1
end
end L2.KL
set_option Elab.async false
set_option linter.all false
set_option maxRecDepth 100000
set_option maxHeartbeats 4000000
namespace L2.KL
open PySem PySem.Spec PyProof.Rows
section
variable {K : PySem.W.Frag} {a : Addr} {xs : List V} {σ : St} {H : Hp} {Q : VK} {ta : TA} {D : Ends} {te : TE} {l : Addr}
theorem rd_iRng3 {R : It → Hp → Prop} (h : ta σ H fun vs H1 => ∃ (i j c : Int) (n : Nat), vs = [.int i, .int j, .int c] ∧ RgC i j c n ∧ R (Itc i c n) H1) : iRng3 ta σ H R := h
theorem rd_iRng2 {R : It → Hp → Prop} (h : ta σ H fun vs H1 => ∃ i j : Int, vs = [.int i, .int j] ∧ (-(2 ^ 62) ≤ i ∧ i < 2 ^ 62 ∧ -(2 ^ 62) ≤ j ∧ j < 2 ^ 62) ∧ R (Itr i (j - i).toNat) H1) : iRng2 ta σ H R := h
theorem rd_rU {g : Int → V} {i : Int} (q : Q (g i) H) : rU g (.int i) H Q := ⟨i, rfl, q⟩
theorem rd_slL {lo hi : Option Int} (h : H a = some (.lst xs)) (q : ∀ p, H p = none → Q (.ref p) (upd H p (.lst (cutV xs lo hi)))) : rSlL K (.ref a) lo hi H Q := ⟨a, xs, rfl, SqL.of h, q⟩
theorem cut_take (xs : List Int) (n : Nat) : cutV (intsV xs) none (some ((n : Nat) : Int)) = intsV (xs.take n) := by
  unfold cutV
  rw [HT.sIx_none, HT.sIx_nat, List.drop_zero, List.length_map, Nat.sub_zero, ← List.map_take]
  congr 1
  rcases Nat.le_total n xs.length with h | h
  · rw [Nat.min_eq_left h]
  · rw [Nat.min_eq_right h, List.take_of_length_le (Nat.le_refl _), List.take_of_length_le h]
theorem cut_drop (xs : List V) (n : Nat) : cutV xs (some ((n : Nat) : Int)) none = xs.drop n := by
  unfold cutV
  rw [HT.sIx_nat, HT.sIx_none]
  rcases Nat.le_total n xs.length with h | h
  · rw [Nat.min_eq_left h, List.take_of_length_le (by rw [List.length_drop]; omega)]
  · rw [Nat.min_eq_right h, List.drop_of_length_le h, List.drop_of_length_le (Nat.le_refl _)]
    exact List.take_nil
theorem cut_mid (xs : List Int) (lo hi : Nat) : cutV (intsV xs) (some ((lo : Nat) : Int)) (some ((hi : Nat) : Int)) = intsV ((xs.take hi).drop lo) := by
  unfold cutV
  rw [HT.sIx_nat, HT.sIx_nat, List.length_map, ← List.map_drop, ← List.map_take]
  congr 1
  rcases Nat.le_total hi xs.length with h | h
  · rw [Nat.min_eq_left h]
    rcases Nat.le_total lo xs.length with h2 | h2
    · rw [Nat.min_eq_left h2, List.drop_take]
    · rw [Nat.min_eq_right h2, List.drop_of_length_le (Nat.le_refl _), List.drop_of_length_le (by rw [List.length_take]; omega), List.take_nil]
  · rw [Nat.min_eq_right h, List.take_of_length_le h]
    rcases Nat.le_total lo xs.length with h2 | h2
    · rw [Nat.min_eq_left h2, List.take_of_length_le (by rw [List.length_drop]; omega)]
    · rw [Nat.min_eq_right h2, List.drop_of_length_le (Nat.le_refl _), List.drop_of_length_le h2, List.take_nil]
end
end L2.KL
set_option Elab.async false
set_option linter.all false
set_option maxRecDepth 100000
set_option maxHeartbeats 4000000
namespace L2.KL
open PySem PySem.Spec PyProof.Rows
local macro_rules | `(tactic| walk_at "hp") => `(tactic| first
  | assumption
  | (with_reducible exact upd_same)
  | (apply Same.get; (· assumption); (· walk_at "hp"))
  | (apply upd_old; (· assumption); (· walk_at "hp")))
local macro_rules | `(tactic| walk_at "cl") => `(tactic| first
  | (with_reducible rfl)
  | (apply Or.inl; apply SqL.of; walk_at "hp")
  | (apply Or.inr; apply SqT.of; walk_at "hp")
  | (apply sz_nat; simp only [List.length_map, List.length_append, List.length_cons, List.length_nil]; omega)
  | omega)
local macro_rules | `(tactic| walk_at "r1") => `(tactic| first
  | (with_reducible refine rd_seq ?_)
  | ((with_reducible apply rd_var); (· exact rfl))
  | (with_reducible refine rd_c ?_)
  | (with_reducible refine rd_op ?_)
  | (with_reducible refine rd_cb ?_)
  | (with_reducible refine rd_cons ?_)
  | (with_reducible refine rd_nil ?_)
  | (with_reducible refine rd_tup ?_)
  | (with_reducible refine rd_asg ?_)
  | (with_reducible refine rd_name ?_)
  | (with_reducible refine rd_ret ?_)
  | (with_reducible refine rd_if ?_)
  | (with_reducible refine rd_test ?_)
  | (with_reducible refine rd_un ?_)
  | (with_reducible refine rd_next ?_)
  | (with_reducible refine rd_I0 ?_)
  | ((with_reducible apply rd_I); (· first | assumption | (dsimp only; omega) | omega | (unfold CMul; omega) | (unfold CDiv; omega)))
  | ((with_reducible apply rd_ixT); (· walk_at "hp"); (· walk_at "at"))
  | ((with_reducible apply rd_ixL); (· walk_at "hp"); (· walk_at "at"))
  | ((with_reducible apply rd_ne); (· exact rfl))
  | (with_reducible refine rd_for ?_)
  | (with_reducible refine rd_iRng1 ?_)
  | (with_reducible refine rd_lc ?_)
  | (with_reducible refine rd_iRng3 ?_)
  | (with_reducible refine rd_rU ?_)
  | ((with_reducible apply rd_slL); (· walk_at "hp"))
  | (with_reducible refine rd_gsub ?_)
  | (with_reducible refine rd_slice ?_)
  | (with_reducible refine rd_part ?_)
  | (with_reducible refine rd_nopart ?_)
  | (with_reducible apply Exists.intro)
  | ((with_reducible refine And.intro ?_ ?_); (· walk_at "cl")))
local macro_rules | `(tactic| walk_at "at") => `(tactic| first
  | (apply at_ints; first | assumption | omega))
local macro_rules | `(tactic| walk_at "rd") => `(tactic| ((repeat walk_at "r1"); (try dsimp only [List.set])))
theorem none_of {H H' : Hp} {p : Addr} (s : Same H H') (h : H' p = none) : H p = none := by
  cases e : H p with
  | none => rfl
  | some o => rw [s _ _ e] at h; cases h
def setL (l : List Int) (f : Nat → Nat) (g : Nat → Int) (n : Nat) : List Int := (List.range n).foldl (fun l k => l.set (f k) (g k)) l
theorem setL_succ (l : List Int) (f : Nat → Nat) (g : Nat → Int) (n : Nat) : setL l f g (n + 1) = (setL l f g n).set (f n) (g n) := by
  unfold setL
  rw [List.range_succ, List.foldl_append]
  rfl
theorem setL_len (l : List Int) (f : Nat → Nat) (g : Nat → Int) : ∀ n, (setL l f g n).length = l.length
  | 0 => rfl
  | n + 1 => by rw [setL_succ, List.length_set, setL_len l f g n]
def spreadM (poly : List Int) (p : Nat) : List Int := setL (List.replicate ((poly.length - 1) * p + 1) 0) (fun k => k * p) (fun k => poly.getD k 0) poly.length
section
variable {P : Program} {w : World} {K : PySem.W.Frag} {mg : Str → Option Value} {base : Heap}
def spSpread : Sp := fun vs H Q _ => ∃ (a : Addr) (poly : List Int) (p : Nat), vs = [.ref a, nV p] ∧ H a = some (.lst (intsV poly)) ∧ 1 ≤ poly.length ∧ poly.length ≤ 200 ∧ p ≤ 100 ∧ ∀ b H', H b = none → Same H H' → H' b = some (.lst (intsV (spreadM poly p))) → Q (.ref b) H'
theorem sc_spread : FnScope ["poly", "p", "found", "k", "_"] ["poly", "p"] HD.d_spread.scope := ⟨rfl, rfl, rfl, by decide +kernel, rfl, by decide +kernel, by decide +kernel⟩
theorem ok_spread (T : Tx K mg) : Ok P w K mg base CX0 1 HD.d_spread ["poly", "p"] spSpread := by
  have nd := sc_spread.nd
  refine Ok.mk0 T fn__spread rfl sc_spread (fun vs H Q E h => ?_) (fun _ _ _ _ _ _ us hl => match us, hl with | [_, _], _ => rfl) (fun cdv A outer s H vs Q E hr h => ?_)
  · obtain ⟨a, poly, p, rfl, _⟩ := h
    rfl
  · obtain ⟨a, poly, p, rfl, ha, h1, h2, hp, k⟩ := h
    have hb : (poly.length - 1) * p ≤ 199 * 100 := Nat.mul_le_mul (by omega) hp
    refine ⟨_, pss_cons
          -- found = [0 for _ in range((len(poly) - 1) * p + 1)]
          (ps_setLc (i := 2) (own := [("_", 4)]) (g := gName 4) (tt := tYes) (by rfl) nd rfl rfl (sw_true rfl rfl rfl (by decide +kernel)) (pi_range1 (by rfl) T.b_range (pa_cons (pe_op op_add (pe_op op_mul (pe_op op_sub (pe_callB call_len_seq (by rfl) T.b_len (by decide +kernel) (pa_cons (pv 0) pa_nil)) pe_int) (pv 1)) pe_int) pa_nil)) (blkOk_by (own := [("_", 4)]) (N := ["poly", "p", "found", "k", "_"]) (sc := HD.d_spread.scope) (by decide +kernel)) (fun _ _ _ _ _ => (pg_name (i := 4) nd rfl (.inl rfl))) (fun _ _ _ _ _ => pts_nil) (fun _ _ _ _ _ => pe_int))
         (pss_cons
          -- for k in range(len(poly)):
          (ps_for PassesOwn.never rfl (pi_range1 (by rfl) T.b_range (pa_cons (pe_callB call_len_seq (by rfl) T.b_len (by decide +kernel) (pa_cons (pv 0) pa_nil)) pa_nil)) (pg_name (i := 3) nd rfl (.inl rfl)) (pss_one
            -- found[k * p] = poly[k]
            (ps_asg (pe_ix ix_list (pv 0) (pv 3) (fun _ _ => rfl)) (pg_sub (pv 2) (pe_op op_mul (pv 3) (pv 1)) set_list))))
         (pss_one
          -- return found
          (ps_ret (pv 2)))), ?_⟩
    dsimp only [cxOf, Cx.wish]
    walk_at "rd"
    have e : (((intsV poly).length : Int) - 1) * (p : Int) + 1 = (((poly.length - 1) * p + 1 : Nat) : Int) := by
      rw [List.length_map]
      push_cast
      rw [show ((poly.length - 1 : Nat) : Int) = (poly.length : Int) - 1 by omega]
    rw [e]
    refine ⟨by omega, by omega, lcj_zeros ((poly.length - 1) * p + 1) (by omega) (by omega) (fun x => rfl) fun D H1 hD s1 h3 => ?_⟩
    walk_at "rd"
    rw [List.length_map]
    refine ⟨by omega, fj_range poly.length (fun i σ H' => Same H H' ∧ H' D = some (.lst (intsV (setL (List.replicate ((poly.length - 1) * p + 1) 0) (fun k => k * p) (fun k => poly.getD k 0) i))) ∧ ∃ v, σ = [some (.ref a), some (nV p), some (.ref D), v, none]) ⟨s1, h3, none, rfl⟩ ?_ ?_⟩
    · rintro i σ H' hi ⟨s2, hl, v, rfl⟩
      have ha' := s2 _ _ ha
      have hle : i * p ≤ (poly.length - 1) * p := Nat.mul_le_mul_right p (by omega)
      walk_at "rd"
      refine rd_set (i * p) hl (by push_cast; rfl) (by rw [List.length_map, setL_len, List.length_replicate]; omega) ?_
      rw [set_ints, ← setL_succ]
      exact at_i ⟨Same.mut s2 hD, upd_same, _, rfl⟩
    · rintro σ H' ⟨s2, hl, v, rfl⟩
      walk_at "rd"
      exact k D H' hD s2 hl
/-! division by a monic polynomial -/
def subRow (rest bys : List Int) (c : Int) (k n : Nat) : List Int := (List.range n).foldl (fun r j => r.set (k + j) (r.getD (k + j) 0 - c * bys.getD j 0)) rest
theorem subRow_succ (rest bys : List Int) (c : Int) (k n : Nat) : subRow rest bys c k (n + 1) = (subRow rest bys c k n).set (k + n) ((subRow rest bys c k n).getD (k + n) 0 - c * bys.getD n 0) := by
  unfold subRow
  rw [List.range_succ, List.foldl_append]
  rfl
theorem subRow_len (rest bys : List Int) (c : Int) (k : Nat) : ∀ n, (subRow rest bys c k n).length = rest.length
  | 0 => rfl
  | n + 1 => by rw [subRow_succ, List.length_set, subRow_len rest bys c k n]
def divStep (bys : List Int) (size : Nat) (st : List Int × List Int) (k : Nat) : List Int × List Int :=
  (st.1.set k (st.2.getD (k + size) 0), if st.2.getD (k + size) 0 = 0 then st.2 else subRow st.2 bys (st.2.getD (k + size) 0) k (size + 1))
def divGo (bys : List Int) (size nq : Nat) (st : List Int × List Int) (n : Nat) : List Int × List Int := (List.range n).foldl (fun st i => divStep bys size st (nq - 1 - i)) st
theorem divGo_succ (bys : List Int) (size nq : Nat) (st : List Int × List Int) (n : Nat) : divGo bys size nq st (n + 1) = divStep bys size (divGo bys size nq st n) (nq - 1 - n) := by
  unfold divGo
  rw [List.range_succ, List.foldl_append]
  rfl
theorem divStep_len {bys : List Int} {size : Nat} {st : List Int × List Int} {k : Nat} : (divStep bys size st k).1.length = st.1.length ∧ (divStep bys size st k).2.length = st.2.length := by
  unfold divStep
  refine ⟨List.length_set, ?_⟩
  dsimp only
  split
  · rfl
  · exact subRow_len _ _ _ _ _
theorem divGo_len (bys : List Int) (size nq : Nat) (st : List Int × List Int) : ∀ n, (divGo bys size nq st n).1.length = st.1.length ∧ (divGo bys size nq st n).2.length = st.2.length
  | 0 => ⟨rfl, rfl⟩
  | n + 1 => by
    rw [divGo_succ, divStep_len.1, divStep_len.2]
    exact divGo_len bys size nq st n
def divM (poly bys : List Int) : List Int × List Int := divGo bys (bys.length - 1) (poly.length - (bys.length - 1)) (List.replicate (poly.length - (bys.length - 1)) 0, poly) (poly.length - (bys.length - 1))
/-- small coefficients -/
def Small (bys : List Int) : Prop := ∀ x ∈ bys, -1000 ≤ x ∧ x ≤ 1000
theorem Small.at_ {bys : List Int} (h : Small bys) (j : Nat) : -1000 ≤ bys.getD j 0 ∧ bys.getD j 0 ≤ 1000 := by
  rw [List.getD_eq_getElem?_getD]
  cases e : bys[j]? with
  | none => decide
  | some x => exact h x (List.mem_of_getElem? e)
def LstOrTup (H : Hp) (a : Addr) (xs : List V) : Prop := H a = some (.lst xs) ∨ H a = some (.tup xs)
def spDivided : Sp := fun vs H Q _ => ∃ (a b : Addr) (poly bys : List Int), vs = [.ref a, .ref b] ∧ H a = some (.lst (intsV poly)) ∧ LstOrTup H b (intsV bys) ∧ 1 ≤ bys.length ∧ bys.length ≤ 10000 ∧ poly.length ≤ 50000 ∧ Small bys ∧
  ∀ t q r H', Same H H' → H t = none → H q = none → H r = none → H' t = some (.tup [.ref q, .ref r]) → H' q = some (.lst (intsV (divM poly bys).1)) → H' r = some (.lst (intsV ((divM poly bys).2.take (bys.length - 1)))) → Q (.ref t) H'
theorem sc_divided : FnScope ["poly", "by", "rest", "size", "quotient", "k", "c", "j", "_"] ["poly", "by"] HD.d_divided.scope := ⟨rfl, rfl, rfl, by decide +kernel, rfl, by decide +kernel, by decide +kernel⟩
theorem ok_divided (T : Tx K mg) : Ok P w K mg base CX0 1 HD.d_divided ["poly", "by"] spDivided := by
  have nd := sc_divided.nd
  refine Ok.mk0 T fn__divided rfl sc_divided (fun vs H Q E h => ?_) (fun _ _ _ _ _ _ us hl => match us, hl with | [_, _], _ => rfl) (fun cdv A outer s H vs Q E hr h => ?_)
  · obtain ⟨a, b, poly, bys, rfl, _⟩ := h
    rfl
  · obtain ⟨a, b, poly, bys, rfl, ha, hb, h1, h2, h3, hs, k⟩ := h
    obtain ⟨size, hsz⟩ : ∃ size, size = bys.length - 1 := ⟨_, rfl⟩
    obtain ⟨nq, hnq⟩ : ∃ nq, nq = poly.length - size := ⟨_, rfl⟩
    have e1 : (if 0 > ((intsV poly).length : Int) - ((size : Nat) : Int) then 0 else ((intsV poly).length : Int) - ((size : Nat) : Int)) = (nq : Int) := by
      rw [List.length_map]
      split <;> omega
    have e2 : (((intsV bys).length : Int) - 1) = ((size : Nat) : Int) := by
      rw [List.length_map]
      omega
    have eM : divM poly bys = divGo bys size nq (List.replicate nq 0, poly) nq := by
      unfold divM
      rw [← hsz, ← hnq]
    have hlen := divGo_len bys size nq (List.replicate nq 0, poly)
    rw [← hsz, eM] at k
    rcases hb with hb | hb
    · refine ⟨_, pss_cons
          -- rest = list(poly)
          (ps_set (i := 2) nd rfl (.inl rfl) (pe_callTy call_list_of (by rfl) T.b_list (by decide +kernel) (pa_cons (pv 0) pa_nil)))
         (pss_cons
          -- size = len(by) - 1
          (ps_set (i := 3) nd rfl (.inl rfl) (pe_op op_sub (pe_callB call_len_seq (by rfl) T.b_len (by decide +kernel) (pa_cons (pv 1) pa_nil)) pe_int))
         (pss_cons
          -- quotient = [0 for _ in range(max(len(rest) - size, 0))]
          (ps_setLc (i := 4) (own := [("_", 8)]) (g := gName 8) (tt := tYes) (by rfl) nd rfl rfl (sw_true rfl rfl rfl (by decide +kernel)) (pi_range1 (by rfl) T.b_range (pa_cons (pe_callB (call_max2 rfl) (by rfl) T.b_max (by decide +kernel) (pa_cons (pe_op op_sub (pe_callB call_len_seq (by rfl) T.b_len (by decide +kernel) (pa_cons (pv 2) pa_nil)) (pv 3)) (pa_cons pe_int pa_nil))) pa_nil)) (blkOk_by (own := [("_", 8)]) (N := ["poly", "by", "rest", "size", "quotient", "k", "c", "j", "_"]) (sc := HD.d_divided.scope) (by decide +kernel)) (fun _ _ _ _ _ => (pg_name (i := 8) nd rfl (.inl rfl))) (fun _ _ _ _ _ => pts_nil) (fun _ _ _ _ _ => pe_int))
         (pss_cons
          -- for k in range(len(quotient) - 1, -1, -1):
          (ps_for PassesOwn.never rfl (pi_range3 (by rfl) T.b_range (pa_cons (pe_op op_sub (pe_callB call_len_seq (by rfl) T.b_len (by decide +kernel) (pa_cons (pv 4) pa_nil)) pe_int) (pa_cons (pe_un un_neg pe_int) (pa_cons (pe_un un_neg pe_int) pa_nil)))) (pg_name (i := 5) nd rfl (.inl rfl)) (pss_cons
            -- c = rest[k + size]
            (ps_set (i := 6) nd rfl (.inl rfl) (pe_ix ix_list (pv 2) (pe_op op_add (pv 5) (pv 3)) (fun _ _ => rfl)))
           (pss_cons
            -- quotient[k] = c
            (ps_asg (pv 6) (pg_sub (pv 4) (pv 5) set_list))
           (pss_one
            -- if c != 0:
            (ps_if (pt_cmpR op_ne (pv 6) pe_int (nomark _)) (pss_one
              -- for j in range(size + 1):
              (ps_for PassesOwn.never rfl (pi_range1 (by rfl) T.b_range (pa_cons (pe_op op_add (pv 3) pe_int) pa_nil)) (pg_name (i := 7) nd rfl (.inl rfl)) (pss_one
                -- rest[k + j] = rest[k + j] - c * by[j]
                (ps_asg (pe_op op_sub (pe_ix ix_list (pv 2) (pe_op op_add (pv 5) (pv 7)) (fun _ _ => rfl)) (pe_op op_mul (pv 6) (pe_ix ix_list (pv 1) (pv 7) (fun _ _ => rfl)))) (pg_sub (pv 2) (pe_op op_add (pv 5) (pv 7)) set_list))))) (pss_nil))))))
         (pss_one
          -- return (quotient, rest[:size])
          (ps_ret (pe_tup (pa_cons (pv 4) (pa_cons (pe_slice sl_list (pv 2) po_none (po_some (pv 3))) pa_nil)))))))), ?_⟩
      dsimp only [cxOf, Cx.wish]
      walk_at "rd"
      intro l hl
      walk_at "rd"
      rw [e2, e1]
      refine lcj_zeros nq (by omega) (by omega) (fun x => rfl) fun D H1 hD s1 hz => ?_
      have hlD : H1 l = some (.lst (intsV poly)) := s1 _ _ upd_same
      have sH : Same H H1 := (Same.new hl).trans s1
      have hDl : D ≠ l := fun e => by rw [e, upd_same] at hD; cases hD
      have hD0 : H D = none := by
        have z := hD
        rw [upd_ne hDl] at z
        exact z
      walk_at "rd"
      have e3 : (((intsV (List.replicate nq (0 : Int))).length : Int) - 1) = (nq : Int) - 1 := by
        rw [List.length_map, List.length_replicate]
      rw [e3]
      have rgc : RgC ((nq : Int) - 1) (-1) (-1) nq := by
        have z := RgC.neg (i := (nq : Int) - 1) (j := -1) (by omega) (by omega) (by omega) (by omega)
        rw [show ((nq : Int) - 1 - -1).toNat = nq by omega] at z
        exact z
      refine ⟨rgc, ?_⟩
      refine fj_down nq rfl (fun i σ H' => Same H H' ∧ H' D = some (.lst (intsV (divGo bys size nq (List.replicate nq 0, poly) i).1)) ∧ H' l = some (.lst (intsV (divGo bys size nq (List.replicate nq 0, poly) i).2)) ∧
        ∃ v5 v6 v7, σ = [some (.ref a), some (.ref b), some (.ref l), some (nV size), some (.ref D), v5, v6, v7, none]) ⟨sH, hz, hlD, none, none, none, rfl⟩ ?_ ?_
      · rintro i σ H' hi ⟨s2, hq, hr1, v5, v6, v7, rfl⟩
        have hb' := s2 _ _ hb
        have l1 := (hlen i).1
        have l2 := (hlen i).2
        dsimp only at l1 l2
        rw [List.length_replicate] at l1
        walk_at "rd"
        refine rd_set (nq - 1 - i) hq rfl (by rw [List.length_map, l1]; omega) ?_
        rw [set_ints]
        have hr2 : ∀ o, upd H' D (.lst o) l = some (.lst (intsV (divGo bys size nq (List.replicate nq 0, poly) i).2)) := fun o => by rw [upd_ne (Ne.symm hDl)]; exact hr1
        have s3 : ∀ o, Same H (upd H' D (.lst o)) := fun o => Same.mut s2 hD0
        walk_at "rd"
        refine if_ne (fun hne => ?_) (fun he => ?_)
        · walk_at "rd"
          have hE : divGo bys size nq (List.replicate nq 0, poly) (i + 1) = ((divGo bys size nq (List.replicate nq 0, poly) i).1.set (nq - 1 - i) ((divGo bys size nq (List.replicate nq 0, poly) i).2.getD (nq - 1 - i + size) 0),
              subRow (divGo bys size nq (List.replicate nq 0, poly) i).2 bys ((divGo bys size nq (List.replicate nq 0, poly) i).2.getD (nq - 1 - i + size) 0) (nq - 1 - i) (size + 1)) := by
            rw [divGo_succ]
            unfold divStep
            rw [if_neg hne]
          refine fj_rangeE (size + 1) (by omega) (fun j σ H2 => Same H H2 ∧ H2 D = some (.lst (intsV ((divGo bys size nq (List.replicate nq 0, poly) i).1.set (nq - 1 - i) ((divGo bys size nq (List.replicate nq 0, poly) i).2.getD (nq - 1 - i + size) 0)))) ∧
            H2 l = some (.lst (intsV (subRow (divGo bys size nq (List.replicate nq 0, poly) i).2 bys ((divGo bys size nq (List.replicate nq 0, poly) i).2.getD (nq - 1 - i + size) 0) (nq - 1 - i) j))) ∧
            ∃ v7, σ = [some (.ref a), some (.ref b), some (.ref l), some (nV size), some (.ref D), some (nV (nq - 1 - i)), some (.int ((divGo bys size nq (List.replicate nq 0, poly) i).2.getD (nq - 1 - i + size) 0)), v7, none])
            ⟨s3 _, upd_same, hr2 _, _, rfl⟩ ?_ ?_
          · rintro j σ H2 hj ⟨s4, hq4, hr4, v7, rfl⟩
            have hb4 := s4 _ _ hb
            have l4 : (subRow (divGo bys size nq (List.replicate nq 0, poly) i).2 bys ((divGo bys size nq (List.replicate nq 0, poly) i).2.getD (nq - 1 - i + size) 0) (nq - 1 - i) j).length = poly.length := by rw [subRow_len, l2]
            have hsm := hs.at_ j
            have hjb : j < bys.length := by omega
            walk_at "rd"
            refine rd_set (nq - 1 - i + j) hr4 (by push_cast; rfl) (by rw [List.length_map, l4]; omega) ?_
            rw [set_ints]
            refine at_i ⟨Same.mut s4 hl, ?_, ?_, _, rfl⟩
            · rw [upd_ne hDl]
              exact hq4
            · rw [subRow_succ]
              exact upd_same
          · rintro σ H2 ⟨s4, hq4, hr4, v7, rfl⟩
            dsimp only
            refine at_i ⟨s4, ?_, ?_, _, _, _, rfl⟩
            · rw [hE]
              exact hq4
            · rw [hE]
              exact hr4
        · walk_at "rd"
          have hE : divGo bys size nq (List.replicate nq 0, poly) (i + 1) = ((divGo bys size nq (List.replicate nq 0, poly) i).1.set (nq - 1 - i) ((divGo bys size nq (List.replicate nq 0, poly) i).2.getD (nq - 1 - i + size) 0), (divGo bys size nq (List.replicate nq 0, poly) i).2) := by
            rw [divGo_succ]
            unfold divStep
            rw [if_pos he]
          refine at_i ⟨s3 _, ?_, ?_, _, _, _, rfl⟩
          · rw [hE]
            exact upd_same
          · rw [hE]
            exact hr2 _
      · rintro σ H' ⟨s2, hq, hr1, v5, v6, v7, rfl⟩
        walk_at "rd"
        intro r hr0
        walk_at "rd"
        intro t ht0
        have e9 := cut_take (divGo bys size nq (List.replicate nq 0, poly) nq).2 size
        refine k t D r _ ((s2.trans (Same.new hr0)).trans (Same.new ht0)) (none_of (s2.trans (Same.new hr0)) ht0) hD0 (none_of s2 hr0) upd_same (upd_old ht0 (upd_old hr0 hq)) (upd_old ht0 ?_)
        rw [← e9]
        exact upd_same
    · refine ⟨_, pss_cons
          -- rest = list(poly)
          (ps_set (i := 2) nd rfl (.inl rfl) (pe_callTy call_list_of (by rfl) T.b_list (by decide +kernel) (pa_cons (pv 0) pa_nil)))
         (pss_cons
          -- size = len(by) - 1
          (ps_set (i := 3) nd rfl (.inl rfl) (pe_op op_sub (pe_callB call_len_seq (by rfl) T.b_len (by decide +kernel) (pa_cons (pv 1) pa_nil)) pe_int))
         (pss_cons
          -- quotient = [0 for _ in range(max(len(rest) - size, 0))]
          (ps_setLc (i := 4) (own := [("_", 8)]) (g := gName 8) (tt := tYes) (by rfl) nd rfl rfl (sw_true rfl rfl rfl (by decide +kernel)) (pi_range1 (by rfl) T.b_range (pa_cons (pe_callB (call_max2 rfl) (by rfl) T.b_max (by decide +kernel) (pa_cons (pe_op op_sub (pe_callB call_len_seq (by rfl) T.b_len (by decide +kernel) (pa_cons (pv 2) pa_nil)) (pv 3)) (pa_cons pe_int pa_nil))) pa_nil)) (blkOk_by (own := [("_", 8)]) (N := ["poly", "by", "rest", "size", "quotient", "k", "c", "j", "_"]) (sc := HD.d_divided.scope) (by decide +kernel)) (fun _ _ _ _ _ => (pg_name (i := 8) nd rfl (.inl rfl))) (fun _ _ _ _ _ => pts_nil) (fun _ _ _ _ _ => pe_int))
         (pss_cons
          -- for k in range(len(quotient) - 1, -1, -1):
          (ps_for PassesOwn.never rfl (pi_range3 (by rfl) T.b_range (pa_cons (pe_op op_sub (pe_callB call_len_seq (by rfl) T.b_len (by decide +kernel) (pa_cons (pv 4) pa_nil)) pe_int) (pa_cons (pe_un un_neg pe_int) (pa_cons (pe_un un_neg pe_int) pa_nil)))) (pg_name (i := 5) nd rfl (.inl rfl)) (pss_cons
            -- c = rest[k + size]
            (ps_set (i := 6) nd rfl (.inl rfl) (pe_ix ix_list (pv 2) (pe_op op_add (pv 5) (pv 3)) (fun _ _ => rfl)))
           (pss_cons
            -- quotient[k] = c
            (ps_asg (pv 6) (pg_sub (pv 4) (pv 5) set_list))
           (pss_one
            -- if c != 0:
            (ps_if (pt_cmpR op_ne (pv 6) pe_int (nomark _)) (pss_one
              -- for j in range(size + 1):
              (ps_for PassesOwn.never rfl (pi_range1 (by rfl) T.b_range (pa_cons (pe_op op_add (pv 3) pe_int) pa_nil)) (pg_name (i := 7) nd rfl (.inl rfl)) (pss_one
                -- rest[k + j] = rest[k + j] - c * by[j]
                (ps_asg (pe_op op_sub (pe_ix ix_list (pv 2) (pe_op op_add (pv 5) (pv 7)) (fun _ _ => rfl)) (pe_op op_mul (pv 6) (pe_ix ix_tup (pv 1) (pv 7) (fun _ _ => rfl)))) (pg_sub (pv 2) (pe_op op_add (pv 5) (pv 7)) set_list))))) (pss_nil))))))
         (pss_one
          -- return (quotient, rest[:size])
          (ps_ret (pe_tup (pa_cons (pv 4) (pa_cons (pe_slice sl_list (pv 2) po_none (po_some (pv 3))) pa_nil)))))))), ?_⟩
      dsimp only [cxOf, Cx.wish]
      walk_at "rd"
      intro l hl
      walk_at "rd"
      rw [e2, e1]
      refine lcj_zeros nq (by omega) (by omega) (fun x => rfl) fun D H1 hD s1 hz => ?_
      have hlD : H1 l = some (.lst (intsV poly)) := s1 _ _ upd_same
      have sH : Same H H1 := (Same.new hl).trans s1
      have hDl : D ≠ l := fun e => by rw [e, upd_same] at hD; cases hD
      have hD0 : H D = none := by
        have z := hD
        rw [upd_ne hDl] at z
        exact z
      walk_at "rd"
      have e3 : (((intsV (List.replicate nq (0 : Int))).length : Int) - 1) = (nq : Int) - 1 := by
        rw [List.length_map, List.length_replicate]
      rw [e3]
      have rgc : RgC ((nq : Int) - 1) (-1) (-1) nq := by
        have z := RgC.neg (i := (nq : Int) - 1) (j := -1) (by omega) (by omega) (by omega) (by omega)
        rw [show ((nq : Int) - 1 - -1).toNat = nq by omega] at z
        exact z
      refine ⟨rgc, ?_⟩
      refine fj_down nq rfl (fun i σ H' => Same H H' ∧ H' D = some (.lst (intsV (divGo bys size nq (List.replicate nq 0, poly) i).1)) ∧ H' l = some (.lst (intsV (divGo bys size nq (List.replicate nq 0, poly) i).2)) ∧
        ∃ v5 v6 v7, σ = [some (.ref a), some (.ref b), some (.ref l), some (nV size), some (.ref D), v5, v6, v7, none]) ⟨sH, hz, hlD, none, none, none, rfl⟩ ?_ ?_
      · rintro i σ H' hi ⟨s2, hq, hr1, v5, v6, v7, rfl⟩
        have hb' := s2 _ _ hb
        have l1 := (hlen i).1
        have l2 := (hlen i).2
        dsimp only at l1 l2
        rw [List.length_replicate] at l1
        walk_at "rd"
        refine rd_set (nq - 1 - i) hq rfl (by rw [List.length_map, l1]; omega) ?_
        rw [set_ints]
        have hr2 : ∀ o, upd H' D (.lst o) l = some (.lst (intsV (divGo bys size nq (List.replicate nq 0, poly) i).2)) := fun o => by rw [upd_ne (Ne.symm hDl)]; exact hr1
        have s3 : ∀ o, Same H (upd H' D (.lst o)) := fun o => Same.mut s2 hD0
        walk_at "rd"
        refine if_ne (fun hne => ?_) (fun he => ?_)
        · walk_at "rd"
          have hE : divGo bys size nq (List.replicate nq 0, poly) (i + 1) = ((divGo bys size nq (List.replicate nq 0, poly) i).1.set (nq - 1 - i) ((divGo bys size nq (List.replicate nq 0, poly) i).2.getD (nq - 1 - i + size) 0),
              subRow (divGo bys size nq (List.replicate nq 0, poly) i).2 bys ((divGo bys size nq (List.replicate nq 0, poly) i).2.getD (nq - 1 - i + size) 0) (nq - 1 - i) (size + 1)) := by
            rw [divGo_succ]
            unfold divStep
            rw [if_neg hne]
          refine fj_rangeE (size + 1) (by omega) (fun j σ H2 => Same H H2 ∧ H2 D = some (.lst (intsV ((divGo bys size nq (List.replicate nq 0, poly) i).1.set (nq - 1 - i) ((divGo bys size nq (List.replicate nq 0, poly) i).2.getD (nq - 1 - i + size) 0)))) ∧
            H2 l = some (.lst (intsV (subRow (divGo bys size nq (List.replicate nq 0, poly) i).2 bys ((divGo bys size nq (List.replicate nq 0, poly) i).2.getD (nq - 1 - i + size) 0) (nq - 1 - i) j))) ∧
            ∃ v7, σ = [some (.ref a), some (.ref b), some (.ref l), some (nV size), some (.ref D), some (nV (nq - 1 - i)), some (.int ((divGo bys size nq (List.replicate nq 0, poly) i).2.getD (nq - 1 - i + size) 0)), v7, none])
            ⟨s3 _, upd_same, hr2 _, _, rfl⟩ ?_ ?_
          · rintro j σ H2 hj ⟨s4, hq4, hr4, v7, rfl⟩
            have hb4 := s4 _ _ hb
            have l4 : (subRow (divGo bys size nq (List.replicate nq 0, poly) i).2 bys ((divGo bys size nq (List.replicate nq 0, poly) i).2.getD (nq - 1 - i + size) 0) (nq - 1 - i) j).length = poly.length := by rw [subRow_len, l2]
            have hsm := hs.at_ j
            have hjb : j < bys.length := by omega
            walk_at "rd"
            refine rd_set (nq - 1 - i + j) hr4 (by push_cast; rfl) (by rw [List.length_map, l4]; omega) ?_
            rw [set_ints]
            refine at_i ⟨Same.mut s4 hl, ?_, ?_, _, rfl⟩
            · rw [upd_ne hDl]
              exact hq4
            · rw [subRow_succ]
              exact upd_same
          · rintro σ H2 ⟨s4, hq4, hr4, v7, rfl⟩
            dsimp only
            refine at_i ⟨s4, ?_, ?_, _, _, _, rfl⟩
            · rw [hE]
              exact hq4
            · rw [hE]
              exact hr4
        · walk_at "rd"
          have hE : divGo bys size nq (List.replicate nq 0, poly) (i + 1) = ((divGo bys size nq (List.replicate nq 0, poly) i).1.set (nq - 1 - i) ((divGo bys size nq (List.replicate nq 0, poly) i).2.getD (nq - 1 - i + size) 0), (divGo bys size nq (List.replicate nq 0, poly) i).2) := by
            rw [divGo_succ]
            unfold divStep
            rw [if_pos he]
          refine at_i ⟨s3 _, ?_, ?_, _, _, _, rfl⟩
          · rw [hE]
            exact upd_same
          · rw [hE]
            exact hr2 _
      · rintro σ H' ⟨s2, hq, hr1, v5, v6, v7, rfl⟩
        walk_at "rd"
        intro r hr0
        walk_at "rd"
        intro t ht0
        have e9 := cut_take (divGo bys size nq (List.replicate nq 0, poly) nq).2 size
        refine k t D r _ ((s2.trans (Same.new hr0)).trans (Same.new ht0)) (none_of (s2.trans (Same.new hr0)) ht0) hD0 (none_of s2 hr0) upd_same (upd_old ht0 (upd_old hr0 hq)) (upd_old ht0 ?_)
        rw [← e9]
        exact upd_same
end
end L2.KL
set_option Elab.async false
set_option linter.all false
set_option maxRecDepth 100000
set_option maxHeartbeats 4000000
namespace L2.KL
open PySem PySem.Spec PyProof.Rows
local macro_rules | `(tactic| walk_at "hp") => `(tactic| first
  | assumption
  | (apply Same.get; (· assumption); (· walk_at "hp")))
local macro_rules | `(tactic| walk_at "cl") => `(tactic| first
  | (with_reducible rfl)
  | (apply SqT.of; walk_at "hp")
  | (apply Or.inl; apply SqL.of; walk_at "hp")
  | (apply Or.inr; apply SqT.of; walk_at "hp")
  | (apply exT; walk_at "hp")
  | (apply sz_nat; simp only [List.length_map, List.length_append, List.length_cons, List.length_nil]; omega)
  | omega
  | (simp only [List.length_map]; omega)
  | exact rfl)
local macro_rules | `(tactic| walk_at "r1") => `(tactic| first
  | (with_reducible refine rd_seq ?_)
  | ((with_reducible apply rd_var); (· exact rfl))
  | (with_reducible refine rd_c ?_)
  | (with_reducible refine rd_op ?_)
  | (with_reducible refine rd_cb ?_)
  | (with_reducible refine rd_cons ?_)
  | (with_reducible refine rd_nil ?_)
  | (with_reducible refine rd_call ?_)
  | (with_reducible refine rd_lst ?_)
  | (with_reducible refine rd_asg ?_)
  | (with_reducible refine rd_name ?_)
  | (with_reducible refine rd_ret ?_)
  | (with_reducible refine rd_un ?_)
  | (with_reducible refine rd_I0 ?_)
  | ((with_reducible apply rd_I); (· first | assumption | (dsimp only; omega) | omega | (unfold CMul; omega) | (unfold CDiv; omega)))
  | ((with_reducible apply rd_ixT); (· walk_at "hp"); (· walk_at "at"))
  | ((with_reducible apply rd_ixL); (· walk_at "hp"); (· walk_at "at"))
  | (with_reducible refine rd_for ?_)
  | (with_reducible refine rd_iTup ?_)
  | (with_reducible refine rd_iRng1 ?_)
  | (with_reducible refine rd_lc ?_)
  | (with_reducible refine rd_rU ?_)
  | (with_reducible refine rd_gsub ?_)
  | (with_reducible refine rd_gtup ?_)
  | (with_reducible refine rd_gcons ?_)
  | (with_reducible refine rd_gnil ?_)
  | ((with_reducible apply or_tl); (· walk_at "hp"))
  | (with_reducible apply Exists.intro)
  | ((with_reducible refine And.intro ?_ ?_); (· walk_at "cl")))
local macro_rules | `(tactic| walk_at "at") => `(tactic| first
  | (apply at_ints; first | assumption | omega)
  | exact rfl)
local macro_rules | `(tactic| walk_at "rd") => `(tactic| ((repeat walk_at "r1"); (try dsimp only [List.set])))
def spreadN (p : Nat) : Nat → List Int → List Int
  | 0, q => q
  | n + 1, q => spreadN p n (spreadM q p)
def cycStep (q : List Int) (pk : Nat × Nat) : List Int := spreadN pk.1 (pk.2 - 1) (divM (spreadM q pk.1) q).1
def cycM (ps : List (Nat × Nat)) : List Int := ps.foldl cycStep [-1, 1]
def lenOk (q : List Int) : Bool := decide (1 ≤ q.length ∧ q.length ≤ 200)
def smallB (q : List Int) : Bool := q.all fun x => decide (-1000 ≤ x ∧ x ≤ 1000)
theorem smallB_ok {q : List Int} (h : smallB q = true) : Small q := fun x hx => of_decide_eq_true (List.all_eq_true.mp h x hx)
def iterGood (p : Nat) : Nat → List Int → Bool
  | 0, _ => true
  | n + 1, q => lenOk q && iterGood p n (spreadM q p)
def cycGood : List (Nat × Nat) → List Int → Bool
  | [], _ => true
  | (p, k) :: r, q => lenOk q && (smallB q && (decide (p ≤ 100 ∧ 1 ≤ k ∧ k ≤ 100) && (iterGood p (k - 1) (divM (spreadM q p) q).1 && cycGood r (cycStep q (p, k)))))
theorem and4 {a b c d e : Bool} (h : (a && (b && (c && (d && e)))) = true) : a = true ∧ b = true ∧ c = true ∧ d = true ∧ e = true := by
  revert h
  cases a <;> cases b <;> cases c <;> cases d <;> cases e <;> decide
theorem spreadM_len (q : List Int) (p : Nat) : (spreadM q p).length = (q.length - 1) * p + 1 := by
  unfold spreadM
  rw [setL_len, List.length_replicate]
section
variable {P : Program} {w : World} {K : PySem.W.Frag} {mg : Str → Option Value} {base : Heap}
def spCyc : Sp := fun vs H Q _ => ∃ (e : Nat) (ps : List (Nat × Nat)), vs = [nV e] ∧ e ≤ 5000 ∧ ps.length ≤ 100 ∧ pp e = some ps ∧ cycGood ps [-1, 1] = true ∧ (cycM ps).length ≤ 100000 ∧ ∀ t H', H t = none → Same H H' → H' t = some (.tup (intsV (cycM ps))) → Q (.ref t) H'
theorem sc_cyclotomic : FnScope ["e", "poly", "p", "k", "_"] ["e"] HD.d_cyclotomic.scope := ⟨rfl, rfl, rfl, by decide +kernel, rfl, by decide +kernel, by decide +kernel⟩
theorem ok_cyc (T : Tx K mg) : Ok P w K mg base CX0 2 HD.d_cyclotomic ["e"] spCyc := by
  have G_prime_powers : Ok P w K mg base CX0 1 _ _ _ := ok_pp T
  have G_spread : Ok P w K mg base CX0 1 _ _ _ := ok_spread T
  have G_divided : Ok P w K mg base CX0 1 _ _ _ := ok_divided T
  have nd := sc_cyclotomic.nd
  refine Ok.mk0 T fn__cyclotomic rfl sc_cyclotomic (fun vs H Q E h => ?_) (fun _ _ _ _ _ _ us hl => match us, hl with | [_], _ => rfl) (fun cdv A outer s H vs Q E hr h => ?_)
  · obtain ⟨e, ps, rfl, _⟩ := h
    rfl
  · obtain ⟨e, ps, rfl, he, hpl, hpp, hg, hcl, k⟩ := h
    refine ⟨_, pss_cons
          -- poly = [-1, 1]
          (ps_set (i := 1) nd rfl (.inl rfl) (pe_lst (pa_cons (pe_un un_neg pe_int) (pa_cons pe_int pa_nil))))
         (pss_cons
          -- for p, k in prime_powers(e):
          (ps_for PassesOwn.never rfl (pi_tup (pe_f (G_prime_powers) (hr.mono (by decide)) T.g_prime_powers pass0 (pa_cons (pv 0) pa_nil))) (pg_tup rfl (pgs_cons (pg_name (i := 2) nd rfl (.inl rfl)) (pgs_cons (pg_name (i := 3) nd rfl (.inl rfl)) pgs_nil))) (pss_cons
            -- poly = divided(spread(poly, p), poly)[0]
            (ps_set (i := 1) nd rfl (.inl rfl) (pe_ix ix_tup (pe_f (G_divided) (hr.mono (by decide)) T.g_divided pass0 (pa_cons (pe_f (G_spread) (hr.mono (by decide)) T.g_spread pass0 (pa_cons (pv 1) (pa_cons (pv 2) pa_nil))) (pa_cons (pv 1) pa_nil))) pe_int (fun _ _ => rfl)))
           (pss_one
            -- for _ in range(k - 1):
            (ps_for PassesOwn.never rfl (pi_range1 (by rfl) T.b_range (pa_cons (pe_op op_sub (pv 3) pe_int) pa_nil)) (pg_name (i := 4) nd rfl (.inl rfl)) (pss_one
              -- poly = spread(poly, p)
              (ps_set (i := 1) nd rfl (.inl rfl) (pe_f (G_spread) (hr.mono (by decide)) T.g_spread pass0 (pa_cons (pv 1) (pa_cons (pv 2) pa_nil)))))))))
         (pss_one
          -- return tuple(poly)
          (ps_ret (pe_callTy call_tuple_of (by rfl) T.b_tuple (by decide +kernel) (pa_cons (pv 1) pa_nil))))), ?_⟩
    dsimp only [cxOf, Cx.wish]
    walk_at "rd"
    intro l hl
    walk_at "rd"
    refine ⟨e, ps, rfl, he, hpp, fun a H1 s1 hps => ?_⟩
    obtain ⟨ts, ha, hall⟩ := hps
    have sH : Same H H1 := (Same.new hl).trans s1
    walk_at "rd"
    refine fj_tup (xs := refsV ts) (fun i σ H' => Same H1 H' ∧ ∃ (q : List Int) (b : Addr) (v2 v3 v4 : Option V), σ = [some (nV e), some (.ref b), v2, v3, v4] ∧ H' b = some (.lst (intsV q)) ∧ cycGood (ps.drop i) q = true ∧ (ps.drop i).foldl cycStep q = cycM ps)
      ⟨Same.refl _, [-1, 1], l, none, none, none, rfl, s1 _ _ upd_same, hg, rfl⟩ (fun i σ H' _ z => SqT.of (z.1 _ _ ha)) ?_ ?_
    · rintro i x σ H' hx ⟨s2, q, b, v2, v3, v4, rfl, hb, hgi, hfi⟩
      have hi : i < ps.length := by
        have := (List.getElem?_eq_some_iff.mp hx).1
        rw [List.length_map] at this
        rw [← hall.1]
        exact this
      obtain ⟨t, ht, hp⟩ := hall.get (List.getElem?_eq_getElem hi)
      rw [List.getElem?_map, ht] at hx
      have hx' : V.ref t = x := by simpa using hx
      subst hx'
      obtain ⟨⟨p, kk⟩, hpk⟩ : ∃ z, ps[i] = z := ⟨_, rfl⟩
      rw [hpk] at hp
      have hp' : H1 t = some (.tup [nV p, nV kk]) := hp
      have hp2 := s2 _ _ hp'
      rw [List.drop_eq_getElem_cons hi, hpk] at hgi hfi
      obtain ⟨g1, g2, g3, g4, g5⟩ := and4 hgi
      have g1' := of_decide_eq_true g1
      have g3' := of_decide_eq_true g3
      walk_at "rd"
      refine ⟨b, q, p, rfl, hb, g1'.1, g1'.2, g3'.1, fun b2 H2 hb2 s3 hq2 => ?_⟩
      have hb' := s3 _ _ hb
      have e1 := spreadM_len q p
      have e2 : (q.length - 1) * p ≤ 199 * 100 := Nat.mul_le_mul (by omega) g3'.1
      walk_at "rd"
      refine ⟨b2, b, spreadM q p, q, rfl, hq2, .inl hb', g1'.1, by omega, by omega, smallB_ok g2, fun t2 q2 r2 H3 s4 _ _ _ h4 h5 _ => ?_⟩
      walk_at "rd"
      have s34 : Same H1 H3 := (s2.trans s3).trans s4
      refine fj_rangeE (kk - 1) (by omega) (fun j σ H' => Same H1 H' ∧ ∃ (q' : List Int) (b : Addr) (v4 : Option V), σ = [some (nV e), some (.ref b), some (nV p), some (nV kk), v4] ∧ H' b = some (.lst (intsV q')) ∧ iterGood p (kk - 1 - j) q' = true ∧ spreadN p (kk - 1 - j) q' = cycStep q (p, kk))
        ⟨s34, _, q2, v4, rfl, h5, g4, rfl⟩ ?_ ?_
      · rintro j σ H4 hj ⟨s5, q', b', v5, rfl, hb4, gg, ff⟩
        rw [show kk - 1 - j = (kk - 1 - (j + 1)) + 1 by omega] at gg ff
        obtain ⟨gg1, gg2⟩ := Bool.and_eq_true_iff.mp (show (lenOk q' && iterGood p (kk - 1 - (j + 1)) (spreadM q' p)) = true from gg)
        have gg1' := of_decide_eq_true gg1
        walk_at "rd"
        refine ⟨b', q', p, rfl, hb4, gg1'.1, gg1'.2, g3'.1, fun b6 H6 _ s6 hq6 => ?_⟩
        walk_at "rd"
        exact at_i ⟨s5.trans s6, _, _, _, rfl, hq6, gg2, ff⟩
      · rintro σ H4 ⟨s5, q', b', v5, rfl, hb4, gg, ff⟩
        rw [show kk - 1 - (kk - 1) = 0 by omega] at ff
        have ff' : q' = cycStep q (p, kk) := ff
        subst ff'
        dsimp only
        exact at_i ⟨s5, _, _, _, _, _, rfl, hb4, g5, hfi⟩
    · rintro σ H' ⟨s2, q, b, v2, v3, v4, rfl, hb, hgi, hfi⟩
      rw [List.length_map, hall.1, List.drop_of_length_le (Nat.le_refl _)] at hfi
      have hfi' : q = cycM ps := hfi
      subst hfi'
      walk_at "rd"
      intro t ht
      exact k t _ (none_of (sH.trans s2) ht) ((sH.trans s2).trans (Same.new ht)) upd_same
/-! folded -/
def addL (l : List Int) (f : Nat → Nat) (g : Nat → Int) (n : Nat) : List Int := (List.range n).foldl (fun l k => l.set (f k) (l.getD (f k) 0 + g k)) l
theorem addL_succ (l : List Int) (f : Nat → Nat) (g : Nat → Int) (n : Nat) : addL l f g (n + 1) = (addL l f g n).set (f n) ((addL l f g n).getD (f n) 0 + g n) := by
  unfold addL
  rw [List.range_succ, List.foldl_append]
  rfl
theorem addL_len (l : List Int) (f : Nat → Nat) (g : Nat → Int) : ∀ n, (addL l f g n).length = l.length
  | 0 => rfl
  | n + 1 => by rw [addL_succ, List.length_set, addL_len l f g n]
def cycE (e : Nat) : List Int := cycM ((pp e).getD [])
def accM (e : Nat) (items : List Int) : List Int := addL (List.replicate e 0) (fun k => k % e) (fun k => items.getD k 0) items.length
def foldM (e : Nat) (items : List Int) : List Int := (divM (accM e items) (cycE e)).2.take ((cycE e).length - 1)
/-- what the folding asks of its order -/
structure EOk (e : Nat) : Prop where
  pos : 1 ≤ e
  le : e ≤ 200
  pp : ∃ ps, pp e = some ps ∧ ps.length ≤ 100 ∧ cycGood ps [-1, 1] = true
  len : 1 ≤ (cycE e).length ∧ (cycE e).length ≤ 200
  small : smallB (cycE e) = true
def eGood (e : Nat) : Bool := decide (1 ≤ e ∧ e ≤ 200) && (match L2.KL.pp e with | none => false | some ps => decide (ps.length ≤ 100) && (cycGood ps [-1, 1] && (lenOk (cycM ps) && smallB (cycM ps))))
theorem eGood_ok {e : Nat} (h : eGood e = true) : EOk e := by
  unfold eGood at h
  obtain ⟨h1, h2⟩ := Bool.and_eq_true_iff.mp h
  cases q : L2.KL.pp e with
  | none => rw [q] at h2; cases h2
  | some ps =>
    rw [q] at h2
    have h3 : (decide (ps.length ≤ 100) && (cycGood ps [-1, 1] && (lenOk (cycM ps) && smallB (cycM ps)))) = true := h2
    obtain ⟨a1, a2⟩ := Bool.and_eq_true_iff.mp h3
    obtain ⟨a3, a4⟩ := Bool.and_eq_true_iff.mp a2
    obtain ⟨a5, a6⟩ := Bool.and_eq_true_iff.mp a4
    have b1 := of_decide_eq_true h1
    have b2 : cycE e = cycM ps := by
      unfold cycE
      rw [q]
      rfl
    exact ⟨b1.1, b1.2, ⟨ps, q, of_decide_eq_true a1, a3⟩, by rw [b2]; exact of_decide_eq_true a5, by rw [b2]; exact a6⟩
def divs60 : List Nat := [1, 2, 3, 4, 5, 6, 10, 12, 15, 20, 30, 60]
theorem eok {e : Nat} (h : e ∈ divs60) : EOk e := by
  have a : divs60.all eGood = true := by decide +kernel
  exact eGood_ok (List.all_eq_true.mp a e h)
def spFold : Sp := fun vs H Q _ => ∃ (e : Nat) (a : Addr) (items : List Int), vs = [nV e, .ref a] ∧ EOk e ∧ LstOrTup H a (intsV items) ∧ items.length ≤ 50000 ∧ ∀ b H', H b = none → Same H H' → H' b = some (.lst (intsV (foldM e items))) → Q (.ref b) H'
theorem sc_folded : FnScope ["e", "items", "total", "k", "_"] ["e", "items"] HD.d_folded.scope := ⟨rfl, rfl, rfl, by decide +kernel, rfl, by decide +kernel, by decide +kernel⟩
theorem ok_folded (T : Tx K mg) : Ok P w K mg base CX0 3 HD.d_folded ["e", "items"] spFold := by
  have G_cyclotomic : Ok P w K mg base CX0 2 _ _ _ := ok_cyc T
  have G_divided : Ok P w K mg base CX0 1 _ _ _ := ok_divided T
  have nd := sc_folded.nd
  refine Ok.mk0 T fn__folded rfl sc_folded (fun vs H Q E h => ?_) (fun _ _ _ _ _ _ us hl => match us, hl with | [_, _], _ => rfl) (fun cdv A outer s H vs Q E hr h => ?_)
  · obtain ⟨e, a, items, rfl, _⟩ := h
    rfl
  · obtain ⟨e, a, items, rfl, he, ha, hil, k⟩ := h
    have e1 := he.pos
    have e2 := he.le
    rcases ha with ha | ha
    · refine ⟨_, pss_cons
          -- total = [0 for _ in range(e)]
          (ps_setLc (i := 2) (own := [("_", 4)]) (g := gName 4) (tt := tYes) (by rfl) nd rfl rfl (sw_true rfl rfl rfl (by decide +kernel)) (pi_range1 (by rfl) T.b_range (pa_cons (pv 0) pa_nil)) (blkOk_by (own := [("_", 4)]) (N := ["e", "items", "total", "k", "_"]) (sc := HD.d_folded.scope) (by decide +kernel)) (fun _ _ _ _ _ => (pg_name (i := 4) nd rfl (.inl rfl))) (fun _ _ _ _ _ => pts_nil) (fun _ _ _ _ _ => pe_int))
         (pss_cons
          -- for k in range(len(items)):
          (ps_for PassesOwn.never rfl (pi_range1 (by rfl) T.b_range (pa_cons (pe_callB call_len_seq (by rfl) T.b_len (by decide +kernel) (pa_cons (pv 1) pa_nil)) pa_nil)) (pg_name (i := 3) nd rfl (.inl rfl)) (pss_one
            -- total[k % e] = total[k % e] + items[k]
            (ps_asg (pe_op op_add (pe_ix ix_list (pv 2) (pe_op op_mod (pv 3) (pv 0)) (fun _ _ => rfl)) (pe_ix ix_list (pv 1) (pv 3) (fun _ _ => rfl))) (pg_sub (pv 2) (pe_op op_mod (pv 3) (pv 0)) set_list))))
         (pss_one
          -- return divided(total, cyclotomic(e))[1]
          (ps_ret (pe_ix ix_tup (pe_f (G_divided) (hr.mono (by decide)) T.g_divided pass0 (pa_cons (pv 2) (pa_cons (pe_f (G_cyclotomic) (hr.mono (by decide)) T.g_cyclotomic pass0 (pa_cons (pv 0) pa_nil)) pa_nil))) pe_int (fun _ _ => rfl))))), ?_⟩
      dsimp only [cxOf, Cx.wish]
      walk_at "rd"
      refine lcj_zeros e rfl (by omega) (fun x => rfl) fun D H1 hD s1 h3 => ?_
      walk_at "rd"
      refine fj_rangeE items.length (by rw [List.length_map]; rfl) (fun i σ H' => Same H H' ∧ H' D = some (.lst (intsV (addL (List.replicate e 0) (fun k => k % e) (fun k => items.getD k 0) i))) ∧ ∃ v3, σ = [some (nV e), some (.ref a), some (.ref D), v3, none]) ⟨s1, h3, none, rfl⟩ ?_ ?_
      · rintro i σ H' hi ⟨s2, hD2, v3, rfl⟩
        have ha' := s2 _ _ ha
        have hme : i % e < e := Nat.mod_lt _ (by omega)
        have hl2 : i % e < (addL (List.replicate e 0) (fun k => k % e) (fun k => items.getD k 0) i).length := by rw [addL_len, List.length_replicate]; exact hme
        walk_at "rd"
        refine rd_set (i % e) hD2 (by push_cast; rfl) (by rw [List.length_map]; exact hl2) ?_
        rw [set_ints]
        refine at_i ⟨Same.mut s2 hD, ?_, _, rfl⟩
        rw [addL_succ]
        exact upd_same
      · rintro σ H' ⟨s2, hD2, v3, rfl⟩
        obtain ⟨ps, hpp, hpl, hg⟩ := he.pp
        have hE : cycE e = cycM ps := by
          unfold cycE
          rw [hpp]
          rfl
        have hL := he.len
        have hS := smallB_ok he.small
        rw [hE] at hL hS
        walk_at "rd"
        refine ⟨e, ps, rfl, by omega, hpl, hpp, hg, by omega, fun t H3 ht s3 h4 => ?_⟩
        walk_at "rd"
        refine ⟨D, t, accM e items, cycM ps, rfl, s3 _ _ hD2, .inr h4, hL.1, by omega, ?_, hS, fun t2 q2 r2 H4 s4 _ _ hr2 h5 _ h6 => ?_⟩
        · unfold accM
          rw [addL_len, List.length_replicate]
          omega
        · walk_at "rd"
          refine k r2 H4 (none_of (s2.trans s3) hr2) ((s2.trans s3).trans s4) ?_
          unfold foldM
          rw [hE]
          exact h6
    · refine ⟨_, pss_cons
          -- total = [0 for _ in range(e)]
          (ps_setLc (i := 2) (own := [("_", 4)]) (g := gName 4) (tt := tYes) (by rfl) nd rfl rfl (sw_true rfl rfl rfl (by decide +kernel)) (pi_range1 (by rfl) T.b_range (pa_cons (pv 0) pa_nil)) (blkOk_by (own := [("_", 4)]) (N := ["e", "items", "total", "k", "_"]) (sc := HD.d_folded.scope) (by decide +kernel)) (fun _ _ _ _ _ => (pg_name (i := 4) nd rfl (.inl rfl))) (fun _ _ _ _ _ => pts_nil) (fun _ _ _ _ _ => pe_int))
         (pss_cons
          -- for k in range(len(items)):
          (ps_for PassesOwn.never rfl (pi_range1 (by rfl) T.b_range (pa_cons (pe_callB call_len_seq (by rfl) T.b_len (by decide +kernel) (pa_cons (pv 1) pa_nil)) pa_nil)) (pg_name (i := 3) nd rfl (.inl rfl)) (pss_one
            -- total[k % e] = total[k % e] + items[k]
            (ps_asg (pe_op op_add (pe_ix ix_list (pv 2) (pe_op op_mod (pv 3) (pv 0)) (fun _ _ => rfl)) (pe_ix ix_tup (pv 1) (pv 3) (fun _ _ => rfl))) (pg_sub (pv 2) (pe_op op_mod (pv 3) (pv 0)) set_list))))
         (pss_one
          -- return divided(total, cyclotomic(e))[1]
          (ps_ret (pe_ix ix_tup (pe_f (G_divided) (hr.mono (by decide)) T.g_divided pass0 (pa_cons (pv 2) (pa_cons (pe_f (G_cyclotomic) (hr.mono (by decide)) T.g_cyclotomic pass0 (pa_cons (pv 0) pa_nil)) pa_nil))) pe_int (fun _ _ => rfl))))), ?_⟩
      dsimp only [cxOf, Cx.wish]
      walk_at "rd"
      refine lcj_zeros e rfl (by omega) (fun x => rfl) fun D H1 hD s1 h3 => ?_
      walk_at "rd"
      refine fj_rangeE items.length (by rw [List.length_map]; rfl) (fun i σ H' => Same H H' ∧ H' D = some (.lst (intsV (addL (List.replicate e 0) (fun k => k % e) (fun k => items.getD k 0) i))) ∧ ∃ v3, σ = [some (nV e), some (.ref a), some (.ref D), v3, none]) ⟨s1, h3, none, rfl⟩ ?_ ?_
      · rintro i σ H' hi ⟨s2, hD2, v3, rfl⟩
        have ha' := s2 _ _ ha
        have hme : i % e < e := Nat.mod_lt _ (by omega)
        have hl2 : i % e < (addL (List.replicate e 0) (fun k => k % e) (fun k => items.getD k 0) i).length := by rw [addL_len, List.length_replicate]; exact hme
        walk_at "rd"
        refine rd_set (i % e) hD2 (by push_cast; rfl) (by rw [List.length_map]; exact hl2) ?_
        rw [set_ints]
        refine at_i ⟨Same.mut s2 hD, ?_, _, rfl⟩
        rw [addL_succ]
        exact upd_same
      · rintro σ H' ⟨s2, hD2, v3, rfl⟩
        obtain ⟨ps, hpp, hpl, hg⟩ := he.pp
        have hE : cycE e = cycM ps := by
          unfold cycE
          rw [hpp]
          rfl
        have hL := he.len
        have hS := smallB_ok he.small
        rw [hE] at hL hS
        walk_at "rd"
        refine ⟨e, ps, rfl, by omega, hpl, hpp, hg, by omega, fun t H3 ht s3 h4 => ?_⟩
        walk_at "rd"
        refine ⟨D, t, accM e items, cycM ps, rfl, s3 _ _ hD2, .inr h4, hL.1, by omega, ?_, hS, fun t2 q2 r2 H4 s4 _ _ hr2 h5 _ h6 => ?_⟩
        · unfold accM
          rw [addL_len, List.length_replicate]
          omega
        · walk_at "rd"
          refine k r2 H4 (none_of (s2.trans s3) hr2) ((s2.trans s3).trans s4) ?_
          unfold foldM
          rw [hE]
          exact h6
end
end L2.KL
set_option Elab.async false
set_option linter.all false
set_option maxRecDepth 100000
set_option maxHeartbeats 4000000
namespace L2.KL
open PySem PySem.Spec PyProof.Rows
section
variable {K : PySem.W.Frag} {a b : Addr} {xs : List V} {g : TG} {tt : TT} {te : TE} {vs : List Nat} {σ : St} {H H1 : Hp} {Q : VK} {wi : TI} {j : Nat} {J : It} {ta : TA}
theorem rd_par3 {D : Ends} {tr : TA} {i j l : Nat} (h : tr σ H fun vs H1 => ∃ u v w, vs = [u, v, w] ∧ D.nx (((σ.set i (some u)).set j (some v)).set l (some w)) H1) : tPar3 i j l tr D σ H := h
theorem rd_cat {l : Addr} {zs : List V} (h1 : H l = some (.lst xs)) (h2 : H b = some (.lst zs)) (hl : xs.length + zs.length ≤ 100000) (q : ∀ p, H p = none → Q (.ref p) (upd H p (.lst (xs ++ zs)))) : rCat (.ref l) (.ref b) H Q :=
  ⟨l, b, xs, zs, rfl, rfl, h1, h2, by rw [sizeLine_eq]; omega, q⟩
theorem rd_iZip {R : It → Hp → Prop} (h : ta σ H fun vs H1 => ∃ a b xs ys, vs = [.ref a, .ref b] ∧ SqL K H1 a xs ∧ SqL K H1 b ys ∧ R (Itz K a b) H1) : iZip K ta σ H R := h
theorem rd_iEnum {R : It → Hp → Prop} (h : ta σ H fun vs H1 => ∃ a xs, vs = [.ref a] ∧ SqL K H1 a xs ∧ R (Ite K a) H1) : iEnum K ta σ H R := h
/-- any comprehension over a walk -/
theorem lcj_it {n : Nat} {G : Hp → Prop} {Y : Nat → Hp → V → Hp → Prop} (w : Walk J n G Y) (Pv : Addr → Nat → Hp → Prop) (h0 : ∀ D, H1 D = none → Pv D 0 (upd H1 D (.lst []))) (hG : ∀ D i H, i ≤ n → Pv D i H → G H)
    (hs : ∀ D i x H H', H1 D = none → i < n → Pv D i H → Y i H x H' → g x (wipe σ vs) H' fun σ2 H2 => wipe σ2 vs = wipe σ vs ∧ tt σ2 H2 fun b H3 =>
      if b = true then te σ2 H3 fun y H4 => ∃ acc, H4 D = some (.lst acc) ∧ acc.length < sizeLine ∧ Pv D (i + 1) (upd H4 D (.lst (acc ++ [y]))) else Pv D (i + 1) H3) (hd : ∀ D H, H1 D = none → Pv D n H → Q (.ref D) H) : LcJ J g tt te vs σ Q H1 :=
  fun D hD => lc_it w (Pv D) (h0 D hD) (hG D) (fun i x H H' hi p y => hs D i x H H' hD hi p y) (fun H p => hd D H hD p)
/-- the items of a step range -/
theorem lcj_rangeC {lo c : Int} (n : Nat) (f : Nat → V) (hn : n ≤ 100000) (hw : ∀ x, wipe ((wipe σ vs).set j (some x)) vs = wipe σ vs)
    (he : ∀ (i : Nat) (H : Hp), i < n → Same H1 H → ∀ Q' : VK, (∀ H2, Same H H2 → Q' (f i) H2) → te ((wipe σ vs).set j (some (.int (lo + (i : Nat) * c)))) H Q')
    (k : ∀ D H, H1 D = none → Same H1 H → H D = some (.lst ((List.range n).map f)) → Q (.ref D) H) : LcJ (Itc lo c n) (gName j) tYes te vs σ Q H1 := by
  refine lcj_it (n := n) walk_rangeC (fun D i H => Same H1 H ∧ i ≤ n ∧ H D = some (.lst ((List.range i).map f))) (fun D hD => ⟨Same.new hD, Nat.zero_le _, upd_same⟩) (fun _ _ _ _ _ => trivial) ?_ (fun D H hD p => k D H hD p.1 p.2.2)
  rintro D i x H H' hD hi ⟨s, _, hl⟩ ⟨rfl, rfl⟩
  refine ⟨hw _, tyes ?_⟩
  refine he i H' hi s _ fun H2 s2 => ⟨_, s2 _ _ hl, ?_, Same.mut (s.trans s2) hD, hi, ?_⟩
  · rw [List.length_map, List.length_range, sizeLine_eq]
    omega
  · rw [List.range_succ, List.map_append]
    exact upd_same
/-- new lists, one by turn: what stands at D and at each of them -/
def LstsAt (H : Hp) (bs : List Addr) (f : Nat → List V) : Prop := ∀ (i : Nat) b, bs[i]? = some b → H b = some (.lst (f i))
theorem lcj_lists {n : Nat} {f : Nat → List V} (hn : n ≤ 100000) (hw : ∀ x, wipe ((wipe σ vs).set j (some x)) vs = wipe σ vs) {G : Hp → Prop} {xv : Nat → V} (w : Walk J n G (YFn xv)) (hG : ∀ H, Same H1 H → G H)
    (he : ∀ (i : Nat) (H : Hp), i < n → Same H1 H → ∀ Q' : VK, (∀ b H2, H b = none → Same H H2 → H2 b = some (.lst (f i)) → Q' (.ref b) H2) → te ((wipe σ vs).set j (some (xv i))) H Q')
    (k : ∀ D H bs, H1 D = none → Same H1 H → H D = some (.lst (refsV bs)) → bs.length = n → LstsAt H bs f → Q (.ref D) H) : LcJ J (gName j) tYes te vs σ Q H1 := by
  refine lcj_it w (fun D i H => Same H1 H ∧ i ≤ n ∧ ∃ bs : List Addr, H D = some (.lst (refsV bs)) ∧ bs.length = i ∧ LstsAt H bs f ∧ ∀ b ∈ bs, b ≠ D) (fun D hD => ⟨Same.new hD, Nat.zero_le _, [], upd_same, rfl, fun i b h => by simp at h, fun b h => by cases h⟩) (fun D i H _ p => hG H p.1) ?_ ?_
  · rintro D i x H H' hD hi ⟨s, _, bs, hl, hb, hL, hne⟩ ⟨rfl, rfl⟩
    refine ⟨hw _, tyes ?_⟩
    refine he i H' hi s _ fun b H2 hb0 s2 hb2 => ⟨_, s2 _ _ hl, ?_, Same.mut (s.trans s2) hD, hi, bs ++ [b], ?_, ?_, ?_, ?_⟩
    · rw [List.length_map, sizeLine_eq]
      omega
    · rw [upd_same]
      show some (HO.lst (refsV bs ++ [V.ref b])) = some (HO.lst ((bs ++ [b]).map V.ref))
      rw [List.map_append]
      rfl
    · rw [List.length_append, hb]
      rfl
    · intro m c hc
      have hbD : b ≠ D := by
        rintro rfl
        rw [hl] at hb0
        cases hb0
      by_cases hm : m < bs.length
      · rw [List.getElem?_append_left hm] at hc
        rw [upd_ne (hne c (List.mem_of_getElem? hc))]
        exact s2 _ _ (hL m c hc)
      · rw [List.getElem?_append_right (by omega)] at hc
        have hl' := (List.getElem?_eq_some_iff.mp hc).1
        simp at hl'
        have e0 : m - bs.length = 0 := by omega
        rw [e0] at hc
        have e1 : b = c := by simpa using hc
        subst e1
        rw [upd_ne hbD]
        have e2 : m = i := by omega
        rw [e2]
        exact hb2
    · intro c hc
      rcases List.mem_append.mp hc with h | h
      · exact hne c h
      · have : c = b := by simpa using h
        subst this
        rintro rfl
        rw [hl] at hb0
        cases hb0
  · rintro D H hD ⟨s, _, bs, hl, hb, hL, _⟩
    exact k D H bs hD s hl hb hL
theorem zipW_snoc {α β γ : Type} (f : α → β → γ) (xs : List α) (ys : List β) (i : Nat) {x : α} {y : β} (hx : xs[i]? = some x) (hy : ys[i]? = some y) : List.zipWith f (xs.take (i + 1)) (ys.take (i + 1)) = List.zipWith f (xs.take i) (ys.take i) ++ [f x y] := by
  rw [List.take_add_one, List.take_add_one, hx, hy]
  have h1 := (List.getElem?_eq_some_iff.mp hx).1
  have h2 := (List.getElem?_eq_some_iff.mp hy).1
  simp only [Option.toList_some]
  rw [List.zipWith_append (by rw [List.length_take, List.length_take]; omega)]
  rfl
/-- over two lists of numbers at once -/
theorem lcj_zip {xs ys : List Int} {i1 i2 : Nat} {f : Int → Int → Int} (ha : SqL K H1 a (intsV xs)) (hb : SqL K H1 b (intsV ys)) (hn : xs.length ≤ 100000)
    (hw : ∀ x y, wipe (((wipe σ vs).set i1 (some x)).set i2 (some y)) vs = wipe σ vs)
    (he : ∀ (x y : Int) (H : Hp), ∀ Q' : VK, (∀ H2, Same H H2 → Q' (.int (f x y)) H2) → te (((wipe σ vs).set i1 (some (.int x))).set i2 (some (.int y))) H Q')
    (k : ∀ D H, H1 D = none → Same H1 H → H D = some (.lst (intsV (List.zipWith f xs ys))) → Q (.ref D) H) : LcJ (Itz K a b) (gTup K 2 (gCons (gName i1) (gCons (gName i2) gNil))) tYes te vs σ Q H1 := by
  refine lcj_it (walk_zip (xs := intsV xs) (ys := intsV ys) rfl) (fun D i H => Same H1 H ∧ H D = some (.lst (intsV (List.zipWith f (xs.take i) (ys.take i))))) (fun D hD => ⟨Same.new hD, by rw [List.take_zero]; exact upd_same⟩) (fun D i H _ p => ⟨p.1.seq ha, p.1.seq hb⟩) ?_ ?_
  · rintro D i x H H' hD hi ⟨s, hl⟩ ⟨t, x, y, rfl, ht, rfl, hx, hy⟩
    have hx : ((xs[i]?).map V.int) = some x := by
      rw [← List.getElem?_map]
      exact hx
    have hy : ((ys[i]?).map V.int) = some y := by
      rw [← List.getElem?_map]
      exact hy
    cases e1 : xs[i]? with
    | none => rw [e1] at hx; cases hx
    | some u =>
    cases e2 : ys[i]? with
    | none => rw [e2] at hy; cases hy
    | some v =>
    rw [e1] at hx
    rw [e2] at hy
    have x1 : V.int u = x := by simpa using hx
    have y1 : V.int v = y := by simpa using hy
    subst x1 y1
    refine ⟨t, [.int u, .int v], rfl, SqT.of upd_same, rfl, _, _, rfl, _, _, rfl, rfl, ?_⟩
    refine ⟨hw _ _, tyes ?_⟩
    refine he u v _ _ fun H2 s2 => ⟨_, s2 _ _ (upd_old ht hl), ?_, Same.mut ((s.trans (Same.new ht)).trans s2) hD, ?_⟩
    · rw [List.length_map, List.length_zipWith, List.length_take, List.length_take, sizeLine_eq]
      omega
    · rw [zipW_snoc f xs ys i e1 e2, upd_same]
      show some (HO.lst ((List.zipWith f (xs.take i) (ys.take i)).map V.int ++ [V.int (f u v)])) = some (HO.lst ((List.zipWith f (xs.take i) (ys.take i) ++ [f u v]).map V.int))
      rw [List.map_append]
      rfl
  · rintro D H hD ⟨s, hl⟩
    refine k D H hD s ?_
    rw [hl]
    have e : List.zipWith f (xs.take (min (intsV xs).length (intsV ys).length)) (ys.take (min (intsV xs).length (intsV ys).length)) = List.zipWith f xs ys := by
      rw [List.length_map, List.length_map]
      apply List.ext_getElem?
      intro m
      simp only [List.getElem?_zipWith, List.getElem?_take]
      by_cases hm : m < min xs.length ys.length
      · simp [hm]
      · rw [if_neg hm]
        rcases Nat.lt_or_ge m xs.length with h | h
        · have : ys[m]? = none := List.getElem?_eq_none (by omega)
          rw [this]
          cases xs[m]? <;> rfl
        · have : xs[m]? = none := List.getElem?_eq_none h
          rw [this]
    rw [e]
theorem rd_any {bs : List Bool} (h : H a = some (.lst (bs.map V.bl))) (q : Q (.bl (bs.any id)) H) : rAny K [.ref a] H Q := ⟨a, bs, rfl, SqL.of h, q⟩
end
end L2.KL
set_option Elab.async false
set_option linter.all false
set_option maxRecDepth 100000
set_option maxHeartbeats 4000000
namespace L2.KL
open PySem PySem.Spec PyProof.Rows
local macro_rules | `(tactic| walk_at "hp") => `(tactic| first
  | assumption
  | (with_reducible exact upd_same)
  | (apply Same.get; (· assumption); (· walk_at "hp")))
local macro_rules | `(tactic| walk_at "cl") => `(tactic| first
  | (with_reducible rfl)
  | assumption
  | (apply SqL.of; walk_at "hp")
  | (apply Or.inl; apply SqL.of; walk_at "hp")
  | (apply exL; walk_at "hp")
  | omega
  | (simp only [List.length_map]; omega))
local macro_rules | `(tactic| walk_at "r1") => `(tactic| first
  | (with_reducible refine rd_seq ?_)
  | ((with_reducible apply rd_var); (· exact rfl))
  | (with_reducible refine rd_c ?_)
  | (with_reducible refine rd_op ?_)
  | (with_reducible refine rd_cb ?_)
  | (with_reducible refine rd_cons ?_)
  | (with_reducible refine rd_nil ?_)
  | (with_reducible refine rd_call ?_)
  | (with_reducible refine rd_asg ?_)
  | (with_reducible refine rd_name ?_)
  | (with_reducible refine rd_ret ?_)
  | (with_reducible refine rd_if ?_)
  | (with_reducible refine rd_test ?_)
  | (with_reducible refine rd_B ?_)
  | (with_reducible refine rd_next ?_)
  | (with_reducible refine rd_I0 ?_)
  | ((with_reducible apply rd_I); (· first | assumption | (dsimp only; omega) | omega | (unfold CMul; omega) | (unfold CDiv; omega)))
  | ((with_reducible apply rd_ixL); (· walk_at "hp"); (· walk_at "at"))
  | ((with_reducible apply rd_eq); (· exact rfl))
  | ((with_reducible apply rd_ne); (· exact rfl))
  | (with_reducible refine rd_for ?_)
  | (with_reducible refine rd_iList ?_)
  | (with_reducible refine rd_iRng1 ?_)
  | (with_reducible refine rd_lc ?_)
  | (with_reducible refine rd_iRng3 ?_)
  | (with_reducible refine rd_iZip ?_)
  | ((with_reducible apply rd_slL); (· walk_at "hp"))
  | (with_reducible refine rd_par ?_)
  | (with_reducible refine rd_gsub ?_)
  | (with_reducible refine rd_slice ?_)
  | (with_reducible refine rd_part ?_)
  | (with_reducible refine rd_nopart ?_)
  | (with_reducible apply Exists.intro)
  | ((with_reducible refine And.intro ?_ ?_); (· walk_at "cl")))
local macro_rules | `(tactic| walk_at "at") => `(tactic| first
  | (apply at_ints; first | assumption | omega)
  | (apply at_refs; assumption))
local macro_rules | `(tactic| walk_at "rd") => `(tactic| ((repeat walk_at "r1"); (try dsimp only [List.set])))
def lowF (m p : Nat) : Nat := ((invM m p).getD 0).toNat
def lowAt (m p k : Nat) : Nat := k * lowF m p % p * m + k * lowF p m % m
def lowTot (items : List Int) (e p : Nat) : List Int := addL (List.replicate e 0) (lowAt (e / p) p) (fun k => items.getD k 0) items.length
def lowSum (items : List Int) (e p u : Nat) : List Int := foldM (e / p) (((lowTot items e p).take (u * (e / p) + e / p)).drop (u * (e / p)))
def lowM (items : List Int) (e p : Nat) : Option (List Int) :=
  if e / p % p = 0 then
    if ((List.range items.length).any fun k => decide (k % p ≠ 0) && decide (items.getD k 0 ≠ 0)) = true then none else some ((List.range ((items.length + p - 1) / p)).map fun j => items.getD (j * p) 0)
  else if ((List.range (p - 2)).any fun i => decide (lowSum items e p (i + 2) ≠ lowSum items e p 1)) = true then none else some (List.zipWith (· - ·) (lowSum items e p 0) (lowSum items e p 1))
/-- the orders, primes and lengths at which lowered is asked -/
def lowCases : List (Nat × Nat × Nat) := [(4,2,2),(12,2,4),(20,2,8),(60,2,16),(2,2,1),(6,2,2),(10,2,4),(30,2,8),(3,3,2),(12,3,4),(15,3,8),(60,3,16),(5,5,4),(15,5,8),(20,5,8),(60,5,16),(6,3,2),(10,5,4),(30,3,8),(30,5,8)]
structure LowOk (e p L : Nat) : Prop where
  p2 : 2 ≤ p
  p5 : p ≤ 5
  e60 : e ≤ 60
  dv : e / p * p = e
  L16 : 1 ≤ L ∧ L ≤ 16
  rg : e / p % p = 0 → RgC 0 (L : Int) (p : Int) ((L + p - 1) / p)
  rg2 : e / p % p = 0 → ∀ j, j < (L + p - 1) / p → j * p < L
  ok : e / p % p ≠ 0 → EOk (e / p) ∧ invM (e / p) p = some ((lowF (e / p) p : Nat) : Int) ∧ invM p (e / p) = some ((lowF p (e / p) : Nat) : Int) ∧ lowF (e / p) p ≤ 60 ∧ lowF p (e / p) ≤ 60 ∧ 1 ≤ e / p
def lowB (t : Nat × Nat × Nat) : Bool := decide (2 ≤ t.2.1 ∧ t.2.1 ≤ 5 ∧ t.1 ≤ 60 ∧ t.1 / t.2.1 * t.2.1 = t.1 ∧ (1 ≤ t.2.2 ∧ t.2.2 ≤ 16)) &&
  (if t.1 / t.2.1 % t.2.1 = 0 then (decide ((t.2.1 : Int) ≠ 0 ∧ (t.2.1 : Int).natAbs < 1073741824) && (Builtin.Range.small 0 (t.2.2 : Int) (t.2.1 : Int) && (decide (Builtin.Range.rangeSize 0 (t.2.2 : Int) (t.2.1 : Int) = ((t.2.2 + t.2.1 - 1) / t.2.1 : Nat)) &&
     (List.range ((t.2.2 + t.2.1 - 1) / t.2.1)).all fun j => decide (j * t.2.1 < t.2.2))))
   else eGood (t.1 / t.2.1) && decide (invM (t.1 / t.2.1) t.2.1 = some ((lowF (t.1 / t.2.1) t.2.1 : Nat) : Int) ∧ invM t.2.1 (t.1 / t.2.1) = some ((lowF t.2.1 (t.1 / t.2.1) : Nat) : Int) ∧ lowF (t.1 / t.2.1) t.2.1 ≤ 60 ∧ lowF t.2.1 (t.1 / t.2.1) ≤ 60 ∧ 1 ≤ t.1 / t.2.1))
theorem lowOk {e p L : Nat} (h : (e, p, L) ∈ lowCases) : LowOk e p L := by
  have a : lowCases.all lowB = true := by decide +kernel
  have b := List.all_eq_true.mp a _ h
  unfold lowB at b
  obtain ⟨b1, b2⟩ := Bool.and_eq_true_iff.mp b
  obtain ⟨c1, c2, c3, c4, c5⟩ := of_decide_eq_true b1
  dsimp only at b2 c1 c2 c3 c4 c5
  refine ⟨c1, c2, c3, c4, c5, fun z => ?_, fun z => ?_, fun z => ?_⟩
  · rw [if_pos z] at b2
    obtain ⟨d1, d2⟩ := Bool.and_eq_true_iff.mp b2
    obtain ⟨d3, d4⟩ := Bool.and_eq_true_iff.mp d2
    obtain ⟨d5, d6⟩ := Bool.and_eq_true_iff.mp d4
    have d7 := of_decide_eq_true d1
    exact ⟨d7.1, d7.2, d3, of_decide_eq_true d5⟩
  · rw [if_pos z] at b2
    obtain ⟨d1, d2⟩ := Bool.and_eq_true_iff.mp b2
    obtain ⟨d3, d4⟩ := Bool.and_eq_true_iff.mp d2
    obtain ⟨d5, d6⟩ := Bool.and_eq_true_iff.mp d4
    intro j hj
    exact of_decide_eq_true (List.all_eq_true.mp d6 j (List.mem_range.mpr hj))
  · rw [if_neg z] at b2
    obtain ⟨d1, d2⟩ := Bool.and_eq_true_iff.mp b2
    exact ⟨eGood_ok d1, of_decide_eq_true d2⟩
theorem nd_int (a b : Int) : (!decide (V.int a = V.int b)) = decide (a ≠ b) := by
  by_cases h : a = b <;> simp [h]
theorem nd_nat {a : Int} {n : Nat} (h : a = (n : Int)) : (!decide (V.int a = V.int 0)) = decide (n ≠ 0) := by
  rw [nd_int]
  by_cases z : n = 0
  · subst z
    subst h
    rfl
  · have : a ≠ 0 := by omega
    simp [z, this]
theorem lowAt_lt {m p k : Nat} (hm : 0 < m) (hp : 0 < p) : lowAt m p k < m * p := by
  unfold lowAt
  have h1 := Nat.mod_lt (k * lowF m p) hp
  have h2 := Nat.mod_lt (k * lowF p m) hm
  have h3 : (k * lowF m p % p + 1) * m ≤ p * m := Nat.mul_le_mul_right m h1
  rw [Nat.add_mul, Nat.one_mul] at h3
  rw [Nat.mul_comm m p]
  omega
theorem if_bT {b : Bool} {A B : Prop} (h : b = true) (q : A) : if b = true then A else B := by rw [if_pos h]; exact q
theorem if_bF {b : Bool} {A B : Prop} (h : ¬ b = true) (q : B) : if b = true then A else B := by rw [if_neg h]; exact q
section
variable {P : Program} {w : World} {K : PySem.W.Frag} {mg : Str → Option Value} {base : Heap}
def spLow : Sp := fun vs H Q _ => ∃ (a : Addr) (items : List Int) (e p : Nat), vs = [.ref a, nV e, nV p] ∧ H a = some (.lst (intsV items)) ∧ LowOk e p items.length ∧
  (lowM items e p = none → ∀ H', Same H H' → Q .non H') ∧ (∀ r, lowM items e p = some r → ∀ b H', H b = none → Same H H' → H' b = some (.lst (intsV r)) → Q (.ref b) H')
theorem sc_lowered : FnScope ["items", "e", "p", "m", "total", "first", "second", "k", "at", "sums", "_", "u", "row", "a", "b"] ["items", "e", "p"] HD.d_lowered.scope := ⟨rfl, rfl, rfl, by decide +kernel, rfl, by decide +kernel, by decide +kernel⟩
theorem ok_lowered (T : Tx K mg) : Ok P w K mg base CX0 4 HD.d_lowered ["items", "e", "p"] spLow := by
  have G_folded : Ok P w K mg base CX0 3 _ _ _ := ok_folded T
  have G_inverse_modulo : Ok P w K mg base CX0 1 _ _ _ := ok_invM T
  have nd := sc_lowered.nd
  refine Ok.mk0 T fn__lowered rfl sc_lowered (fun vs H Q E h => ?_) (fun _ _ _ _ _ _ us hl => match us, hl with | [_, _, _], _ => rfl) (fun cdv A outer s H vs Q E hr h => ?_)
  · obtain ⟨a, items, e, p, rfl, _⟩ := h
    rfl
  · obtain ⟨a, items, e, p, rfl, ha, ok, k1, k2⟩ := h
    have o1 := ok.p2
    have o2 := ok.p5
    have o3 := ok.e60
    have o4 := ok.L16
    refine ⟨_, pss_cons
          -- m = e // p
          (ps_set (i := 3) nd rfl (.inr rfl) (pe_op op_fdiv (pv 1) (pv 2)))
         (pss_cons
          -- if m % p == 0:
          (ps_if (pt_cmpR op_eq (pe_op op_mod (pv 3) (pv 2)) pe_int (nomark _)) (pss_cons
            -- if any([items[k] != 0 for k in range(len(items)) if k % p != 0]):
            (ps_if (pt_val (pe_callB (cr_any rfl) (by rfl) T.b_any (by decide +kernel) (pa_cons (pe_lc (own := [("k", 7)]) (g := gName 7)  (by rfl) nd (pi_range1 (by rfl) T.b_range (pa_cons (pe_callB call_len_seq (by rfl) T.b_len (by decide +kernel) (pa_cons (pv 0) pa_nil)) pa_nil)) (blkOk_by (own := [("k", 7)]) (N := ["items", "e", "p", "m", "total", "first", "second", "k", "at", "sums", "_", "u", "row", "a", "b"]) (sc := HD.d_lowered.scope) (by decide +kernel)) (fun _ _ _ _ _ => (pg_name (i := 7) nd rfl (.inl rfl))) (fun _ _ _ _ _ => pts_one (pt_cmpR op_ne (pe_op op_mod (pv 7) (pv 2)) pe_int (nomark _))) (fun _ _ _ _ _ => (pe_cmpR op_ne (pe_ix (r := rIxL K) ix_list (pv 0) (pv 7) (fun _ _ => rfl)) pe_int (nomark _)))) pa_nil))) (pss_one
              -- return None
              (ps_ret pe_non)) (pss_nil))
           (pss_one
            -- return [items[k] for k in range(0, len(items), p)]
            (ps_ret (pe_lc (own := [("k", 7)]) (g := gName 7) (tt := tYes) (by rfl) nd (pi_range3 (by rfl) T.b_range (pa_cons pe_int (pa_cons (pe_callB call_len_seq (by rfl) T.b_len (by decide +kernel) (pa_cons (pv 0) pa_nil)) (pa_cons (pv 2) pa_nil)))) (blkOk_by (own := [("k", 7)]) (N := ["items", "e", "p", "m", "total", "first", "second", "k", "at", "sums", "_", "u", "row", "a", "b"]) (sc := HD.d_lowered.scope) (by decide +kernel)) (fun _ _ _ _ _ => (pg_name (i := 7) nd rfl (.inl rfl))) (fun _ _ _ _ _ => pts_nil) (fun _ _ _ _ _ => (pe_ix (r := rIxL K) ix_list (pv 0) (pv 7) (fun _ _ => rfl))))))) (pss_nil))
         (pss_cons
          -- total = [0 for _ in range(e)]
          (ps_set (i := 4) nd rfl (.inr rfl) (pe_lc (own := [("_", 10)]) (g := gName 10) (tt := tYes) (by rfl) nd (pi_range1 (by rfl) T.b_range (pa_cons (pv 1) pa_nil)) (blkOk_by (own := [("_", 10)]) (N := ["items", "e", "p", "m", "total", "first", "second", "k", "at", "sums", "_", "u", "row", "a", "b"]) (sc := HD.d_lowered.scope) (by decide +kernel)) (fun _ _ _ _ _ => (pg_name (i := 10) nd rfl (.inl rfl))) (fun _ _ _ _ _ => pts_nil) (fun _ _ _ _ _ => pe_int)))
         (pss_cons
          -- first, second = (inverse_modulo(m, p), inverse_modulo(p, m))
          (ps_par (i := 5) (j := 6) (by rfl) nd rfl rfl (by decide) rfl rfl (pa_cons (pe_f (G_inverse_modulo) (hr.mono (by decide)) T.g_inverse_modulo pass0 (pa_cons (pv 3) (pa_cons (pv 2) pa_nil))) (pa_cons (pe_f (G_inverse_modulo) (hr.mono (by decide)) T.g_inverse_modulo pass0 (pa_cons (pv 2) (pa_cons (pv 3) pa_nil))) pa_nil)) (by rfl))
         (pss_cons
          -- for k in range(len(items)):
          (ps_for PassesOwn.never rfl (pi_range1 (by rfl) T.b_range (pa_cons (pe_callB call_len_seq (by rfl) T.b_len (by decide +kernel) (pa_cons (pv 0) pa_nil)) pa_nil)) (pg_name (i := 7) nd rfl (.inl rfl)) (pss_cons
            -- at = k * first % p * m + k * second % m
            (ps_set (i := 8) nd rfl (.inl rfl) (pe_op op_add (pe_op op_mul (pe_op op_mod (pe_op op_mul (pv 7) (pv 5)) (pv 2)) (pv 3)) (pe_op op_mod (pe_op op_mul (pv 7) (pv 6)) (pv 3))))
           (pss_one
            -- total[at] = total[at] + items[k]
            (ps_asg (pe_op op_add (pe_ix (r := rIxL K) ix_list (pv 4) (pv 8) (fun _ _ => rfl)) (pe_ix (r := rIxL K) ix_list (pv 0) (pv 7) (fun _ _ => rfl))) (pg_sub (pv 4) (pv 8) set_list)))))
         (pss_cons
          -- sums = [folded(m, total[u * m:u * m + m]) for u in range(p)]
          (ps_set (i := 9) nd rfl (.inr rfl) (pe_lc (own := [("u", 11)]) (g := gName 11) (tt := tYes) (by rfl) nd (pi_range1 (by rfl) T.b_range (pa_cons (pv 2) pa_nil)) (blkOk_by (own := [("u", 11)]) (N := ["items", "e", "p", "m", "total", "first", "second", "k", "at", "sums", "_", "u", "row", "a", "b"]) (sc := HD.d_lowered.scope) (by decide +kernel)) (fun _ _ _ _ _ => (pg_name (i := 11) nd rfl (.inl rfl))) (fun _ _ _ _ _ => pts_nil) (fun _ _ _ _ _ => (pe_f (G_folded) (hr.mono (by decide)) T.g_folded pass0 (pa_cons (pv 3) (pa_cons (pe_slice (r := rSlL K) sl_list (pv 4) (po_some (pe_op op_mul (pv 11) (pv 3))) (po_some (pe_op op_add (pe_op op_mul (pv 11) (pv 3)) (pv 3)))) pa_nil))))))
         (pss_cons
          -- if any([row != sums[1] for row in sums[2:]]):
          (ps_if (pt_val (pe_callB (cr_any rfl) (by rfl) T.b_any (by decide +kernel) (pa_cons (pe_lc (own := [("row", 12)]) (g := gName 12) (tt := tYes) (by rfl) nd (pi_list (pe_slice (r := rSlL K) sl_list (pv 9) (po_some pe_int) po_none)) (blkOk_by (own := [("row", 12)]) (N := ["items", "e", "p", "m", "total", "first", "second", "k", "at", "sums", "_", "u", "row", "a", "b"]) (sc := HD.d_lowered.scope) (by decide +kernel)) (fun _ _ _ _ _ => (pg_name (i := 12) nd rfl (.inl rfl))) (fun _ _ _ _ _ => pts_nil) (fun _ _ _ _ _ => (pe_cmpR (r := rNeD K) (op_neD hr.units) (pv 12) (pe_ix (r := rIxL K) ix_list (pv 9) pe_int (fun _ _ => rfl)) (nomark _)))) pa_nil))) (pss_one
            -- return None
            (ps_ret pe_non)) (pss_nil))
         (pss_one
          -- return [a - b for a, b in zip(sums[0], sums[1])]
          (ps_ret (pe_lc (own := [("a", 13), ("b", 14)]) (g := gTup K 2 (gCons (gName 13) (gCons (gName 14) gNil))) (tt := tYes) (by rfl) nd (pi_zip (by rfl) T.b_zip (pa_cons (pe_ix (r := rIxL K) ix_list (pv 9) pe_int (fun _ _ => rfl)) (pa_cons (pe_ix (r := rIxL K) ix_list (pv 9) pe_int (fun _ _ => rfl)) pa_nil))) (blkOk_by (own := [("a", 13), ("b", 14)]) (N := ["items", "e", "p", "m", "total", "first", "second", "k", "at", "sums", "_", "u", "row", "a", "b"]) (sc := HD.d_lowered.scope) (by decide +kernel)) (fun _ _ _ _ _ => (pg_tup rfl (pgs_cons (pg_name (i := 13) nd rfl (.inl rfl)) (pgs_cons (pg_name (i := 14) nd rfl (.inl rfl)) pgs_nil)))) (fun _ _ _ _ _ => pts_nil) (fun _ _ _ _ _ => (pe_op op_sub (pv 13) (pv 14)))))))))))), ?_⟩
    dsimp only [cxOf, Cx.wish]
    walk_at "rd"
    have em : ((e : Int) / (p : Int)) = ((e / p : Nat) : Int) := rfl
    rw [em]
    have hLM : lowM items e p = lowM items e p := rfl
    conv at hLM => rhs; unfold lowM
    have i1 := ok.rg
    have i2 := ok.rg2
    have i3 := ok.ok
    have i4 := ok.dv
    generalize hm : e / p = m at *
    have emm : ((m : Int) % (p : Int)) = ((m % p : Nat) : Int) := rfl
    refine if_eq (fun h0 => ?_) (fun h0 => ?_)
    · have h0' : m % p = 0 := by omega
      rw [if_pos h0'] at hLM
      have j1 := i1 h0'
      have j2 := i2 h0'
      walk_at "rd"
      rw [List.length_map]
      refine lcj_if items.length (fun k => decide (k % p ≠ 0)) (fun k => V.bl (decide (items.getD k 0 ≠ 0))) (by omega) (fun x => rfl) (fun i H1 hi s1 Q' q => ?_) (fun i H1 hi hb s1 Q' q => ?_) (fun D H1 hD s1 hD1 => ?_)
      · walk_at "rd"
        have z := q H1 (Same.refl _)
        rw [nd_nat (n := i % p) (by push_cast; rfl)]
        exact z
      · have ha1 := s1 _ _ ha
        walk_at "rd"
        have z := q H1 (Same.refl _)
        rw [nd_int]
        exact z
      · have ha1 := s1 _ _ ha
        walk_at "rd"
        refine rd_any (bs := ((List.range items.length).filter fun k => decide (k % p ≠ 0)).map fun k => decide (items.getD k 0 ≠ 0)) (by rw [hD1, List.map_map]; rfl) ?_
        rw [List.any_map, List.any_filter]
        walk_at "rd"
        split at hLM
        · rename_i hbad
          refine if_bT hbad ?_
          walk_at "rd"
          exact k1 hLM _ s1
        · rename_i hbad
          refine if_bF hbad ?_
          have j1' : RgC 0 (((intsV items).length : Nat) : Int) (p : Int) ((items.length + p - 1) / p) := by
            rw [List.length_map]
            exact j1
          walk_at "rd"
          refine lcj_rangeC ((items.length + p - 1) / p) (fun j => V.int (items.getD (j * p) 0)) (by have := Nat.div_le_self (items.length + p - 1) p; omega) (fun x => rfl) (fun i H2 hi s2 Q' q => ?_) (fun D2 H2 hD2 s2 hl2 => ?_)
          · have ha2 := (s1.trans s2) _ _ ha
            have hj := j2 i hi
            walk_at "rd"
            refine rd_ixL ha2 (at_intsE (i * p) (by push_cast; omega) hj) ?_
            exact q H2 (Same.refl _)
          · refine k2 _ hLM D2 H2 (none_of s1 hD2) (s1.trans s2) ?_
            rw [hl2]
            show _ = some (HO.lst ((List.map (fun j => items.getD (j * p) 0) (List.range ((items.length + p - 1) / p))).map V.int))
            rw [List.map_map]
            rfl
    · have h0' : m % p ≠ 0 := by omega
      rw [if_neg h0'] at hLM
      obtain ⟨j1, j2, j3, j4, j5, j6⟩ := i3 h0'
      walk_at "rd"
      refine lcj_zeros e rfl (by omega) (fun x => rfl) fun D H1 hD s1 hD1 => ?_
      walk_at "rd"
      refine ⟨m, p, _, rfl, by omega, by omega, j2, fun H2 s2 => ?_⟩
      walk_at "rd"
      refine ⟨p, m, _, rfl, by omega, ?_, j3, fun H3 s3 => ?_⟩
      · have := Nat.le_mul_of_pos_right m (show 0 < p by omega)
        omega
      have s13 : Same H H3 := (s1.trans s2).trans s3
      have hD3 := s3 _ _ (s2 _ _ hD1)
      walk_at "rd"
      have hmp : m * p = e := i4
      have hm60 : m ≤ 60 := by
        have := Nat.le_mul_of_pos_right m (show 0 < p by omega)
        omega
      refine fj_rangeE items.length (by rw [List.length_map]; rfl) (fun i σ H' => Same H H' ∧ H' D = some (.lst (intsV (addL (List.replicate e 0) (lowAt m p) (fun k => items.getD k 0) i))) ∧
        ∃ v7 v8, σ = [some (.ref a), some (nV e), some (nV p), some (nV m), some (.ref D), some (nV (lowF m p)), some (nV (lowF p m)), v7, v8, none, none, none, none, none, none]) ⟨s13, hD3, none, none, rfl⟩ ?_ ?_
      · rintro i σ H' hi ⟨s4, hD4, v7, v8, rfl⟩
        have ha4 := s4 _ _ ha
        have hat := lowAt_lt (m := m) (p := p) (k := i) (by omega) (by omega)
        have hat2 : i * lowF m p % p * m + i * lowF p m % m < (addL (List.replicate e 0) (lowAt m p) (fun k => items.getD k 0) i).length := by
          rw [addL_len, List.length_replicate, ← hmp]
          exact hat
        walk_at "rd"
        refine rd_set (lowAt m p i) hD4 rfl (by rw [List.length_map]; exact hat2) ?_
        rw [set_ints]
        refine at_i ⟨Same.mut s4 hD, ?_, _, _, rfl⟩
        rw [addL_succ]
        exact upd_same
      · rintro σ H' ⟨s4, hD4, v7, v8, rfl⟩
        have eT : addL (List.replicate e 0) (lowAt m p) (fun k => items.getD k 0) items.length = lowTot items e p := by
          unfold lowTot
          rw [hm]
        rw [eT] at hD4
        have lT : (lowTot items e p).length = e := by rw [← eT, addL_len, List.length_replicate]
        have eS : ∀ u, lowSum items e p u = foldM m (((lowTot items e p).take (u * m + m)).drop (u * m)) := fun u => by
          unfold lowSum
          rw [hm]
        have w1 : Walk (Itr 0 ((p : Nat) : Int).toNat) p (fun _ => True) (YFn nV) := walk_range.mono (fun _ _ => trivial) fun i H x H' _ _ y => ⟨y.1, by rw [y.2]; show V.int ((0 : Int) + (i : Int)) = V.int (i : Int); rw [Int.zero_add]⟩
        walk_at "rd"
        refine lcj_lists (n := p) (f := fun u => intsV (lowSum items e p u)) (xv := nV) (by omega) (fun x => rfl) w1 (fun _ _ => trivial) (fun u H5 hu s5 Q' q => ?_) (fun D2 H5 bs hD2 s5 hl5 hbl hL5 => ?_)
        · have hD5 := s5 _ _ hD4
          walk_at "rd"
          intro b hb
          walk_at "rd"
          have ec : cutV (intsV (lowTot items e p)) (some ((u : Int) * (m : Int))) (some ((u : Int) * (m : Int) + (m : Int))) = _ := cut_mid (lowTot items e p) (u * m) (u * m + m)
          rw [ec]
          refine ⟨m, b, _, rfl, j1, .inl upd_same, ?_, fun b2 H6 hb2 s6 hb6 => ?_⟩
          · rw [List.length_drop, List.length_take, lT]
            omega
          · refine q b2 H6 (none_of (Same.new hb) hb2) ((Same.new hb).trans s6) ?_
            rw [eS]
            exact hb6
        · walk_at "rd"
          intro sb hsb
          walk_at "rd"
          have ec : cutV (refsV bs) (some 2) none = (refsV bs).drop 2 := cut_drop (refsV bs) 2
          rw [ec]
          have b1l : 1 < bs.length := by omega
          have b0l : 0 < bs.length := by omega
          have hb1 : bs[1]? = some bs[1] := List.getElem?_eq_getElem b1l
          have hb0 : bs[0]? = some bs[0] := List.getElem?_eq_getElem b0l
          generalize hB1 : bs[1] = c1 at hb1
          generalize hB0 : bs[0] = c0 at hb0
          have g1 := hL5 1 c1 hb1
          have g0 := hL5 0 c0 hb0
          refine lcj_list (xs := (refsV bs).drop 2) (fun i v H => v = V.bl (decide (lowSum items e p (i + 2) ≠ lowSum items e p 1))) (fun i v => fm_eq _ _) (SqL.of upd_same) (by rw [List.length_drop, List.length_map]; omega) (fun x => rfl) (fun i x H6 hx s6 Q' q => ?_) (fun D6 H6 ys hD6 s6 hl6 hyl hR => ?_)
          · rw [List.getElem?_drop, List.getElem?_map] at hx
            cases hc : bs[2 + i]? with
            | none => rw [hc] at hx; cases hx
            | some c =>
            rw [hc] at hx
            have hx' : V.ref c = x := by simpa using hx
            subst hx'
            have g2 := s6 _ _ ((Same.new hsb) _ _ (hL5 (2 + i) c hc))
            have g1' := s6 _ _ ((Same.new hsb) _ _ g1)
            have hD6 := s6 _ _ ((Same.new hsb) _ _ hl5)
            walk_at "rd"
            refine rd_neLL g2 g1' (q _ H6 (Same.refl _) ?_)
            rw [Nat.add_comm 2 i]
            by_cases z : lowSum items e p (i + 2) = lowSum items e p 1
            · simp [z]
            · simp [z]
          · walk_at "rd"
            have hys : ys = ((List.range (p - 2)).map fun i => decide (lowSum items e p (i + 2) ≠ lowSum items e p 1)).map V.bl := by
              rw [List.map_map]
              exact list_eq_map (by rw [hyl, List.length_drop, List.length_map, hbl]) hR
            rw [hys] at hl6
            refine rd_any hl6 ?_
            have eA : (((List.range (p - 2)).map fun i => decide (lowSum items e p (i + 2) ≠ lowSum items e p 1)).any id) = (List.range (p - 2)).any fun i => decide (lowSum items e p (i + 2) ≠ lowSum items e p 1) := by
              rw [List.any_map]
              rfl
            rw [eA]
            walk_at "rd"
            have sA : Same H5 H6 := (Same.new hsb).trans s6
            have sB : Same H H6 := (s4.trans s5).trans sA
            split at hLM
            · rename_i hbad
              refine if_bT hbad ?_
              walk_at "rd"
              exact k1 hLM _ sB
            · rename_i hbad
              refine if_bF hbad ?_
              have hD6' := sA _ _ hl5
              have g1' := sA _ _ g1
              have g0' := sA _ _ g0
              walk_at "rd"
              refine lcj_zip (xs := lowSum items e p 0) (ys := lowSum items e p 1) (f := fun x y => x - y) (SqL.of g0') (SqL.of g1') ?_ (fun x y => rfl) (fun x y H7 Q' q => ?_) (fun D7 H7 hD7 s7 hl7 => ?_)
              · rw [eS]
                unfold foldM
                rw [List.length_take]
                have := j1.len
                omega
              · walk_at "rd"
                exact q H7 (Same.refl _)
              · exact k2 _ hLM D7 H7 (none_of sB hD7) (sB.trans s7) hl7
end
end L2.KL
set_option Elab.async false
set_option linter.all false
set_option maxRecDepth 100000
set_option maxHeartbeats 4000000
namespace L2.KL
open PySem PySem.Spec PyProof.Rows
local macro_rules | `(tactic| walk_at "hp") => `(tactic| first
  | assumption)
local macro_rules | `(tactic| walk_at "cl") => `(tactic| first
  | (with_reducible rfl)
  | (apply SqT.of; walk_at "hp")
  | (apply exT; walk_at "hp")
  | (apply sz_nat; simp only [List.length_map, List.length_append, List.length_cons, List.length_nil]; omega)
  | exact rfl)
local macro_rules | `(tactic| walk_at "r1") => `(tactic| first
  | (with_reducible refine rd_seq ?_)
  | ((with_reducible apply rd_var); (· exact rfl))
  | (with_reducible refine rd_c ?_)
  | (with_reducible refine rd_op ?_)
  | (with_reducible refine rd_cons ?_)
  | (with_reducible refine rd_nil ?_)
  | (with_reducible refine rd_call ?_)
  | (with_reducible refine rd_tup ?_)
  | (with_reducible refine rd_asg ?_)
  | (with_reducible refine rd_name ?_)
  | (with_reducible refine rd_ret ?_)
  | (with_reducible refine rd_if ?_)
  | (with_reducible refine rd_test ?_)
  | (with_reducible refine rd_B ?_)
  | (with_reducible refine rd_not ?_)
  | (with_reducible refine rd_next ?_)
  | ((with_reducible apply rd_I); (· first | assumption | (dsimp only; omega) | omega | (unfold CMul; omega) | (unfold CDiv; omega)))
  | (with_reducible refine rd_for ?_)
  | (with_reducible refine rd_iTup ?_)
  | (with_reducible refine rd_par3 ?_)
  | (with_reducible refine rd_gtup ?_)
  | (with_reducible refine rd_gcons ?_)
  | (with_reducible refine rd_gnil ?_)
  | (with_reducible refine iteF ?_)
  | (with_reducible refine iteNT ?_)
  | (with_reducible refine iteNF ?_)
  | (with_reducible apply Exists.intro)
  | ((with_reducible refine And.intro ?_ ?_); (· walk_at "cl")))
local macro_rules | `(tactic| walk_at "at") => `(tactic| fail)
local macro_rules | `(tactic| walk_at "rd") => `(tactic| ((repeat walk_at "r1"); (try dsimp only [List.set])))
def phi (e : Nat) : Nat := match e with
  | 1 => 1 | 2 => 1 | 3 => 2 | 4 => 2 | 5 => 4 | 6 => 2 | 10 => 4 | 12 => 4 | 15 => 8 | 20 => 8 | 30 => 8 | 60 => 16 | _ => 0
def ppL (e : Nat) : List (Nat × Nat) := (pp e).getD []
def lowFirst (items : List Int) (e : Nat) : List (Nat × Nat) → Option (Nat × List Int)
  | [] => none
  | pk :: ps => match lowM items e pk.1 with
    | some r => some (pk.1, r)
    | none => lowFirst items e ps
def leastGo : Nat → Nat → List Int → Option (Nat × List Int)
  | 0, _, _ => none
  | f + 1, e, items => match lowFirst items e (ppL e) with
    | none => some (e, items)
    | some (p, r) => leastGo f (e / p) r
def eB (e : Nat) : Bool := decide (pp e = some (ppL e)) && decide ((ppL e).length ≤ 100 ∧ (cycE e).length = phi e + 1 ∧ 1 ≤ phi e) && ((ppL e).all fun pk => decide ((e, pk.1, phi e) ∈ lowCases) && (decide (e / pk.1 ∈ divs60 ∧ phi (e / pk.1) ≤ 16) &&
  (if e / pk.1 % pk.1 = 0 then decide ((phi e + pk.1 - 1) / pk.1 = phi (e / pk.1)) else true)))
theorem eB_all : divs60.all eB = true := by decide +kernel
structure EAll (e : Nat) : Prop where
  ok : EOk e
  pp : pp e = some (ppL e)
  len : (ppL e).length ≤ 100
  ce : (cycE e).length = phi e + 1
  ph : 1 ≤ phi e
  low : ∀ pk ∈ ppL e, (e, pk.1, phi e) ∈ lowCases
  nx : ∀ pk ∈ ppL e, e / pk.1 ∈ divs60
  nl : ∀ pk ∈ ppL e, e / pk.1 % pk.1 = 0 → (phi e + pk.1 - 1) / pk.1 = phi (e / pk.1)
theorem eAll {e : Nat} (h : e ∈ divs60) : EAll e := by
  have a := List.all_eq_true.mp eB_all e h
  unfold eB at a
  obtain ⟨a1, a2⟩ := Bool.and_eq_true_iff.mp a
  obtain ⟨a3, a4⟩ := Bool.and_eq_true_iff.mp a1
  have a5 := of_decide_eq_true a4
  refine ⟨eok h, of_decide_eq_true a3, a5.1, a5.2.1, a5.2.2, fun pk hp => ?_, fun pk hp => ?_, fun pk hp z => ?_⟩
  · have b := List.all_eq_true.mp a2 pk hp
    obtain ⟨b1, b2⟩ := Bool.and_eq_true_iff.mp b
    exact of_decide_eq_true b1
  · have b := List.all_eq_true.mp a2 pk hp
    obtain ⟨b1, b2⟩ := Bool.and_eq_true_iff.mp b
    obtain ⟨b3, b4⟩ := Bool.and_eq_true_iff.mp b2
    exact (of_decide_eq_true b3).1
  · have b := List.all_eq_true.mp a2 pk hp
    obtain ⟨b1, b2⟩ := Bool.and_eq_true_iff.mp b
    obtain ⟨b3, b4⟩ := Bool.and_eq_true_iff.mp b2
    rw [if_pos z] at b4
    exact of_decide_eq_true b4
theorem divM_len2 (poly bys : List Int) : (divM poly bys).2.length = poly.length := by
  unfold divM
  rw [(divGo_len _ _ _ _ _).2]
theorem accM_len (e : Nat) (items : List Int) : (accM e items).length = e := by
  unfold accM
  rw [addL_len, List.length_replicate]
theorem phi_le {e : Nat} (h : e ∈ divs60) : phi e ≤ e := by
  have a : divs60.all (fun e => decide (phi e ≤ e)) = true := by decide +kernel
  exact of_decide_eq_true (List.all_eq_true.mp a e h)
theorem foldM_len {e : Nat} (h : e ∈ divs60) (items : List Int) : (foldM e items).length = phi e := by
  unfold foldM
  rw [List.length_take, divM_len2, accM_len, (eAll h).ce]
  have := phi_le h
  omega
theorem lowM_len {e p k : Nat} {items r : List Int} (h : e ∈ divs60) (hp : (p, k) ∈ ppL e) (hl : items.length = phi e) (hr : lowM items e p = some r) : r.length = phi (e / p) := by
  have A := eAll h
  unfold lowM at hr
  split at hr
  · rename_i z
    split at hr
    · cases hr
    · have e1 := Option.some.inj hr
      rw [← e1, List.length_map, List.length_range, hl]
      exact A.nl _ hp z
  · split at hr
    · cases hr
    · have e1 := Option.some.inj hr
      have n1 := A.nx _ hp
      rw [← e1, List.length_zipWith]
      unfold lowSum
      rw [foldM_len n1, foldM_len n1]
      exact Nat.min_self _
theorem lowFirst_cons (items : List Int) (e : Nat) (pk : Nat × Nat) (ps : List (Nat × Nat)) : lowFirst items e (pk :: ps) = (match lowM items e pk.1 with | some r => some (pk.1, r) | none => lowFirst items e ps) := rfl
theorem leastGo_succ (f e : Nat) (items : List Int) : leastGo (f + 1) e items = (match lowFirst items e (ppL e) with | none => some (e, items) | some (p, r) => leastGo f (e / p) r) := rfl
theorem lowFirst_mem {e p : Nat} {items r : List Int} : ∀ {ps : List (Nat × Nat)}, lowFirst items e ps = some (p, r) → ∃ k, (p, k) ∈ ps ∧ lowM items e p = some r
  | [], h => by cases h
  | pk :: ps, h => by
    unfold lowFirst at h
    cases q : lowM items e pk.1 with
    | none =>
      rw [q] at h
      obtain ⟨k, h1, h2⟩ := lowFirst_mem h
      exact ⟨k, .tail _ h1, h2⟩
    | some r' =>
      rw [q] at h
      have e1 := Option.some.inj h
      injection e1 with e2 e3
      subst e2 e3
      exact ⟨pk.2, .head _, q⟩
section
variable {P : Program} {w : World} {K : PySem.W.Frag} {mg : Str → Option Value} {base : Heap}
def spLeast : Sp := fun vs H Q _ => ∃ (e : Nat) (a : Addr) (items : List Int) (e' : Nat) (its : List Int), vs = [nV e, .ref a] ∧ e ∈ divs60 ∧ LstOrTup H a (intsV items) ∧ items.length ≤ 50000 ∧ leastGo 100 e (foldM e items) = some (e', its) ∧
  ∀ t b H', Same H H' → H' t = some (.tup [nV e', .ref b]) → H' b = some (.lst (intsV its)) → Q (.ref t) H'
theorem sc_least_form : FnScope ["e", "items", "going", "p", "_", "lower"] ["e", "items"] HD.d_least_form.scope := ⟨rfl, rfl, rfl, by decide +kernel, rfl, by decide +kernel, by decide +kernel⟩
theorem ok_least (T : Tx K mg) : Ok P w K mg base CX0 5 HD.d_least_form ["e", "items"] spLeast := by
  have G_folded : Ok P w K mg base CX0 3 _ _ _ := ok_folded T
  have G_prime_powers : Ok P w K mg base CX0 1 _ _ _ := ok_pp T
  have G_lowered : Ok P w K mg base CX0 4 _ _ _ := ok_lowered T
  have nd := sc_least_form.nd
  refine Ok.mk0 T fn__least_form rfl sc_least_form (fun vs H Q E h => ?_) (fun _ _ _ _ _ _ us hl => match us, hl with | [_, _], _ => rfl) (fun cdv A outer s H vs Q E hr h => ?_)
  · obtain ⟨e, a, items, e', its, rfl, _⟩ := h
    rfl
  · obtain ⟨e, a, items, e', its, rfl, he, ha, hil, hgo, k⟩ := h
    refine ⟨_, pss_cons
          -- items = folded(e, items)
          (ps_set (i := 1) nd rfl (.inl rfl) (pe_f (G_folded) (hr.mono (by decide)) T.g_folded pass0 (pa_cons (pv 0) (pa_cons (pv 1) pa_nil))))
         (pss_cons
          -- going = True
          (ps_set (i := 2) nd rfl (.inl rfl) pe_bl)
         (pss_cons
          -- while going:
          (ps_while PassesOwn.never (pt_val (pv 2)) (pss_cons
            -- going = False
            (ps_set (i := 2) nd rfl (.inl rfl) pe_bl)
           (pss_one
            -- for p, _ in prime_powers(e):
            (ps_for PassesOwn.never rfl (pi_tup (pe_f (G_prime_powers) (hr.mono (by decide)) T.g_prime_powers pass0 (pa_cons (pv 0) pa_nil))) (pg_tup rfl (pgs_cons (pg_name (i := 3) nd rfl (.inl rfl)) (pgs_cons (pg_name (i := 4) nd rfl (.inl rfl)) pgs_nil))) (pss_cons
              -- lower = None
              (ps_set (i := 5) nd rfl (.inl rfl) pe_non)
             (pss_cons
              -- if not going:
              (ps_if (pt_not (pt_val (pv 2))) (pss_one
                -- lower = lowered(items, e, p)
                (ps_set (i := 5) nd rfl (.inl rfl) (pe_f (G_lowered) (hr.mono (by decide)) T.g_lowered pass0 (pa_cons (pv 1) (pa_cons (pv 0) (pa_cons (pv 3) pa_nil)))))) (pss_nil))
             (pss_one
              -- if lower is not None:
              (ps_if (pt_cmpR op_notN (pv 5) pe_non (nomark _)) (pss_one
                -- e, items, going = (e // p, lower, True)
                (ps_par3 (i := 0) (j := 1) (l := 2) (by rfl) nd rfl rfl rfl (by decide) (by decide) (by decide) rfl rfl rfl (pa_cons (pe_op op_fdiv (pv 0) (pv 3)) (pa_cons (pv 5) (pa_cons pe_bl pa_nil))) (by rfl))) (pss_nil)))))))))
         (pss_one
          -- return (e, items)
          (ps_ret (pe_tup (pa_cons (pv 0) (pa_cons (pv 1) pa_nil))))))), ?_⟩
    dsimp only [cxOf, Cx.wish]
    walk_at "rd"
    refine ⟨e, a, items, rfl, (eAll he).ok, ha, hil, fun b H1 hb s1 hb1 => ?_⟩
    walk_at "rd"
    have hfl := foldM_len he items
    refine wh (fun f σ H' => Same H H' ∧ ∃ (e1 : Nat) (its1 : List Int) (b : Addr) (go : Bool) (v3 v4 v5 : Option V), σ = [some (nV e1), some (.ref b), some (.bl go), v3, v4, v5] ∧ e1 ∈ divs60 ∧ its1.length = phi e1 ∧ H' b = some (.lst (intsV its1)) ∧
       (if go = true then leastGo f e1 its1 = some (e', its) else (e1 = e' ∧ its1 = its))) 100 ⟨s1, e, _, b, true, none, none, none, rfl, he, hfl, hb1, hgo⟩ ?_
    rintro f σ H' ⟨s2, e1, its1, b, go, v3, v4, v5, rfl, he1, hl1, hb2, hgo1⟩
    walk_at "rd"
    cases go with
    | false =>
      have hgo2 : e1 = e' ∧ its1 = its := hgo1
      obtain ⟨rfl, rfl⟩ := hgo2
      walk_at "rd"
      intro t ht
      exact k t b _ (s2.trans (Same.new ht)) upd_same (upd_old ht hb2)
    | true =>
      have hgo2 : leastGo f e1 its1 = some (e', its) := hgo1
      cases f with
      | zero => cases hgo2
      | succ f =>
      rw [leastGo_succ] at hgo2
      have A := eAll he1
      refine iteT ?_
      refine wstep ?_
      walk_at "rd"
      refine ⟨e1, ppL e1, rfl, ?_, A.pp, fun a H2 s3 hps => ?_⟩
      · have := A.ok.le
        omega
      obtain ⟨ts, hta, hall⟩ := hps
      have hb3 := s3 _ _ hb2
      walk_at "rd"
      refine fj_tup (xs := refsV ts) (fun i σ H' => Same H2 H' ∧ ∃ (e2 : Nat) (its2 : List Int) (b2 : Addr) (go : Bool) (v3 v4 v5 : Option V), σ = [some (nV e2), some (.ref b2), some (.bl go), v3, v4, v5] ∧ H' b2 = some (.lst (intsV its2)) ∧
         (if go = true then (∃ p, lowFirst its1 e1 (ppL e1) = some (p, its2) ∧ e2 = e1 / p) else (e2 = e1 ∧ its2 = its1 ∧ lowFirst its1 e1 ((ppL e1).drop i) = lowFirst its1 e1 (ppL e1))))
         ⟨Same.refl _, e1, its1, b, false, v3, v4, v5, rfl, hb3, rfl, rfl, rfl⟩ (fun i σ H' _ z => SqT.of (z.1 _ _ hta)) ?_ ?_
      · rintro i x σ H3 hx ⟨s4, e2, its2, b2, go, v3, v4, v5, rfl, hb4, hg⟩
        have hi : i < (ppL e1).length := by
          have := (List.getElem?_eq_some_iff.mp hx).1
          rw [List.length_map] at this
          rw [← hall.1]
          exact this
        obtain ⟨t, ht, hp⟩ := hall.get (List.getElem?_eq_getElem hi)
        rw [List.getElem?_map, ht] at hx
        have hx' : V.ref t = x := by simpa using hx
        subst hx'
        obtain ⟨⟨p, kk⟩, hpk⟩ : ∃ z, (ppL e1)[i] = z := ⟨_, rfl⟩
        have hmem : (p, kk) ∈ ppL e1 := by rw [← hpk]; exact List.getElem_mem hi
        rw [hpk] at hp
        have hp' : H2 t = some (.tup [nV p, nV kk]) := hp
        have hp2 := s4 _ _ hp'
        walk_at "rd"
        cases go with
        | true =>
          walk_at "rd"
          refine if_bF (by simp) ?_
          walk_at "rd"
          exact at_i ⟨s4, e2, its2, b2, true, _, _, _, rfl, hb4, hg⟩
        | false =>
          obtain ⟨rfl, rfl, hlf⟩ : e2 = e1 ∧ its2 = its1 ∧ lowFirst its1 e1 ((ppL e1).drop i) = lowFirst its1 e1 (ppL e1) := hg
          rw [List.drop_eq_getElem_cons hi, hpk] at hlf
          rw [lowFirst_cons] at hlf
          walk_at "rd"
          refine ⟨b2, its2, e2, p, rfl, hb4, ?_, fun hn H4 s5 => ?_, fun r hr b5 H4 hb5 s5 hl5 => ?_⟩
          · rw [hl1]
            exact lowOk (A.low _ hmem)
          · have hb6 := s5 _ _ hb4
            walk_at "rd"
            refine if_bF (by simp) ?_
            walk_at "rd"
            rw [hn] at hlf
            exact at_i ⟨s4.trans s5, e2, its2, b2, false, _, _, _, rfl, hb6, rfl, rfl, hlf⟩
          · walk_at "rd"
            refine if_bT (by simp) ?_
            have hp0 := (lowOk (A.low _ hmem)).p2
            have hp5 := (lowOk (A.low _ hmem)).p5
            dsimp only at hp0 hp5
            walk_at "rd"
            rw [hr] at hlf
            exact at_i ⟨s4.trans s5, e2 / p, r, b5, true, _, _, _, rfl, hl5, p, hlf.symm, rfl⟩
      · rintro σ H3 ⟨s4, e2, its2, b2, go, v3, v4, v5, rfl, hb4, hg⟩
        have s24 : Same H H3 := (s2.trans s3).trans s4
        dsimp only
        cases go with
        | true =>
          obtain ⟨p, hp1, rfl⟩ : ∃ p, lowFirst its1 e1 (ppL e1) = some (p, its2) ∧ e2 = e1 / p := hg
          rw [hp1] at hgo2
          obtain ⟨kk, hm1, hm2⟩ := lowFirst_mem hp1
          exact wn f (Nat.lt_succ_self _) ⟨s24, _, its2, b2, true, _, _, _, rfl, A.nx _ hm1, lowM_len he1 hm1 hl1 hm2, hb4, hgo2⟩
        | false =>
          obtain ⟨rfl, rfl, hlf⟩ : e2 = e1 ∧ its2 = its1 ∧ lowFirst its1 e1 ((ppL e1).drop (refsV ts).length) = lowFirst its1 e1 (ppL e1) := hg
          rw [List.length_map, hall.1, List.drop_of_length_le (Nat.le_refl _)] at hlf
          rw [← hlf] at hgo2
          have e9 := Option.some.inj hgo2
          injection e9 with e10 e11
          exact wn f (Nat.lt_succ_self _) ⟨s24, _, its2, b2, false, _, _, _, rfl, he1, hl1, hb4, e10, e11⟩
end
end L2.KL
set_option Elab.async false
set_option linter.all false
set_option maxRecDepth 100000
set_option maxHeartbeats 4000000
namespace L2.KL
open PySem PySem.Spec PyProof.Rows
local macro_rules | `(tactic| walk_at "hp") => `(tactic| first
  | assumption
  | (with_reducible exact upd_same)
  | (apply Same.get; (· assumption); (· walk_at "hp"))
  | (apply upd_old; (· assumption); (· walk_at "hp")))
local macro_rules | `(tactic| walk_at "cl") => `(tactic| first
  | (with_reducible rfl)
  | assumption
  | (walk_at "hp")
  | (apply SqT.of; walk_at "hp")
  | (apply Or.inl; apply SqL.of; walk_at "hp")
  | (apply exL; walk_at "hp")
  | (apply exT; walk_at "hp")
  | (apply sz_nat; simp only [List.length_map, List.length_append, List.length_cons, List.length_nil]; omega)
  | (exact (by decide : (0 : Nat) < 1000))
  | (exact (by decide : (1 : Nat) < 1000))
  | (exact (by decide : (2 : Nat) < 1000))
  | exact rfl)
local macro_rules | `(tactic| walk_at "r1") => `(tactic| first
  | (with_reducible refine rd_seq ?_)
  | ((with_reducible apply rd_var); (· exact rfl))
  | (with_reducible refine rd_c ?_)
  | (with_reducible refine rd_op ?_)
  | (with_reducible refine rd_cb ?_)
  | (with_reducible refine rd_cons ?_)
  | (with_reducible refine rd_nil ?_)
  | (with_reducible refine rd_call ?_)
  | (with_reducible refine rd_lst ?_)
  | (with_reducible refine rd_asg ?_)
  | (with_reducible refine rd_name ?_)
  | (with_reducible refine rd_if ?_)
  | (with_reducible refine rd_test ?_)
  | (with_reducible refine rd_B ?_)
  | (with_reducible refine rd_or ?_)
  | (with_reducible refine rd_not ?_)
  | (with_reducible refine rd_next ?_)
  | (with_reducible refine rd_sfld ?_)
  | (with_reducible refine rd_I0 ?_)
  | ((with_reducible apply rd_eq); (· exact rfl))
  | (with_reducible refine rd_iList ?_)
  | (with_reducible refine rd_iTup ?_)
  | (with_reducible refine rd_lc ?_)
  | ((with_reducible apply rd_cat); (· walk_at "hp"); (· walk_at "hp"); (· simp only [List.length_map, List.length_append, List.length_cons, List.length_nil]; omega))
  | (with_reducible refine rd_gtup ?_)
  | (with_reducible refine rd_gcons ?_)
  | (with_reducible refine rd_gnil ?_)
  | (with_reducible refine rd_notV ?_)
  | (with_reducible refine iteF ?_)
  | (with_reducible refine iteNT ?_)
  | ((with_reducible apply or_tl); (· walk_at "hp"))
  | (with_reducible apply Exists.intro)
  | ((with_reducible refine And.intro ?_ ?_); (· walk_at "cl")))
local macro_rules | `(tactic| walk_at "at") => `(tactic| fail)
local macro_rules | `(tactic| walk_at "rd") => `(tactic| ((repeat walk_at "r1"); (try dsimp only [List.set])))
/-! defs with a default -/
structure OkD (P : Program) (w : World) (K : PySem.W.Frag) (mg : Str → Option Value) (base : Heap) (CX : CXT) (k : Nat) (d : He.DefD) (ps : List Str) (sp : Sp) (dvs : List V) : Prop where
  ok : Ok P w K mg base CX k d ps sp
  exD : ∃ fd ds, FnOk P w K mg base CX k (He.fAd K d.at_) fd ps sp ∧ Vals dvs ds ∧ Binds K fd ps ds
section
variable {X : Cx} {CX : CXT} {k : Nat} {d : He.DefD} {ps : List Str} {sp : Sp} {E : XK} {x m : Str} {p pos apos : Pos} {e o : Expr} {es : List Expr} {ta : TE} {t : TA} {C : Addr} {dvs : List V}
theorem OkD.mono {P : Program} {w : World} {K : PySem.W.Frag} {mg : Str → Option Value} {base : Heap} {j : Nat} (G : OkD P w K mg base CX j d ps sp dvs) (h : j ≤ k) : OkD P w K mg base CX k d ps sp dvs :=
  let ⟨fd, ds, F, r, b⟩ := G.exD; ⟨G.ok.mono h, fd, ds, F.mono h, r, b⟩
/-- C(e, ..), the defaults fill up -/
theorem pe_mk2 (G : OkD X.prog X.w X.K X.mg X.base CX k d ps sp dvs) (hr : Room (k + 1) X.A) (M : Mk X.K C (He.fAd X.K d.at_)) (hm : X.mg x = some (.ref C)) (hx : Passes CX X E) (ha : PA X (e :: es) t) (hg : Gl X x := by rfl)
    (hdb : (x == ("__debug__" : Str)) = false := by decide) (he : starEach (e :: es) X.env = (false, eval e X.env) :: starEach es X.env := by rfl) (hpl : (backTo pos (starEach es X.env)).any (·.1) = false := by rfl) :
    PE X (.Call (.Name x p) (e :: es) [] pos) (tMake C sp dvs E t) := by
  obtain ⟨fd, ds, F, r, b⟩ := G.exD
  exact pe_make M F hr hg hm b r hx ha hdb he hpl
end
/-! the numbers -/
structure Cyc where
  e : Nat
  parts : List Int
  low : Nat
def fsC (e : Nat) (b : Addr) (low : Nat) : List (Str × V) := [("e", nV e), ("parts", .ref b), ("low", nV low)]
def CycAt (C : Addr) (H : Hp) (p : Addr) (c : Cyc) : Prop := ∃ dx b, H p = some (.ins C dx (fsC c.e b c.low)) ∧ H b = some (.tup (intsV c.parts))
theorem CycAt.fz {C : Addr} {H H' : Hp} {p : Addr} {c : Cyc} (s : Fz H H') (h : CycAt C H p c) : CycAt C H' p c := by
  obtain ⟨dx, b, h1, h2⟩ := h
  exact ⟨dx, b, s _ _ h1 rfl, s _ _ h2 rfl⟩
theorem lk_e {e low : Nat} {b : Addr} : (fsC e b low).lookup ("e" : Str) = some (nV e) := rfl
theorem lk_parts {e low : Nat} {b : Addr} : (fsC e b low).lookup ("parts" : Str) = some (.ref b) := rfl
theorem lk_low {e low : Nat} {b : Addr} : (fsC e b low).lookup ("low" : Str) = some (nV low) := rfl
def least (e : Nat) (items : List Int) : Nat × List Int := (leastGo 100 e (foldM e items)).getD (1, [0])
def mkCyc (e : Nat) (items : List Int) (low : Nat) : Cyc :=
  ⟨(least e items).1, (least e items).2.map fun x => x / ((gcdL ((least e items).2 ++ [(low : Int)]) : Nat) : Int), low / gcdL ((least e items).2 ++ [(low : Int)])⟩
theorem leastGo_some : ∀ (f e : Nat) (items : List Int), e < f → e ∈ divs60 → items.length = phi e → ∃ e' its, leastGo f e items = some (e', its) ∧ e' ∈ divs60 ∧ its.length = phi e'
  | 0, e, items, h, _, _ => by omega
  | f + 1, e, items, h, he, hl => by
    rw [leastGo_succ]
    cases q : lowFirst items e (ppL e) with
    | none => exact ⟨e, items, rfl, he, hl⟩
    | some z =>
      obtain ⟨p, r⟩ := z
      obtain ⟨k, h1, h2⟩ := lowFirst_mem q
      have A := eAll he
      have h3 := lowOk (A.low _ h1)
      have h4 := h3.p2
      have h5 := A.ok.pos
      dsimp only at h4
      exact leastGo_some f (e / p) r (by have := Nat.div_lt_self (n := e) (k := p) (by omega) (by omega); omega) (A.nx _ h1) (lowM_len he h1 hl h2)
theorem div60_le {e : Nat} (h : e ∈ divs60) : 1 ≤ e ∧ e ≤ 60 ∧ 1 ≤ phi e ∧ phi e ≤ 16 := by
  have a : divs60.all (fun e => decide (1 ≤ e ∧ e ≤ 60 ∧ 1 ≤ phi e ∧ phi e ≤ 16)) = true := by decide +kernel
  exact of_decide_eq_true (List.all_eq_true.mp a e h)
theorem least_ok {e : Nat} (items : List Int) (he : e ∈ divs60) : leastGo 100 e (foldM e items) = some ((least e items).1, (least e items).2) ∧ (least e items).1 ∈ divs60 ∧ (least e items).2.length = phi (least e items).1 := by
  obtain ⟨e', its, h1, h2, h3⟩ := leastGo_some 100 e (foldM e items) (by have := div60_le he; omega) he (foldM_len he items)
  have : least e items = (e', its) := by
    unfold least
    rw [h1]
    rfl
  rw [this]
  exact ⟨h1, h2, h3⟩
/-- all but one instance stand -/
def SameX (x : Addr) (H H' : Hp) : Prop := ∀ p o, p ≠ x → H p = some o → H' p = some o
theorem SameX.made {x dx : Addr} {H H' : Hp} {o o2 : HO} (h1 : H x = none) (h2 : H dx = none) (s : SameX x (upd (upd H dx o) x o2) H') : Same H H' := fun p q hp => by
  have n1 := ne_of_none hp h1
  have n2 := ne_of_none hp h2
  refine s p q n1 ?_
  rw [upd_ne n1, upd_ne n2]
  exact hp
theorem SameX.of {x : Addr} {H H' : Hp} (s : Same H H') : SameX x H H' := fun p o _ h => s p o h
theorem SameX.trans {x : Addr} {H H1 H2 : Hp} (a : SameX x H H1) (b : SameX x H1 H2) : SameX x H H2 := fun p o n h => b p o n (a p o n h)
theorem SameX.upd {x : Addr} {H : Hp} {o : HO} : SameX x H (upd H x o) := fun p q n h => by
  rw [upd_ne n]
  exact h
theorem range_map_ints (xs : List Int) (f : Int → Int) : (List.range xs.length).map (fun i => V.int (f (xs.getD i 0))) = intsV (xs.map f) := by
  apply List.ext_getElem?
  intro i
  rw [List.getElem?_map, List.getElem?_map, List.getElem?_map]
  by_cases hi : i < xs.length
  · rw [List.getElem?_range hi, List.getElem?_eq_getElem hi]
    show some (V.int (f (xs.getD i 0))) = some (V.int (f xs[i]))
    rw [List.getD_eq_getElem?_getD, List.getElem?_eq_getElem hi]
    rfl
  · rw [List.getElem?_eq_none (by rw [List.length_range]; omega), List.getElem?_eq_none (by omega)]
    rfl
section
variable {P : Program} {w : World} {K : PySem.W.Frag} {mg : Str → Option Value} {base : Heap}
def spCyInit (C : Addr) : Sp := fun vs H Q _ => ∃ (x a dx : Addr) (e : Nat) (items : List Int) (low : Nat), vs = [.ref x, nV e, .ref a, nV low] ∧ H x = some (.ins C dx []) ∧ e ∈ divs60 ∧ LstOrTup H a (intsV items) ∧ items.length ≤ 50000 ∧ 0 < low ∧ low < 2 ^ 9000 ∧
  ∀ b H', SameX x H H' → H' x = some (.ins C dx (fsC (mkCyc e items low).e b (mkCyc e items low).low)) → H' b = some (.tup (intsV (mkCyc e items low).parts)) → Q .non H'
theorem sc_Cyclo_init : FnScope ["self", "e", "items", "low", "shared", "item"] ["self", "e", "items", "low"] HD.dCyclo_init.scope := ⟨rfl, rfl, rfl, by decide +kernel, rfl, by decide +kernel, by decide +kernel⟩
theorem ok_cyinit (T : Tx K mg) : OkD P w K mg base CX0 6 HD.dCyclo_init ["self", "e", "items", "low"] (spCyInit (CY K)) [.int 1] := by
  have c1 := T.c_Cyclo
  have n1 := T.na_Cyclo_e
  have n2 := T.na_Cyclo_parts
  have n3 := T.na_Cyclo_low
  have G_is_integer : Ok P w K mg base CX0 1 _ _ _ := ok_isint T
  have G_least_form : Ok P w K mg base CX0 5 _ _ _ := ok_least T
  have G_common : Ok P w K mg base CX0 1 _ _ _ := ok_common T
  obtain ⟨t60, hMOST⟩ := T.i_MOST
  have nd := sc_Cyclo_init.nd
  obtain ⟨fd, F⟩ := T.fn 52 fn_Cyclo_init
  have hdv : HD.dCyclo_init.dvs K = [.int 1] := rfl
  rw [hdv] at F
  have OK : FnOk P w K mg base CX0 6 (He.fAd K HD.dCyclo_init.at_) fd ["self", "e", "items", "low"] (spCyInit (CY K)) := by
    refine F.ok sc_Cyclo_init (fun vs H Q E h => ?_) fun cdv A outer s H vs Q E hr h => ?_
    · obtain ⟨x, a, dx, e, items, low, rfl, _⟩ := h
      rfl
    · suffices hh : ∃ t, PSs (cxOf CX0 P w K mg base ["self", "e", "items", "low", "shared", "item"] HD.dCyclo_init.qual HD.dCyclo_init.scope (He.fAd K HD.dCyclo_init.at_) cdv A outer s H E).nox HD.dCyclo_init.body t ∧ t { nx := fun _ H' => Q .non H', rt := Q } (start ["self", "e", "items", "low", "shared", "item"] vs) H from let ⟨t, p, q⟩ := hh; ⟨t, PSs.nox p, q⟩
      obtain ⟨x, a, dx, e, items, low, rfl, hx, he, ha, hil, hlow, hlow2, k⟩ := h
      obtain ⟨g1, g2, g3⟩ := least_ok items he
      have d1 := div60_le he
      have d2 := div60_le g2
      rcases ha with ha | ha
      · have hLT : ∀ H', Same H H' → LstOrTup H' a (intsV items) := fun H' s => .inl (s _ _ ha)
        refine ⟨_, pss_cons
          -- if not is_integer(e) or e < 1 or e > MOST or (not is_integer(low)):
          (ps_if (PW.pt (pw_or (pt_not (pt_val (pe_f (G_is_integer) (hr.mono (by decide)) T.g_is_integer pass0 (pa_cons (pv 1) pa_nil)))) (pw_or (pt_cmpR op_lt (pv 1) pe_int (nomark _)) (pw_or (pt_cmpR op_gt (pv 1) (pe_glob (v := .int 5000) rfl hMOST ⟨_, rfl⟩) (nomark _)) (pw_or1 (pt_not (pt_val (pe_f (G_is_integer) (hr.mono (by decide)) T.g_is_integer pass0 (pa_cons (pv 3) pa_nil))))))))) (pss_one
            -- raise Malformed('number')
            (ps_never)) (pss_nil))
         (pss_cons
          -- if any([not is_integer(item) for item in items]):
          (ps_if (pt_val (pe_callB (cr_any rfl) (by rfl) T.b_any (by decide +kernel) (pa_cons (pe_lc (own := [("item", 5)]) (g := gName 5) (tt := tYes) (by rfl) nd (pi_list (pv 2)) (blkOk_by (own := [("item", 5)]) (N := ["self", "e", "items", "low", "shared", "item"]) (sc := HD.dCyclo_init.scope) (by decide +kernel)) (fun _ _ _ _ _ => (pg_name (i := 5) nd rfl (.inl rfl))) (fun _ _ _ _ _ => pts_nil) (fun _ _ _ _ _ => (pe_not (pe_f (G_is_integer) (hr.mono (by decide)) T.g_is_integer pass0 (pa_cons (pv 5) pa_nil))))) pa_nil))) (pss_one
            -- raise Malformed('number')
            (ps_never)) (pss_nil))
         (pss_cons
          -- if low == 0:
          (ps_if (pt_cmpR op_eq (pv 3) pe_int (nomark _)) (pss_one
            -- raise ZeroDivisor('denominator 0')
            (ps_never)) (pss_nil))
         (pss_cons
          -- e, items = least_form(e, items)
          (ps_asg (pe_f (G_least_form) (hr.mono (by decide)) T.g_least_form pass0 (pa_cons (pv 1) (pa_cons (pv 2) pa_nil))) (pg_tup rfl (pgs_cons (pg_name (i := 1) nd rfl (.inl rfl)) (pgs_cons (pg_name (i := 2) nd rfl (.inl rfl)) pgs_nil))))
         (pss_cons
          -- shared = common(list(items) + [low])
          (ps_set (i := 4) nd rfl (.inr rfl) (pe_f (G_common) (hr.mono (by decide)) T.g_common pass0 (pa_cons (pe_op op_cat (pe_callTy call_list_of (by rfl) T.b_list (by decide +kernel) (pa_cons (pv 2) pa_nil)) (pe_lst (pa_cons (pv 3) pa_nil))) pa_nil)))
         (pss_cons
          -- if low < 0:
          (ps_if (pt_cmpR op_lt (pv 3) pe_int (nomark _)) (pss_one
            -- shared = -shared
            (ps_set (i := 4) nd rfl (.inr rfl) (pe_un un_neg (pv 4)))) (pss_nil))
         (pss_cons
          -- self.e = e
          (ps_fld (pv 0) (pv 1) rfl)
         (pss_cons
          -- self.parts = tuple([item // shared for item in items])
          (ps_fld (pv 0) (pe_callTy call_tuple_of (by rfl) T.b_tuple (by decide +kernel) (pa_cons (pe_lc (own := [("item", 5)]) (g := gName 5) (tt := tYes) (by rfl) nd (pi_list (pv 2)) (blkOk_by (own := [("item", 5)]) (N := ["self", "e", "items", "low", "shared", "item"]) (sc := HD.dCyclo_init.scope) (by decide +kernel)) (fun _ _ _ _ _ => (pg_name (i := 5) nd rfl (.inl rfl))) (fun _ _ _ _ _ => pts_nil) (fun _ _ _ _ _ => (pe_op op_fdivW (pv 5) (pv 4)))) pa_nil)) rfl)
         (pss_one
          -- self.low = low // shared
          (ps_fld (pv 0) (pe_op op_fdivW (pv 3) (pv 4)) rfl))))))))), ?_⟩
        dsimp only [cxOf, Cx.wish]
        walk_at "rd"
        refine ⟨(e : Int), rfl, fun H1 s1 => ?_⟩
        walk_at "rd"
        refine if_d (fun z => absurd z (by omega)) (fun _ => ?_)
        walk_at "rd"
        refine if_d (fun z => absurd z (by omega)) (fun _ => ?_)
        walk_at "rd"
        refine ⟨(low : Int), rfl, fun H2 s2 => ?_⟩
        walk_at "rd"
        have ha2 := s2 _ _ (s1 _ _ ha)
        refine lcj_list (xs := intsV items) (fun i v H => v = V.bl false) (fun i v => fm_eq _ _) (SqL.of ha2) (by rw [List.length_map]; omega) (fun x => rfl) (fun i x H6 hx s6 Q' q => ?_) (fun D H3 ys hD s3 hl3 hyl hR => ?_)
        · obtain ⟨n, rfl, _⟩ := ints_get hx
          walk_at "rd"
          refine ⟨n, rfl, fun H7 s7 => ?_⟩
          walk_at "rd"
          exact q _ H7 s7 rfl
        ·
          have hys : ys = ((List.range items.length).map fun _ => false).map V.bl := by
            rw [List.map_map]
            exact list_eq_map (by rw [hyl, List.length_map]) hR
          rw [hys] at hl3
          walk_at "rd"
          refine rd_any hl3 ?_
          have eA : (((List.range items.length).map fun _ => false).any id) = false := by
            rw [List.any_map, List.any_eq_false]
            intro _ _ z
            cases z
          rw [eA]
          walk_at "rd"
          refine if_eq (fun z => absurd z (by omega)) (fun _ => ?_)
          have s03 : Same H H3 := (s1.trans s2).trans s3
          walk_at "rd"
          refine ⟨e, a, items, _, _, rfl, he, hLT _ s03, hil, g1, fun t b H4 s4 ht hb => ?_⟩
          walk_at "rd"
          intro l hl
          walk_at "rd"
          intro m hm
          walk_at "rd"
          intro n hn
          walk_at "rd"
          have en : upd (upd (upd H4 l (.lst (intsV (least e items).2))) m (.lst [nV low])) n (.lst (intsV (least e items).2 ++ [nV low])) n = some (.lst (intsV ((least e items).2 ++ [(low : Int)]))) := by
            rw [upd_same]
            show _ = some (HO.lst (((least e items).2 ++ [(low : Int)]).map V.int))
            rw [List.map_append]
            rfl
          refine ⟨n, _, rfl, .inl en, fun H5 s5 => ?_⟩
          have s45 : Same H4 H5 := (((Same.new hl).trans (Same.new hm)).trans (Same.new hn)).trans s5
          have s05 : Same H H5 := (s03.trans s4).trans s45
          have hgp : 0 < gcdL ((least e items).2 ++ [(low : Int)]) := by
            rw [gcdL_snoc]
            exact Nat.gcd_pos_of_pos_right _ (by omega)
          have hgl : gcdL ((least e items).2 ++ [(low : Int)]) ≤ low := by
            rw [gcdL_snoc]
            exact Nat.le_of_dvd hlow (Nat.gcd_dvd_right _ _)
          have hdv : ∀ i : Int, CDivW i ((gcdL ((least e items).2 ++ [(low : Int)]) : Nat) : Int) := fun i => wide_div (b := 9000) (by omega) (by rw [Int.natAbs_natCast]; omega) (by omega) (by omega)
          have eP : (mkCyc e items low).parts = (least e items).2.map fun x => x / ((gcdL ((least e items).2 ++ [(low : Int)]) : Nat) : Int) := rfl
          have eE : (mkCyc e items low).e = (least e items).1 := rfl
          have eL : (mkCyc e items low).low = low / gcdL ((least e items).2 ++ [(low : Int)]) := rfl
          rw [eP, eE, eL] at k
          generalize hg : gcdL ((least e items).2 ++ [(low : Int)]) = g at *
          walk_at "rd"
          refine if_d (fun z => absurd z (by omega)) (fun _ => ?_)
          have hx5 := s05 _ _ hx
          have hb5 := s45 _ _ hb
          have hbx : b ≠ x := by
            rintro rfl
            rw [hx5] at hb5
            cases hb5
          walk_at "rd"
          generalize hH6 : upd H5 x _ = H6
          have sx6 : SameX x H5 H6 := by
            rw [← hH6]
            exact SameX.upd
          have hb6 := sx6 _ _ hbx hb5
          have hx6 : H6 x = some (.ins (CY K) dx (putF (Str.ofString "e") (nV (least e items).1) [])) := by
            rw [← hH6]
            exact upd_same
          clear hH6
          walk_at "rd"
          refine lcj_list (xs := intsV (least e items).2) (fun i v H => v = V.int ((least e items).2.getD i 0 / (g : Int))) (fun i v => fm_eq _ _) (SqL.of hb6) (by rw [List.length_map, g3]; omega) (fun x => rfl) (fun i x H7 hx s7 Q' q => ?_) (fun D7 H7 ys7 hD7 s7 hl7 hyl7 hR7 => ?_)
          · obtain ⟨n, rfl, hn⟩ := ints_get hx
            walk_at "rd"
            refine rd_I (hdv _) ?_
            refine q _ H7 (Same.refl _) ?_
            rw [List.getD_eq_getElem?_getD, hn]
            rfl
          have hys7 : ys7 = intsV ((least e items).2.map fun x => x / (g : Int)) := by
            rw [list_eq_map (by rw [hyl7, List.length_map]) hR7]
            exact range_map_ints (least e items).2 fun x => x / (g : Int)
          rw [hys7] at hl7
          have hx7 := s7 _ _ hx6
          walk_at "rd"
          intro tp htp
          walk_at "rd"
          refine rd_I (hdv _) ?_
          walk_at "rd"
          have ntx : tp ≠ x := by
            rintro rfl
            rw [hx7] at htp
            cases htp
          refine k tp _ ((((SameX.of s05).trans sx6).trans (SameX.of s7)).trans (((SameX.of (Same.new htp)).trans SameX.upd).trans SameX.upd)) upd_same ?_
          rw [upd_ne ntx, upd_ne ntx, upd_same]
      · have hLT : ∀ H', Same H H' → LstOrTup H' a (intsV items) := fun H' s => .inr (s _ _ ha)
        refine ⟨_, pss_cons
          -- if not is_integer(e) or e < 1 or e > MOST or (not is_integer(low)):
          (ps_if (PW.pt (pw_or (pt_not (pt_val (pe_f (G_is_integer) (hr.mono (by decide)) T.g_is_integer pass0 (pa_cons (pv 1) pa_nil)))) (pw_or (pt_cmpR op_lt (pv 1) pe_int (nomark _)) (pw_or (pt_cmpR op_gt (pv 1) (pe_glob (v := .int 5000) rfl hMOST ⟨_, rfl⟩) (nomark _)) (pw_or1 (pt_not (pt_val (pe_f (G_is_integer) (hr.mono (by decide)) T.g_is_integer pass0 (pa_cons (pv 3) pa_nil))))))))) (pss_one
            -- raise Malformed('number')
            (ps_never)) (pss_nil))
         (pss_cons
          -- if any([not is_integer(item) for item in items]):
          (ps_if (pt_val (pe_callB (cr_any rfl) (by rfl) T.b_any (by decide +kernel) (pa_cons (pe_lc (own := [("item", 5)]) (g := gName 5) (tt := tYes) (by rfl) nd (pi_tup (pv 2)) (blkOk_by (own := [("item", 5)]) (N := ["self", "e", "items", "low", "shared", "item"]) (sc := HD.dCyclo_init.scope) (by decide +kernel)) (fun _ _ _ _ _ => (pg_name (i := 5) nd rfl (.inl rfl))) (fun _ _ _ _ _ => pts_nil) (fun _ _ _ _ _ => (pe_not (pe_f (G_is_integer) (hr.mono (by decide)) T.g_is_integer pass0 (pa_cons (pv 5) pa_nil))))) pa_nil))) (pss_one
            -- raise Malformed('number')
            (ps_never)) (pss_nil))
         (pss_cons
          -- if low == 0:
          (ps_if (pt_cmpR op_eq (pv 3) pe_int (nomark _)) (pss_one
            -- raise ZeroDivisor('denominator 0')
            (ps_never)) (pss_nil))
         (pss_cons
          -- e, items = least_form(e, items)
          (ps_asg (pe_f (G_least_form) (hr.mono (by decide)) T.g_least_form pass0 (pa_cons (pv 1) (pa_cons (pv 2) pa_nil))) (pg_tup rfl (pgs_cons (pg_name (i := 1) nd rfl (.inl rfl)) (pgs_cons (pg_name (i := 2) nd rfl (.inl rfl)) pgs_nil))))
         (pss_cons
          -- shared = common(list(items) + [low])
          (ps_set (i := 4) nd rfl (.inr rfl) (pe_f (G_common) (hr.mono (by decide)) T.g_common pass0 (pa_cons (pe_op op_cat (pe_callTy call_list_of (by rfl) T.b_list (by decide +kernel) (pa_cons (pv 2) pa_nil)) (pe_lst (pa_cons (pv 3) pa_nil))) pa_nil)))
         (pss_cons
          -- if low < 0:
          (ps_if (pt_cmpR op_lt (pv 3) pe_int (nomark _)) (pss_one
            -- shared = -shared
            (ps_set (i := 4) nd rfl (.inr rfl) (pe_un un_neg (pv 4)))) (pss_nil))
         (pss_cons
          -- self.e = e
          (ps_fld (pv 0) (pv 1) rfl)
         (pss_cons
          -- self.parts = tuple([item // shared for item in items])
          (ps_fld (pv 0) (pe_callTy call_tuple_of (by rfl) T.b_tuple (by decide +kernel) (pa_cons (pe_lc (own := [("item", 5)]) (g := gName 5) (tt := tYes) (by rfl) nd (pi_list (pv 2)) (blkOk_by (own := [("item", 5)]) (N := ["self", "e", "items", "low", "shared", "item"]) (sc := HD.dCyclo_init.scope) (by decide +kernel)) (fun _ _ _ _ _ => (pg_name (i := 5) nd rfl (.inl rfl))) (fun _ _ _ _ _ => pts_nil) (fun _ _ _ _ _ => (pe_op op_fdivW (pv 5) (pv 4)))) pa_nil)) rfl)
         (pss_one
          -- self.low = low // shared
          (ps_fld (pv 0) (pe_op op_fdivW (pv 3) (pv 4)) rfl))))))))), ?_⟩
        dsimp only [cxOf, Cx.wish]
        walk_at "rd"
        refine ⟨(e : Int), rfl, fun H1 s1 => ?_⟩
        walk_at "rd"
        refine if_d (fun z => absurd z (by omega)) (fun _ => ?_)
        walk_at "rd"
        refine if_d (fun z => absurd z (by omega)) (fun _ => ?_)
        walk_at "rd"
        refine ⟨(low : Int), rfl, fun H2 s2 => ?_⟩
        walk_at "rd"
        have ha2 := s2 _ _ (s1 _ _ ha)
        refine lcj_tup (xs := intsV items) (fun i v H => v = V.bl false) (fun i v => fm_eq _ _) (SqT.of ha2) (by rw [List.length_map]; omega) (fun x => rfl) (fun i x H6 hx s6 Q' q => ?_) (fun D H3 ys hD s3 hl3 hyl hR => ?_)
        · obtain ⟨n, rfl, _⟩ := ints_get hx
          walk_at "rd"
          refine ⟨n, rfl, fun H7 s7 => ?_⟩
          walk_at "rd"
          exact q _ H7 s7 rfl
        ·
          have hys : ys = ((List.range items.length).map fun _ => false).map V.bl := by
            rw [List.map_map]
            exact list_eq_map (by rw [hyl, List.length_map]) hR
          rw [hys] at hl3
          walk_at "rd"
          refine rd_any hl3 ?_
          have eA : (((List.range items.length).map fun _ => false).any id) = false := by
            rw [List.any_map, List.any_eq_false]
            intro _ _ z
            cases z
          rw [eA]
          walk_at "rd"
          refine if_eq (fun z => absurd z (by omega)) (fun _ => ?_)
          have s03 : Same H H3 := (s1.trans s2).trans s3
          walk_at "rd"
          refine ⟨e, a, items, _, _, rfl, he, hLT _ s03, hil, g1, fun t b H4 s4 ht hb => ?_⟩
          walk_at "rd"
          intro l hl
          walk_at "rd"
          intro m hm
          walk_at "rd"
          intro n hn
          walk_at "rd"
          have en : upd (upd (upd H4 l (.lst (intsV (least e items).2))) m (.lst [nV low])) n (.lst (intsV (least e items).2 ++ [nV low])) n = some (.lst (intsV ((least e items).2 ++ [(low : Int)]))) := by
            rw [upd_same]
            show _ = some (HO.lst (((least e items).2 ++ [(low : Int)]).map V.int))
            rw [List.map_append]
            rfl
          refine ⟨n, _, rfl, .inl en, fun H5 s5 => ?_⟩
          have s45 : Same H4 H5 := (((Same.new hl).trans (Same.new hm)).trans (Same.new hn)).trans s5
          have s05 : Same H H5 := (s03.trans s4).trans s45
          have hgp : 0 < gcdL ((least e items).2 ++ [(low : Int)]) := by
            rw [gcdL_snoc]
            exact Nat.gcd_pos_of_pos_right _ (by omega)
          have hgl : gcdL ((least e items).2 ++ [(low : Int)]) ≤ low := by
            rw [gcdL_snoc]
            exact Nat.le_of_dvd hlow (Nat.gcd_dvd_right _ _)
          have hdv : ∀ i : Int, CDivW i ((gcdL ((least e items).2 ++ [(low : Int)]) : Nat) : Int) := fun i => wide_div (b := 9000) (by omega) (by rw [Int.natAbs_natCast]; omega) (by omega) (by omega)
          have eP : (mkCyc e items low).parts = (least e items).2.map fun x => x / ((gcdL ((least e items).2 ++ [(low : Int)]) : Nat) : Int) := rfl
          have eE : (mkCyc e items low).e = (least e items).1 := rfl
          have eL : (mkCyc e items low).low = low / gcdL ((least e items).2 ++ [(low : Int)]) := rfl
          rw [eP, eE, eL] at k
          generalize hg : gcdL ((least e items).2 ++ [(low : Int)]) = g at *
          walk_at "rd"
          refine if_d (fun z => absurd z (by omega)) (fun _ => ?_)
          have hx5 := s05 _ _ hx
          have hb5 := s45 _ _ hb
          have hbx : b ≠ x := by
            rintro rfl
            rw [hx5] at hb5
            cases hb5
          walk_at "rd"
          generalize hH6 : upd H5 x _ = H6
          have sx6 : SameX x H5 H6 := by
            rw [← hH6]
            exact SameX.upd
          have hb6 := sx6 _ _ hbx hb5
          have hx6 : H6 x = some (.ins (CY K) dx (putF (Str.ofString "e") (nV (least e items).1) [])) := by
            rw [← hH6]
            exact upd_same
          clear hH6
          walk_at "rd"
          refine lcj_list (xs := intsV (least e items).2) (fun i v H => v = V.int ((least e items).2.getD i 0 / (g : Int))) (fun i v => fm_eq _ _) (SqL.of hb6) (by rw [List.length_map, g3]; omega) (fun x => rfl) (fun i x H7 hx s7 Q' q => ?_) (fun D7 H7 ys7 hD7 s7 hl7 hyl7 hR7 => ?_)
          · obtain ⟨n, rfl, hn⟩ := ints_get hx
            walk_at "rd"
            refine rd_I (hdv _) ?_
            refine q _ H7 (Same.refl _) ?_
            rw [List.getD_eq_getElem?_getD, hn]
            rfl
          have hys7 : ys7 = intsV ((least e items).2.map fun x => x / (g : Int)) := by
            rw [list_eq_map (by rw [hyl7, List.length_map]) hR7]
            exact range_map_ints (least e items).2 fun x => x / (g : Int)
          rw [hys7] at hl7
          have hx7 := s7 _ _ hx6
          walk_at "rd"
          intro tp htp
          walk_at "rd"
          refine rd_I (hdv _) ?_
          walk_at "rd"
          have ntx : tp ≠ x := by
            rintro rfl
            rw [hx7] at htp
            cases htp
          refine k tp _ ((((SameX.of s05).trans sx6).trans (SameX.of s7)).trans (((SameX.of (Same.new htp)).trans SameX.upd).trans SameX.upd)) upd_same ?_
          rw [upd_ne ntx, upd_ne ntx, upd_same]
  have B0 : ∃ ds, Vals ([.int 1] : List V) ds ∧ Binds K fd ["self", "e", "items", "low"] ds := F.binds1 3 0 (by simp) rfl fun T kV doc pm an cdv ct us its h1 h2 => match us, its, h1, h2 with | [_, _, _], [_], _, _ => ⟨_, rfl, rfl⟩
  have B1 : ∃ ds, Vals ([] : List V) ds ∧ Binds K fd ["self", "e", "items", "low"] ds := F.binds1 4 1 (by simp) rfl fun T kV doc pm an cdv ct us its h1 h2 => match us, its, h1, h2 with | [_, _, _, _], [_], _, _ => ⟨_, rfl, rfl⟩
  obtain ⟨ds, r, b⟩ := B0
  obtain ⟨ds1, r1, b1⟩ := B1
  cases r1
  exact ⟨⟨⟨fd, OK, b1⟩, F.kp⟩, fd, ds, OK, r, b⟩
end
end L2.KL
set_option Elab.async false
set_option linter.all false
set_option maxRecDepth 100000
set_option maxHeartbeats 4000000
namespace L2.KL
open PySem PySem.Spec PyProof.Rows
theorem nk_cyc {e low : Nat} {b : Addr} {m : Str} (h : (m == ("e" : Str) || (m == ("parts" : Str) || m == ("low" : Str))) = false) : (fsC e b low).lookup m = none := by
  obtain ⟨h1, h2⟩ := Bool.or_eq_false_iff.mp h
  obtain ⟨h3, h4⟩ := Bool.or_eq_false_iff.mp h2
  unfold fsC
  rw [List.lookup_cons, h1]
  dsimp only
  rw [List.lookup_cons, h3]
  dsimp only
  rw [List.lookup_cons, h4]
  rfl
local macro_rules | `(tactic| walk_at "hp") => `(tactic| first
  | assumption
  | (apply Same.get; (· assumption); (· walk_at "hp")))
local macro_rules | `(tactic| walk_at "cl") => `(tactic| first
  | (with_reducible rfl)
  | assumption
  | (with_reducible exact lk_e)
  | (with_reducible exact lk_parts)
  | (with_reducible exact lk_low)
  | (with_reducible exact nk_cyc (by decide +kernel))
  | (walk_at "hp")
  | (apply exT; walk_at "hp")
  | (apply sz_nat; simp only [List.length_map, List.length_append, List.length_cons, List.length_nil]; omega))
local macro_rules | `(tactic| walk_at "r1") => `(tactic| first
  | ((with_reducible apply rd_var); (· exact rfl))
  | (with_reducible refine rd_c ?_)
  | (with_reducible refine rd_op ?_)
  | (with_reducible refine rd_fld ?_)
  | (with_reducible refine rd_cb ?_)
  | (with_reducible refine rd_cons ?_)
  | (with_reducible refine rd_nil ?_)
  | (with_reducible refine rd_meth ?_)
  | (with_reducible refine rd_tup ?_)
  | (with_reducible refine rd_ret ?_)
  | ((with_reducible apply rd_I); (· first | assumption | (dsimp only; omega) | omega | (unfold CMul; omega) | (unfold CDiv; omega)))
  | (with_reducible refine rd_iTup ?_)
  | (with_reducible refine rd_lc ?_)
  | (with_reducible refine rd_make ?_)
  | (with_reducible refine rd_andV ?_)
  | (with_reducible refine iteT ?_)
  | ((with_reducible apply isi_own); (· assumption); (· assumption); (· walk_at "hp"))
  | (with_reducible apply Exists.intro)
  | ((with_reducible refine And.intro ?_ ?_); (· walk_at "cl")))
local macro_rules | `(tactic| walk_at "at") => `(tactic| fail)
local macro_rules | `(tactic| walk_at "rd") => `(tactic| ((repeat walk_at "r1"); (try dsimp only [List.set])))
/-- below a power of two -/
def Lb (b n : Nat) : Prop := n < 2 ^ b
theorem pow_add_le {a b c : Nat} (h : a + b ≤ c) : 2 ^ a * 2 ^ b ≤ 2 ^ c := by
  rw [← Nat.pow_add]
  exact Nat.pow_le_pow_right (by omega) h
theorem Lb.mul {a b n m : Nat} (h : Lb a n) (g : Lb b m) : Lb (a + b) (n * m) := by
  unfold Lb
  rw [Nat.pow_add]
  exact Nat.mul_lt_mul'' h g
theorem Lb.mono {a b n : Nat} (h : Lb a n) (g : a ≤ b) : Lb b n := Nat.lt_of_lt_of_le h (Nat.pow_le_pow_right (by omega) g)
theorem Lb.le {a n m : Nat} (h : Lb a n) (g : m ≤ n) : Lb a m := Nat.lt_of_le_of_lt g h
theorem lb_small {n : Nat} (h : n ≤ 1000) : Lb 10 n := by
  unfold Lb
  omega
theorem cmw {a b : Nat} {i j : Int} (h : Lb a i.natAbs) (g : Lb b j.natAbs) (h0 : 0 < a) (h1 : 0 < b) (h9 : a + b ≤ 1000000) : CMulW i j := wide_mul h g h0 h1 h9
/-- the parts below a power of two -/
def Pb (b : Nat) (xs : List Int) : Prop := ∀ x ∈ xs, Lb b x.natAbs
theorem Pb.at_ {b : Nat} {xs : List Int} (h : Pb b xs) (i : Nat) : Lb b (xs.getD i 0).natAbs := by
  rw [List.getD_eq_getElem?_getD]
  cases e : xs[i]? with
  | none => exact Nat.pow_pos (by omega)
  | some x => exact h x (List.mem_of_getElem? e)
structure CGood (c : Cyc) : Prop where
  e : c.e ∈ divs60
  len : c.parts.length = phi c.e
  low : 0 < c.low
theorem mkCyc_good {e low : Nat} {items : List Int} (he : e ∈ divs60) (hl : 0 < low) : CGood (mkCyc e items low) := by
  obtain ⟨g1, g2, g3⟩ := least_ok items he
  refine ⟨g2, ?_, ?_⟩
  · show ((least e items).2.map _).length = _
    rw [List.length_map]
    exact g3
  · show 0 < low / gcdL ((least e items).2 ++ [(low : Int)])
    rw [gcdL_snoc, Int.natAbs_natCast]
    exact Nat.div_pos (Nat.le_of_dvd hl (Nat.gcd_dvd_right _ _)) (Nat.gcd_pos_of_pos_right _ hl)
theorem mkCy_use {C : Addr} {H1 : Hp} {Q : VK} {E : XK} {vs : List V} (e : Nat) (a : Addr) (items : List Int) (low : Nat) (hv : vs = [nV e, .ref a, nV low]) (he : e ∈ divs60) (ha : LstOrTup H1 a (intsV items)) (hl : items.length ≤ 50000) (h0 : 0 < low) (h9 : low < 2 ^ 9000)
    (k : ∀ q H', Same H1 H' → CycAt C H' q (mkCyc e items low) → Q (.ref q) H') : ∀ x dx, H1 x = none → H1 dx = none → dx ≠ x → spCyInit C (.ref x :: vs) (upd (upd H1 dx (.own x)) x (.ins C dx [])) (fun v H2 => v = .non ∧ Q (.ref x) H2) E := by
  intro x dx hx hdx hn
  subst hv
  refine ⟨x, a, dx, e, items, low, rfl, upd_same, he, ?_, hl, h0, h9, fun b H' s h1 h2 => ⟨rfl, k x H' (SameX.made hx hdx s) ⟨dx, b, h1, h2⟩⟩⟩
  rcases ha with ha | ha
  · left
    rw [upd_ne (ne_of_none ha hx), upd_ne (ne_of_none ha hdx)]
    exact ha
  · right
    rw [upd_ne (ne_of_none ha hx), upd_ne (ne_of_none ha hdx)]
    exact ha
def overM (c : Cyc) (n : Nat) : Cyc := mkCyc c.e c.parts (c.low * n)
def scaledM (c : Cyc) (n : Nat) : Cyc := mkCyc c.e (c.parts.map fun x => (n : Int) * x) c.low
def ofIntM (n : Int) : Cyc := mkCyc 1 [n] 1
section
variable {P : Program} {w : World} {K : PySem.W.Frag} {mg : Str → Option Value} {base : Heap}
def spKey (C : Addr) : Sp := fun vs H Q _ => ∃ (p : Addr) (c : Cyc), vs = [.ref p] ∧ CycAt C H p c ∧ ∀ t H', Same H H' → KeyAt H' t (c.e : Int) c.parts (c.low : Int) → Q (.ref t) H'
theorem sc_Cyclo_key : FnScope ["self"] ["self"] HD.dCyclo_key.scope := ⟨rfl, rfl, rfl, by decide +kernel, rfl, by decide +kernel, by decide +kernel⟩
theorem ok_key (T : Tx K mg) : Ok P w K mg base CX0 1 HD.dCyclo_key ["self"] (spKey (CY K)) := by
  have c1 := T.c_Cyclo
  have n1 := T.na_Cyclo_e
  have n2 := T.na_Cyclo_parts
  have n3 := T.na_Cyclo_low
  have nd := sc_Cyclo_key.nd
  refine Ok.mk0 T fn_Cyclo_key rfl sc_Cyclo_key (fun vs H Q E h => ?_) (fun _ _ _ _ _ _ us hl => match us, hl with | [_], _ => rfl) (fun cdv A outer s H vs Q E hr h => ?_)
  · obtain ⟨p, c, rfl, _⟩ := h
    rfl
  · obtain ⟨p, c, rfl, ⟨dx, b, h1, h2⟩, k⟩ := h
    refine ⟨_, pss_one
          -- return (self.e, self.parts, self.low)
          (ps_ret (pe_tup (pa_cons (pe_fld (pv 0) rfl) (pa_cons (pe_fld (pv 0) rfl) (pa_cons (pe_fld (pv 0) rfl) pa_nil))))), ?_⟩
    dsimp only [cxOf, Cx.wish]
    walk_at "rd"
    intro t ht
    exact k t _ (Same.new ht) ⟨b, upd_same, upd_old ht h2⟩
def spEqC (C : Addr) : Sp := fun vs H Q _ => ∃ (p q : Addr) (c c' : Cyc), vs = [.ref p, .ref q] ∧ CycAt C H p c ∧ CycAt C H q c' ∧ ∀ H', Same H H' → Q (.bl (decide ((c.e : Int) = (c'.e : Int) ∧ c.parts = c'.parts ∧ (c.low : Int) = (c'.low : Int)))) H'
theorem sc_Cyclo_eq : FnScope ["self", "other"] ["self", "other"] HD.dCyclo_eq.scope := ⟨rfl, rfl, rfl, by decide +kernel, rfl, by decide +kernel, by decide +kernel⟩
theorem ok_eqC (T : Tx K mg) : Ok P w K mg base CX0 2 HD.dCyclo_eq ["self", "other"] (spEqC (CY K)) := by
  have c1 := T.c_Cyclo
  have i1 := T.in_Cyclo
  have G_Cyclo_key : Ok P w K mg base CX0 1 _ _ _ := ok_key T
  have nd := sc_Cyclo_eq.nd
  refine Ok.mk0 T fn_Cyclo_eq rfl sc_Cyclo_eq (fun vs H Q E h => ?_) (fun _ _ _ _ _ _ us hl => match us, hl with | [_, _], _ => rfl) (fun cdv A outer s H vs Q E hr h => ?_)
  · obtain ⟨p, q, c, c', rfl, _⟩ := h
    rfl
  · obtain ⟨p, q, c, c', rfl, hc, hc', k⟩ := h
    obtain ⟨dx, b, h1, h2⟩ := id hc
    obtain ⟨dx', b', h1', h2'⟩ := id hc'
    refine ⟨_, pss_one
          -- return isinstance(other, Cyclo) and self.key() == other.key()
          (ps_ret (pe_and (pe_callB call_isi (by rfl) T.b_isinstance (by decide +kernel) (pa_cons (pv 1) (pa_cons (pe_glob (v := .ref (He.ga K "Cyclo")) rfl T.g_Cyclo rfl) pa_nil))) (pe_one (pe_cmpR (r := rEqD K) (op_eqD hr.units) (pe_m0 (pv 0) T.c_Cyclo (G_Cyclo_key) T.me_Cyclo_key (hr.mono (by decide)) pass0) (pe_m0 (pv 1) T.c_Cyclo (G_Cyclo_key) T.me_Cyclo_key (hr.mono (by decide)) pass0) (nomark _))))), ?_⟩
    dsimp only [cxOf, Cx.wish]
    walk_at "rd"
    refine ⟨p, c, rfl, hc, fun t H1 s1 k1 => ?_⟩
    walk_at "rd"
    refine ⟨q, c', rfl, hc'.fz (Fz.of s1), fun t2 H2 s2 k2 => ?_⟩
    walk_at "rd"
    obtain ⟨b1, k11, k12⟩ := k1
    exact rd_eqKey ⟨b1, s2 _ _ k11, s2 _ _ k12⟩ k2 (k _ (s1.trans s2))
def spOver (C : Addr) : Sp := fun vs H Q _ => ∃ (p : Addr) (c : Cyc) (n : Nat), vs = [.ref p, nV n] ∧ CycAt C H p c ∧ CGood c ∧ 0 < n ∧ Lb 8000 c.low ∧ Lb 900 n ∧ ∀ q H', Same H H' → CycAt C H' q (overM c n) → Q (.ref q) H'
theorem sc_Cyclo_over : FnScope ["self", "n"] ["self", "n"] HD.dCyclo_over.scope := ⟨rfl, rfl, rfl, by decide +kernel, rfl, by decide +kernel, by decide +kernel⟩
theorem ok_over (T : Tx K mg) : Ok P w K mg base CX0 8 HD.dCyclo_over ["self", "n"] (spOver (CY K)) := by
  have c1 := T.c_Cyclo
  have n1 := T.na_Cyclo_e
  have n2 := T.na_Cyclo_parts
  have n3 := T.na_Cyclo_low
  have G_Cyclo_init : Ok P w K mg base CX0 6 _ _ _ := (ok_cyinit T).ok
  have nd := sc_Cyclo_over.nd
  refine Ok.mk0 T fn_Cyclo_over rfl sc_Cyclo_over (fun vs H Q E h => ?_) (fun _ _ _ _ _ _ us hl => match us, hl with | [_, _], _ => rfl) (fun cdv A outer s H vs Q E hr h => ?_)
  · obtain ⟨p, c, n, rfl, _⟩ := h
    rfl
  · obtain ⟨p, c, n, rfl, ⟨dx, b, h1, h2⟩, hg, hn, hb, hnb, k⟩ := h
    have cw : CMulW (c.low : Int) (n : Int) := wide_mul (a := 8000) (b := 900) (by rw [Int.natAbs_natCast]; exact hb) (by rw [Int.natAbs_natCast]; exact hnb) (by omega) (by omega) (by omega)
    refine ⟨_, pss_one
          -- return Cyclo(self.e, self.parts, self.low * n)
          (ps_ret (pe_mk G_Cyclo_init (hr.mono (by decide)) T.mk_Cyclo T.g_Cyclo pass0 (pa_cons (pe_fld (pv 0) rfl) (pa_cons (pe_fld (pv 0) rfl) (pa_cons (pe_op op_mulW (pe_fld (pv 0) rfl) (pv 1)) pa_nil))))), ?_⟩
    dsimp only [cxOf, Cx.wish]
    walk_at "rd"
    refine mkCy_use c.e b c.parts (c.low * n) (by push_cast; rfl) hg.e (.inr h2) ?_ (Nat.mul_pos hg.low hn) ?_ k
    · have := div60_le hg.e
      rw [hg.len]
      omega
    · refine Nat.lt_of_lt_of_le (Nat.mul_lt_mul'' hb hnb) (pow_add_le (by omega))
def spScaled (C : Addr) : Sp := fun vs H Q _ => ∃ (p : Addr) (c : Cyc) (n b : Nat), vs = [.ref p, nV n] ∧ CycAt C H p c ∧ CGood c ∧ Lb 9000 c.low ∧ Lb 900 n ∧ Pb b c.parts ∧ 0 < b ∧ b ≤ 900000 ∧ ∀ q H', Same H H' → CycAt C H' q (scaledM c n) → Q (.ref q) H'
theorem sc_Cyclo_scaled : FnScope ["self", "n", "item"] ["self", "n"] HD.dCyclo_scaled.scope := ⟨rfl, rfl, rfl, by decide +kernel, rfl, by decide +kernel, by decide +kernel⟩
theorem ok_scaled (T : Tx K mg) : Ok P w K mg base CX0 8 HD.dCyclo_scaled ["self", "n"] (spScaled (CY K)) := by
  have c1 := T.c_Cyclo
  have n1 := T.na_Cyclo_e
  have n2 := T.na_Cyclo_parts
  have n3 := T.na_Cyclo_low
  have G_Cyclo_init : Ok P w K mg base CX0 6 _ _ _ := (ok_cyinit T).ok
  have nd := sc_Cyclo_scaled.nd
  refine Ok.mk0 T fn_Cyclo_scaled rfl sc_Cyclo_scaled (fun vs H Q E h => ?_) (fun _ _ _ _ _ _ us hl => match us, hl with | [_, _], _ => rfl) (fun cdv A outer s H vs Q E hr h => ?_)
  · obtain ⟨p, c, n, b, rfl, _⟩ := h
    rfl
  · obtain ⟨p, c, n, b, rfl, ⟨dx, bb, h1, h2⟩, hg, hb, hnb, hpb, b0, b9, k⟩ := h
    have d1 := div60_le hg.e
    have hl := hg.len
    refine ⟨_, pss_one
          -- return Cyclo(self.e, [n * item for item in self.parts], self.low)
          (ps_ret (pe_mk G_Cyclo_init (hr.mono (by decide)) T.mk_Cyclo T.g_Cyclo pass0 (pa_cons (pe_fld (pv 0) rfl) (pa_cons (pe_lc (own := [("item", 2)]) (g := gName 2) (tt := tYes) (by rfl) nd (pi_tup (pe_fld (pv 0) rfl)) (blkOk_by (own := [("item", 2)]) (N := ["self", "n", "item"]) (sc := HD.dCyclo_scaled.scope) (by decide +kernel)) (fun _ _ _ _ _ => (pg_name (i := 2) nd rfl (.inl rfl))) (fun _ _ _ _ _ => pts_nil) (fun _ _ _ _ _ => (pe_op op_mulW (pv 1) (pv 2)))) (pa_cons (pe_fld (pv 0) rfl) pa_nil))))), ?_⟩
    dsimp only [cxOf, Cx.wish]
    walk_at "rd"
    refine lcj_tup (xs := intsV c.parts) (fun i v H => v = V.int ((n : Int) * c.parts.getD i 0)) (fun i v => fm_eq _ _) (SqT.of h2) (by rw [List.length_map]; omega) (fun x => rfl) (fun i x H6 hx s6 Q' q => ?_) (fun D H3 ys hD s3 hl3 hyl hR => ?_)
    · obtain ⟨m, rfl, hm⟩ := ints_get hx
      have cw : CMulW (n : Int) m := cmw (a := 900) (b := b) (by rw [Int.natAbs_natCast]; exact hnb) (hpb m (List.mem_of_getElem? hm)) (by omega) (by omega) (by omega)
      walk_at "rd"
      refine q _ H6 (Same.refl _) ?_
      rw [List.getD_eq_getElem?_getD, hm]
      rfl
    · have hys : ys = intsV (c.parts.map fun x => (n : Int) * x) := by
        rw [list_eq_map (by rw [hyl, List.length_map]) hR]
        exact range_map_ints c.parts fun x => (n : Int) * x
      rw [hys] at hl3
      walk_at "rd"
      refine mkCy_use c.e D (c.parts.map fun x => (n : Int) * x) c.low rfl hg.e (.inl hl3) ?_ hg.low hb (fun q H' s k2 => k q H' (s3.trans s) k2)
      rw [List.length_map]
      omega
def spOfInt (C : Addr) : Sp := fun vs H Q _ => ∃ n : Int, vs = [.int n] ∧ ∀ q H', Same H H' → CycAt C H' q (ofIntM n) → Q (.ref q) H'
theorem sc_of_integer : FnScope ["n"] ["n"] HD.d_of_integer.scope := ⟨rfl, rfl, rfl, by decide +kernel, rfl, by decide +kernel, by decide +kernel⟩
theorem ok_ofInt (T : Tx K mg) : Ok P w K mg base CX0 8 HD.d_of_integer ["n"] (spOfInt (CY K)) := by
  have G_Cyclo_init : OkD P w K mg base CX0 6 _ _ _ _ := ok_cyinit T
  have nd := sc_of_integer.nd
  refine Ok.mk0 T fn__of_integer rfl sc_of_integer (fun vs H Q E h => ?_) (fun _ _ _ _ _ _ us hl => match us, hl with | [_], _ => rfl) (fun cdv A outer s H vs Q E hr h => ?_)
  · obtain ⟨n, rfl, _⟩ := h
    rfl
  · obtain ⟨n, rfl, k⟩ := h
    refine ⟨_, pss_one
          -- return Cyclo(1, (n,))
          (ps_ret (pe_mk2 G_Cyclo_init (hr.mono (by decide)) T.mk_Cyclo T.g_Cyclo pass0 (pa_cons pe_int (pa_cons (pe_tup (pa_cons (pv 0) pa_nil)) pa_nil)))), ?_⟩
    walk_at "rd"
    intro t ht
    walk_at "rd"
    refine mkCy_use 1 t [n] 1 rfl (by decide) (.inr upd_same) (by simp) (by decide) ?_ (fun q H' s k2 => k q H' ((Same.new ht).trans s) k2)
    exact Nat.lt_of_lt_of_le (show 1 < 2 ^ 1 by decide) (Nat.pow_le_pow_right (by omega) (by omega))
end
end L2.KL
set_option Elab.async false
set_option linter.all false
set_option maxRecDepth 100000
set_option maxHeartbeats 4000000
namespace L2.KL
open PySem PySem.Spec PyProof.Rows
local macro_rules | `(tactic| walk_at "hp") => `(tactic| first
  | assumption
  | (with_reducible exact upd_same)
  | (apply Same.get; (· assumption); (· walk_at "hp"))
  | (apply upd_old; (· assumption); (· walk_at "hp")))
local macro_rules | `(tactic| walk_at "cl") => `(tactic| first
  | (with_reducible rfl)
  | assumption
  | (with_reducible exact lk_e)
  | (with_reducible exact lk_parts)
  | (with_reducible exact lk_low)
  | (walk_at "hp")
  | (apply SqT.of; walk_at "hp")
  | (apply Or.inr; apply SqT.of; walk_at "hp")
  | (apply exT; walk_at "hp")
  | (apply sz_nat; simp only [List.length_map, List.length_append, List.length_cons, List.length_nil]; omega)
  | omega
  | (simp only [List.length_map]; omega)
  | exact rfl)
local macro_rules | `(tactic| walk_at "r1") => `(tactic| first
  | (with_reducible refine rd_seq ?_)
  | ((with_reducible apply rd_var); (· exact rfl))
  | (with_reducible refine rd_op ?_)
  | (with_reducible refine rd_fld ?_)
  | (with_reducible refine rd_cb ?_)
  | (with_reducible refine rd_cons ?_)
  | (with_reducible refine rd_nil ?_)
  | (with_reducible refine rd_call ?_)
  | (with_reducible refine rd_tup ?_)
  | (with_reducible refine rd_asg ?_)
  | (with_reducible refine rd_name ?_)
  | (with_reducible refine rd_ret ?_)
  | (with_reducible refine rd_I0 ?_)
  | ((with_reducible apply rd_I); (· first | assumption | (dsimp only; omega) | omega | (unfold CMul; omega) | (unfold CDiv; omega)))
  | ((with_reducible apply rd_ixT); (· walk_at "hp"); (· walk_at "at"))
  | ((with_reducible apply rd_ixL); (· walk_at "hp"); (· walk_at "at"))
  | (with_reducible refine rd_for ?_)
  | (with_reducible refine rd_iTup ?_)
  | (with_reducible refine rd_iRng1 ?_)
  | (with_reducible refine rd_lc ?_)
  | (with_reducible refine rd_make ?_)
  | (with_reducible refine rd_gsub ?_)
  | (with_reducible refine rd_gtup ?_)
  | (with_reducible refine rd_gcons ?_)
  | (with_reducible refine rd_gnil ?_)
  | (with_reducible apply Exists.intro)
  | ((with_reducible refine And.intro ?_ ?_); (· walk_at "cl")))
local macro_rules | `(tactic| walk_at "at") => `(tactic| first
  | (apply at_ints; first | assumption | omega))
local macro_rules | `(tactic| walk_at "rd") => `(tactic| ((repeat walk_at "r1"); (try dsimp only [List.set])))
def lcm2 (a b : Nat) : Nat := lcmL [a, b]
theorem lcm2_ok {a b : Nat} (ha : a ∈ divs60) (hb : b ∈ divs60) : lcm2 a b ∈ divs60 ∧ lcm2 a b / a * a = lcm2 a b ∧ lcm2 a b / b * b = lcm2 a b := by
  have t : divs60.all (fun a => divs60.all fun b => decide (lcm2 a b ∈ divs60 ∧ lcm2 a b / a * a = lcm2 a b ∧ lcm2 a b / b * b = lcm2 a b)) = true := by decide +kernel
  exact of_decide_eq_true (List.all_eq_true.mp (List.all_eq_true.mp t a ha) b hb)
theorem at_lt {E e k : Nat} (h : E / e * e = E) (hk : k < e) (hE : 0 < E) : k * (E / e) < E := by
  have h1 : 0 < E / e := by
    rcases Nat.eq_zero_or_pos (E / e) with z | z
    · rw [z, Nat.zero_mul] at h
      omega
    · exact z
  have h2 := Nat.mul_lt_mul_of_pos_right hk h1
  rw [Nat.mul_comm e, h] at h2
  exact h2
def addTot (a b : Cyc) : List Int := addL (addL (List.replicate (lcm2 a.e b.e) 0) (fun k => k * (lcm2 a.e b.e / a.e)) (fun k => (b.low : Int) * a.parts.getD k 0) a.parts.length) (fun k => k * (lcm2 a.e b.e / b.e)) (fun k => (a.low : Int) * b.parts.getD k 0) b.parts.length
def addM (a b : Cyc) : Cyc := mkCyc (lcm2 a.e b.e) (addTot a b) (a.low * b.low)
def mulTot (a b : Cyc) (n : Nat) : List Int := (List.range n).foldl (fun t k => addL t (fun j => (k * (lcm2 a.e b.e / a.e) + j * (lcm2 a.e b.e / b.e)) % lcm2 a.e b.e) (fun j => a.parts.getD k 0 * b.parts.getD j 0) b.parts.length) (List.replicate (lcm2 a.e b.e) 0)
def mulM (a b : Cyc) : Cyc := mkCyc (lcm2 a.e b.e) (mulTot a b a.parts.length) (a.low * b.low)
theorem mulTot_succ (a b : Cyc) (n : Nat) : mulTot a b (n + 1) = addL (mulTot a b n) (fun j => (n * (lcm2 a.e b.e / a.e) + j * (lcm2 a.e b.e / b.e)) % lcm2 a.e b.e) (fun j => a.parts.getD n 0 * b.parts.getD j 0) b.parts.length := by
  unfold mulTot
  rw [List.range_succ, List.foldl_append]
  rfl
theorem mulTot_len (a b : Cyc) : ∀ n, (mulTot a b n).length = lcm2 a.e b.e
  | 0 => List.length_replicate
  | n + 1 => by rw [mulTot_succ, addL_len, mulTot_len a b n]
def imgTot (c : Cyc) : List Int := setL (List.replicate c.e 0) (fun k => (((k : Int) * (-1)) % (c.e : Int)).toNat) (fun k => c.parts.getD k 0) c.parts.length
def mirM (c : Cyc) : Cyc := mkCyc c.e (imgTot c) c.low
/-- what a binary operation asks of its sides -/
structure Fit (a b : Cyc) : Prop where
  ga : CGood a
  gb : CGood b
  la : Lb 4000 a.low
  lb : Lb 4000 b.low
  ex : ∃ n m, Pb n a.parts ∧ Pb m b.parts ∧ 0 < n ∧ 0 < m ∧ n + m ≤ 900000
section
variable {P : Program} {w : World} {K : PySem.W.Frag} {mg : Str → Option Value} {base : Heap}
def spAddC (C : Addr) : Sp := fun vs H Q _ => ∃ (p q : Addr) (a b : Cyc), vs = [.ref p, .ref q] ∧ CycAt C H p a ∧ CycAt C H q b ∧ Fit a b ∧ ∀ r H', Same H H' → CycAt C H' r (addM a b) → Q (.ref r) H'
theorem sc_Cyclo_add : FnScope ["self", "other", "e", "total", "number", "factor", "k", "at", "_"] ["self", "other"] HD.dCyclo_add.scope := ⟨rfl, rfl, rfl, by decide +kernel, rfl, by decide +kernel, by decide +kernel⟩
theorem ok_addC (T : Tx K mg) : Ok P w K mg base CX0 8 HD.dCyclo_add ["self", "other"] (spAddC (CY K)) := by
  have c1 := T.c_Cyclo
  have n1 := T.na_Cyclo_e
  have n2 := T.na_Cyclo_parts
  have n3 := T.na_Cyclo_low
  have G_Cyclo_init : Ok P w K mg base CX0 6 _ _ _ := (ok_cyinit T).ok
  have G_multiple : Ok P w K mg base CX0 2 _ _ _ := ok_multiple T
  have nd := sc_Cyclo_add.nd
  refine Ok.mk0 T fn_Cyclo_add rfl sc_Cyclo_add (fun vs H Q E h => ?_) (fun _ _ _ _ _ _ us hl => match us, hl with | [_, _], _ => rfl) (fun cdv A outer s H vs Q E hr h => ?_)
  · obtain ⟨p, q, a, b, rfl, _⟩ := h
    rfl
  · obtain ⟨p, q, a, b, rfl, ⟨dx, bb, h1, h2⟩, ⟨dx', bb', h1', h2'⟩, F, k⟩ := h
    obtain ⟨n, m, hn, hm, n0, m0, hnm⟩ := F.ex
    obtain ⟨l1, l2, l3⟩ := lcm2_ok F.ga.e F.gb.e
    have lE := div60_le l1
    have lA := div60_le F.ga.e
    have lB := div60_le F.gb.e
    refine ⟨_, pss_cons
          -- e = multiple((self.e, other.e))
          (ps_set (i := 2) nd rfl (.inl rfl) (pe_f (G_multiple) (hr.mono (by decide)) T.g_multiple pass0 (pa_cons (pe_tup (pa_cons (pe_fld (pv 0) rfl) (pa_cons (pe_fld (pv 1) rfl) pa_nil))) pa_nil)))
         (pss_cons
          -- total = [0 for _ in range(e)]
          (ps_setLc (i := 3) (own := [("_", 8)]) (g := gName 8) (tt := tYes) (by rfl) nd rfl rfl (sw_true rfl rfl rfl (by decide +kernel)) (pi_range1 (by rfl) T.b_range (pa_cons (pv 2) pa_nil)) (blkOk_by (own := [("_", 8)]) (N := ["self", "other", "e", "total", "number", "factor", "k", "at", "_"]) (sc := HD.dCyclo_add.scope) (by decide +kernel)) (fun _ _ _ _ _ => (pg_name (i := 8) nd rfl (.inl rfl))) (fun _ _ _ _ _ => pts_nil) (fun _ _ _ _ _ => pe_int))
         (pss_cons
          -- for number, factor in ((self, other.low), (other, self.low)):
          (ps_for PassesOwn.never rfl (pi_tup (pe_tup (pa_cons (pe_tup (pa_cons (pv 0) (pa_cons (pe_fld (pv 1) rfl) pa_nil))) (pa_cons (pe_tup (pa_cons (pv 1) (pa_cons (pe_fld (pv 0) rfl) pa_nil))) pa_nil)))) (pg_tup rfl (pgs_cons (pg_name (i := 4) nd rfl (.inl rfl)) (pgs_cons (pg_name (i := 5) nd rfl (.inl rfl)) pgs_nil))) (pss_one
            -- for k in range(len(number.parts)):
            (ps_for PassesOwn.never rfl (pi_range1 (by rfl) T.b_range (pa_cons (pe_callB call_len_seq (by rfl) T.b_len (by decide +kernel) (pa_cons (pe_fld (pv 4) rfl) pa_nil)) pa_nil)) (pg_name (i := 6) nd rfl (.inl rfl)) (pss_cons
              -- at = k * (e // number.e)
              (ps_set (i := 7) nd rfl (.inl rfl) (pe_op op_mulW (pv 6) (pe_op op_fdiv (pv 2) (pe_fld (pv 4) rfl))))
             (pss_one
              -- total[at] = total[at] + factor * number.parts[k]
              (ps_asg (pe_op op_add (pe_ix (r := rIxL K) ix_list (pv 3) (pv 7) (fun _ _ => rfl)) (pe_op op_mulW (pv 5) (pe_ix (r := rIxT K) ix_tup (pe_fld (pv 4) rfl) (pv 6) (fun _ _ => rfl)))) (pg_sub (pv 3) (pv 7) set_list)))))))
         (pss_one
          -- return Cyclo(e, total, self.low * other.low)
          (ps_ret (pe_mk G_Cyclo_init (hr.mono (by decide)) T.mk_Cyclo T.g_Cyclo pass0 (pa_cons (pv 2) (pa_cons (pv 3) (pa_cons (pe_op op_mulW (pe_fld (pv 0) rfl) (pe_fld (pv 1) rfl)) pa_nil)))))))), ?_⟩
    dsimp only [cxOf, Cx.wish]
    walk_at "rd"
    intro t ht
    walk_at "rd"
    refine ⟨t, [a.e, b.e], rfl, upd_same, ?_, fun H1 s1 => ?_⟩
    · intro x hx
      rcases List.mem_cons.mp hx with z | hx
      · omega
      · rcases List.mem_cons.mp hx with z | hx
        · omega
        · cases hx
    have s01 : Same H H1 := (Same.new ht).trans s1
    have e1 : lcmL [a.e, b.e] = lcm2 a.e b.e := rfl
    rw [e1]
    walk_at "rd"
    refine lcj_zeros (lcm2 a.e b.e) rfl (by omega) (fun x => rfl) fun D H2 hD1 s2 hD2 => ?_
    have hD := none_of s01 hD1
    walk_at "rd"
    intro t1 ht1
    walk_at "rd"
    intro t2 ht2
    walk_at "rd"
    intro tt htt
    walk_at "rd"
    generalize hHb : upd (upd (upd H2 t1 _) t2 _) tt _ = Hb
    have s02 : Same H Hb := by
      rw [← hHb]
      exact (((s01.trans s2).trans (Same.new ht1)).trans (Same.new ht2)).trans (Same.new htt)
    have g1 : Hb t1 = some (.tup [.ref p, nV b.low]) := by
      rw [← hHb]
      exact upd_old htt (upd_old ht2 upd_same)
    have g2 : Hb t2 = some (.tup [.ref q, nV a.low]) := by
      rw [← hHb]
      exact upd_old htt upd_same
    have gt : Hb tt = some (.tup [.ref t1, .ref t2]) := by
      rw [← hHb]
      exact upd_same
    have hDb : Hb D = some (.lst (intsV (List.replicate (lcm2 a.e b.e) 0))) := by
      rw [← hHb]
      exact upd_old htt (upd_old ht2 (upd_old ht1 hD2))
    clear hHb
    obtain ⟨T0, hT0⟩ : ∃ z, z = List.replicate (lcm2 a.e b.e) (0 : Int) := ⟨_, rfl⟩
    obtain ⟨T1, hT1⟩ : ∃ z, z = addL T0 (fun k => k * (lcm2 a.e b.e / a.e)) (fun k => (b.low : Int) * a.parts.getD k 0) a.parts.length := ⟨_, rfl⟩
    obtain ⟨T2, hT2⟩ : ∃ z, z = addL T1 (fun k => k * (lcm2 a.e b.e / b.e)) (fun k => (a.low : Int) * b.parts.getD k 0) b.parts.length := ⟨_, rfl⟩
    have hTT : T2 = addTot a b := by
      rw [hT2, hT1, hT0]
      rfl
    have lT0 : T0.length = lcm2 a.e b.e := by rw [hT0, List.length_replicate]
    have lT1 : T1.length = lcm2 a.e b.e := by rw [hT1, addL_len, lT0]
    have lT2 : T2.length = lcm2 a.e b.e := by rw [hT2, addL_len, lT1]
    rw [← hT0] at hDb
    refine fj_tup (xs := [.ref t1, .ref t2]) (fun i σ H' => Same H H' ∧ Fz Hb H' ∧ H' D = some (.lst (intsV ([T0, T1, T2].getD i []))) ∧ ∃ v4 v5 v6 v7, σ = [some (.ref p), some (.ref q), some (nV (lcm2 a.e b.e)), some (.ref D), v4, v5, v6, v7, none])
      ⟨s02, Fz.refl _, hDb, _, _, _, _, rfl⟩ (fun i σ H' _ z => SqT.of (z.2.1 _ _ gt rfl)) ?_ ?_
    · rintro i x σ H5 hx ⟨s5, f5, hD5, v4, v5, v6, v7, rfl⟩
      have hp5 := s5 _ _ h1
      have hq5 := s5 _ _ h1'
      have hb5 := s5 _ _ h2
      have hb5' := s5 _ _ h2'
      have g1' := f5 _ _ g1 rfl
      have g2' := f5 _ _ g2 rfl
      match i, hx with
      | 0, hx =>
        have hx' : V.ref t1 = x := by simpa using hx
        subst hx'
        have hD5 : H5 D = some (.lst (intsV T0)) := hD5
        have hphi := phi_le F.ga.e
        have hlen := F.ga.len
        have hdx := div60_le F.ga.e
        walk_at "rd"
        have emI : ((lcm2 a.e b.e : Nat) : Int) / (a.e : Int) = ((lcm2 a.e b.e / a.e : Nat) : Int) := rfl
        refine fj_rangeE a.parts.length (by rw [List.length_map]; rfl) (fun j σ H3 => Same H H3 ∧ Fz Hb H3 ∧ H3 D = some (.lst (intsV (addL T0 (fun k => k * (lcm2 a.e b.e / a.e)) (fun k => (b.low : Int) * a.parts.getD k 0) j))) ∧
          ∃ v6 v7, σ = [some (.ref p), some (.ref q), some (nV (lcm2 a.e b.e)), some (.ref D), some (.ref p), some (nV b.low), v6, v7, none]) ⟨s5, f5, hD5, _, _, rfl⟩ ?_ ?_
        · rintro j σ H3 hj ⟨s4, f4, hD4, v6, v7, rfl⟩
          have hp4 := s4 _ _ h1
          have hq4 := s4 _ _ h1'
          have hb4 := s4 _ _ h2
          have hb4' := s4 _ _ h2'
          have hlt := at_lt (k := j) l2 (by omega) (by omega)
          have hdq : lcm2 a.e b.e / a.e ≤ 60 := Nat.le_trans (Nat.div_le_self _ _) (by omega)
          have cw1 : CMulW (j : Int) (((lcm2 a.e b.e : Nat) : Int) / (a.e : Int)) := cmw (a := 10) (b := 10) (by rw [Int.natAbs_natCast]; exact lb_small (by omega)) (by rw [emI, Int.natAbs_natCast]; exact lb_small (by omega)) (by omega) (by omega) (by omega)
          have cw2 : CMulW (b.low : Int) (a.parts.getD j 0) := cmw (a := 4000) (b := n) (by rw [Int.natAbs_natCast]; exact F.lb) (hn.at_ j) (by omega) (by omega) (by omega)
          have hl2 : j * (lcm2 a.e b.e / a.e) < (addL T0 (fun k => k * (lcm2 a.e b.e / a.e)) (fun k => (b.low : Int) * a.parts.getD k 0) j).length := by
            rw [addL_len, lT0]
            exact hlt
          walk_at "rd"
          refine rd_set (j * (lcm2 a.e b.e / a.e)) hD4 rfl (by rw [List.length_map]; exact hl2) ?_
          rw [set_ints]
          refine at_i ⟨Same.mut s4 hD, f4.trans (Fz.upd hD4 rfl), ?_, _, _, rfl⟩
          rw [addL_succ]
          exact upd_same
        · rintro σ H3 ⟨s4, f4, hD4, v6, v7, rfl⟩
          rw [← hT1] at hD4
          dsimp only
          exact at_i ⟨s4, f4, hD4, _, _, _, _, rfl⟩
      | 1, hx =>
        have hx' : V.ref t2 = x := by simpa using hx
        subst hx'
        have hD5 : H5 D = some (.lst (intsV T1)) := hD5
        have hphi := phi_le F.gb.e
        have hlen := F.gb.len
        have hdx := div60_le F.gb.e
        walk_at "rd"
        have emI : ((lcm2 a.e b.e : Nat) : Int) / (b.e : Int) = ((lcm2 a.e b.e / b.e : Nat) : Int) := rfl
        refine fj_rangeE b.parts.length (by rw [List.length_map]; rfl) (fun j σ H3 => Same H H3 ∧ Fz Hb H3 ∧ H3 D = some (.lst (intsV (addL T1 (fun k => k * (lcm2 a.e b.e / b.e)) (fun k => (a.low : Int) * b.parts.getD k 0) j))) ∧
          ∃ v6 v7, σ = [some (.ref p), some (.ref q), some (nV (lcm2 a.e b.e)), some (.ref D), some (.ref q), some (nV a.low), v6, v7, none]) ⟨s5, f5, hD5, _, _, rfl⟩ ?_ ?_
        · rintro j σ H3 hj ⟨s4, f4, hD4, v6, v7, rfl⟩
          have hp4 := s4 _ _ h1
          have hq4 := s4 _ _ h1'
          have hb4 := s4 _ _ h2
          have hb4' := s4 _ _ h2'
          have hlt := at_lt (k := j) l3 (by omega) (by omega)
          have hdq : lcm2 a.e b.e / b.e ≤ 60 := Nat.le_trans (Nat.div_le_self _ _) (by omega)
          have cw1 : CMulW (j : Int) (((lcm2 a.e b.e : Nat) : Int) / (b.e : Int)) := cmw (a := 10) (b := 10) (by rw [Int.natAbs_natCast]; exact lb_small (by omega)) (by rw [emI, Int.natAbs_natCast]; exact lb_small (by omega)) (by omega) (by omega) (by omega)
          have cw2 : CMulW (a.low : Int) (b.parts.getD j 0) := cmw (a := 4000) (b := m) (by rw [Int.natAbs_natCast]; exact F.la) (hm.at_ j) (by omega) (by omega) (by omega)
          have hl2 : j * (lcm2 a.e b.e / b.e) < (addL T1 (fun k => k * (lcm2 a.e b.e / b.e)) (fun k => (a.low : Int) * b.parts.getD k 0) j).length := by
            rw [addL_len, lT1]
            exact hlt
          walk_at "rd"
          refine rd_set (j * (lcm2 a.e b.e / b.e)) hD4 rfl (by rw [List.length_map]; exact hl2) ?_
          rw [set_ints]
          refine at_i ⟨Same.mut s4 hD, f4.trans (Fz.upd hD4 rfl), ?_, _, _, rfl⟩
          rw [addL_succ]
          exact upd_same
        · rintro σ H3 ⟨s4, f4, hD4, v6, v7, rfl⟩
          rw [← hT2] at hD4
          dsimp only
          exact at_i ⟨s4, f4, hD4, _, _, _, _, rfl⟩
      | i + 2, hx => simp at hx
    · rintro σ H5 ⟨s5, f5, hD5, v4, v5, v6, v7, rfl⟩
      have hp5 := s5 _ _ h1
      have hq5 := s5 _ _ h1'
      have hD5 : H5 D = some (.lst (intsV T2)) := hD5
      have cw : CMulW (a.low : Int) (b.low : Int) := cmw (a := 4000) (b := 4000) (by rw [Int.natAbs_natCast]; exact F.la) (by rw [Int.natAbs_natCast]; exact F.lb) (by omega) (by omega) (by omega)
      walk_at "rd"
      refine mkCy_use (lcm2 a.e b.e) D T2 (a.low * b.low) (by push_cast; rfl) l1 (.inl hD5) (by rw [lT2]; omega) (Nat.mul_pos F.ga.low F.gb.low) ((F.la.mul F.lb).mono (by omega)) (fun r H' s k2 => k r H' (s5.trans s) ?_)
      unfold addM
      rw [← hTT]
      exact k2
end
end L2.KL
set_option Elab.async false
set_option linter.all false
set_option maxRecDepth 100000
set_option maxHeartbeats 4000000
namespace L2.KL
open PySem PySem.Spec PyProof.Rows
local macro_rules | `(tactic| walk_at "hp") => `(tactic| first
  | assumption
  | (apply Same.get; (· assumption); (· walk_at "hp")))
local macro_rules | `(tactic| walk_at "cl") => `(tactic| first
  | (with_reducible rfl)
  | assumption
  | (with_reducible exact lk_e)
  | (with_reducible exact lk_parts)
  | (with_reducible exact lk_low)
  | (with_reducible exact nk_cyc (by decide +kernel))
  | (walk_at "hp")
  | (apply Or.inr; apply SqT.of; walk_at "hp")
  | (apply sz_nat; simp only [List.length_map, List.length_append, List.length_cons, List.length_nil]; omega)
  | omega
  | (simp only [List.length_map]; omega))
local macro_rules | `(tactic| walk_at "r1") => `(tactic| first
  | (with_reducible refine rd_seq ?_)
  | ((with_reducible apply rd_var); (· exact rfl))
  | (with_reducible refine rd_c ?_)
  | (with_reducible refine rd_op ?_)
  | (with_reducible refine rd_fld ?_)
  | (with_reducible refine rd_cb ?_)
  | (with_reducible refine rd_cons ?_)
  | (with_reducible refine rd_nil ?_)
  | (with_reducible refine rd_call ?_)
  | (with_reducible refine rd_meth ?_)
  | (with_reducible refine rd_tup ?_)
  | (with_reducible refine rd_asg ?_)
  | (with_reducible refine rd_name ?_)
  | (with_reducible refine rd_ret ?_)
  | (with_reducible refine rd_if ?_)
  | (with_reducible refine rd_test ?_)
  | (with_reducible refine rd_B ?_)
  | (with_reducible refine rd_or ?_)
  | (with_reducible refine rd_not ?_)
  | (with_reducible refine rd_un ?_)
  | (with_reducible refine rd_next ?_)
  | (with_reducible refine rd_I0 ?_)
  | ((with_reducible apply rd_I); (· first | assumption | (dsimp only; omega) | omega | (unfold CMul; omega) | (unfold CDiv; omega)))
  | ((with_reducible apply rd_ixT); (· walk_at "hp"); (· walk_at "at"))
  | ((with_reducible apply rd_ixL); (· walk_at "hp"); (· walk_at "at"))
  | ((with_reducible apply rd_ne); (· exact rfl))
  | (with_reducible refine rd_for ?_)
  | (with_reducible refine rd_iRng1 ?_)
  | (with_reducible refine rd_lc ?_)
  | (with_reducible refine rd_rU ?_)
  | (with_reducible refine rd_make ?_)
  | (with_reducible refine rd_gsub ?_)
  | (with_reducible refine iteNT ?_)
  | (with_reducible apply Exists.intro)
  | ((with_reducible refine And.intro ?_ ?_); (· walk_at "cl")))
local macro_rules | `(tactic| walk_at "at") => `(tactic| first
  | (apply at_ints; first | assumption | omega))
local macro_rules | `(tactic| walk_at "rd") => `(tactic| ((repeat walk_at "r1"); (try dsimp only [List.set])))
section
variable {P : Program} {w : World} {K : PySem.W.Frag} {mg : Str → Option Value} {base : Heap}
def spMulC (C : Addr) : Sp := fun vs H Q _ => ∃ (p q : Addr) (a b : Cyc), vs = [.ref p, .ref q] ∧ CycAt C H p a ∧ CycAt C H q b ∧ Fit a b ∧ ∀ r H', Same H H' → CycAt C H' r (mulM a b) → Q (.ref r) H'
theorem sc_Cyclo_mul : FnScope ["self", "other", "e", "total", "k", "j", "at", "_"] ["self", "other"] HD.dCyclo_mul.scope := ⟨rfl, rfl, rfl, by decide +kernel, rfl, by decide +kernel, by decide +kernel⟩
theorem ok_mulC (T : Tx K mg) : Ok P w K mg base CX0 8 HD.dCyclo_mul ["self", "other"] (spMulC (CY K)) := by
  have c1 := T.c_Cyclo
  have n1 := T.na_Cyclo_e
  have n2 := T.na_Cyclo_parts
  have n3 := T.na_Cyclo_low
  have G_Cyclo_init : Ok P w K mg base CX0 6 _ _ _ := (ok_cyinit T).ok
  have G_multiple : Ok P w K mg base CX0 2 _ _ _ := ok_multiple T
  have nd := sc_Cyclo_mul.nd
  refine Ok.mk0 T fn_Cyclo_mul rfl sc_Cyclo_mul (fun vs H Q E h => ?_) (fun _ _ _ _ _ _ us hl => match us, hl with | [_, _], _ => rfl) (fun cdv A outer s H vs Q E hr h => ?_)
  · obtain ⟨p, q, a, b, rfl, _⟩ := h
    rfl
  · obtain ⟨p, q, a, b, rfl, ⟨dx, bb, h1, h2⟩, ⟨dx', bb', h1', h2'⟩, F, k⟩ := h
    obtain ⟨n, m, hn, hm, n0, m0, hnm⟩ := F.ex
    obtain ⟨l1, l2, l3⟩ := lcm2_ok F.ga.e F.gb.e
    have lE := div60_le l1
    have lA := div60_le F.ga.e
    have lB := div60_le F.gb.e
    have pA := phi_le F.ga.e
    have pB := phi_le F.gb.e
    have gA := F.ga.len
    have gB := F.gb.len
    refine ⟨_, pss_cons
          -- e = multiple((self.e, other.e))
          (ps_set (i := 2) nd rfl (.inl rfl) (pe_f (G_multiple) (hr.mono (by decide)) T.g_multiple pass0 (pa_cons (pe_tup (pa_cons (pe_fld (pv 0) rfl) (pa_cons (pe_fld (pv 1) rfl) pa_nil))) pa_nil)))
         (pss_cons
          -- total = [0 for _ in range(e)]
          (ps_setLc (i := 3) (own := [("_", 7)]) (g := gName 7) (tt := tYes) (by rfl) nd rfl rfl (sw_true rfl rfl rfl (by decide +kernel)) (pi_range1 (by rfl) T.b_range (pa_cons (pv 2) pa_nil)) (blkOk_by (own := [("_", 7)]) (N := ["self", "other", "e", "total", "k", "j", "at", "_"]) (sc := HD.dCyclo_mul.scope) (by decide +kernel)) (fun _ _ _ _ _ => (pg_name (i := 7) nd rfl (.inl rfl))) (fun _ _ _ _ _ => pts_nil) (fun _ _ _ _ _ => pe_int))
         (pss_cons
          -- for k in range(len(self.parts)):
          (ps_for PassesOwn.never rfl (pi_range1 (by rfl) T.b_range (pa_cons (pe_callB call_len_seq (by rfl) T.b_len (by decide +kernel) (pa_cons (pe_fld (pv 0) rfl) pa_nil)) pa_nil)) (pg_name (i := 4) nd rfl (.inl rfl)) (pss_one
            -- for j in range(len(other.parts)):
            (ps_for PassesOwn.never rfl (pi_range1 (by rfl) T.b_range (pa_cons (pe_callB call_len_seq (by rfl) T.b_len (by decide +kernel) (pa_cons (pe_fld (pv 1) rfl) pa_nil)) pa_nil)) (pg_name (i := 5) nd rfl (.inl rfl)) (pss_cons
              -- at = (k * (e // self.e) + j * (e // other.e)) % e
              (ps_set (i := 6) nd rfl (.inl rfl) (pe_op op_mod (pe_op op_add (pe_op op_mulW (pv 4) (pe_op op_fdiv (pv 2) (pe_fld (pv 0) rfl))) (pe_op op_mulW (pv 5) (pe_op op_fdiv (pv 2) (pe_fld (pv 1) rfl)))) (pv 2)))
             (pss_one
              -- total[at] = total[at] + self.parts[k] * other.parts[j]
              (ps_asg (pe_op op_add (pe_ix (r := rIxL K) ix_list (pv 3) (pv 6) (fun _ _ => rfl)) (pe_op op_mulW (pe_ix (r := rIxT K) ix_tup (pe_fld (pv 0) rfl) (pv 4) (fun _ _ => rfl)) (pe_ix (r := rIxT K) ix_tup (pe_fld (pv 1) rfl) (pv 5) (fun _ _ => rfl)))) (pg_sub (pv 3) (pv 6) set_list)))))))
         (pss_one
          -- return Cyclo(e, total, self.low * other.low)
          (ps_ret (pe_mk G_Cyclo_init (hr.mono (by decide)) T.mk_Cyclo T.g_Cyclo pass0 (pa_cons (pv 2) (pa_cons (pv 3) (pa_cons (pe_op op_mulW (pe_fld (pv 0) rfl) (pe_fld (pv 1) rfl)) pa_nil)))))))), ?_⟩
    dsimp only [cxOf, Cx.wish]
    walk_at "rd"
    intro t ht
    walk_at "rd"
    refine ⟨t, [a.e, b.e], rfl, upd_same, ?_, fun H1 s1 => ?_⟩
    · intro x hx
      rcases List.mem_cons.mp hx with z | hx
      · omega
      · rcases List.mem_cons.mp hx with z | hx
        · omega
        · cases hx
    have s01 : Same H H1 := (Same.new ht).trans s1
    have e1 : lcmL [a.e, b.e] = lcm2 a.e b.e := rfl
    rw [e1]
    walk_at "rd"
    refine lcj_zeros (lcm2 a.e b.e) rfl (by omega) (fun x => rfl) fun D H2 hD1 s2 hD2 => ?_
    have hD := none_of s01 hD1
    have s02 := s01.trans s2
    walk_at "rd"
    have emA : ((lcm2 a.e b.e : Nat) : Int) / (a.e : Int) = ((lcm2 a.e b.e / a.e : Nat) : Int) := rfl
    have emB : ((lcm2 a.e b.e : Nat) : Int) / (b.e : Int) = ((lcm2 a.e b.e / b.e : Nat) : Int) := rfl
    have dA : lcm2 a.e b.e / a.e ≤ 60 := Nat.le_trans (Nat.div_le_self _ _) (by omega)
    have dB : lcm2 a.e b.e / b.e ≤ 60 := Nat.le_trans (Nat.div_le_self _ _) (by omega)
    refine fj_rangeE a.parts.length (by rw [List.length_map]; rfl) (fun i σ H3 => Same H H3 ∧ H3 D = some (.lst (intsV (mulTot a b i))) ∧
      ∃ v4 v5 v6, σ = [some (.ref p), some (.ref q), some (nV (lcm2 a.e b.e)), some (.ref D), v4, v5, v6, none]) ⟨s02, hD2, _, _, _, rfl⟩ ?_ ?_
    · rintro i σ H3 hi ⟨s3, hD3, v4, v5, v6, rfl⟩
      have hp3 := s3 _ _ h1
      have hq3 := s3 _ _ h1'
      have hb3 := s3 _ _ h2
      have hb3' := s3 _ _ h2'
      walk_at "rd"
      refine fj_rangeE b.parts.length (by rw [List.length_map]; rfl) (fun j σ H4 => Same H H4 ∧ H4 D = some (.lst (intsV (addL (mulTot a b i) (fun j => (i * (lcm2 a.e b.e / a.e) + j * (lcm2 a.e b.e / b.e)) % lcm2 a.e b.e) (fun j => a.parts.getD i 0 * b.parts.getD j 0) j))) ∧
        ∃ v5 v6, σ = [some (.ref p), some (.ref q), some (nV (lcm2 a.e b.e)), some (.ref D), some (nV i), v5, v6, none]) ⟨s3, hD3, _, _, rfl⟩ ?_ ?_
      · rintro j σ H4 hj ⟨s4, hD4, v5, v6, rfl⟩
        have hp4 := s4 _ _ h1
        have hq4 := s4 _ _ h1'
        have hb4 := s4 _ _ h2
        have hb4' := s4 _ _ h2'
        have cw1 : CMulW (i : Int) (((lcm2 a.e b.e : Nat) : Int) / (a.e : Int)) := cmw (a := 10) (b := 10) (by rw [Int.natAbs_natCast]; exact lb_small (by omega)) (by rw [emA, Int.natAbs_natCast]; exact lb_small (by omega)) (by omega) (by omega) (by omega)
        have cw2 : CMulW (j : Int) (((lcm2 a.e b.e : Nat) : Int) / (b.e : Int)) := cmw (a := 10) (b := 10) (by rw [Int.natAbs_natCast]; exact lb_small (by omega)) (by rw [emB, Int.natAbs_natCast]; exact lb_small (by omega)) (by omega) (by omega) (by omega)
        have cw3 : CMulW (a.parts.getD i 0) (b.parts.getD j 0) := cmw (a := n) (b := m) (hn.at_ i) (hm.at_ j) (by omega) (by omega) (by omega)
        have hl2 : (i * (lcm2 a.e b.e / a.e) + j * (lcm2 a.e b.e / b.e)) % lcm2 a.e b.e < (addL (mulTot a b i) (fun j => (i * (lcm2 a.e b.e / a.e) + j * (lcm2 a.e b.e / b.e)) % lcm2 a.e b.e) (fun j => a.parts.getD i 0 * b.parts.getD j 0) j).length := by
          rw [addL_len, mulTot_len]
          exact Nat.mod_lt _ (by omega)
        walk_at "rd"
        refine rd_set ((i * (lcm2 a.e b.e / a.e) + j * (lcm2 a.e b.e / b.e)) % lcm2 a.e b.e) hD4 rfl (by rw [List.length_map]; exact hl2) ?_
        rw [set_ints]
        refine at_i ⟨Same.mut s4 hD, ?_, _, _, rfl⟩
        rw [addL_succ]
        exact upd_same
      · rintro σ H4 ⟨s4, hD4, v5, v6, rfl⟩
        rw [← mulTot_succ] at hD4
        dsimp only
        exact at_i ⟨s4, hD4, _, _, _, rfl⟩
    · rintro σ H5 ⟨s5, hD5, v4, v5, v6, rfl⟩
      have hp5 := s5 _ _ h1
      have hq5 := s5 _ _ h1'
      have cw : CMulW (a.low : Int) (b.low : Int) := cmw (a := 4000) (b := 4000) (by rw [Int.natAbs_natCast]; exact F.la) (by rw [Int.natAbs_natCast]; exact F.lb) (by omega) (by omega) (by omega)
      walk_at "rd"
      exact mkCy_use (lcm2 a.e b.e) D (mulTot a b a.parts.length) (a.low * b.low) (by push_cast; rfl) l1 (.inl hD5) (by rw [mulTot_len]; omega) (Nat.mul_pos F.ga.low F.gb.low) ((F.la.mul F.lb).mono (by omega)) (fun r H' s k2 => k r H' (s5.trans s) k2)
/-- what one number alone is asked -/
def spImg (C : Addr) : Sp := fun vs H Q _ => ∃ (p : Addr) (a : Cyc), vs = [.ref p, .int (-1)] ∧ CycAt C H p a ∧ CGood a ∧ Lb 9000 a.low ∧ ∀ r H', Same H H' → CycAt C H' r (mirM a) → Q (.ref r) H'
theorem sc_Cyclo_image : FnScope ["self", "k", "total", "at", "_"] ["self", "k"] HD.dCyclo_image.scope := ⟨rfl, rfl, rfl, by decide +kernel, rfl, by decide +kernel, by decide +kernel⟩
theorem ok_image (T : Tx K mg) : Ok P w K mg base CX0 8 HD.dCyclo_image ["self", "k"] (spImg (CY K)) := by
  have c1 := T.c_Cyclo
  have n1 := T.na_Cyclo_e
  have n2 := T.na_Cyclo_parts
  have n3 := T.na_Cyclo_low
  have G_Cyclo_init : Ok P w K mg base CX0 6 _ _ _ := (ok_cyinit T).ok
  have G_is_integer : Ok P w K mg base CX0 1 _ _ _ := ok_isint T
  have G_common : Ok P w K mg base CX0 1 _ _ _ := ok_common T
  have nd := sc_Cyclo_image.nd
  refine Ok.mk0 T fn_Cyclo_image rfl sc_Cyclo_image (fun vs H Q E h => ?_) (fun _ _ _ _ _ _ us hl => match us, hl with | [_, _], _ => rfl) (fun cdv A outer s H vs Q E hr h => ?_)
  · obtain ⟨p, a, rfl, _⟩ := h
    rfl
  · obtain ⟨p, a, rfl, ⟨dx, bb, h1, h2⟩, ga, la, k⟩ := h
    have lA := div60_le ga.e
    have pA := phi_le ga.e
    have gA := ga.len
    refine ⟨_, pss_cons
          -- if not is_integer(k) or common((k, self.e)) != 1:
          (ps_if (PW.pt (pw_or (pt_not (pt_val (pe_f (G_is_integer) (hr.mono (by decide)) T.g_is_integer pass0 (pa_cons (pv 1) pa_nil)))) (pw_or1 (pt_cmpR op_ne (pe_f (G_common) (hr.mono (by decide)) T.g_common pass0 (pa_cons (pe_tup (pa_cons (pv 1) (pa_cons (pe_fld (pv 0) rfl) pa_nil))) pa_nil)) pe_int (nomark _))))) (pss_one
            -- raise Malformed('exponent')
            (ps_never)) (pss_nil))
         (pss_cons
          -- total = [0 for _ in range(self.e)]
          (ps_setLc (i := 2) (own := [("_", 4)]) (g := gName 4) (tt := tYes) (by rfl) nd rfl rfl (sw_true rfl rfl rfl (by decide +kernel)) (pi_range1 (by rfl) T.b_range (pa_cons (pe_fld (pv 0) rfl) pa_nil)) (blkOk_by (own := [("_", 4)]) (N := ["self", "k", "total", "at", "_"]) (sc := HD.dCyclo_image.scope) (by decide +kernel)) (fun _ _ _ _ _ => (pg_name (i := 4) nd rfl (.inl rfl))) (fun _ _ _ _ _ => pts_nil) (fun _ _ _ _ _ => pe_int))
         (pss_cons
          -- for at in range(len(self.parts)):
          (ps_for PassesOwn.never rfl (pi_range1 (by rfl) T.b_range (pa_cons (pe_callB call_len_seq (by rfl) T.b_len (by decide +kernel) (pa_cons (pe_fld (pv 0) rfl) pa_nil)) pa_nil)) (pg_name (i := 3) nd rfl (.inl rfl)) (pss_one
            -- total[at * k % self.e] = self.parts[at]
            (ps_asg (pe_ix (r := rIxT K) ix_tup (pe_fld (pv 0) rfl) (pv 3) (fun _ _ => rfl)) (pg_sub (pv 2) (pe_op op_mod (pe_op op_mulW (pv 3) (pv 1)) (pe_fld (pv 0) rfl)) set_list))))
         (pss_one
          -- return Cyclo(self.e, total, self.low)
          (ps_ret (pe_mk G_Cyclo_init (hr.mono (by decide)) T.mk_Cyclo T.g_Cyclo pass0 (pa_cons (pe_fld (pv 0) rfl) (pa_cons (pv 2) (pa_cons (pe_fld (pv 0) rfl) pa_nil)))))))), ?_⟩
    dsimp only [cxOf, Cx.wish]
    walk_at "rd"
    refine ⟨-1, rfl, fun H1 s1 => ?_⟩
    walk_at "rd"
    intro t ht
    walk_at "rd"
    have eI : intsV [(-1 : Int), (a.e : Int)] = [V.int (-1), nV a.e] := rfl
    refine ⟨t, [-1, (a.e : Int)], rfl, .inr (by rw [eI]; exact upd_same), fun H2 s2 => ?_⟩
    have eg : gcdL [-1, (a.e : Int)] = 1 := by
      unfold gcdL
      simp
    rw [eg]
    have s02 : Same H H2 := (s1.trans (Same.new ht)).trans s2
    walk_at "rd"
    refine if_ne (fun z => absurd rfl z) (fun _ => ?_)
    walk_at "rd"
    refine lcj_zeros a.e rfl (by omega) (fun x => rfl) fun D H3 hD1 s3 hD3 => ?_
    have hD := none_of s02 hD1
    have s03 := s02.trans s3
    walk_at "rd"
    refine fj_rangeE a.parts.length (by rw [List.length_map]; rfl) (fun i σ H4 => Same H H4 ∧ H4 D = some (.lst (intsV (setL (List.replicate a.e 0) (fun k => (((k : Int) * (-1)) % (a.e : Int)).toNat) (fun k => a.parts.getD k 0) i))) ∧
      ∃ v3, σ = [some (.ref p), some (.int (-1)), some (.ref D), v3, none]) ⟨s03, hD3, _, rfl⟩ ?_ ?_
    · rintro i σ H4 hi ⟨s4, hD4, v3, rfl⟩
      have cw : CMulW (i : Int) (-1) := cmw (a := 10) (b := 10) (by rw [Int.natAbs_natCast]; exact lb_small (by omega)) (lb_small (by decide)) (by omega) (by omega) (by omega)
      walk_at "rd"
      have m0 := Int.emod_nonneg ((i : Int) * (-1)) (show (a.e : Int) ≠ 0 by omega)
      have m1 := Int.emod_lt_of_pos ((i : Int) * (-1)) (show (0 : Int) < (a.e : Int) by omega)
      refine rd_set (((i : Int) * (-1)) % (a.e : Int)).toNat hD4 (by rw [Int.toNat_of_nonneg m0]) ?_ ?_
      · rw [List.length_map, setL_len, List.length_replicate]
        omega
      rw [set_ints]
      refine at_i ⟨Same.mut s4 hD, ?_, _, rfl⟩
      rw [setL_succ]
      exact upd_same
    · rintro σ H5 ⟨s5, hD5, v3, rfl⟩
      walk_at "rd"
      exact mkCy_use a.e D (imgTot a) a.low rfl ga.e (.inl hD5) (by unfold imgTot; rw [setL_len, List.length_replicate]; omega) ga.low la (fun r H' s k2 => k r H' (s5.trans s) k2)
def spMir (C : Addr) : Sp := fun vs H Q _ => ∃ (p : Addr) (a : Cyc), vs = [.ref p] ∧ CycAt C H p a ∧ CGood a ∧ Lb 9000 a.low ∧ ∀ r H', Same H H' → CycAt C H' r (mirM a) → Q (.ref r) H'
theorem sc_Cyclo_mirrored : FnScope ["self"] ["self"] HD.dCyclo_mirrored.scope := ⟨rfl, rfl, rfl, by decide +kernel, rfl, by decide +kernel, by decide +kernel⟩
theorem ok_mirrored (T : Tx K mg) : Ok P w K mg base CX0 9 HD.dCyclo_mirrored ["self"] (spMir (CY K)) := by
  have c1 := T.c_Cyclo
  have G_Cyclo_image : Ok P w K mg base CX0 8 _ _ _ := ok_image T
  have nd := sc_Cyclo_mirrored.nd
  refine Ok.mk0 T fn_Cyclo_mirrored rfl sc_Cyclo_mirrored (fun vs H Q E h => ?_) (fun _ _ _ _ _ _ us hl => match us, hl with | [_], _ => rfl) (fun cdv A outer s H vs Q E hr h => ?_)
  · obtain ⟨p, a, rfl, _⟩ := h
    rfl
  · obtain ⟨p, a, rfl, ha, ga, la, k⟩ := h
    obtain ⟨dx, bb, h1, h2⟩ := id ha
    refine ⟨_, pss_one
          -- return self.image(-1)
          (ps_ret (pe_m (pv 0) T.c_Cyclo (G_Cyclo_image) T.me_Cyclo_image (hr.mono (by decide)) pass0 (pa_cons (pe_un un_neg pe_int) pa_nil))), ?_⟩
    walk_at "rd"
    exact ⟨p, a, rfl, ha, ga, la, k⟩
end
end L2.KL
set_option Elab.async false
set_option linter.all false
set_option maxRecDepth 100000
set_option maxHeartbeats 4000000
namespace L2.KL
/-! ### sums -/
def sm : Nat → (Nat → Int) → Int
  | 0, _ => 0
  | n + 1, f => sm n f + f n
theorem sm_congr {f g : Nat → Int} : ∀ {n : Nat}, (∀ k, k < n → f k = g k) → sm n f = sm n g
  | 0, _ => rfl
  | n + 1, h => by
    show sm n f + f n = sm n g + g n
    rw [sm_congr (n := n) fun k hk => h k (by omega), h n (by omega)]
theorem sm_zero {f : Nat → Int} {n : Nat} (h : ∀ k, k < n → f k = 0) : sm n f = 0 := by
  induction n with
  | zero => rfl
  | succ n ih =>
    show sm n f + f n = 0
    rw [ih fun k hk => h k (by omega), h n (by omega)]
    rfl
theorem sm_add (f g : Nat → Int) : ∀ n, sm n (fun k => f k + g k) = sm n f + sm n g
  | 0 => rfl
  | n + 1 => by
    show sm n (fun k => f k + g k) + (f n + g n) = sm n f + f n + (sm n g + g n)
    rw [sm_add f g n]
    omega
theorem sm_sub (f g : Nat → Int) : ∀ n, sm n (fun k => f k - g k) = sm n f - sm n g
  | 0 => rfl
  | n + 1 => by
    show sm n (fun k => f k - g k) + (f n - g n) = sm n f + f n - (sm n g + g n)
    rw [sm_sub f g n]
    omega
theorem sm_mul (c : Int) (f : Nat → Int) : ∀ n, sm n (fun k => c * f k) = c * sm n f
  | 0 => (Int.mul_zero c).symm
  | n + 1 => by
    show sm n (fun k => c * f k) + c * f n = c * (sm n f + f n)
    rw [sm_mul c f n, Int.mul_add]
theorem sm_mulr (c : Int) (f : Nat → Int) (n : Nat) : sm n (fun k => f k * c) = sm n f * c := by
  rw [Int.mul_comm, ← sm_mul]
  exact sm_congr fun k _ => Int.mul_comm _ _
theorem sm_single {d : Int} {j : Nat} : ∀ {n : Nat}, j < n → sm n (fun k => if k = j then d else 0) = d
  | n + 1, h => by
    show sm n (fun k => if k = j then d else 0) + (if n = j then d else 0) = d
    by_cases z : n = j
    · rw [if_pos z, sm_zero fun k hk => if_neg (by omega)]
      omega
    · rw [if_neg z, sm_single (n := n) (by omega)]
      omega
theorem sm_swap (f : Nat → Nat → Int) (m : Nat) : ∀ n, sm n (fun i => sm m (fun j => f i j)) = sm m (fun j => sm n (fun i => f i j))
  | 0 => (sm_zero (n := m) fun _ _ => rfl).symm
  | n + 1 => by
    show sm n (fun i => sm m (fun j => f i j)) + sm m (fun j => f n j) = sm m (fun j => sm n (fun i => f i j) + f n j)
    rw [sm_swap f m n, sm_add]
theorem sm_split (f : Nat → Int) (a : Nat) : ∀ b, sm (a + b) f = sm a f + sm b (fun k => f (a + k))
  | 0 => by show sm a f = sm a f + 0; omega
  | b + 1 => by
    show sm (a + b) f + f (a + b) = sm a f + (sm b (fun k => f (a + k)) + f (a + b))
    rw [sm_split f a b]
    omega
theorem sm_blocks (f : Nat → Int) (m : Nat) : ∀ p, sm (p * m) f = sm p (fun u => sm m (fun w => f (u * m + w)))
  | 0 => by rw [Nat.zero_mul]; rfl
  | p + 1 => by
    rw [Nat.add_mul, Nat.one_mul, sm_split, sm_blocks f m p]
    rfl
/-! ### weighted sums of a list -/
def ws (l : List Int) (w : Nat → Int) : Int := sm l.length (fun k => l.getD k 0 * w k)
theorem getD_set (l : List Int) (j k : Nat) (c : Int) (hj : j < l.length) : (l.set j c).getD k 0 = if k = j then c else l.getD k 0 := by
  rw [List.getD_eq_getElem?_getD, List.getD_eq_getElem?_getD, List.getElem?_set]
  by_cases h : k = j
  · subst h
    simp [hj]
  · rw [if_neg (fun z => h z.symm), if_neg h]
theorem ws_set (l : List Int) (j : Nat) (c : Int) (w : Nat → Int) (hj : j < l.length) : ws (l.set j c) w = ws l w + (c - l.getD j 0) * w j := by
  unfold ws
  rw [List.length_set, ← sm_single (d := (c - l.getD j 0) * w j) hj, ← sm_add]
  refine sm_congr fun k hk => ?_
  rw [getD_set l j k c hj]
  by_cases h : k = j
  · subst h
    rw [if_pos rfl, if_pos rfl, ← Int.add_mul]
    congr 1
    omega
  · rw [if_neg h, if_neg h]
    omega
theorem ws_addL (l : List Int) (f : Nat → Nat) (g : Nat → Int) (w : Nat → Int) : ∀ n, (∀ k, k < n → f k < l.length) → ws (addL l f g n) w = ws l w + sm n (fun k => g k * w (f k))
  | 0, _ => by show ws l w = ws l w + 0; omega
  | n + 1, h => by
    rw [addL_succ, ws_set _ _ _ _ (by rw [addL_len]; exact h n (by omega)), ws_addL l f g w n fun k hk => h k (by omega)]
    show ws l w + sm n (fun k => g k * w (f k)) + _ = ws l w + (sm n (fun k => g k * w (f k)) + g n * w (f n))
    rw [show (addL l f g n).getD (f n) 0 + g n - (addL l f g n).getD (f n) 0 = g n by omega]
    omega
theorem getD_rep (n k : Nat) : (List.replicate n (0 : Int)).getD k 0 = 0 := by
  rw [List.getD_eq_getElem?_getD, List.getElem?_replicate]
  split <;> rfl
theorem ws_rep (n : Nat) (w : Nat → Int) : ws (List.replicate n 0) w = 0 := sm_zero fun k _ => by rw [getD_rep, Int.zero_mul]
theorem ws_subRow (rest bys : List Int) (c : Int) (k : Nat) (w : Nat → Int) : ∀ n, k + n ≤ rest.length → ws (subRow rest bys c k n) w = ws rest w - c * sm n (fun j => bys.getD j 0 * w (k + j))
  | 0, _ => by show ws rest w = ws rest w - c * 0; omega
  | n + 1, h => by
    rw [subRow_succ, ws_set _ _ _ _ (by rw [subRow_len]; omega), ws_subRow rest bys c k w n (by omega)]
    show _ = ws rest w - c * (sm n (fun j => bys.getD j 0 * w (k + j)) + bys.getD n 0 * w (k + n))
    rw [Int.mul_add, ← Int.mul_assoc]
    rw [show (subRow rest bys c k n).getD (k + n) 0 - c * bys.getD n 0 - (subRow rest bys c k n).getD (k + n) 0 = -(c * bys.getD n 0) by omega, Int.neg_mul]
    omega
theorem subRow_getD (rest bys : List Int) (c : Int) (k t : Nat) : ∀ n, k + n ≤ rest.length → (subRow rest bys c k n).getD t 0 = if k ≤ t ∧ t < k + n then rest.getD t 0 - c * bys.getD (t - k) 0 else rest.getD t 0
  | 0, _ => by rw [if_neg (by omega)]; rfl
  | n + 1, h => by
    rw [subRow_succ, getD_set _ _ _ _ (by rw [subRow_len]; omega), subRow_getD rest bys c k t n (by omega), subRow_getD rest bys c k (k + n) n (by omega)]
    by_cases z : t = k + n
    · subst z
      rw [if_pos rfl, if_neg (by omega), if_pos (by omega), show k + n - k = n by omega]
    · rw [if_neg z]
      by_cases y : k ≤ t ∧ t < k + n
      · rw [if_pos y, if_pos (by omega)]
      · rw [if_neg y, if_neg (by omega)]
theorem divStep_two (bys : List Int) (size : Nat) (st : List Int × List Int) (k : Nat) (h : k + (size + 1) ≤ st.2.length) (w : Nat → Int) (hw : sm (size + 1) (fun j => bys.getD j 0 * w (k + j)) = 0) : ws (divStep bys size st k).2 w = ws st.2 w := by
  unfold divStep
  dsimp only
  split
  · rfl
  · rw [ws_subRow _ _ _ _ _ _ h, hw, Int.mul_zero, Int.sub_zero]
theorem divStep_getD (bys : List Int) (size : Nat) (st : List Int × List Int) (k t : Nat) (h : k + (size + 1) ≤ st.2.length) : (divStep bys size st k).2.getD t 0 = if k ≤ t ∧ t < k + (size + 1) then st.2.getD t 0 - st.2.getD (k + size) 0 * bys.getD (t - k) 0 else st.2.getD t 0 := by
  unfold divStep
  dsimp only
  split
  · rename_i z
    rw [z]
    split <;> omega
  · exact subRow_getD _ _ _ _ _ _ h
theorem divGo_ws (bys : List Int) (size nq : Nat) (st : List Int × List Int) (w : Nat → Int) (h : nq + size ≤ st.2.length) (hw : ∀ k, k < nq → sm (size + 1) (fun j => bys.getD j 0 * w (k + j)) = 0) : ∀ n, n ≤ nq → ws (divGo bys size nq st n).2 w = ws st.2 w
  | 0, _ => rfl
  | n + 1, hn => by
    rw [divGo_succ, divStep_two _ _ _ _ (by rw [(divGo_len bys size nq st n).2]; omega) w (hw _ (by omega)), divGo_ws bys size nq st w h hw n (by omega)]
theorem divGo_tail (bys : List Int) (size nq : Nat) (st : List Int × List Int) (h : nq + size ≤ st.2.length) (h1 : bys.getD size 0 = 1) : ∀ n, n ≤ nq → ∀ t, nq - n + size ≤ t → t < nq + size → (divGo bys size nq st n).2.getD t 0 = 0
  | 0, _, t, h2, h3 => by omega
  | n + 1, hn, t, h2, h3 => by
    rw [divGo_succ, divStep_getD _ _ _ _ _ (by rw [(divGo_len bys size nq st n).2]; omega)]
    by_cases z : t = nq - 1 - n + size
    · rw [if_pos (by omega), ← z, show t - (nq - 1 - n) = size by omega, h1]
      omega
    · rw [if_neg (by omega)]
      exact divGo_tail bys size nq st h h1 n (by omega) t (by omega) h3
theorem ws_take (l : List Int) (m : Nat) (w : Nat → Int) (h : ∀ t, m ≤ t → t < l.length → l.getD t 0 = 0) : ws (l.take m) w = ws l w := by
  unfold ws
  rw [List.length_take]
  have e : l.length = min m l.length + (l.length - min m l.length) := by omega
  conv => rhs; rw [e]
  rw [sm_split, sm_zero (n := l.length - min m l.length) (fun k hk => by rw [h _ (by omega) (by omega), Int.zero_mul]), Int.add_zero]
  refine sm_congr fun k hk => ?_
  congr 1
  rw [List.getD_eq_getElem?_getD, List.getD_eq_getElem?_getD, List.getElem?_take, if_pos (by omega)]
theorem ws_fold (e : Nat) (items : List Int) (w : Nat → Int) (he : 0 < e) (h0 : 1 ≤ (cycE e).length) (hs : (cycE e).length - 1 ≤ e) (h1 : (cycE e).getD ((cycE e).length - 1) 0 = 1)
    (hw : ∀ k, k < e → sm ((cycE e).length - 1 + 1) (fun j => (cycE e).getD j 0 * w (k + j)) = 0) : ws (foldM e items) w = sm items.length (fun k => items.getD k 0 * w (k % e)) := by
  unfold foldM
  have l1 := accM_len e items
  have e1 : ws (accM e items) w = sm items.length (fun k => items.getD k 0 * w (k % e)) := by
    unfold accM
    rw [ws_addL _ _ _ _ _ (fun k _ => by rw [List.length_replicate]; exact Nat.mod_lt _ he), ws_rep, Int.zero_add]
  rw [ws_take, ← e1]
  · unfold divM
    exact divGo_ws _ _ _ _ w (by dsimp only; omega) (fun k hk => hw k (by omega)) _ (Nat.le_refl _)
  · intro t h2 h3
    rw [divM_len2] at h3
    unfold divM
    exact divGo_tail _ _ _ _ (by dsimp only; omega) h1 _ (Nat.le_refl _) t (by omega) (by omega)
end L2.KL
set_option Elab.async false
set_option linter.all false
set_option maxRecDepth 100000
set_option maxHeartbeats 4000000
namespace L2.KL
/-! ### the sixtieth roots in the basis z4^a z3^b z5^c -/
def zA (m a : Nat) : Int := if m % 4 = a then 1 else if m % 4 = a + 2 then -1 else 0
def zB (m b : Nat) : Int := if m % 3 = b then 1 else if m % 3 = 2 then -1 else 0
def zC (m c : Nat) : Int := if m % 5 = c then 1 else if m % 5 = 4 then -1 else 0
def Z (k i : Nat) : Int := if i < 16 then zA (3 * k) (i / 8) * (zB (2 * k) (i / 4 % 2) * zC (3 * k) (i % 4)) else 0
theorem Z_mod (k i : Nat) : Z (k % 60) i = Z k i := by
  unfold Z zA zB zC
  rw [show 3 * (k % 60) % 4 = 3 * k % 4 by omega, show 2 * (k % 60) % 3 = 2 * k % 3 by omega, show 3 * (k % 60) % 5 = 3 * k % 5 by omega]
theorem Z_eq {k l : Nat} (h : k % 60 = l % 60) (i : Nat) : Z k i = Z l i := by rw [← Z_mod k, ← Z_mod l, h]
theorem Z_big (k i : Nat) (h : 16 ≤ i) : Z k i = 0 := by
  unfold Z
  rw [if_neg (by omega)]
/-- all checks over residues and coordinates -/
def chk (f : Nat → Nat → Bool) : Bool := (List.range 60).all fun t => (List.range 16).all fun i => f t i
theorem chk_ok {f : Nat → Nat → Bool} (h : chk f = true) {t i : Nat} (ht : t < 60) (hi : i < 16) : f t i = true :=
  List.all_eq_true.mp (List.all_eq_true.mp h t (List.mem_range.mpr ht)) i (List.mem_range.mpr hi)
/-- the cyclotomic polynomials annihilate -/
theorem phiRel_all : (divs60.all fun e => chk fun t i => decide (sm ((cycE e).length - 1 + 1) (fun j => (cycE e).getD j 0 * Z (t + j * (60 / e)) i) = 0)) = true := by decide +kernel
theorem phiRel {e : Nat} (he : e ∈ divs60) (t i : Nat) : sm ((cycE e).length - 1 + 1) (fun j => (cycE e).getD j 0 * Z (t + j * (60 / e)) i) = 0 := by
  by_cases hi : i < 16
  · have h := of_decide_eq_true (chk_ok (List.all_eq_true.mp phiRel_all e he) (Nat.mod_lt t (show 0 < 60 by decide)) hi)
    refine Eq.trans (sm_congr fun j _ => ?_) h
    congr 1
    refine Z_eq ?_ i
    omega
  · exact sm_zero fun j _ => by rw [Z_big _ _ (by omega), Int.mul_zero]
theorem monic_all : (divs60.all fun e => decide ((cycE e).getD ((cycE e).length - 1) 0 = 1 ∧ 60 / e * e = 60)) = true := by decide +kernel
theorem monic {e : Nat} (he : e ∈ divs60) : (cycE e).getD ((cycE e).length - 1) 0 = 1 ∧ 60 / e * e = 60 := of_decide_eq_true (List.all_eq_true.mp monic_all e he)
def vecS (s e : Nat) (items : List Int) (i : Nat) : Int := ws items fun k => Z (s + k * (60 / e)) i
theorem vecS_fold {e : Nat} (he : e ∈ divs60) (s : Nat) (items : List Int) (i : Nat) : vecS s e (foldM e items) i = vecS s e items i := by
  have A := eAll he
  have m := monic he
  have hp := phi_le he
  have hd := div60_le he
  unfold vecS
  rw [ws_fold e items _ (by omega) A.ok.len.1 (by rw [A.ce]; omega) m.1 (fun k hk => ?_)]
  · unfold ws
    refine sm_congr fun k _ => ?_
    congr 1
    refine Z_eq ?_ i
    have h1 := Nat.div_add_mod k e
    have h2 : k * (60 / e) = k % e * (60 / e) + k / e * 60 := by
      conv => lhs; rw [← h1]
      rw [Nat.add_mul, Nat.mul_comm e, Nat.mul_assoc, Nat.mul_comm e, m.2]
      omega
    rw [h2]
    omega
  · refine Eq.trans (sm_congr fun j _ => ?_) (phiRel he (s + k * (60 / e)) i)
    congr 1
    refine Z_eq ?_ i
    rw [Nat.add_mul, Nat.add_assoc]
/-! ### left inverses -/
def linv (e : Nat) : List (List Int) := match e with
  | 1 => [[1, 0, 0, 0, 0, 0, 0, 0, 0, 0, 0, 0, 0, 0, 0, 0]]
  | 2 => [[1, 0, 0, 0, 0, 0, 0, 0, 0, 0, 0, 0, 0, 0, 0, 0]]
  | 3 => [[1, 0, 0, 0, 0, 0, 0, 0, 0, 0, 0, 0, 0, 0, 0, 0], [0, 0, 0, 0, 1, 0, 0, 0, 0, 0, 0, 0, 0, 0, 0, 0]]
  | 4 => [[1, 0, 0, 0, 0, 0, 0, 0, 0, 0, 0, 0, 0, 0, 0, 0], [0, 0, 0, 0, 0, 0, 0, 0, 1, 0, 0, 0, 0, 0, 0, 0]]
  | 5 => [[1, 0, 0, 0, 0, 0, 0, 0, 0, 0, 0, 0, 0, 0, 0, 0], [0, 1, 0, 0, 0, 0, 0, 0, 0, 0, 0, 0, 0, 0, 0, 0], [0, 0, 1, 0, 0, 0, 0, 0, 0, 0, 0, 0, 0, 0, 0, 0], [0, 0, 0, 1, 0, 0, 0, 0, 0, 0, 0, 0, 0, 0, 0, 0]]
  | 6 => [[1, 0, 0, 0, -1, 0, 0, 0, 0, 0, 0, 0, 0, 0, 0, 0], [0, 0, 0, 0, 1, 0, 0, 0, 0, 0, 0, 0, 0, 0, 0, 0]]
  | 10 => [[1, 0, -1, 0, 0, 0, 0, 0, 0, 0, 0, 0, 0, 0, 0, 0], [0, 0, 1, -1, 0, 0, 0, 0, 0, 0, 0, 0, 0, 0, 0, 0], [0, 1, -1, 0, 0, 0, 0, 0, 0, 0, 0, 0, 0, 0, 0, 0], [0, 0, 1, 0, 0, 0, 0, 0, 0, 0, 0, 0, 0, 0, 0, 0]]
  | 12 => [[1, 0, 0, 0, -1, 0, 0, 0, 0, 0, 0, 0, 0, 0, 0, 0], [0, 0, 0, 0, 0, 0, 0, 0, 0, 0, 0, 0, -1, 0, 0, 0], [0, 0, 0, 0, 1, 0, 0, 0, 0, 0, 0, 0, 0, 0, 0, 0], [0, 0, 0, 0, 0, 0, 0, 0, 1, 0, 0, 0, 0, 0, 0, 0]]
  | 15 => [[1, 0, 0, -1, 0, -1, 0, 1, 0, 0, 0, 0, 0, 0, 0, 0], [0, 0, 0, 0, 0, 1, -1, 0, 0, 0, 0, 0, 0, 0, 0, 0], [0, 0, 0, 1, 0, 0, 0, -1, 0, 0, 0, 0, 0, 0, 0, 0], [0, 1, 0, -1, 0, -1, 0, 1, 0, 0, 0, 0, 0, 0, 0, 0], [0, 0, 0, 0, 0, 1, 0, -1, 0, 0, 0, 0, 0, 0, 0, 0], [0, 0, 0, 0, 1, -1, 0, 0, 0, 0, 0, 0, 0, 0, 0, 0], [0, 0, 1, -1, 0, 0, -1, 1, 0, 0, 0, 0, 0, 0, 0, 0], [0, 0, 0, 1, 0, 1, 0, -1, 0, 0, 0, 0, 0, 0, 0, 0]]
  | 20 => [[1, 0, -1, 0, 0, 0, 0, 0, 0, 0, 0, 0, 0, 0, 0, 0], [0, 0, 0, 0, 0, 0, 0, 0, 0, -1, 0, 0, 0, 0, 0, 0], [0, 0, 1, -1, 0, 0, 0, 0, 0, 0, 0, 0, 0, 0, 0, 0], [0, 0, 0, 0, 0, 0, 0, 0, 0, 1, -1, 0, 0, 0, 0, 0], [0, 1, -1, 0, 0, 0, 0, 0, 0, 0, 0, 0, 0, 0, 0, 0], [0, 0, 0, 0, 0, 0, 0, 0, 1, -1, 0, 0, 0, 0, 0, 0], [0, 0, 1, 0, 0, 0, 0, 0, 0, 0, 0, 0, 0, 0, 0, 0], [0, 0, 0, 0, 0, 0, 0, 0, 0, 1, 0, -1, 0, 0, 0, 0]]
  | 30 => [[1, 0, 0, 0, -1, 0, 0, 1, 0, 0, 0, 0, 0, 0, 0, 0], [0, 0, 0, 0, 0, -1, 0, 1, 0, 0, 0, 0, 0, 0, 0, 0], [0, 0, -1, 0, 0, 0, 0, 0, 0, 0, 0, 0, 0, 0, 0, 0], [0, 0, 0, -1, 0, 0, 0, 0, 0, 0, 0, 0, 0, 0, 0, 0], [0, 0, 0, 0, 0, 0, 0, -1, 0, 0, 0, 0, 0, 0, 0, 0], [0, 0, 0, 0, 1, 0, 0, -1, 0, 0, 0, 0, 0, 0, 0, 0], [0, 1, 0, 0, 0, 0, 0, 0, 0, 0, 0, 0, 0, 0, 0, 0], [0, 0, 1, 0, 0, 0, -1, 1, 0, 0, 0, 0, 0, 0, 0, 0]]
  | 60 => [[1, 0, 0, 0, -1, 0, 0, 1, 0, 0, 0, 0, 0, 0, 0, 0], [0, 0, 0, 0, 0, 0, 0, 0, 0, -1, 0, 1, 0, 1, -1, 0], [0, 0, 0, 0, 0, -1, 0, 1, 0, 0, 0, 0, 0, 0, 0, 0], [0, 0, 0, 0, 0, 0, 0, 0, 0, -1, 0, 0, 0, 1, 0, 0], [0, 0, -1, 0, 0, 0, 0, 0, 0, 0, 0, 0, 0, 0, 0, 0], [0, 0, 0, 0, 0, 0, 0, 0, 0, 0, 0, 0, -1, 0, 1, 0], [0, 0, 0, -1, 0, 0, 0, 0, 0, 0, 0, 0, 0, 0, 0, 0], [0, 0, 0, 0, 0, 0, 0, 0, 0, 0, 0, 0, 0, -1, 1, 0], [0, 0, 0, 0, 0, 0, 0, -1, 0, 0, 0, 0, 0, 0, 0, 0], [0, 0, 0, 0, 0, 0, 0, 0, 0, 1, -1, 0, 0, -1, 1, 0], [0, 0, 0, 0, 1, 0, 0, -1, 0, 0, 0, 0, 0, 0, 0, 0], [0, 0, 0, 0, 0, 0, 0, 0, 0, 1, 0, -1, 0, -1, 0, 1], [0, 1, 0, 0, 0, 0, 0, 0, 0, 0, 0, 0, 0, 0, 0, 0], [0, 0, 0, 0, 0, 0, 0, 0, 0, 0, 0, 0, 0, 0, -1, 0], [0, 0, 1, 0, 0, 0, -1, 1, 0, 0, 0, 0, 0, 0, 0, 0], [0, 0, 0, 0, 0, 0, 0, 0, 1, -1, 0, 0, 0, 1, -1, 0]]
  | _ => []
def lrow (e k i : Nat) : Int := ((linv e).getD k []).getD i 0
theorem linv_all : (divs60.all fun e => (List.range (phi e)).all fun k => (List.range (phi e)).all fun j => decide (sm 16 (fun i => lrow e k i * Z (j * (60 / e)) i) = if k = j then 1 else 0)) = true := by decide +kernel
theorem linv_ok {e k j : Nat} (he : e ∈ divs60) (hk : k < phi e) (hj : j < phi e) : sm 16 (fun i => lrow e k i * Z (j * (60 / e)) i) = if k = j then 1 else 0 :=
  of_decide_eq_true (List.all_eq_true.mp (List.all_eq_true.mp (List.all_eq_true.mp linv_all e he) k (List.mem_range.mpr hk)) j (List.mem_range.mpr hj))
theorem linv_small : (divs60.all fun e => (List.range 16).all fun k => decide (sm 16 (fun i => ((lrow e k i).natAbs : Int)) ≤ 4)) = true := by decide +kernel
def vec (e : Nat) (items : List Int) (i : Nat) : Int := vecS 0 e items i
theorem linv_get {e : Nat} {items : List Int} (he : e ∈ divs60) (hl : items.length = phi e) {k : Nat} (hk : k < phi e) : sm 16 (fun i => lrow e k i * vec e items i) = items.getD k 0 := by
  unfold vec vecS ws
  have e1 : sm 16 (fun i => lrow e k i * sm items.length (fun j => items.getD j 0 * Z (0 + j * (60 / e)) i)) = sm items.length (fun j => items.getD j 0 * sm 16 (fun i => lrow e k i * Z (j * (60 / e)) i)) := by
    have a : (fun i => lrow e k i * sm items.length (fun j => items.getD j 0 * Z (0 + j * (60 / e)) i)) = fun i => sm items.length (fun j => lrow e k i * (items.getD j 0 * Z (0 + j * (60 / e)) i)) := by
      funext i
      rw [sm_mul]
    rw [a, sm_swap]
    refine sm_congr fun j _ => ?_
    rw [← sm_mul]
    refine sm_congr fun i _ => ?_
    rw [Nat.zero_add, ← Int.mul_assoc, ← Int.mul_assoc, Int.mul_comm (lrow e k i)]
  rw [e1, ← sm_single (n := items.length) (d := items.getD k 0) (j := k) (by omega)]
  refine sm_congr fun j hj => ?_
  rw [linv_ok he hk (by omega)]
  by_cases z : k = j
  · subst z
    rw [if_pos rfl, if_pos rfl, Int.mul_one]
  · rw [if_neg z, if_neg (fun y => z y.symm), Int.mul_zero]
/-- the vector determines the numbers -/
theorem vec_inj {e : Nat} {xs ys : List Int} (he : e ∈ divs60) (hx : xs.length = phi e) (hy : ys.length = phi e) (h : ∀ i, i < 16 → vec e xs i = vec e ys i) : xs = ys := by
  apply List.ext_getElem?
  intro k
  by_cases hk : k < phi e
  · have e1 := linv_get he hx hk
    have e2 := linv_get he hy hk
    rw [sm_congr (g := fun i => lrow e k i * vec e ys i) (fun i hi => by rw [h i hi]), e2] at e1
    rw [List.getD_eq_getElem?_getD, List.getD_eq_getElem?_getD, List.getElem?_eq_getElem (by omega), List.getElem?_eq_getElem (by omega)] at e1
    rw [List.getElem?_eq_getElem (by omega), List.getElem?_eq_getElem (by omega)]
    congr 1
    simpa using e1.symm
  · rw [List.getElem?_eq_none (by omega), List.getElem?_eq_none (by omega)]
theorem vec_fold {e : Nat} (he : e ∈ divs60) (items : List Int) (i : Nat) : vec e (foldM e items) i = vec e items i := vecS_fold he 0 items i
end L2.KL
set_option Elab.async false
set_option linter.all false
set_option maxRecDepth 100000
set_option maxHeartbeats 4000000
namespace L2.KL
/-! ### lowering -/
/-- which lowerings split (p prime to m) and which do not -/
def lowSplit : List (Nat × Nat) := [(2,2),(6,2),(10,2),(30,2),(3,3),(12,3),(15,3),(60,3),(5,5),(15,5),(20,5),(60,5),(6,3),(30,3),(10,5),(30,5)]
def lowEven : List Nat := [4,12,20,60]
theorem cases_all : (lowCases.all fun t => decide (((t.1, t.2.1) ∈ lowSplit ∧ t.1 / t.2.1 % t.2.1 ≠ 0) ∨ (t.1 ∈ lowEven ∧ t.2.1 = 2 ∧ t.1 / t.2.1 % t.2.1 = 0))) = true := by decide +kernel
theorem low_case {e p L : Nat} (h : (e, p, L) ∈ lowCases) : ((e, p) ∈ lowSplit ∧ e / p % p ≠ 0) ∨ (e ∈ lowEven ∧ p = 2 ∧ e / p % p = 0) := of_decide_eq_true (List.all_eq_true.mp cases_all _ h)
structure SplitOk (e p : Nat) : Prop where
  m0 : 0 < e / p
  p0 : 2 ≤ p
  dv : e / p * p = e
  dm : e / p ∈ divs60
  de : e ∈ divs60
  at_ : ∀ k, k < e → (k * (60 / e)) % 60 = (lowAt (e / p) p k / (e / p) * (60 / p) + lowAt (e / p) p k % (e / p) * (60 / (e / p))) % 60
  rel : ∀ t i, sm p (fun u => Z (t + u * (60 / p)) i) = 0
theorem split_all : (lowSplit.all fun t => decide (0 < t.1 / t.2 ∧ 2 ≤ t.2 ∧ t.1 / t.2 * t.2 = t.1 ∧ t.1 / t.2 ∈ divs60 ∧ t.1 ∈ divs60) && (((List.range t.1).all fun k => decide ((k * (60 / t.1)) % 60 = (lowAt (t.1 / t.2) t.2 k / (t.1 / t.2) * (60 / t.2) + lowAt (t.1 / t.2) t.2 k % (t.1 / t.2) * (60 / (t.1 / t.2))) % 60)) &&
   chk fun s i => decide (sm t.2 (fun u => Z (s + u * (60 / t.2)) i) = 0))) = true := by decide +kernel
theorem splitOk {e p : Nat} (h : (e, p) ∈ lowSplit) : SplitOk e p := by
  have a := List.all_eq_true.mp split_all _ h
  obtain ⟨a1, a2⟩ := Bool.and_eq_true_iff.mp a
  obtain ⟨a3, a4⟩ := Bool.and_eq_true_iff.mp a2
  obtain ⟨b1, b2, b3, b4, b5⟩ := of_decide_eq_true a1
  refine ⟨b1, b2, b3, b4, b5, fun k hk => of_decide_eq_true (List.all_eq_true.mp a3 k (List.mem_range.mpr hk)), fun t i => ?_⟩
  by_cases hi : i < 16
  · refine Eq.trans (sm_congr fun u _ => ?_) (of_decide_eq_true (chk_ok a4 (Nat.mod_lt t (show 0 < 60 by decide)) hi))
    refine Z_eq ?_ i
    dsimp only
    omega
  · exact sm_zero fun u _ => Z_big _ _ (by omega)
/-- the value by the blocks -/
theorem vec_blocks {e p : Nat} (S : SplitOk e p) (items : List Int) (hl : items.length ≤ e) (i : Nat) : vec e items i = sm p (fun u => vecS (u * (60 / p)) (e / p) (lowSum items e p u) i) := by
  have h1 : vec e items i = ws (lowTot items e p) (fun t => Z (t / (e / p) * (60 / p) + t % (e / p) * (60 / (e / p))) i) := by
    unfold lowTot
    rw [ws_addL _ _ _ _ _ (fun k hk => by
      rw [List.length_replicate]
      have := lowAt_lt (m := e / p) (p := p) (k := k) S.m0 (by have := S.p0; omega)
      rw [S.dv] at this
      exact this), ws_rep, Int.zero_add]
    unfold vec vecS ws
    refine sm_congr fun k hk => ?_
    congr 1
    refine Z_eq ?_ i
    rw [Nat.zero_add]
    exact S.at_ k (by omega)
  rw [h1]
  have lT : (lowTot items e p).length = p * (e / p) := by
    unfold lowTot
    rw [addL_len, List.length_replicate, Nat.mul_comm, S.dv]
  unfold ws
  rw [lT, sm_blocks]
  refine sm_congr fun u hu => ?_
  unfold lowSum
  rw [vecS_fold S.dm]
  unfold vecS ws
  have hlen : (((lowTot items e p).take (u * (e / p) + e / p)).drop (u * (e / p))).length = e / p := by
    rw [List.length_drop, List.length_take, lT]
    have aux : ∀ m : Nat, (u + 1) * m ≤ p * m → min (u * m + m) (p * m) - u * m = m := by
      intro m h
      rw [Nat.add_mul, Nat.one_mul] at h
      omega
    exact aux (e / p) (Nat.mul_le_mul_right _ hu)
  rw [hlen]
  refine sm_congr fun w hw => ?_
  have e1 : (u * (e / p) + w) / (e / p) = u := by
    rw [Nat.mul_comm, Nat.mul_add_div S.m0, Nat.div_eq_of_lt hw]
    omega
  have e2 : (u * (e / p) + w) % (e / p) = w := by
    rw [Nat.mul_comm, Nat.mul_add_mod]
    exact Nat.mod_eq_of_lt hw
  dsimp only
  rw [e1, e2]
  congr 1
  rw [List.getD_eq_getElem?_getD, List.getD_eq_getElem?_getD, List.getElem?_drop, List.getElem?_take, if_pos (by omega)]
theorem ws_zip (xs ys : List Int) (w : Nat → Int) (h : xs.length = ys.length) : ws (List.zipWith (· - ·) xs ys) w = ws xs w - ws ys w := by
  unfold ws
  rw [List.length_zipWith, h, Nat.min_self, ← sm_sub]
  refine sm_congr fun k hk => ?_
  rw [← Int.sub_mul]
  congr 1
  rw [List.getD_eq_getElem?_getD, List.getD_eq_getElem?_getD, List.getD_eq_getElem?_getD, List.getElem?_zipWith, List.getElem?_eq_getElem (show k < xs.length by omega), List.getElem?_eq_getElem hk]
  rfl
theorem sm_tail (f : Nat → Int) : ∀ n, sm (n + 1) f = f 0 + sm n (fun k => f (k + 1))
  | 0 => by show 0 + f 0 = f 0 + 0; omega
  | n + 1 => by
    show sm (n + 1) f + f (n + 1) = f 0 + (sm n (fun k => f (k + 1)) + f (n + 1))
    rw [sm_tail f n]
    omega
theorem vecS_rel {e p : Nat} (S : SplitOk e p) (m : Nat) (xs : List Int) (i : Nat) : sm p (fun u => vecS (u * (60 / p)) m xs i) = 0 := by
  unfold vecS ws
  rw [sm_swap]
  refine sm_zero fun k _ => ?_
  rw [sm_mul]
  have : sm p (fun u => Z (u * (60 / p) + k * (60 / m)) i) = 0 := by
    refine Eq.trans (sm_congr fun u _ => ?_) (S.rel (k * (60 / m)) i)
    rw [Nat.add_comm]
  rw [this, Int.mul_zero]
/-- what lowered gives has the same value -/
theorem vec_low {e p L : Nat} {items r : List Int} (hc : (e, p, L) ∈ lowCases) (he : e ∈ divs60) (hl : items.length = L) (hL : L = phi e) (hr : lowM items e p = some r) (i : Nat) : vec (e / p) r i = vec e items i := by
  unfold lowM at hr
  rcases low_case hc with ⟨hs, hm⟩ | ⟨hev, rfl, hm⟩
  · rw [if_neg hm] at hr
    have S := splitOk hs
    split at hr
    · cases hr
    · rename_i hbad
      have e1 := Option.some.inj hr
      rw [vec_blocks S items (by rw [hl, hL]; exact phi_le he) i]
      have hp2 := S.p0
      have hall : ∀ u, 1 ≤ u → u < p → lowSum items e p u = lowSum items e p 1 := by
        intro u h1 h2
        by_cases z : u = 1
        · rw [z]
        · have q : ¬ decide (lowSum items e p (u - 2 + 2) ≠ lowSum items e p 1) = true := fun y => hbad (List.any_eq_true.mpr ⟨u - 2, List.mem_range.mpr (by omega), y⟩)
          rw [show u - 2 + 2 = u by omega] at q
          by_cases y : lowSum items e p u = lowSum items e p 1
          · exact y
          · exact absurd (decide_eq_true y) q
      obtain ⟨n, rfl⟩ : ∃ n, p = n + 1 := ⟨p - 1, by omega⟩
      rw [sm_tail, sm_congr (n := n) (g := fun u => vecS ((u + 1) * (60 / (n + 1))) (e / (n + 1)) (lowSum items e (n + 1) 1) i) (fun u hu => by rw [hall (u + 1) (by omega) (by omega)])]
      have h2 := vecS_rel S (e / (n + 1)) (lowSum items e (n + 1) 1) i
      rw [sm_tail] at h2
      rw [← e1]
      have ll : (lowSum items e (n + 1) 0).length = (lowSum items e (n + 1) 1).length := by
        unfold lowSum
        rw [foldM_len S.dm, foldM_len S.dm]
      have h3 : vec (e / (n + 1)) (List.zipWith (· - ·) (lowSum items e (n + 1) 0) (lowSum items e (n + 1) 1)) i = vec (e / (n + 1)) (lowSum items e (n + 1) 0) i - vec (e / (n + 1)) (lowSum items e (n + 1) 1) i := ws_zip _ _ _ ll
      rw [h3]
      rw [Nat.zero_mul] at h2 ⊢
      unfold vec
      omega
  · rw [if_pos hm] at hr
    split at hr
    · cases hr
    · rename_i hbad
      have e1 := Option.some.inj hr
      have hz : ∀ k, k < items.length → k % 2 ≠ 0 → items.getD k 0 = 0 := by
        intro k h1 h2
        by_cases y : items.getD k 0 = 0
        · exact y
        · exact absurd (List.any_eq_true.mpr ⟨k, List.mem_range.mpr h1, by rw [decide_eq_true h2, decide_eq_true y]; rfl⟩) hbad
      have hE : (lowEven.all fun e => decide (phi e % 2 = 0 ∧ 60 / (e / 2) = 2 * (60 / e))) = true := by decide +kernel
      have hE2 := of_decide_eq_true (List.all_eq_true.mp hE e hev)
      obtain ⟨n, hn⟩ : ∃ n, items.length = n * 2 := ⟨items.length / 2, by omega⟩
      rw [← e1]
      unfold vec vecS ws
      rw [List.length_map, List.length_range, hn, sm_blocks, show (n * 2 + 2 - 1) / 2 = n by omega]
      refine sm_congr fun j hj => ?_
      show _ = 0 + items.getD (j * 2 + 0) 0 * Z (0 + (j * 2 + 0) * (60 / e)) i + items.getD (j * 2 + 1) 0 * Z (0 + (j * 2 + 1) * (60 / e)) i
      rw [hz (j * 2 + 1) (by omega) (by omega), Int.zero_mul, Int.zero_add, Int.add_zero]
      congr 1
      · rw [List.getD_eq_getElem?_getD, List.getElem?_map, List.getElem?_range hj]
        rfl
      · refine Z_eq ?_ i
        rw [hE2.2, Nat.add_zero, Nat.mul_assoc]
end L2.KL
set_option Elab.async false
set_option linter.all false
set_option maxRecDepth 100000
set_option maxHeartbeats 4000000
namespace L2.KL
/-! ### what can not be lowered -/
def pex (p i : Nat) : Bool := if p = 2 then decide (i / 8 ≠ 0) else if p = 3 then decide (i / 4 % 2 ≠ 0) else decide (i % 4 ≠ 0)
theorem even_all : (lowEven.all fun e => (List.range (phi e)).all fun k => (List.range 16).all fun i => decide ((k % 2 = 1 → i / 8 = 0 → Z (k * (60 / e)) i = 0) ∧ (k % 2 = 0 → i / 8 ≠ 0 → Z (k * (60 / e)) i = 0))) = true := by decide +kernel
theorem even_ok {e k i : Nat} (he : e ∈ lowEven) (hk : k < phi e) (hi : i < 16) : (k % 2 = 1 → i / 8 = 0 → Z (k * (60 / e)) i = 0) ∧ (k % 2 = 0 → i / 8 ≠ 0 → Z (k * (60 / e)) i = 0) :=
  of_decide_eq_true (List.all_eq_true.mp (List.all_eq_true.mp (List.all_eq_true.mp even_all e he) k (List.mem_range.mpr hk)) i (List.mem_range.mpr hi))
theorem even_mem {e : Nat} (h : e ∈ lowEven) : e ∈ divs60 ∧ e / 2 % 2 = 0 := by
  have a : (lowEven.all fun e => decide (e ∈ divs60 ∧ e / 2 % 2 = 0)) = true := by decide +kernel
  exact of_decide_eq_true (List.all_eq_true.mp a e h)
theorem none2 {e : Nat} {items : List Int} (he : e ∈ lowEven) (hl : items.length = phi e) (hn : lowM items e 2 = none) : ∃ i, i < 16 ∧ pex 2 i = true ∧ vec e items i ≠ 0 := by
  obtain ⟨hd, hm⟩ := even_mem he
  refine Decidable.byContradiction fun hno => ?_
  have hv : ∀ i, i < 16 → i / 8 ≠ 0 → vec e items i = 0 := fun i hi h8 => Decidable.byContradiction fun z => hno ⟨i, hi, by unfold pex; rw [if_pos rfl]; exact decide_eq_true h8, z⟩
  have lo : ((List.range (phi e)).map fun k => if k % 2 = 1 then items.getD k 0 else 0).length = phi e := by rw [List.length_map, List.length_range]
  have go : ∀ k, k < phi e → ((List.range (phi e)).map fun k => if k % 2 = 1 then items.getD k 0 else 0).getD k 0 = if k % 2 = 1 then items.getD k 0 else 0 := fun k hk => by
    rw [List.getD_eq_getElem?_getD, List.getElem?_map, List.getElem?_range hk]
    rfl
  have h0 : ((List.range (phi e)).map fun k => if k % 2 = 1 then items.getD k 0 else 0) = List.replicate (phi e) 0 := by
    refine vec_inj hd lo List.length_replicate fun i hi => ?_
    have r0 : vec e (List.replicate (phi e) 0) i = 0 := ws_rep _ _
    rw [r0]
    by_cases h8 : i / 8 = 0
    · unfold vec vecS ws
      rw [lo]
      refine sm_zero fun k hk => ?_
      dsimp only
      rw [go k hk, Nat.zero_add]
      by_cases z : k % 2 = 1
      · rw [(even_ok he hk hi).1 z h8, Int.mul_zero]
      · rw [if_neg z, Int.zero_mul]
    · refine Eq.trans ?_ (hv i hi h8)
      unfold vec vecS ws
      rw [lo, hl]
      refine sm_congr fun k hk => ?_
      dsimp only
      rw [go k hk, Nat.zero_add]
      by_cases z : k % 2 = 1
      · rw [if_pos z]
      · rw [(even_ok he hk hi).2 (by omega) h8, Int.mul_zero, Int.mul_zero]
  unfold lowM at hn
  rw [if_pos hm] at hn
  split at hn
  · rename_i hb
    obtain ⟨k, hk, hk2⟩ := List.any_eq_true.mp hb
    obtain ⟨k1, k3⟩ := Bool.and_eq_true_iff.mp hk2
    have k4 := of_decide_eq_true k1
    have k5 := of_decide_eq_true k3
    have hk' := List.mem_range.mp hk
    have g1 := go k (by omega)
    rw [h0, getD_rep, if_pos (by omega)] at g1
    exact k5 g1.symm
  · cases hn
theorem shift3 : (chk fun t i => decide (t % 3 = 0 → i / 4 % 2 ≠ 0 → Z t i = 0 ∧ Z (20 + t) i = Z t (i - 4) ∧ Z (40 + t) i = - Z t (i - 4))) = true := by decide +kernel
theorem shift5 : (chk fun t i => decide (t % 5 = 0 → i % 4 ≠ 0 → Z t i = 0 ∧ ((List.range 5).all fun u => decide (Z (u * 12 + t) i = if u = i % 4 then Z t (i - i % 4) else if u = 4 then - Z t (i - i % 4) else 0)) = true)) = true := by decide +kernel
theorem z3 {t i : Nat} (ht : t % 3 = 0) (hi : i < 16) (h : i / 4 % 2 ≠ 0) : Z t i = 0 ∧ Z (20 + t) i = Z t (i - 4) ∧ Z (40 + t) i = - Z t (i - 4) := by
  have a := of_decide_eq_true (chk_ok shift3 (Nat.mod_lt t (show 0 < 60 by decide)) hi) (by omega) h
  rw [Z_mod, Z_mod, Z_eq (show (20 + t % 60) % 60 = (20 + t) % 60 by omega), Z_eq (show (40 + t % 60) % 60 = (40 + t) % 60 by omega)] at a
  exact a
theorem z5 {t i : Nat} (ht : t % 5 = 0) (hi : i < 16) (h : i % 4 ≠ 0) : Z t i = 0 ∧ ∀ u, u < 5 → Z (u * 12 + t) i = if u = i % 4 then Z t (i - i % 4) else if u = 4 then - Z t (i - i % 4) else 0 := by
  have a := of_decide_eq_true (chk_ok shift5 (Nat.mod_lt t (show 0 < 60 by decide)) hi) (by omega) h
  rw [Z_mod] at a
  refine ⟨a.1, fun u hu => ?_⟩
  have b := of_decide_eq_true (List.all_eq_true.mp a.2 u (List.mem_range.mpr hu))
  rw [Z_mod] at b
  rw [← b]
  exact Z_eq (by omega) i
def lowOdd : List (Nat × Nat) := [(3,3),(12,3),(15,3),(60,3),(5,5),(15,5),(20,5),(60,5)]
theorem odd_all : (lowOdd.all fun t => decide ((t.1, t.2) ∈ lowSplit ∧ t.1 / t.2 % t.2 ≠ 0 ∧ 60 / (t.1 / t.2) % t.2 = 0 ∧ (t.2 = 3 ∨ t.2 = 5))) = true := by decide +kernel
theorem ws_neg (xs : List Int) (w : Nat → Int) : ws xs (fun k => - w k) = - ws xs w := by
  unfold ws
  rw [show - sm xs.length (fun k => xs.getD k 0 * w k) = (-1) * sm xs.length (fun k => xs.getD k 0 * w k) by omega, ← sm_mul]
  refine sm_congr fun k _ => ?_
  rw [Int.mul_neg]
  omega
theorem ws_congr {xs : List Int} {w v : Nat → Int} (h : ∀ k, w k = v k) : ws xs w = ws xs v := by
  unfold ws
  exact sm_congr fun k _ => by rw [h k]
theorem ws_zero {xs : List Int} {w : Nat → Int} (h : ∀ k, w k = 0) : ws xs w = 0 := by
  unfold ws
  exact sm_zero fun k _ => by rw [h k, Int.mul_zero]
theorem none35 {e p : Nat} {items : List Int} (hep : (e, p) ∈ lowOdd) (hl : items.length = phi e) (hn : lowM items e p = none) : ∃ i, i < 16 ∧ pex p i = true ∧ vec e items i ≠ 0 := by
  obtain ⟨hs, hm, hq, h35⟩ := of_decide_eq_true (List.all_eq_true.mp odd_all _ hep)
  dsimp only at hs hm hq h35
  have S := splitOk hs
  have hlen : items.length ≤ e := by rw [hl]; exact phi_le S.de
  refine Decidable.byContradiction fun hno => ?_
  have hv : ∀ i, i < 16 → pex p i = true → vec e items i = 0 := fun i hi h8 => Decidable.byContradiction fun z => hno ⟨i, hi, h8, z⟩
  have ll : ∀ u, (lowSum items e p u).length = phi (e / p) := fun u => by
    unfold lowSum
    exact foldM_len S.dm _
  have htw : ∀ k, k * (60 / (e / p)) % p = 0 := fun k => by rw [Nat.mul_mod, hq, Nat.mul_zero, Nat.zero_mod]
  have key : ∀ u, 1 ≤ u → u < p - 1 → lowSum items e p u = lowSum items e p (p - 1) := by
    intro u hu1 hu2
    refine vec_inj S.dm (ll u) (ll _) fun i hi => ?_
    rcases h35 with rfl | rfl
    · by_cases hx : i / 4 % 2 ≠ 0
      · have w0 : ∀ xs, vec (e / 3) xs i = 0 := fun xs => ws_zero fun k => by rw [Nat.zero_add]; exact (z3 (htw k) hi hx).1
        rw [w0, w0]
      · have hi4 : (i + 4) / 4 % 2 ≠ 0 := by omega
        have hi16 : i + 4 < 16 := by omega
        have h1 := hv (i + 4) hi16 (by unfold pex; rw [if_neg (by decide), if_pos rfl]; exact decide_eq_true hi4)
        rw [vec_blocks S items hlen (i + 4)] at h1
        have h1' : 0 + vecS (0 * (60 / 3)) (e / 3) (lowSum items e 3 0) (i + 4) + vecS (1 * (60 / 3)) (e / 3) (lowSum items e 3 1) (i + 4) + vecS (2 * (60 / 3)) (e / 3) (lowSum items e 3 2) (i + 4) = 0 := h1
        have a0 : vecS (0 * (60 / 3)) (e / 3) (lowSum items e 3 0) (i + 4) = 0 := ws_zero fun k => by rw [show 0 * (60 / 3) + k * (60 / (e / 3)) = k * (60 / (e / 3)) by omega]; exact (z3 (htw k) hi16 hi4).1
        have a1 : vecS (1 * (60 / 3)) (e / 3) (lowSum items e 3 1) (i + 4) = vec (e / 3) (lowSum items e 3 1) i := ws_congr fun k => by
          have := (z3 (htw k) hi16 hi4).2.1
          rw [show 1 * (60 / 3) + k * (60 / (e / 3)) = 20 + k * (60 / (e / 3)) by omega, this, Nat.zero_add, Nat.add_sub_cancel]
        have a2 : vecS (2 * (60 / 3)) (e / 3) (lowSum items e 3 2) (i + 4) = - vec (e / 3) (lowSum items e 3 2) i := by
          refine Eq.trans (ws_congr fun k => ?_) (ws_neg _ _)
          have := (z3 (htw k) hi16 hi4).2.2
          rw [show 2 * (60 / 3) + k * (60 / (e / 3)) = 40 + k * (60 / (e / 3)) by omega, this, Nat.zero_add, Nat.add_sub_cancel]
        rw [a0, a1, a2] at h1'
        have hu : u = 1 := by omega
        subst hu
        show vec (e / 3) (lowSum items e 3 1) i = vec (e / 3) (lowSum items e 3 2) i
        omega
    · by_cases hx : i % 4 ≠ 0
      · have w0 : ∀ xs, vec (e / 5) xs i = 0 := fun xs => ws_zero fun k => by rw [Nat.zero_add]; exact (z5 (htw k) hi hx).1
        rw [w0, w0]
      · have hiu : (i + u) % 4 = u := by omega
        have hiu0 : (i + u) % 4 ≠ 0 := by omega
        have hi16 : i + u < 16 := by omega
        have h1 := hv (i + u) hi16 (by unfold pex; rw [if_neg (by decide), if_neg (by decide)]; exact decide_eq_true hiu0)
        rw [vec_blocks S items hlen (i + u)] at h1
        have av : ∀ v, v < 5 → vecS (v * (60 / 5)) (e / 5) (lowSum items e 5 v) (i + u) = if v = u then vec (e / 5) (lowSum items e 5 v) i else if v = 4 then - vec (e / 5) (lowSum items e 5 v) i else 0 := by
          intro v hv5
          have zz := fun k => (z5 (htw k) hi16 hiu0).2 v hv5
          rw [hiu, Nat.add_sub_cancel] at zz
          by_cases y : v = u
          · rw [if_pos y]
            exact ws_congr fun k => by rw [show v * (60 / 5) + k * (60 / (e / 5)) = v * 12 + k * (60 / (e / 5)) by omega, zz k, if_pos y, Nat.zero_add]
          · rw [if_neg y]
            by_cases x4 : v = 4
            · rw [if_pos x4]
              exact Eq.trans (ws_congr fun k => by rw [show v * (60 / 5) + k * (60 / (e / 5)) = v * 12 + k * (60 / (e / 5)) by omega, zz k, if_neg y, if_pos x4, Nat.zero_add]) (ws_neg _ _)
            · rw [if_neg x4]
              exact ws_zero fun k => by rw [show v * (60 / 5) + k * (60 / (e / 5)) = v * 12 + k * (60 / (e / 5)) by omega, zz k, if_neg y, if_neg x4]
        rw [sm_congr av] at h1
        show vec (e / 5) (lowSum items e 5 u) i = vec (e / 5) (lowSum items e 5 4) i
        have h1' : 0 + (if 0 = u then vec (e / 5) (lowSum items e 5 0) i else if 0 = 4 then - vec (e / 5) (lowSum items e 5 0) i else 0) + (if 1 = u then vec (e / 5) (lowSum items e 5 1) i else if 1 = 4 then - vec (e / 5) (lowSum items e 5 1) i else 0) + (if 2 = u then vec (e / 5) (lowSum items e 5 2) i else if 2 = 4 then - vec (e / 5) (lowSum items e 5 2) i else 0) + (if 3 = u then vec (e / 5) (lowSum items e 5 3) i else if 3 = 4 then - vec (e / 5) (lowSum items e 5 3) i else 0) + (if 4 = u then vec (e / 5) (lowSum items e 5 4) i else if 4 = 4 then - vec (e / 5) (lowSum items e 5 4) i else 0) = 0 := h1
        have hu3 : u = 1 ∨ u = 2 ∨ u = 3 := by omega
        rcases hu3 with rfl | rfl | rfl <;> simp at h1' <;> omega
  unfold lowM at hn
  rw [if_neg hm] at hn
  split at hn
  · rename_i hb
    obtain ⟨k, hk, hk2⟩ := List.any_eq_true.mp hb
    have hk' := List.mem_range.mp hk
    have k4 := of_decide_eq_true hk2
    apply k4
    have p3 : 3 ≤ p := by omega
    have k1 : lowSum items e p 1 = lowSum items e p (p - 1) := key 1 (by omega) (by omega)
    by_cases y : k + 2 = p - 1
    · rw [y, k1]
    · rw [k1, key (k + 2) (by omega) (by omega)]
  · cases hn
end L2.KL
set_option Elab.async false
set_option linter.all false
set_option maxRecDepth 100000
set_option maxHeartbeats 4000000
namespace L2.KL
/-! ### the canonical form -/
def es8 : List Nat := [1, 3, 4, 5, 12, 15, 20, 60]
structure Canon (c : Cyc) : Prop where
  e : c.e ∈ es8
  len : c.parts.length = phi c.e
  low : 0 < c.low
  gcd : gcdL (c.parts ++ [(c.low : Int)]) = 1
  sup : ∀ p, p = 2 ∨ p = 3 ∨ p = 5 → c.e % p = 0 → ∃ i, i < 16 ∧ pex p i = true ∧ vec c.e c.parts i ≠ 0
theorem es8_div {e : Nat} (h : e ∈ es8) : e ∈ divs60 := by
  have a : (es8.all fun e => decide (e ∈ divs60)) = true := by decide +kernel
  exact of_decide_eq_true (List.all_eq_true.mp a e h)
theorem Canon.good {c : Cyc} (h : Canon c) : CGood c := ⟨es8_div h.e, h.len, h.low⟩
theorem vec_low' {e p k : Nat} {items r : List Int} (he : e ∈ divs60) (hk : (p, k) ∈ ppL e) (hl : items.length = phi e) (hr : lowM items e p = some r) (i : Nat) : vec (e / p) r i = vec e items i :=
  vec_low ((eAll he).low _ hk) he hl rfl hr i
/-- the primes of an order stand in its list; an order 2 mod 4 is always lowered -/
theorem pp_all : (divs60.all fun e => (if e % 4 = 2 then decide ((2, 1) ∈ ppL e ∧ e / 2 % 2 ≠ 0) else decide (e ∈ es8)) && ([2, 3, 5].all fun p => if e % p = 0 then decide ((p, 1) ∈ ppL e ∨ (p, 2) ∈ ppL e) && (if p = 2 then (if e % 4 = 2 then true else decide (e ∈ lowEven)) else (if e % 4 = 2 then true else decide ((e, p) ∈ lowOdd))) else true)) = true := by decide +kernel
theorem lowFirst_none {items : List Int} {e : Nat} : ∀ {ps : List (Nat × Nat)}, lowFirst items e ps = none → ∀ pk ∈ ps, lowM items e pk.1 = none
  | [], _, pk, h => by cases h
  | q :: ps, h, pk, hp => by
    rw [lowFirst_cons] at h
    cases z : lowM items e q.1 with
    | some r => rw [z] at h; cases h
    | none =>
      rw [z] at h
      rcases List.mem_cons.mp hp with rfl | hp
      · exact z
      · exact lowFirst_none h pk hp
theorem low2_some {items : List Int} {e : Nat} (h : e / 2 % 2 ≠ 0) : lowM items e 2 ≠ none := by
  intro z
  unfold lowM at z
  rw [if_neg h] at z
  have : ((List.range (2 - 2)).any fun i => decide (lowSum items e 2 (i + 2) ≠ lowSum items e 2 1)) = false := rfl
  rw [this] at z
  cases z
structure Least (e : Nat) (items : List Int) (e' : Nat) (its : List Int) : Prop where
  e8 : e' ∈ es8
  len : its.length = phi e'
  val : ∀ i, vec e' its i = vec e items i
  sup : ∀ p, p = 2 ∨ p = 3 ∨ p = 5 → e' % p = 0 → ∃ i, i < 16 ∧ pex p i = true ∧ vec e' its i ≠ 0
theorem leastGo_ok : ∀ (f e : Nat) (items : List Int) (e' : Nat) (its : List Int), e ∈ divs60 → items.length = phi e → leastGo f e items = some (e', its) → Least e items e' its
  | 0, e, items, e', its, _, _, h => by cases h
  | f + 1, e, items, e', its, he, hl, h => by
    rw [leastGo_succ] at h
    have P := List.all_eq_true.mp pp_all e he
    obtain ⟨P1, P2⟩ := Bool.and_eq_true_iff.mp P
    cases q : lowFirst items e (ppL e) with
    | some z =>
      obtain ⟨p, r⟩ := z
      rw [q] at h
      obtain ⟨k, h1, h2⟩ := lowFirst_mem q
      have IH := leastGo_ok f (e / p) r e' its ((eAll he).nx _ h1) (lowM_len he h1 hl h2) h
      exact ⟨IH.e8, IH.len, fun i => by rw [IH.val i, vec_low' he h1 hl h2 i], IH.sup⟩
    | none =>
      rw [q] at h
      have hh := Option.some.inj h
      injection hh with h1 h2
      subst h1 h2
      have hno := lowFirst_none q
      have h42 : e % 4 ≠ 2 := by
        intro z
        rw [if_pos z] at P1
        have := of_decide_eq_true P1
        exact low2_some this.2 (hno _ this.1)
      rw [if_neg h42] at P1
      refine ⟨of_decide_eq_true P1, hl, fun _ => rfl, fun p hp hep => ?_⟩
      have hm : p ∈ [2, 3, 5] := by
        rcases hp with rfl | rfl | rfl <;> decide
      have P3 := List.all_eq_true.mp P2 p hm
      rw [if_pos hep] at P3
      obtain ⟨P4, P5⟩ := Bool.and_eq_true_iff.mp P3
      have hn : lowM items e p = none := by
        rcases of_decide_eq_true P4 with hk2 | hk2
        · exact hno _ hk2
        · exact hno _ hk2
      by_cases z : p = 2
      · subst z
        rw [if_pos rfl, if_neg h42] at P5
        exact none2 (of_decide_eq_true P5) hl hn
      · rw [if_neg z, if_neg h42] at P5
        exact none35 (of_decide_eq_true P5) hl hn
theorem least_least {e : Nat} (items : List Int) (he : e ∈ divs60) : Least e items (least e items).1 (least e items).2 := by
  obtain ⟨g1, g2, g3⟩ := least_ok items he
  have h := leastGo_ok 100 e _ _ _ he (foldM_len he items) g1
  exact ⟨h.e8, h.len, fun i => by rw [h.val i, vec_fold he], h.sup⟩
/-! gcd of a list -/
theorem gcdL_dvd : ∀ (xs : List Int) (x : Int), x ∈ xs → ((gcdL xs : Nat) : Int) ∣ x := by
  intro xs
  have H : ∀ (xs : List Int) (t : Nat), xs.foldl (fun t n => Nat.gcd t n.natAbs) t ∣ t ∧ ∀ x ∈ xs, ((xs.foldl (fun t n => Nat.gcd t n.natAbs) t : Nat) : Int) ∣ x := by
    intro xs
    induction xs with
    | nil => exact fun t => ⟨Nat.dvd_refl _, fun x h => by cases h⟩
    | cons a r ih =>
      intro t
      have h := ih (Nat.gcd t a.natAbs)
      refine ⟨Nat.dvd_trans h.1 (Nat.gcd_dvd_left _ _), fun x hx => ?_⟩
      rcases List.mem_cons.mp hx with rfl | hx
      · exact Int.ofNat_dvd_left.mpr (Nat.dvd_trans h.1 (Nat.gcd_dvd_right _ _))
      · exact h.2 x hx
  exact (H xs 0).2
theorem dvd_gcdL {d : Nat} : ∀ (xs : List Int), (∀ x ∈ xs, (d : Int) ∣ x) → d ∣ gcdL xs := by
  intro xs
  have H : ∀ (xs : List Int) (t : Nat), d ∣ t → (∀ x ∈ xs, (d : Int) ∣ x) → d ∣ xs.foldl (fun t n => Nat.gcd t n.natAbs) t := by
    intro xs
    induction xs with
    | nil => exact fun t h _ => h
    | cons a r ih =>
      intro t h hx
      exact ih _ (Nat.dvd_gcd h (Int.ofNat_dvd_left.mp (hx a (.head _)))) fun x h => hx x (.tail _ h)
  exact H xs 0 (Nat.dvd_zero d)
theorem gcdL_mul (n : Nat) : ∀ (xs : List Int), gcdL (xs.map fun x => (n : Int) * x) = n * gcdL xs := by
  intro xs
  have H : ∀ (xs : List Int) (t : Nat), (xs.map fun x => (n : Int) * x).foldl (fun t n => Nat.gcd t n.natAbs) (n * t) = n * xs.foldl (fun t n => Nat.gcd t n.natAbs) t := by
    intro xs
    induction xs with
    | nil => exact fun t => rfl
    | cons a r ih =>
      intro t
      show (r.map _).foldl _ (Nat.gcd (n * t) (((n : Int) * a).natAbs)) = n * r.foldl _ (Nat.gcd t a.natAbs)
      rw [Int.natAbs_mul, Int.natAbs_natCast, Nat.gcd_mul_left, ih]
  exact H xs 0
theorem vec_scale (e : Nat) (g : Int) (xs : List Int) (i : Nat) : vec e (xs.map fun x => g * x) i = g * vec e xs i := by
  unfold vec vecS ws
  rw [List.length_map, ← sm_mul]
  refine sm_congr fun k hk => ?_
  rw [← Int.mul_assoc]
  congr 1
  rw [List.getD_eq_getElem?_getD, List.getD_eq_getElem?_getD, List.getElem?_map, List.getElem?_eq_getElem hk]
  rfl
/-- what the maker makes: canonical, the same value -/
theorem mkCyc_ok {e low : Nat} (items : List Int) (he : e ∈ divs60) (hl : 0 < low) : Canon (mkCyc e items low) ∧ ∀ i, vec (mkCyc e items low).e (mkCyc e items low).parts i * (low : Int) = vec e items i * ((mkCyc e items low).low : Int) := by
  have L := least_least items he
  obtain ⟨g, hg⟩ : ∃ g, g = gcdL ((least e items).2 ++ [(low : Int)]) := ⟨_, rfl⟩
  have hgl : (g : Int) ∣ (low : Int) := by
    rw [hg]
    exact gcdL_dvd _ _ (by simp)
  have hg0 : 0 < g := by
    rw [hg, gcdL_snoc, Int.natAbs_natCast]
    exact Nat.gcd_pos_of_pos_right _ hl
  have hgi : ∀ x ∈ (least e items).2, (g : Int) ∣ x := fun x hx => by
    rw [hg]
    exact gcdL_dvd _ _ (List.mem_append_left _ hx)
  have e1 : mkCyc e items low = ⟨(least e items).1, (least e items).2.map fun x => x / (g : Int), low / g⟩ := by
    rw [hg]
    rfl
  rw [e1]
  have back : ((least e items).2.map fun x => x / (g : Int)).map (fun x => (g : Int) * x) = (least e items).2 := by
    rw [List.map_map]
    refine Eq.trans (List.map_congr_left fun x hx => ?_) (List.map_id _)
    exact Int.mul_ediv_cancel' (hgi x hx)
  have hlow : g * (low / g) = low := Nat.mul_div_cancel' (Int.natCast_dvd_natCast.mp hgl)
  have hv : ∀ i, vec (least e items).1 (least e items).2 i = (g : Int) * vec (least e items).1 ((least e items).2.map fun x => x / (g : Int)) i := fun i => by rw [← vec_scale, back]
  have l0 : 0 < low / g := by
    rcases Nat.eq_zero_or_pos (low / g) with z | z
    · rw [z] at hlow
      omega
    · exact z
  refine ⟨⟨L.e8, by rw [List.length_map]; exact L.len, l0, ?_, fun p hp hep => ?_⟩, fun i => ?_⟩
  · have h1 := gcdL_mul g (((least e items).2.map fun x => x / (g : Int)) ++ [((low / g : Nat) : Int)])
    rw [List.map_append, back] at h1
    have h2 : [((low / g : Nat) : Int)].map (fun x => (g : Int) * x) = [(low : Int)] := by
      show [(g : Int) * ((low / g : Nat) : Int)] = _
      rw [← Int.natCast_mul, hlow]
    rw [h2, ← hg] at h1
    have h3 : g * 1 = g * gcdL (((least e items).2.map fun x => x / (g : Int)) ++ [((low / g : Nat) : Int)]) := by omega
    exact (Nat.eq_of_mul_eq_mul_left hg0 h3).symm
  · obtain ⟨i, h1, h2, h3⟩ := L.sup p hp hep
    refine ⟨i, h1, h2, fun z => h3 ?_⟩
    rw [hv i, z, Int.mul_zero]
  · dsimp only
    have hli : ((low : Nat) : Int) = (g : Int) * ((low / g : Nat) : Int) := by rw [← Int.natCast_mul, hlow]
    rw [← L.val i, hv i, hli]
    generalize ((low / g : Nat) : Int) = y
    generalize vec (least e items).1 _ i = v
    grind
/-! support -/
theorem supp_all : (es8.all fun e => (List.range (phi e)).all fun k => (List.range 16).all fun i => decide (([2, 3, 5].all fun p => (e % p == 0 || !pex p i)) = true ∨ Z (k * (60 / e)) i = 0)) = true := by decide +kernel
theorem vec_supp {e p i : Nat} {xs : List Int} (he : e ∈ es8) (hl : xs.length = phi e) (hp : p = 2 ∨ p = 3 ∨ p = 5) (hi : i < 16) (hx : pex p i = true) (hep : e % p ≠ 0) : vec e xs i = 0 := by
  unfold vec vecS ws
  refine sm_zero fun k hk => ?_
  have a := of_decide_eq_true (List.all_eq_true.mp (List.all_eq_true.mp (List.all_eq_true.mp supp_all e he) k (List.mem_range.mpr (by omega))) i (List.mem_range.mpr hi))
  rcases a with a | a
  · have hm : p ∈ [2, 3, 5] := by
      rcases hp with rfl | rfl | rfl <;> decide
    have b := List.all_eq_true.mp a p hm
    rw [hx] at b
    simp [hep] at b
  · dsimp only
    rw [Nat.zero_add, a, Int.mul_zero]
theorem es8_eq : (es8.all fun e => es8.all fun f => decide ((e % 2 = 0 ↔ f % 2 = 0) → (e % 3 = 0 ↔ f % 3 = 0) → (e % 5 = 0 ↔ f % 5 = 0) → e = f)) = true := by decide +kernel
/-- one value, one number -/
theorem canon_uniq {c d : Cyc} (C : Canon c) (D : Canon d) (h : ∀ i, i < 16 → vec c.e c.parts i * (d.low : Int) = vec d.e d.parts i * (c.low : Int)) : c = d := by
  have cl := C.low
  have dl := D.low
  have hz : ∀ i, i < 16 → (vec c.e c.parts i = 0 ↔ vec d.e d.parts i = 0) := by
    intro i hi
    have hh := h i hi
    constructor
    · intro z
      rw [z, Int.zero_mul] at hh
      rcases Int.mul_eq_zero.mp hh.symm with y | y
      · exact y
      · omega
    · intro z
      rw [z, Int.zero_mul] at hh
      rcases Int.mul_eq_zero.mp hh with y | y
      · exact y
      · omega
  have hp : ∀ p, p = 2 ∨ p = 3 ∨ p = 5 → (c.e % p = 0 ↔ d.e % p = 0) := by
    intro p hp
    constructor
    · intro z
      obtain ⟨i, h1, h2, h3⟩ := C.sup p hp z
      refine Decidable.byContradiction fun y => h3 ((hz i h1).mpr (vec_supp D.e D.len hp h1 h2 y))
    · intro z
      obtain ⟨i, h1, h2, h3⟩ := D.sup p hp z
      refine Decidable.byContradiction fun y => h3 ((hz i h1).mp (vec_supp C.e C.len hp h1 h2 y))
  have he : c.e = d.e := of_decide_eq_true (List.all_eq_true.mp (List.all_eq_true.mp es8_eq c.e C.e) d.e D.e) (hp 2 (.inl rfl)) (hp 3 (.inr (.inl rfl))) (hp 5 (.inr (.inr rfl)))
  obtain ⟨e, xs, l⟩ := c
  obtain ⟨e', ys, m⟩ := d
  dsimp only at he h cl dl
  subst he
  have hd := es8_div C.e
  have hxy : (xs.map fun x => (m : Int) * x) = ys.map fun x => (l : Int) * x := by
    refine vec_inj hd (by rw [List.length_map]; exact C.len) (by rw [List.length_map]; exact D.len) fun i hi => ?_
    rw [vec_scale, vec_scale, Int.mul_comm, h i hi, Int.mul_comm]
  have g1 := gcdL_mul m (xs ++ [(l : Int)])
  have g2 := gcdL_mul l (ys ++ [(m : Int)])
  have gc : gcdL (xs ++ [(l : Int)]) = 1 := C.gcd
  have gd : gcdL (ys ++ [(m : Int)]) = 1 := D.gcd
  rw [List.map_append, hxy, gc] at g1
  rw [List.map_append, gd] at g2
  have e3 : [(l : Int)].map (fun x => (m : Int) * x) = [(m : Int)].map (fun x => (l : Int) * x) := by
    show [(m : Int) * (l : Int)] = [(l : Int) * (m : Int)]
    rw [Int.mul_comm]
  rw [e3, g2] at g1
  have hlm : l = m := by omega
  subst hlm
  congr 1
  have c1 : ∀ zs : List Int, (zs.map fun x => (l : Int) * x).map (fun x => x / (l : Int)) = zs := fun zs => by
    rw [List.map_map]
    refine Eq.trans (List.map_congr_left fun x _ => ?_) (List.map_id _)
    exact Int.mul_ediv_cancel_left x (by omega)
  rw [← c1 xs, hxy, c1 ys]
end L2.KL
set_option Elab.async false
set_option linter.all false
set_option maxRecDepth 100000
set_option maxHeartbeats 4000000
namespace L2.KL
/-! ### values -/
def smR : Nat → (Nat → Rat) → Rat
  | 0, _ => 0
  | n + 1, f => smR n f + f n
theorem smR_congr {f g : Nat → Rat} : ∀ {n : Nat}, (∀ k, k < n → f k = g k) → smR n f = smR n g
  | 0, _ => rfl
  | n + 1, h => by
    show smR n f + f n = smR n g + g n
    rw [smR_congr (n := n) fun k hk => h k (by omega), h n (by omega)]
theorem smR_add (f g : Nat → Rat) : ∀ n, smR n (fun k => f k + g k) = smR n f + smR n g
  | 0 => by show (0 : Rat) = 0 + 0; grind
  | n + 1 => by
    show smR n (fun k => f k + g k) + (f n + g n) = smR n f + f n + (smR n g + g n)
    rw [smR_add f g n]
    grind
theorem smR_mul (c : Rat) (f : Nat → Rat) : ∀ n, smR n (fun k => c * f k) = c * smR n f
  | 0 => by show (0 : Rat) = c * 0; grind
  | n + 1 => by
    show smR n (fun k => c * f k) + c * f n = c * (smR n f + f n)
    rw [smR_mul c f n]
    grind
theorem smR_zero {f : Nat → Rat} : ∀ {n : Nat}, (∀ k, k < n → f k = 0) → smR n f = 0
  | 0, _ => rfl
  | n + 1, h => by
    show smR n f + f n = 0
    rw [smR_zero (n := n) fun k hk => h k (by omega), h n (by omega)]
    grind
theorem smR_cast (f : Nat → Int) : ∀ n, ((sm n f : Int) : Rat) = smR n (fun k => ((f k : Int) : Rat))
  | 0 => rfl
  | n + 1 => by
    show ((sm n f + f n : Int) : Rat) = smR n (fun k => ((f k : Int) : Rat)) + ((f n : Int) : Rat)
    rw [Rat.intCast_add, smR_cast f n]
def val (c : Cyc) (i : Nat) : Rat := ((vec c.e c.parts i : Int) : Rat) / ((c.low : Int) : Rat)
theorem low_ne {n : Nat} (h : 0 < n) : (((n : Nat) : Int) : Rat) ≠ 0 := by
  intro z
  have : (((n : Nat) : Int) : Rat) = ((0 : Int) : Rat) := z
  have := Rat.intCast_inj.mp this
  omega
theorem mkCyc_val {e low : Nat} (items : List Int) (he : e ∈ divs60) (hl : 0 < low) (i : Nat) : val (mkCyc e items low) i = ((vec e items i : Int) : Rat) / ((low : Int) : Rat) := by
  obtain ⟨C, h⟩ := mkCyc_ok items he hl
  have h1 := h i
  have n1 := low_ne hl
  have n2 := low_ne C.low
  unfold val
  have h2 : ((vec (mkCyc e items low).e (mkCyc e items low).parts i : Int) : Rat) * ((low : Int) : Rat) = ((vec e items i : Int) : Rat) * (((mkCyc e items low).low : Int) : Rat) := by
    rw [← Rat.intCast_mul, ← Rat.intCast_mul, h1]
  generalize ((vec (mkCyc e items low).e (mkCyc e items low).parts i : Int) : Rat) = a at *
  generalize (((mkCyc e items low).low : Int) : Rat) = b at *
  generalize ((vec e items i : Int) : Rat) = c at *
  generalize ((low : Int) : Rat) = d at *
  grind
/-- same value, same number -/
theorem val_uniq {c d : Cyc} (C : Canon c) (D : Canon d) (h : ∀ i, i < 16 → val c i = val d i) : c = d := by
  refine canon_uniq C D fun i hi => ?_
  have h1 := h i hi
  unfold val at h1
  have n1 := low_ne C.low
  have n2 := low_ne D.low
  apply Rat.intCast_inj.mp
  rw [Rat.intCast_mul, Rat.intCast_mul]
  generalize ((vec c.e c.parts i : Int) : Rat) = a at *
  generalize ((c.low : Int) : Rat) = b at *
  generalize ((vec d.e d.parts i : Int) : Rat) = x at *
  generalize ((d.low : Int) : Rat) = y at *
  grind
theorem val_over {c : Cyc} {n : Nat} (C : Canon c) (hn : 0 < n) (i : Nat) : val (overM c n) i = val c i / ((n : Int) : Rat) := by
  unfold overM
  rw [mkCyc_val _ (es8_div C.e) (Nat.mul_pos C.low hn)]
  unfold val
  have n1 := low_ne C.low
  have n2 := low_ne hn
  rw [Int.natCast_mul, Rat.intCast_mul]
  generalize ((vec c.e c.parts i : Int) : Rat) = a at *
  generalize ((c.low : Int) : Rat) = b at *
  generalize ((n : Int) : Rat) = y at *
  grind
theorem val_scaled {c : Cyc} {n : Nat} (C : Canon c) (i : Nat) : val (scaledM c n) i = ((n : Int) : Rat) * val c i := by
  unfold scaledM
  rw [mkCyc_val _ (es8_div C.e) C.low, vec_scale, Rat.intCast_mul]
  unfold val
  have n1 := low_ne C.low
  generalize ((vec c.e c.parts i : Int) : Rat) = a at *
  generalize ((c.low : Int) : Rat) = b at *
  generalize ((n : Int) : Rat) = y at *
  grind
theorem lcm2_60 {a b : Nat} (ha : a ∈ divs60) (hb : b ∈ divs60) : lcm2 a b / a * (60 / lcm2 a b) = 60 / a ∧ lcm2 a b / b * (60 / lcm2 a b) = 60 / b ∧ 60 / lcm2 a b * lcm2 a b = 60 := by
  have t : divs60.all (fun a => divs60.all fun b => decide (lcm2 a b / a * (60 / lcm2 a b) = 60 / a ∧ lcm2 a b / b * (60 / lcm2 a b) = 60 / b ∧ 60 / lcm2 a b * lcm2 a b = 60)) = true := by decide +kernel
  exact of_decide_eq_true (List.all_eq_true.mp (List.all_eq_true.mp t a ha) b hb)
theorem vec_addTot {a b : Cyc} (A : CGood a) (B : CGood b) (i : Nat) : vec (lcm2 a.e b.e) (addTot a b) i = (b.low : Int) * vec a.e a.parts i + (a.low : Int) * vec b.e b.parts i := by
  obtain ⟨l1, l2, l3⟩ := lcm2_ok A.e B.e
  obtain ⟨m1, m2, m3⟩ := lcm2_60 A.e B.e
  have hE := div60_le l1
  have pa := phi_le A.e
  have pb := phi_le B.e
  have la := A.len
  have lb := B.len
  unfold vec vecS addTot
  rw [ws_addL _ _ _ _ _ (fun k hk => by rw [addL_len, List.length_replicate]; exact at_lt l3 (by omega) (by omega)), ws_addL _ _ _ _ _ (fun k hk => by rw [List.length_replicate]; exact at_lt l2 (by omega) (by omega)), ws_rep, Int.zero_add]
  congr 1
  · unfold ws
    rw [← sm_mul]
    refine sm_congr fun k _ => ?_
    dsimp only
    rw [Nat.mul_assoc, m1, Int.mul_assoc]
  · unfold ws
    rw [← sm_mul]
    refine sm_congr fun k _ => ?_
    dsimp only
    rw [Nat.mul_assoc, m2, Int.mul_assoc]
theorem val_add {a b : Cyc} (A : Canon a) (B : Canon b) (i : Nat) : val (addM a b) i = val a i + val b i := by
  unfold addM
  rw [mkCyc_val _ (lcm2_ok A.good.e B.good.e).1 (Nat.mul_pos A.low B.low), vec_addTot A.good B.good, Rat.intCast_add, Rat.intCast_mul, Rat.intCast_mul, Int.natCast_mul, Rat.intCast_mul]
  unfold val
  have n1 := low_ne A.low
  have n2 := low_ne B.low
  generalize ((vec a.e a.parts i : Int) : Rat) = x at *
  generalize ((a.low : Int) : Rat) = u at *
  generalize ((vec b.e b.parts i : Int) : Rat) = y at *
  generalize ((b.low : Int) : Rat) = v at *
  grind
/-! the shift is linear -/
def bs (t : Nat) : Nat := 15 * (t / 8) + 20 * (t / 4 % 2) + 12 * (t % 4)
theorem bs0 : ((List.range 16).all fun t => (List.range 16).all fun i => decide (Z (bs t) i = if t = i then 1 else 0)) = true := by decide +kernel
theorem shift1 : (chk fun k i => decide (Z (1 + k) i = sm 16 (fun t => Z k t * Z (1 + bs t) i))) = true := by decide +kernel
theorem Z_shift : ∀ (s k i : Nat), i < 16 → Z (s + k) i = sm 16 (fun t => Z k t * Z (s + bs t) i)
  | 0, k, i, hi => by
    rw [Nat.zero_add, ← sm_single (n := 16) (d := Z k i) (j := i) hi]
    refine sm_congr fun t ht => ?_
    rw [Nat.zero_add, of_decide_eq_true (List.all_eq_true.mp (List.all_eq_true.mp bs0 t (List.mem_range.mpr ht)) i (List.mem_range.mpr hi))]
    by_cases z : t = i
    · subst z
      rw [if_pos rfl, if_pos rfl, Int.mul_one]
    · rw [if_neg z, if_neg z, Int.mul_zero]
  | s + 1, k, i, hi => by
    have one : ∀ k, Z (1 + k) i = sm 16 (fun t => Z k t * Z (1 + bs t) i) := fun k => by
      have a := of_decide_eq_true (chk_ok shift1 (Nat.mod_lt k (show 0 < 60 by decide)) hi)
      rw [Z_eq (show (1 + k % 60) % 60 = (1 + k) % 60 by omega)] at a
      rw [a]
      exact sm_congr fun t _ => by rw [Z_mod]
    rw [show s + 1 + k = 1 + (s + k) by omega, one, sm_congr (g := fun t => sm 16 (fun r => Z k r * Z (s + bs r) t * Z (1 + bs t) i)) (fun t ht => by rw [Z_shift s k t ht, sm_mulr]), sm_swap]
    refine sm_congr fun r _ => ?_
    rw [show s + 1 + bs r = 1 + (s + bs r) by omega, one, ← sm_mul]
    exact sm_congr fun t _ => Int.mul_assoc _ _ _
theorem vecS_shift (s e : Nat) (items : List Int) {i : Nat} (hi : i < 16) : vecS s e items i = sm 16 (fun t => vec e items t * Z (s + bs t) i) := by
  unfold vec vecS ws
  rw [sm_congr (g := fun t => sm items.length (fun k => items.getD k 0 * Z (0 + k * (60 / e)) t * Z (s + bs t) i)) (n := 16) (fun t ht => by rw [sm_mulr]), sm_swap]
  refine sm_congr fun k _ => ?_
  dsimp only
  rw [Z_shift s _ i hi, ← sm_mul]
  refine sm_congr fun t _ => ?_
  rw [Nat.zero_add, Int.mul_assoc]
def mat (b : Cyc) (t i : Nat) : Int := ws b.parts fun j => Z (j * (60 / b.e) + bs t) i
theorem ws_mulTot {a b : Cyc} (hE : 0 < lcm2 a.e b.e) (w : Nat → Int) : ∀ n, ws (mulTot a b n) w = sm n (fun k => sm b.parts.length (fun j => a.parts.getD k 0 * b.parts.getD j 0 * w ((k * (lcm2 a.e b.e / a.e) + j * (lcm2 a.e b.e / b.e)) % lcm2 a.e b.e)))
  | 0 => ws_rep _ _
  | n + 1 => by
    rw [mulTot_succ, ws_addL _ _ _ _ _ (fun k hk => by rw [mulTot_len]; exact Nat.mod_lt _ hE), ws_mulTot hE w n]
    rfl
theorem vec_mulTot {a b : Cyc} (A : CGood a) (B : CGood b) {i : Nat} (hi : i < 16) : vec (lcm2 a.e b.e) (mulTot a b a.parts.length) i = sm 16 (fun t => vec a.e a.parts t * mat b t i) := by
  obtain ⟨l1, l2, l3⟩ := lcm2_ok A.e B.e
  obtain ⟨m1, m2, m3⟩ := lcm2_60 A.e B.e
  have hE := div60_le l1
  have h1 : vec (lcm2 a.e b.e) (mulTot a b a.parts.length) i = sm a.parts.length (fun k => sm b.parts.length (fun j => b.parts.getD j 0 * (a.parts.getD k 0 * Z (j * (60 / b.e) + k * (60 / a.e)) i))) := by
    unfold vec vecS
    rw [ws_mulTot (by omega)]
    refine sm_congr fun k _ => sm_congr fun j _ => ?_
    have e1 : Z (0 + (k * (lcm2 a.e b.e / a.e) + j * (lcm2 a.e b.e / b.e)) % lcm2 a.e b.e * (60 / lcm2 a.e b.e)) i = Z (j * (60 / b.e) + k * (60 / a.e)) i := by
      refine Z_eq ?_ i
      have d := Nat.div_add_mod (k * (lcm2 a.e b.e / a.e) + j * (lcm2 a.e b.e / b.e)) (lcm2 a.e b.e)
      have e2 : (k * (lcm2 a.e b.e / a.e) + j * (lcm2 a.e b.e / b.e)) * (60 / lcm2 a.e b.e) = k * (60 / a.e) + j * (60 / b.e) := by
        rw [Nat.add_mul, Nat.mul_assoc, Nat.mul_assoc, m1, m2]
      have e3 : (k * (lcm2 a.e b.e / a.e) + j * (lcm2 a.e b.e / b.e)) * (60 / lcm2 a.e b.e) = (k * (lcm2 a.e b.e / a.e) + j * (lcm2 a.e b.e / b.e)) / lcm2 a.e b.e * 60 + (k * (lcm2 a.e b.e / a.e) + j * (lcm2 a.e b.e / b.e)) % lcm2 a.e b.e * (60 / lcm2 a.e b.e) := by
        conv => lhs; rw [← d]
        rw [Nat.add_mul, Nat.mul_comm (lcm2 a.e b.e), Nat.mul_assoc, Nat.mul_comm (lcm2 a.e b.e), m3]
      rw [e2] at e3
      omega
    rw [e1]
    grind
  rw [h1, sm_swap]
  have h2 : ∀ j, sm a.parts.length (fun k => b.parts.getD j 0 * (a.parts.getD k 0 * Z (j * (60 / b.e) + k * (60 / a.e)) i)) = b.parts.getD j 0 * sm 16 (fun t => vec a.e a.parts t * Z (j * (60 / b.e) + bs t) i) := fun j => by
    rw [sm_mul, ← vecS_shift _ _ _ hi]
    rfl
  rw [sm_congr (fun j _ => h2 j)]
  unfold mat ws
  rw [sm_congr (g := fun j => sm 16 (fun t => vec a.e a.parts t * (b.parts.getD j 0 * Z (j * (60 / b.e) + bs t) i))) (fun j _ => by rw [← sm_mul]; exact sm_congr fun t _ => by grind), sm_swap]
  exact sm_congr fun t _ => by rw [sm_mul]
/-- times a number: linear in the left factor's value -/
def Op (b : Cyc) (v : Nat → Rat) (i : Nat) : Rat := smR 16 fun t => (((mat b t i : Int) : Rat) / ((b.low : Int) : Rat)) * v t
theorem val_mul {a b : Cyc} (A : Canon a) (B : Canon b) {i : Nat} (hi : i < 16) : val (mulM a b) i = Op b (val a) i := by
  unfold mulM
  rw [mkCyc_val _ (lcm2_ok A.good.e B.good.e).1 (Nat.mul_pos A.low B.low), vec_mulTot A.good B.good hi, smR_cast, Int.natCast_mul, Rat.intCast_mul]
  unfold Op
  have n1 := low_ne A.low
  have n2 := low_ne B.low
  have h1 : ∀ x : Rat, x / (((a.low : Int) : Rat) * ((b.low : Int) : Rat)) = (1 / (((a.low : Int) : Rat) * ((b.low : Int) : Rat))) * x := fun x => by
    generalize ((a.low : Int) : Rat) = u at *
    generalize ((b.low : Int) : Rat) = v at *
    grind
  rw [h1, ← smR_mul]
  refine smR_congr fun t _ => ?_
  unfold val
  rw [Rat.intCast_mul]
  generalize ((a.low : Int) : Rat) = u at *
  generalize ((b.low : Int) : Rat) = v at *
  generalize ((vec a.e a.parts t : Int) : Rat) = x at *
  generalize ((mat b t i : Int) : Rat) = y at *
  grind
theorem Op_add (b : Cyc) (v w : Nat → Rat) (i : Nat) : Op b (fun t => v t + w t) i = Op b v i + Op b w i := by
  unfold Op
  rw [← smR_add]
  exact smR_congr fun t _ => by grind
theorem Op_mul (b : Cyc) (c : Rat) (v : Nat → Rat) (i : Nat) : Op b (fun t => c * v t) i = c * Op b v i := by
  unfold Op
  rw [← smR_mul]
  exact smR_congr fun t _ => by grind
theorem Op_congr (b : Cyc) {v w : Nat → Rat} (h : ∀ t, t < 16 → v t = w t) (i : Nat) : Op b v i = Op b w i := by
  unfold Op
  exact smR_congr fun t ht => by rw [h t ht]
theorem Op_zero (b : Cyc) (i : Nat) : Op b (fun _ => 0) i = 0 := by
  unfold Op
  exact smR_zero fun t _ => by grind
theorem val_zero (i : Nat) : val (ofIntM 0) i = 0 := by
  unfold ofIntM
  rw [mkCyc_val _ (by decide) (by decide)]
  have : vec 1 [0] i = 0 := by
    unfold vec vecS ws
    refine sm_zero fun k hk => ?_
    have : k = 0 := by simp at hk; omega
    subst this
    exact Int.zero_mul _
  rw [this]
  show ((0 : Int) : Rat) / _ = 0
  grind
theorem ofInt_canon (n : Int) : Canon (ofIntM n) := (mkCyc_ok [n] (by decide) (by decide)).1
theorem over_canon {c : Cyc} {n : Nat} (C : Canon c) (hn : 0 < n) : Canon (overM c n) := (mkCyc_ok _ (es8_div C.e) (Nat.mul_pos C.low hn)).1
theorem scaled_canon {c : Cyc} {n : Nat} (C : Canon c) : Canon (scaledM c n) := (mkCyc_ok _ (es8_div C.e) C.low).1
theorem add_canon {a b : Cyc} (A : Canon a) (B : Canon b) : Canon (addM a b) := (mkCyc_ok _ (lcm2_ok A.good.e B.good.e).1 (Nat.mul_pos A.low B.low)).1
theorem mul_canon {a b : Cyc} (A : Canon a) (B : Canon b) : Canon (mulM a b) := (mkCyc_ok _ (lcm2_ok A.good.e B.good.e).1 (Nat.mul_pos A.low B.low)).1
theorem mir_canon {a : Cyc} (A : Canon a) : Canon (mirM a) := (mkCyc_ok _ (es8_div A.e) A.low).1
end L2.KL
set_option Elab.async false
set_option linter.all false
set_option maxRecDepth 100000
set_option maxHeartbeats 4000000
namespace L2.KL
/-! ### sizes -/
theorem sm_abs (f : Nat → Int) : ∀ n, ((sm n f).natAbs : Int) ≤ sm n (fun k => ((f k).natAbs : Int))
  | 0 => Int.le_refl _
  | n + 1 => by
    show ((sm n f + f n).natAbs : Int) ≤ sm n (fun k => ((f k).natAbs : Int)) + ((f n).natAbs : Int)
    have := sm_abs f n
    omega
theorem sm_le {f g : Nat → Int} : ∀ {n : Nat}, (∀ k, k < n → f k ≤ g k) → sm n f ≤ sm n g
  | 0, _ => Int.le_refl _
  | n + 1, h => by
    show sm n f + f n ≤ sm n g + g n
    have := sm_le (n := n) fun k hk => h k (by omega)
    have := h n (by omega)
    omega
theorem sm_const (c : Int) : ∀ n : Nat, sm n (fun _ => c) = (n : Int) * c
  | 0 => (Int.zero_mul c).symm
  | n + 1 => by
    show sm n (fun _ => c) + c = _
    rw [sm_const c n]
    push_cast
    grind
theorem zA_le (m a : Nat) : (zA m a).natAbs ≤ 1 := by unfold zA; split <;> (try split) <;> decide
theorem zB_le (m a : Nat) : (zB m a).natAbs ≤ 1 := by unfold zB; split <;> (try split) <;> decide
theorem zC_le (m a : Nat) : (zC m a).natAbs ≤ 1 := by unfold zC; split <;> (try split) <;> decide
theorem Z_le (k i : Nat) : (Z k i).natAbs ≤ 1 := by
  unfold Z
  split
  · rw [Int.natAbs_mul, Int.natAbs_mul]
    have h := Nat.mul_le_mul (zA_le (3 * k) (i / 8)) (Nat.mul_le_mul (zB_le (2 * k) (i / 4 % 2)) (zC_le (3 * k) (i % 4)))
    omega
  · decide
/-- a weighted sum by entries below B and weights at most 1 -/
theorem ws_abs {xs : List Int} {w : Nat → Int} {B : Nat} (hx : ∀ k, (xs.getD k 0).natAbs ≤ B) (hw : ∀ k, (w k).natAbs ≤ 1) : (ws xs w).natAbs ≤ xs.length * B := by
  have h1 := sm_abs (fun k => xs.getD k 0 * w k) xs.length
  have h2 : sm xs.length (fun k => ((xs.getD k 0 * w k).natAbs : Int)) ≤ sm xs.length (fun _ => (B : Int)) := sm_le fun k _ => by
    rw [Int.natAbs_mul]
    have := Nat.mul_le_mul (hx k) (hw k)
    omega
  rw [sm_const] at h2
  have h3 : ((ws xs w).natAbs : Int) ≤ ((xs.length * B : Nat) : Int) := by
    push_cast
    exact Int.le_trans h1 h2
  omega
theorem pb_getD {b : Nat} {xs : List Int} (h : Pb b xs) (k : Nat) : (xs.getD k 0).natAbs ≤ 2 ^ b := Nat.le_of_lt (h.at_ k)
theorem lrow_sum {e k : Nat} (he : e ∈ divs60) (hk : k < 16) : sm 16 (fun i => ((lrow e k i).natAbs : Int)) ≤ 4 :=
  of_decide_eq_true (List.all_eq_true.mp (List.all_eq_true.mp linv_small e he) k (List.mem_range.mpr hk))
/-- the entries by the vector -/
theorem entry_le {e k B : Nat} {xs : List Int} (he : e ∈ divs60) (hl : xs.length = phi e) (hk : k < phi e) (hv : ∀ i, i < 16 → (vec e xs i).natAbs ≤ B) : (xs.getD k 0).natAbs ≤ 4 * B := by
  have d := div60_le he
  rw [← linv_get he hl hk]
  have h1 := sm_abs (fun i => lrow e k i * vec e xs i) 16
  have h2 : sm 16 (fun i => ((lrow e k i * vec e xs i).natAbs : Int)) ≤ sm 16 (fun i => ((lrow e k i).natAbs : Int) * (B : Int)) := sm_le fun i hi => by
    rw [Int.natAbs_mul]
    have := Nat.mul_le_mul (Nat.le_refl (lrow e k i).natAbs) (hv i hi)
    push_cast
    have h : (((lrow e k i).natAbs * (vec e xs i).natAbs : Nat) : Int) ≤ (((lrow e k i).natAbs * B : Nat) : Int) := by omega
    push_cast at h
    exact h
  rw [sm_mulr] at h2
  have h3 := lrow_sum (e := e) (k := k) he (by omega)
  have h4 : sm 16 (fun i => ((lrow e k i).natAbs : Int)) * (B : Int) ≤ 4 * (B : Int) := Int.mul_le_mul_of_nonneg_right h3 (by omega)
  omega
theorem pb_of {b : Nat} {xs : List Int} (h : ∀ k, k < xs.length → (xs.getD k 0).natAbs < 2 ^ b) : Pb b xs := fun x hx => by
  obtain ⟨k, hk, e⟩ := List.mem_iff_getElem.mp hx
  have := h k hk
  rw [List.getD_eq_getElem?_getD, List.getElem?_eq_getElem hk] at this
  subst e
  exact this
theorem ediv_abs (x : Int) {g : Nat} (h : 0 < g) : (g : Int) ∣ x → (x / (g : Int)).natAbs ≤ x.natAbs := by
  rintro ⟨y, rfl⟩
  rw [Int.mul_ediv_cancel_left y (by omega), Int.natAbs_mul, Int.natAbs_natCast]
  exact Nat.le_mul_of_pos_left _ h
/-- what the maker makes, by the vector of its items -/
theorem mkCyc_pb {e low B n : Nat} (items : List Int) (he : e ∈ divs60) (hl : 0 < low) (hv : ∀ i, i < 16 → (vec e items i).natAbs ≤ B) (hB : 4 * B < 2 ^ n) : Pb n (mkCyc e items low).parts := by
  have L := least_least items he
  have e1 : (mkCyc e items low).parts = (least e items).2.map fun x => x / ((gcdL ((least e items).2 ++ [(low : Int)]) : Nat) : Int) := rfl
  rw [e1]
  intro y hy
  obtain ⟨x, hx, rfl⟩ := List.mem_map.mp hy
  have g0 : 0 < gcdL ((least e items).2 ++ [(low : Int)]) := by
    rw [gcdL_snoc, Int.natAbs_natCast]
    exact Nat.gcd_pos_of_pos_right _ hl
  have hd : ((gcdL ((least e items).2 ++ [(low : Int)]) : Nat) : Int) ∣ x := gcdL_dvd _ _ (List.mem_append_left _ hx)
  obtain ⟨k, hk, ek⟩ := List.mem_iff_getElem.mp hx
  have h1 := entry_le (es8_div L.e8) L.len (k := k) (by rw [← L.len]; exact hk) (B := B) (fun i hi => by rw [L.val i]; exact hv i hi)
  rw [List.getD_eq_getElem?_getD, List.getElem?_eq_getElem hk] at h1
  have h2 : x.natAbs ≤ 4 * B := by
    rw [← ek]
    exact h1
  exact Nat.lt_of_le_of_lt (Nat.le_trans (ediv_abs x g0 hd) h2) hB
theorem mkCyc_low {e low : Nat} (items : List Int) : (mkCyc e items low).low ≤ low := Nat.div_le_self _ _
structure Sz (n l : Nat) (x : Cyc) : Prop where
  cn : Canon x
  pb : Pb n x.parts
  lw : Lb l x.low
theorem Pb.mono {a b : Nat} {xs : List Int} (h : Pb a xs) (g : a ≤ b) : Pb b xs := fun x hx => (h x hx).mono g
theorem Sz.mono {n l m k : Nat} {c : Cyc} (h : Sz n l c) (a : n ≤ m) (b : l ≤ k) : Sz m k c := ⟨h.cn, h.pb.mono a, h.lw.mono b⟩
theorem Sz.vb {n l : Nat} {c : Cyc} (h : Sz n l c) (i : Nat) : (vec c.e c.parts i).natAbs ≤ 2 ^ (n + 4) := by
  have h1 : (vec c.e c.parts i).natAbs ≤ c.parts.length * 2 ^ n := ws_abs (pb_getD h.pb) fun k => Z_le _ _
  have := div60_le (es8_div h.cn.e)
  have h2 := h.cn.len
  have h3 : c.parts.length * 2 ^ n ≤ 16 * 2 ^ n := Nat.mul_le_mul_right _ (by omega)
  rw [Nat.pow_add, Nat.mul_comm (2 ^ n)]
  exact Nat.le_trans h1 h3
theorem Sz.fit {n l m k : Nat} {a b : Cyc} (A : Sz n l a) (B : Sz m k b) (h1 : l ≤ 4000) (h2 : k ≤ 4000) (h0 : 0 < n) (h00 : 0 < m) (h3 : n + m ≤ 900000) : Fit a b :=
  ⟨A.cn.good, B.cn.good, A.lw.mono h1, B.lw.mono h2, n, m, A.pb, B.pb, h0, h00, h3⟩
theorem pow2 (a b : Nat) : 2 ^ a * 2 ^ b = 2 ^ (a + b) := (Nat.pow_add 2 a b).symm
theorem pow_lt {a b : Nat} (h : a < b) : 2 ^ a < 2 ^ b := Nat.pow_lt_pow_right (by omega) h
theorem pow_le' {a b : Nat} (h : a ≤ b) : 2 ^ a ≤ 2 ^ b := Nat.pow_le_pow_right (by omega) h
theorem Sz.add {n l m k : Nat} {a b : Cyc} (A : Sz n l a) (B : Sz m k b) : Sz (n + m + l + k + 8) (l + k) (addM a b) := by
  refine ⟨add_canon A.cn B.cn, ?_, (Lb.mul A.lw B.lw).le (mkCyc_low _)⟩
  refine mkCyc_pb (B := 2 ^ (n + m + l + k + 5)) _ (lcm2_ok A.cn.good.e B.cn.good.e).1 (Nat.mul_pos A.cn.low B.cn.low) (fun i hi => ?_) ?_
  · rw [vec_addTot A.cn.good B.cn.good]
    have h1 : ((b.low : Int) * vec a.e a.parts i).natAbs ≤ 2 ^ k * 2 ^ (n + 4) := by
      rw [Int.natAbs_mul, Int.natAbs_natCast]
      exact Nat.mul_le_mul (Nat.le_of_lt B.lw) (A.vb i)
    have h2 : ((a.low : Int) * vec b.e b.parts i).natAbs ≤ 2 ^ l * 2 ^ (m + 4) := by
      rw [Int.natAbs_mul, Int.natAbs_natCast]
      exact Nat.mul_le_mul (Nat.le_of_lt A.lw) (B.vb i)
    rw [pow2] at h1 h2
    have h3 : 2 ^ (k + (n + 4)) ≤ 2 ^ (n + m + l + k + 4) := pow_le' (by omega)
    have h4 : 2 ^ (l + (m + 4)) ≤ 2 ^ (n + m + l + k + 4) := pow_le' (by omega)
    have h5 : 2 ^ (n + m + l + k + 5) = 2 ^ (n + m + l + k + 4) * 2 := Nat.pow_succ ..
    omega
  · rw [show (4 : Nat) = 2 ^ 2 by rfl, pow2]
    exact pow_lt (by omega)
theorem mat_le {m k : Nat} {b : Cyc} (B : Sz m k b) (t i : Nat) : (mat b t i).natAbs ≤ 2 ^ (m + 4) := by
  have h1 : (mat b t i).natAbs ≤ b.parts.length * 2 ^ m := ws_abs (pb_getD B.pb) fun k => Z_le _ _
  have := div60_le (es8_div B.cn.e)
  have h2 := B.cn.len
  have h3 : b.parts.length * 2 ^ m ≤ 16 * 2 ^ m := Nat.mul_le_mul_right _ (by omega)
  rw [Nat.pow_add, Nat.mul_comm (2 ^ m)]
  exact Nat.le_trans h1 h3
theorem Sz.mul {n l m k : Nat} {a b : Cyc} (A : Sz n l a) (B : Sz m k b) : Sz (n + m + 16) (l + k) (mulM a b) := by
  refine ⟨mul_canon A.cn B.cn, ?_, (Lb.mul A.lw B.lw).le (mkCyc_low _)⟩
  refine mkCyc_pb (B := 2 ^ (n + m + 12)) _ (lcm2_ok A.cn.good.e B.cn.good.e).1 (Nat.mul_pos A.cn.low B.cn.low) (fun i hi => ?_) ?_
  · rw [vec_mulTot A.cn.good B.cn.good hi]
    have h1 := sm_abs (fun t => vec a.e a.parts t * mat b t i) 16
    have h2 : sm 16 (fun t => ((vec a.e a.parts t * mat b t i).natAbs : Int)) ≤ sm 16 (fun _ => ((2 ^ (n + 4) * 2 ^ (m + 4) : Nat) : Int)) := sm_le fun t _ => by
      rw [Int.natAbs_mul]
      have := Nat.mul_le_mul (A.vb t) (mat_le B t i)
      omega
    rw [sm_const] at h2
    have h3 : 16 * (2 ^ (n + 4) * 2 ^ (m + 4)) = 2 ^ (n + m + 12) := by
      rw [pow2, show (16 : Nat) = 2 ^ 4 by rfl, pow2]
      congr 1
      omega
    have h4 : (((16 : Nat) : Int)) * ((2 ^ (n + 4) * 2 ^ (m + 4) : Nat) : Int) = ((2 ^ (n + m + 12) : Nat) : Int) := by rw [← h3]; push_cast; rfl
    rw [h4] at h2
    omega
  · rw [show (4 : Nat) = 2 ^ 2 by rfl, pow2]
    exact pow_lt (by omega)
theorem Sz.scaled {n l s x : Nat} {a : Cyc} (A : Sz n l a) (hx : x ≤ 2 ^ s) : Sz (n + s + 7) l (scaledM a x) := by
  refine ⟨scaled_canon A.cn, ?_, A.lw.le (mkCyc_low _)⟩
  refine mkCyc_pb (B := 2 ^ (n + s + 4)) _ (es8_div A.cn.e) A.cn.low (fun i hi => ?_) ?_
  · rw [vec_scale, Int.natAbs_mul, Int.natAbs_natCast]
    have := Nat.mul_le_mul hx (A.vb i)
    rw [pow2] at this
    exact Nat.le_trans this (pow_le' (by omega))
  · rw [show (4 : Nat) = 2 ^ 2 by rfl, pow2]
    exact pow_lt (by omega)
theorem Sz.over {n l s x : Nat} {a : Cyc} (A : Sz n l a) (h0 : 0 < x) (hx : Lb s x) : Sz (n + 7) (l + s) (overM a x) := by
  refine ⟨over_canon A.cn h0, ?_, (Lb.mul A.lw hx).le (mkCyc_low _)⟩
  refine mkCyc_pb (B := 2 ^ (n + 4)) _ (es8_div A.cn.e) (Nat.mul_pos A.cn.low h0) (fun i hi => A.vb i) ?_
  rw [show (4 : Nat) = 2 ^ 2 by rfl, pow2]
  exact pow_lt (by omega)
theorem setL_pb {b : Nat} {l : List Int} {f : Nat → Nat} {g : Nat → Int} (hl : Pb b l) (hg : ∀ k, Lb b (g k).natAbs) : ∀ n, Pb b (setL l f g n)
  | 0 => hl
  | n + 1 => by
    rw [setL_succ]
    intro x hx
    rcases List.mem_or_eq_of_mem_set hx with h | h
    · exact setL_pb hl hg n x h
    · rw [h]
      exact hg n
theorem Sz.mir {n l : Nat} {a : Cyc} (A : Sz n l a) : Sz (n + 9) l (mirM a) := by
  refine ⟨mir_canon A.cn, ?_, A.lw.le (mkCyc_low _)⟩
  have h1 : Pb n (imgTot a) := setL_pb (fun x hx => by
    rw [List.eq_of_mem_replicate hx]
    exact Nat.pow_pos (by omega)) (fun k => A.pb.at_ k) _
  refine mkCyc_pb (B := 2 ^ (n + 6)) _ (es8_div A.cn.e) A.cn.low (fun i hi => ?_) ?_
  · have h2 : (vec a.e (imgTot a) i).natAbs ≤ (imgTot a).length * 2 ^ n := ws_abs (pb_getD h1) fun k => Z_le _ _
    have h3 : (imgTot a).length = a.e := by
      unfold imgTot
      rw [setL_len, List.length_replicate]
    have := div60_le (es8_div A.cn.e)
    have h4 : (imgTot a).length * 2 ^ n ≤ 64 * 2 ^ n := Nat.mul_le_mul_right _ (by omega)
    rw [Nat.pow_add, Nat.mul_comm (2 ^ n)]
    exact Nat.le_trans h2 h4
  · rw [show (4 : Nat) = 2 ^ 2 by rfl, pow2]
    exact pow_lt (by omega)
theorem ofInt_sz {x : Int} (h : x.natAbs ≤ 1) : Sz 3 1 (ofIntM x) := by
  refine ⟨ofInt_canon x, ?_, ?_⟩
  · refine mkCyc_pb (e := 1) (low := 1) (n := 3) (B := 1) [x] (by decide) (by decide) (fun i hi => ?_) (by decide)
    have : vec 1 [x] i = x * Z 0 i := by
      show 0 + [x].getD 0 0 * Z (0 + 0 * (60 / 1)) i = _
      rw [Int.zero_add]
      rfl
    rw [this, Int.natAbs_mul]
    have := Nat.mul_le_mul h (Z_le 0 i)
    omega
  · exact Lb.le (n := 1) (show 1 < 2 ^ 1 by decide) (mkCyc_low _)
/-! sums one by one -/
def sumC (cs : List Cyc) : Cyc := cs.foldl addM (ofIntM 0)
theorem sumC_snoc (cs : List Cyc) (c : Cyc) : sumC (cs ++ [c]) = addM (sumC cs) c := by
  unfold sumC
  rw [List.foldl_append]
  rfl
/-- a sum of j numbers of size n, l -/
theorem sumC_sz {n l : Nat} : ∀ (j : Nat) (cs : List Cyc), cs.length = j → (∀ c ∈ cs, Sz n l c) → Sz (3 + j * (n + (j * l + 1) + l + 8)) (j * l + 1) (sumC cs)
  | 0, cs, h, _ => by
    have : cs = [] := List.eq_nil_of_length_eq_zero h
    subst this
    exact (ofInt_sz (by decide)).mono (by omega) (by omega)
  | j + 1, cs, h, hc => by
    obtain ⟨ds, c, rfl⟩ : ∃ ds c, cs = ds ++ [c] := ⟨cs.dropLast, cs.getLast (by intro z; rw [z] at h; cases h), (List.dropLast_concat_getLast _).symm⟩
    have hl : ds.length = j := by simpa using h
    have h1 := sumC_sz j ds hl fun x hx => hc x (List.mem_append_left _ hx)
    have h2 := hc c (by simp)
    rw [sumC_snoc]
    refine (h1.add h2).mono ?_ ?_
    · have a1 : j * (n + (j * l + 1) + l + 8) ≤ j * (n + ((j + 1) * l + 1) + l + 8) := Nat.mul_le_mul_left _ (by rw [Nat.add_mul]; omega)
      have a2 : (j + 1) * (n + ((j + 1) * l + 1) + l + 8) = j * (n + ((j + 1) * l + 1) + l + 8) + (n + ((j + 1) * l + 1) + l + 8) := by rw [Nat.add_mul, Nat.one_mul]
      have a3 : (j + 1) * l = j * l + l := by rw [Nat.add_mul, Nat.one_mul]
      omega
    · rw [Nat.add_mul]
      omega
theorem sumC_canon (cs : List Cyc) (h : ∀ c ∈ cs, Canon c) : Canon (sumC cs) := by
  have H : ∀ (cs : List Cyc) (a : Cyc), Canon a → (∀ c ∈ cs, Canon c) → Canon (cs.foldl addM a) := by
    intro cs
    induction cs with
    | nil => exact fun a h _ => h
    | cons c r ih => exact fun a h hc => ih _ (add_canon h (hc c (.head _))) fun x hx => hc x (.tail _ hx)
  exact H cs _ (ofInt_canon 0) h
def rsum (xs : List Rat) : Rat := xs.foldl (· + ·) 0
theorem rsum_snoc (xs : List Rat) (x : Rat) : rsum (xs ++ [x]) = rsum xs + x := by
  unfold rsum
  rw [List.foldl_append]
  rfl
theorem sumC_val (i : Nat) : ∀ (j : Nat) (cs : List Cyc), cs.length = j → (∀ c ∈ cs, Canon c) → val (sumC cs) i = rsum (cs.map fun c => val c i)
  | 0, cs, h, _ => by
    have : cs = [] := List.eq_nil_of_length_eq_zero h
    subst this
    exact val_zero i
  | j + 1, cs, h, hc => by
    obtain ⟨ds, c, rfl⟩ : ∃ ds c, cs = ds ++ [c] := ⟨cs.dropLast, cs.getLast (by intro z; rw [z] at h; cases h), (List.dropLast_concat_getLast _).symm⟩
    have hl : ds.length = j := by simpa using h
    have hd : ∀ x ∈ ds, Canon x := fun x hx => hc x (List.mem_append_left _ hx)
    rw [sumC_snoc, val_add (sumC_canon ds hd) (hc c (by simp)), sumC_val i j ds hl hd, List.map_append]
    exact (rsum_snoc _ _).symm
end L2.KL
set_option Elab.async false
set_option linter.all false
set_option maxRecDepth 100000
set_option maxHeartbeats 4000000
namespace L2.KL
open PySem PySem.Spec PyProof.Rows
/-! dicts with numbers for keys -/
def kvT (ks : List Nat) : List (Key × V) := ks.map fun (k : Nat) => ((.inl ((k : Nat) : Int) : Key), V.bl true)
def addK (ks : List Nat) (x : Nat) : List Nat := if x ∈ ks then ks else ks ++ [x]
theorem addK_mem {ks : List Nat} {x y : Nat} : y ∈ addK ks x ↔ y ∈ ks ∨ y = x := by
  unfold addK
  split
  · constructor
    · exact .inl
    · rintro (h | rfl)
      · exact h
      · assumption
  · simp
theorem addK_nodup {ks : List Nat} {x : Nat} (h : ks.Nodup) : (addK ks x).Nodup := by
  unfold addK
  split
  · exact h
  · rename_i z
    rw [List.nodup_append]
    refine ⟨h, by simp, fun a ha b hb => ?_⟩
    have : b = x := by simpa using hb
    subst this
    rintro rfl
    exact z ha
theorem valV_T (x : Nat) : ∀ ks : List Nat, valV (kvT ks) (.inl (x : Int)) = if x ∈ ks then some (.bl true) else none
  | [] => rfl
  | k :: ks => by
    show valV ((Sum.inl (k : Int), V.bl true) :: kvT ks) _ = _
    by_cases h : k = x
    · subst h
      rw [valV_pos rfl, if_pos (.head _)]
    · rw [valV_neg (fun z => h (by have := Sum.inl.inj z; omega)), valV_T x ks]
      have : x ∈ k :: ks ↔ x ∈ ks := by
        rw [List.mem_cons]
        exact ⟨fun z => z.resolve_left fun y => h y.symm, .inr⟩
      simp only [this]
theorem putK_T (ks : List Nat) (x : Nat) : putK (kvT ks) (.inl (x : Int)) (.bl true) = kvT (addK ks x) := by
  unfold putK addK
  rw [valV_any, valV_T]
  by_cases h : x ∈ ks
  · rw [if_pos h, if_pos h, if_pos (by rfl)]
    unfold kvT
    rw [List.map_map]
    refine List.map_congr_left fun k _ => ?_
    show (if (Sum.inl (k : Int) : Key) = Sum.inl (x : Int) then (Sum.inl (k : Int), V.bl true) else (Sum.inl (k : Int), V.bl true)) = _
    rw [ite_self]
  · rw [if_neg h, if_neg h, if_neg (by simp)]
    unfold kvT
    rw [List.map_append]
    rfl
section
variable {K : PySem.W.Frag} {a p : Addr} {xs : List V} {σ : St} {H : Hp} {Q : VK} {ta td ty tv tk : TE} {D : Ends} {ks : List Nat} {x : Nat}
theorem dg_seen (h : H a = some (.dK (kvT ks))) : DGet H a (nV x) (if x ∈ ks then some (.bl true) else none) := by
  rw [← valV_T]
  exact DGet.k (k := .inl (x : Int)) h
theorem dp_seen (h : H a = some (.dK (kvT ks))) (hl : ks.length ≤ 100000) : DPut H a (nV x) (.bl true) (upd H a (.dK (kvT (addK ks x)))) := by
  rw [← putK_T]
  refine DPut.k (k := .inl (x : Int)) h ?_
  unfold kvT
  rw [List.length_map, sizeLine_eq]
  omega
theorem rd_dnotin (h : ty σ H fun y H1 => td σ H1 fun x H2 => ∃ a o, x = .ref a ∧ DGet H2 a y o ∧ Q (.bl (!o.isSome)) H2) : tDNotIn ty td σ H Q := h
theorem rd_din (h : ty σ H fun y H1 => td σ H1 fun x H2 => ∃ a o, x = .ref a ∧ DGet H2 a y o ∧ Q (.bl o.isSome) H2) : tDIn ty td σ H Q := h
theorem rd_dput (h : tv σ H fun v H1 => td σ H1 fun x H2 => ty σ H2 fun y H3 => ∃ a H4, x = .ref a ∧ DPut H3 a y v H4 ∧ D.nx σ H4) : sDPut td ty tv D σ H := h
theorem rd_dget (h : td σ H fun x H1 => ty σ H1 fun y H2 => ∃ a v, x = .ref a ∧ DGet H2 a y (some v) ∧ Q v H2) : tDGet td ty σ H Q := h
theorem rd_dnewK (h : ∀ p, H p = none → Q (.ref p) (upd H p (.dK []))) : tDNewK σ H Q := h
theorem rd_disp1 (h : ∀ p, H p = none → tk σ (upd H p (.dK [])) fun x H1 => tv σ H1 fun y H2 => H2 p = some (.dK []) ∧ ∃ kvs : List (Key × V), [(x, y)] = kvs.map (fun kv => (kV kv.1, kv.2)) ∧ kvs.length ≤ 15 ∧ Q (.ref p) (upd H2 p (.dK (mergeK [] kvs)))) : tDisp [(tk, tv)] σ H Q := h
theorem rgV_nat (n : Nat) : rgV 0 ((n : Nat) : Int) = natsV (List.range n) := by
  unfold rgV
  rw [show (((n : Nat) : Int) - 0).toNat = n by omega]
  refine List.map_congr_left fun i _ => ?_
  show V.int (0 + (i : Int)) = V.int (i : Int)
  rw [Int.zero_add]
theorem rd_listRg (h : ta σ H fun x H1 => ∃ n : Int, x = .int n ∧ RgOk 0 n ∧ ∀ p, H1 p = none → Q (.ref p) (upd H1 p (.lst (rgV 0 n)))) : tLstRg (tRg1 ta) σ H Q := h
theorem rd_ninL {ys : List Nat} (h : H p = some (.lst (natsV ys))) (q : Q (.bl (!decide (x ∈ ys))) H) : rIn K true (nV x) (.ref p) H Q := ⟨p, _, rfl, .inl (SqL.of h), rfl, flat_nats _, by rw [if_pos rfl, in_nats]; exact q⟩
theorem rd_ninT {ys : List Nat} (h : H p = some (.tup (natsV ys))) (q : Q (.bl (!decide (x ∈ ys))) H) : rIn K true (nV x) (.ref p) H Q := ⟨p, _, rfl, .inr (SqT.of h), rfl, flat_nats _, by rw [if_pos rfl, in_nats]; exact q⟩
theorem rd_inL {ys : List Nat} (h : H p = some (.lst (natsV ys))) (q : Q (.bl (decide (x ∈ ys))) H) : rIn K false (nV x) (.ref p) H Q := ⟨p, _, rfl, .inl (SqL.of h), rfl, flat_nats _, by rw [if_neg (by decide), in_nats]; exact q⟩
theorem rd_inT {ys : List Nat} (h : H p = some (.tup (natsV ys))) (q : Q (.bl (decide (x ∈ ys))) H) : rIn K false (nV x) (.ref p) H Q := ⟨p, _, rfl, .inr (SqT.of h), rfl, flat_nats _, by rw [if_neg (by decide), in_nats]; exact q⟩
end
end L2.KL
set_option Elab.async false
set_option linter.all false
set_option maxRecDepth 100000
set_option maxHeartbeats 4000000
namespace L2.KL
/-! ### pigeons -/
theorem nodup_sub {α : Type} [DecidableEq α] : ∀ (xs ys : List α), xs.Nodup → (∀ x ∈ xs, x ∈ ys) → xs.length ≤ ys.length
  | [], ys, _, _ => Nat.zero_le _
  | x :: xs, ys, h, hs => by
    obtain ⟨h1, h2⟩ := List.nodup_cons.mp h
    have hx := hs x (.head _)
    have e := List.length_erase_of_mem hx
    have l := List.length_pos_of_mem hx
    have := nodup_sub xs (ys.erase x) h2 fun y hy => by
      have hne : y ≠ x := by
        rintro rfl
        exact h1 hy
      exact (List.mem_erase_of_ne hne).mpr (hs y (.tail _ hy))
    show xs.length + 1 ≤ ys.length
    omega
theorem nodup_le {n : Nat} {xs : List Nat} (h : xs.Nodup) (hl : ∀ x ∈ xs, x < n) : xs.length ≤ n := by
  have := nodup_sub xs (List.range n) h fun x hx => List.mem_range.mpr (hl x hx)
  rw [List.length_range] at this
  exact this
theorem nodup_lt {α : Type} [DecidableEq α] {xs ys : List α} {z : α} (h : xs.Nodup) (hs : ∀ x ∈ xs, x ∈ ys) (hz : z ∈ ys) (hn : z ∉ xs) : xs.length < ys.length := by
  have := nodup_sub (z :: xs) ys (List.nodup_cons.mpr ⟨hn, h⟩) fun x hx => by
    rcases List.mem_cons.mp hx with rfl | hx
    · exact hz
    · exact hs x hx
  exact this
theorem nodup_full {n : Nat} {xs : List Nat} (h : xs.Nodup) (hl : ∀ x ∈ xs, x < n) (hn : xs.length = n) {x : Nat} (hx : x < n) : x ∈ xs := by
  refine Decidable.byContradiction fun hno => ?_
  have := nodup_lt (ys := List.range n) h (fun y hy => List.mem_range.mpr (hl y hy)) (List.mem_range.mpr hx) hno
  rw [List.length_range] at this
  omega
theorem some_out {n : Nat} {xs : List Nat} (hn : xs.length < n) : ∃ x, x < n ∧ x ∉ xs := by
  refine Decidable.byContradiction fun hno => ?_
  have := nodup_sub (List.range n) xs List.nodup_range fun x hx => Decidable.byContradiction fun z => hno ⟨x, List.mem_range.mp hx, z⟩
  rw [List.length_range] at this
  omega
/-! ### groups by tables -/
structure IsGrp (M : Tab) : Prop where
  sq : Sq M
  pos : 1 ≤ M.length
  le : M.length ≤ 60
  l0 : ∀ x, x < M.length → tm M 0 x = x
  r0 : ∀ x, x < M.length → tm M x 0 = x
  as_ : ∀ x y z, x < M.length → y < M.length → z < M.length → tm M (tm M x y) z = tm M x (tm M y z)
  iv : ∀ x, x < M.length → 0 ∈ M.getD x []
theorem IsGrp.inv0 {M : Tab} (G : IsGrp M) : Inv0 M := ⟨G.sq, G.iv⟩
theorem tm_inv {M : Tab} (G : IsGrp M) {x : Nat} (hx : x < M.length) : tm M x (inv M x) = 0 := by
  unfold tm inv
  have h := G.iv x hx
  rw [List.getD_eq_getElem?_getD, List.getElem?_eq_getElem (List.idxOf_lt_length_of_mem h), List.getElem_idxOf]
  rfl
theorem inv_lt {M : Tab} (G : IsGrp M) {x : Nat} (hx : x < M.length) : inv M x < M.length := G.inv0.lt hx
theorem inv_tm {M : Tab} (G : IsGrp M) {x : Nat} (hx : x < M.length) : tm M (inv M x) x = 0 := by
  have y := inv_lt G hx
  have z := inv_lt G y
  have h1 := tm_inv G hx
  have h2 := tm_inv G y
  have h3 : tm M (inv M x) x = tm M (tm M (inv M x) x) (tm M (inv M x) (inv M (inv M x))) := by rw [h2, G.r0 _ (G.sq.lt _ _ y hx)]
  rw [G.as_ _ _ _ y hx (by rw [h2]; have := G.pos; omega), ← G.as_ x _ _ hx y z, h1, G.l0 _ z, h2] at h3
  exact h3
/-- the cancelling -/
theorem tm_cancel {M : Tab} (G : IsGrp M) {x y z : Nat} (hx : x < M.length) (hy : y < M.length) (hz : z < M.length) (h : tm M x y = tm M x z) : y = z := by
  have i := inv_lt G hx
  have e : ∀ w, w < M.length → tm M (inv M x) (tm M x w) = w := fun w hw => by rw [← G.as_ _ _ _ i hx hw, inv_tm G hx, G.l0 w hw]
  rw [← e y hy, h, e z hz]
theorem tm_cancelR {M : Tab} (G : IsGrp M) {x y z : Nat} (hx : x < M.length) (hy : y < M.length) (hz : z < M.length) (h : tm M y x = tm M z x) : y = z := by
  have i := inv_lt G hx
  have e : ∀ w, w < M.length → tm M (tm M w x) (inv M x) = w := fun w hw => by rw [G.as_ _ _ _ hw hx i, tm_inv G hx, G.r0 w hw]
  rw [← e y hy, h, e z hz]
/-- what the reached elements are -/
structure Reach (M : Tab) (ch R : List Nat) : Prop where
  nd : R.Nodup
  lt : ∀ x ∈ R, x < M.length
  z : 0 ∈ R
  cl : ∀ r ∈ R, ∀ g ∈ ch, tm M r g ∈ R
  mn : ∀ S : Nat → Prop, S 0 → (∀ r g, r < M.length → S r → g ∈ ch → S (tm M r g)) → ∀ r ∈ R, S r
theorem Reach.le {M : Tab} {ch R : List Nat} (h : Reach M ch R) : R.length ≤ M.length := nodup_le h.nd h.lt
theorem Reach.grow {M : Tab} (G : IsGrp M) {ch R R' : List Nat} {x : Nat} (h : Reach M ch R) (h' : Reach M (ch ++ [x]) R') (hx : x < M.length) (hn : x ∉ R) : R.length < R'.length := by
  refine nodup_lt h.nd (h.mn (fun r => r ∈ R') h'.z fun r g _ hr hg => h'.cl r hr g (List.mem_append_left _ hg)) (z := x) ?_ hn
  have := h'.cl 0 h'.z x (by simp)
  rw [G.l0 x hx] at this
  exact this
end L2.KL
set_option Elab.async false
set_option linter.all false
set_option maxRecDepth 100000
set_option maxHeartbeats 4000000
namespace L2.KL
open PySem PySem.Spec PyProof.Rows
local macro_rules | `(tactic| walk_at "hp") => `(tactic| first
  | assumption
  | (with_reducible exact upd_same)
  | (apply Same.get; (· assumption); (· walk_at "hp")))
local macro_rules | `(tactic| walk_at "cl") => `(tactic| first
  | (with_reducible rfl)
  | (apply dg_seen; walk_at "hp")
  | (apply dp_seen; (· walk_at "hp"); (· omega))
  | (walk_at "hp")
  | (apply tyL; walk_at "hp")
  | (apply Or.inl; apply SqL.of; walk_at "hp")
  | (apply exL; walk_at "hp")
  | (apply sz_nat; simp only [List.length_map, List.length_append, List.length_cons, List.length_nil]; omega))
local macro_rules | `(tactic| walk_at "r1") => `(tactic| first
  | (with_reducible refine rd_seq ?_)
  | ((with_reducible apply rd_var); (· exact rfl))
  | (with_reducible refine rd_c ?_)
  | (with_reducible refine rd_op ?_)
  | (with_reducible refine rd_cb ?_)
  | (with_reducible refine rd_cons ?_)
  | (with_reducible refine rd_nil ?_)
  | (with_reducible refine rd_lst ?_)
  | (with_reducible refine rd_asg ?_)
  | (with_reducible refine rd_name ?_)
  | (with_reducible refine rd_ret ?_)
  | (with_reducible refine rd_drop ?_)
  | (with_reducible refine rd_if ?_)
  | (with_reducible refine rd_test ?_)
  | (with_reducible refine rd_B ?_)
  | (with_reducible refine rd_bm ?_)
  | (with_reducible refine rd_next ?_)
  | (with_reducible refine rd_I0 ?_)
  | ((with_reducible apply rd_ixT); (· walk_at "hp"); (· walk_at "at"))
  | ((with_reducible apply rd_ixL); (· walk_at "hp"); (· walk_at "at"))
  | (with_reducible refine rd_for ?_)
  | (with_reducible refine rd_iList ?_)
  | ((with_reducible apply rd_append); (· walk_at "hp"); (· simp only [List.length_map, List.length_append, List.length_cons, List.length_nil]; omega))
  | (with_reducible refine rd_dnotin ?_)
  | (with_reducible refine rd_dput ?_)
  | (with_reducible refine rd_disp1 ?_)
  | (with_reducible apply Exists.intro)
  | ((with_reducible refine And.intro ?_ ?_); (· walk_at "cl")))
local macro_rules | `(tactic| walk_at "at") => `(tactic| first
  | (apply at_nats; first | assumption | omega)
  | (apply at_refs; assumption))
local macro_rules | `(tactic| walk_at "rd") => `(tactic| ((repeat walk_at "r1"); (try dsimp only [List.set])))
section
variable {P : Program} {w : World} {K : PySem.W.Frag} {mg : Str → Option Value} {base : Heap}
def spReached : Sp := fun vs H Q _ => ∃ (a b : Addr) (M : Tab) (ch : List Nat), vs = [.ref a, .ref b] ∧ TabAt H a M ∧ H b = some (.lst (natsV ch)) ∧ Sq M ∧ 1 ≤ M.length ∧ M.length ≤ 60 ∧ (∀ g ∈ ch, g < M.length) ∧ ch.length ≤ 100000 ∧
  ∀ R o H', Reach M ch R → H o = none → Same H H' → H' o = some (.lst (natsV R)) → Q (.ref o) H'
/-- what stands while it goes -/
structure RInv (M : Tab) (ch : List Nat) (at_ : Nat) (O : List Nat) : Prop where
  nd : O.Nodup
  lt : ∀ x ∈ O, x < M.length
  z : 0 ∈ O
  cl : ∀ i r, i < at_ → O[i]? = some r → ∀ g ∈ ch, tm M r g ∈ O
  mn : ∀ S : Nat → Prop, S 0 → (∀ r g, r < M.length → S r → g ∈ ch → S (tm M r g)) → ∀ r ∈ O, S r
theorem RInv.le {M : Tab} {ch O : List Nat} {n : Nat} (h : RInv M ch n O) : O.length ≤ M.length := nodup_le h.nd h.lt
theorem RInv.done {M : Tab} {ch O : List Nat} {n : Nat} (h : RInv M ch n O) (hn : O.length ≤ n) : Reach M ch O := ⟨h.nd, h.lt, h.z, fun r hr g hg => by
  obtain ⟨i, hi, e⟩ := List.mem_iff_getElem.mp hr
  exact h.cl i r (by omega) (by rw [List.getElem?_eq_getElem hi, e]) g hg, h.mn⟩
theorem addK_get {ks : List Nat} {x i r : Nat} (h : ks[i]? = some r) : (addK ks x)[i]? = some r := by
  unfold addK
  split
  · exact h
  · rw [List.getElem?_append_left (List.getElem?_eq_some_iff.mp h).1]
    exact h
theorem RInv.start {M : Tab} {ch : List Nat} (hn : 1 ≤ M.length) : RInv M ch 0 [0] := by
  refine ⟨by simp, fun x hx => ?_, by simp, fun i r hi => by omega, fun S h0 _ r hr => ?_⟩
  · have : x = 0 := by simpa using hx
    omega
  · have : r = 0 := by simpa using hr
    rw [this]
    exact h0
theorem RInv.next {M : Tab} {ch O : List Nat} {n r : Nat} (h : RInv M ch n O) (hr : O[n]? = some r) (hc : ∀ g ∈ ch, tm M r g ∈ O) : RInv M ch (n + 1) O := by
  refine ⟨h.nd, h.lt, h.z, fun i q hi hq g hg => ?_, h.mn⟩
  by_cases z : i = n
  · subst z
    rw [hr] at hq
    cases hq
    exact hc g hg
  · exact h.cl i q (by omega) hq g hg
theorem RInv.add {M : Tab} {ch O : List Nat} {n r g : Nat} (S : Sq M) (h : RInv M ch n O) (hnl : n < O.length) (hr : r ∈ O) (hg : g ∈ ch) (hgM : g < M.length) : RInv M ch n (addK O (tm M r g)) := by
  have hrM := h.lt r hr
  refine ⟨addK_nodup h.nd, fun x hx => ?_, addK_mem.mpr (.inl h.z), fun i q hi hq g' hg' => ?_, fun S' h0 hs x hx => ?_⟩
  · rcases addK_mem.mp hx with z | z
    · exact h.lt x z
    · rw [z]
      exact S.lt _ _ hrM hgM
  · by_cases z : i < O.length
    · have : O[i]? = some q := by
        rw [← hq, addK_get (List.getElem?_eq_getElem z), List.getElem?_eq_getElem z]
      exact addK_mem.mpr (.inl (h.cl i q hi this g' hg'))
    · omega
  · rcases addK_mem.mp hx with z | z
    · exact h.mn S' h0 hs x z
    · rw [z]
      exact hs r g hrM (h.mn S' h0 hs r hr) hg
theorem sc_reached : FnScope ["rows", "chosen", "order", "seen", "at", "g", "x"] ["rows", "chosen"] HD.d_reached.scope := ⟨rfl, rfl, rfl, by decide +kernel, rfl, by decide +kernel, by decide +kernel⟩
theorem ok_reached (T : Tx K mg) : Ok P w K mg base CX0 1 HD.d_reached ["rows", "chosen"] spReached := by
  have nd := sc_reached.nd
  refine Ok.mk0 T fn__reached rfl sc_reached (fun vs H Q E h => ?_) (fun _ _ _ _ _ _ us hl => match us, hl with | [_, _], _ => rfl) (fun cdv A outer s H vs Q E hr h => ?_)
  · obtain ⟨a, b, M, ch, rfl, _⟩ := h
    rfl
  · obtain ⟨a, b, M, ch, rfl, ⟨rs, ha, hrl, hrr⟩, hb, hs, hn, hn60, hch, hcl, k⟩ := h
    refine ⟨_, pss_cons
          -- order = [0]
          (ps_set (i := 2) nd rfl (.inl rfl) (pe_lst (pa_cons pe_int pa_nil)))
         (pss_cons
          -- seen = {0: True}
          (ps_set (i := 3) nd rfl (.inl rfl) (pe_disp (pps_cons pe_int pe_bl pps_nil) (by rfl) (by rfl) (fun z => by cases z) (by decide)))
         (pss_cons
          -- at = 0
          (ps_set (i := 4) nd rfl (.inl rfl) pe_int)
         (pss_cons
          -- while at < len(order):
          (ps_while PassesOwn.never (pt_cmpR op_lt (pv 4) (pe_callB call_len_seq (by rfl) T.b_len (by decide +kernel) (pa_cons (pv 2) pa_nil)) (nomark _)) (pss_cons
            -- for g in chosen:
            (ps_for PassesOwn.never rfl (pi_list (pv 1)) (pg_name (i := 5) nd rfl (.inl rfl)) (pss_cons
              -- x = rows[order[at]][g]
              (ps_set (i := 6) nd rfl (.inl rfl) (pe_ix (r := rIxT K) ix_tup (pe_ix (r := rIxT K) ix_tup (pv 0) (pe_ix (r := rIxL K) ix_list (pv 2) (pv 4) (fun _ _ => rfl)) (fun _ _ => rfl)) (pv 5) (fun _ _ => rfl)))
             (pss_one
              -- if x not in seen:
              (ps_if (pt_cmp (pc_dnotin (hu_of hr) (pv 6) (pv 3))) (pss_cons
                -- seen[x] = True
                (ps_dput (hu_of hr) (pv 3) (pv 6) pe_bl rfl)
               (pss_one
                -- order.append(x)
                (ps_expr (pe_bm PySem.F.plainAttrs_list PySem.F.slot_list_append PySem.F.type_list_append mt_append (pv 2) (pa_cons (pv 6) pa_nil))))) (pss_nil)))))
           (pss_one
            -- at = at + 1
            (ps_set (i := 4) nd rfl (.inl rfl) (pe_op op_add (pv 4) pe_int)))))
         (pss_one
          -- return order
          (ps_ret (pv 2)))))), ?_⟩
    dsimp only [cxOf, Cx.wish]
    walk_at "rd"
    intro o ho
    walk_at "rd"
    intro d hd
    walk_at "rd"
    have hk0 : [(V.int 0, V.bl true)] = List.map (fun kv : Key × V => (kV kv.1, kv.2)) [((.inl 0 : Key), V.bl true)] := rfl
    refine ⟨hk0, by decide, ?_⟩
    walk_at "rd"
    have hdo : d ≠ o := by
      rintro rfl
      rw [upd_same] at hd
      cases hd
    have hd0 : H d = none := by
      have z := hd
      rw [upd_ne hdo] at z
      exact z
    generalize hH1 : upd (upd (upd H o _) d _) d _ = H1
    have s1 : Same H H1 := by
      rw [← hH1]
      exact Same.mut (Same.mut (Same.new ho) hd0) hd0
    have hO1 : H1 o = some (.lst (natsV [0])) := by
      rw [← hH1, upd_ne (Ne.symm hdo), upd_ne (Ne.symm hdo), upd_same]
      rfl
    have hD1 : H1 d = some (.dK (kvT [0])) := by
      rw [← hH1, upd_same]
      rfl
    clear hH1
    refine wh (fun m σ H' => ∃ (n : Nat) (O : List Nat) (v5 v6 : Option V), m = M.length - n ∧ σ = [some (.ref a), some (.ref b), some (.ref o), some (.ref d), some (nV n), v5, v6] ∧ RInv M ch n O ∧ Same H H' ∧ H' o = some (.lst (natsV O)) ∧ H' d = some (.dK (kvT O)))
      (M.length - 0) ⟨0, [0], none, none, rfl, rfl, RInv.start hn, s1, hO1, hD1⟩ ?_
    rintro m σ H' ⟨n, O, v5, v6, rfl, rfl, I, s2, hO, hD⟩
    walk_at "rd"
    rw [List.length_map]
    refine if_d (fun hlt => ?_) (fun hge => ?_)
    · have hlt' : n < O.length := by omega
      have hOM := I.le
      refine wstep ?_
      walk_at "rd"
      obtain ⟨r, hr⟩ : ∃ r, O[n]? = some r := ⟨_, List.getElem?_eq_getElem hlt'⟩
      have hrM := I.lt r (List.mem_of_getElem? hr)
      refine fj_list (xs := natsV ch) (fun j σ H' => ∃ (O' : List Nat) (v5 v6 : Option V), σ = [some (.ref a), some (.ref b), some (.ref o), some (.ref d), some (nV n), v5, v6] ∧ RInv M ch n O' ∧ O'[n]? = some r ∧ (∀ i g, i < j → ch[i]? = some g → tm M r g ∈ O') ∧ Same H H' ∧ H' o = some (.lst (natsV O')) ∧ H' d = some (.dK (kvT O')))
        ⟨O, v5, v6, rfl, I, hr, fun i g hi => by omega, s2, hO, hD⟩ (fun i σ H' _ z => SqL.of (by obtain ⟨_, _, _, _, _, _, _, z, _⟩ := z; exact z _ _ hb)) ?_ ?_
      · rintro j x σ H3 hx ⟨O', v5, v6, rfl, I', hr', hj, s3, hO', hD'⟩
        obtain ⟨g, rfl, hg⟩ := nats_get hx
        have hgm := List.mem_of_getElem? hg
        have hgM := hch g hgm
        obtain ⟨row, e2, e3⟩ := row_of hrl hrr hrM
        have hrow := hs.row r hrM
        have ha3 := s3 _ _ ha
        have e33 := s3 _ _ e3
        have hO'M := I'.le
        have hnl := (List.getElem?_eq_some_iff.mp hr').1
        have hget : O'.getD n 0 = r := by
          rw [List.getD_eq_getElem?_getD, hr']
          rfl
        walk_at "rd"
        rw [hget]
        walk_at "rd"
        have hin : tm M r g = (M.getD r []).getD g 0 := rfl
        rw [← hin]
        walk_at "rd"
        by_cases hm : tm M r g ∈ O'
        · rw [if_pos hm]
          refine if_bF (by simp) ?_
          walk_at "rd"
          refine at_i ⟨O', _, _, rfl, I', hr', fun i g' hi hg' => ?_, s3, hO', hD'⟩
          by_cases z : i = j
          · subst z
            rw [hg] at hg'
            cases hg'
            exact hm
          · exact hj i g' (by omega) hg'
        · rw [if_neg hm]
          refine if_bT (by simp) ?_
          walk_at "rd"
          have hO4 : upd H3 d (.dK (kvT (addK O' (tm M r g)))) o = some (.lst (natsV O')) := by
            rw [upd_ne]
            · exact hO'
            · rintro rfl
              rw [hO'] at hD'
              cases hD'
          walk_at "rd"
          have hod : o ≠ d := Ne.symm hdo
          refine at_i ⟨addK O' (tm M r g), _, _, rfl, I'.add hs hnl (List.mem_of_getElem? hr') hgm hgM, addK_get hr', fun i g' hi hg' => ?_, Same.mut (Same.mut s3 hd0) ho, ?_, ?_⟩
          · by_cases z : i = j
            · subst z
              rw [hg] at hg'
              cases hg'
              exact addK_mem.mpr (.inr rfl)
            · exact addK_mem.mpr (.inl (hj i g' (by omega) hg'))
          · rw [upd_same]
            show some (HO.lst (natsV O' ++ [nV (tm M r g)])) = some (HO.lst ((addK O' (tm M r g)).map nV))
            unfold addK
            rw [if_neg hm, List.map_append]
            rfl
          · rw [upd_ne hdo, upd_same]
      · rintro σ H3 ⟨O', v5, v6, rfl, I', hr', hj, s3, hO', hD'⟩
        walk_at "rd"
        refine wn (M.length - (n + 1)) (by omega) ⟨n + 1, O', _, _, rfl, rfl, I'.next hr' fun g hg => ?_, s3, hO', hD'⟩
        obtain ⟨i, hi, e⟩ := List.mem_iff_getElem.mp hg
        exact hj i g (by rw [List.length_map]; exact hi) (by rw [List.getElem?_eq_getElem hi, e])
    · walk_at "rd"
      exact k O o H' (I.done (by omega)) ho s2 hO
end
end L2.KL
set_option Elab.async false
set_option linter.all false
set_option maxRecDepth 100000
set_option maxHeartbeats 4000000
namespace L2.KL
open PySem PySem.Spec PyProof.Rows
local macro_rules | `(tactic| walk_at "hp") => `(tactic| first
  | assumption)
local macro_rules | `(tactic| walk_at "cl") => `(tactic| first
  | (with_reducible rfl)
  | ((with_reducible show (_ : Int) < _); first | omega | (simp only [List.length_map]; omega))
  | ((with_reducible show (_ : Int) ≤ _); first | omega | (simp only [List.length_map]; omega))
  | (apply tyL; walk_at "hp")
  | (apply Or.inl; apply SqL.of; walk_at "hp")
  | (apply Or.inr; apply SqT.of; walk_at "hp")
  | (apply sz_nat; simp only [List.length_map, List.length_append, List.length_cons, List.length_nil]; omega))
local macro_rules | `(tactic| walk_at "r1") => `(tactic| first
  | (with_reducible refine rd_seq ?_)
  | ((with_reducible apply rd_var); (· exact rfl))
  | (with_reducible refine rd_c ?_)
  | (with_reducible refine rd_op ?_)
  | (with_reducible refine rd_cb ?_)
  | (with_reducible refine rd_cons ?_)
  | (with_reducible refine rd_nil ?_)
  | (with_reducible refine rd_call ?_)
  | (with_reducible refine rd_lst ?_)
  | (with_reducible refine rd_asg ?_)
  | (with_reducible refine rd_name ?_)
  | (with_reducible refine rd_ret ?_)
  | (with_reducible refine rd_drop ?_)
  | (with_reducible refine rd_test ?_)
  | (with_reducible refine rd_bm ?_)
  | (with_reducible refine rd_I0 ?_)
  | ((with_reducible apply rd_ixL); (· walk_at "hp"); (· walk_at "at"))
  | (with_reducible refine rd_iRng1 ?_)
  | ((with_reducible apply rd_append); (· walk_at "hp"); (· simp only [List.length_map, List.length_append, List.length_cons, List.length_nil]; omega))
  | (with_reducible refine rd_lc ?_)
  | ((with_reducible apply rd_ninL); (· walk_at "hp"))
  | (with_reducible apply Exists.intro)
  | ((with_reducible refine And.intro ?_ ?_); (· walk_at "cl")))
local macro_rules | `(tactic| walk_at "at") => `(tactic| first
  | (apply at_nats; first | assumption | omega))
local macro_rules | `(tactic| walk_at "rd") => `(tactic| ((repeat walk_at "r1"); (try dsimp only [List.set])))
theorem Reach.start {M : Tab} (hn : 1 ≤ M.length) : Reach M [] [0] :=
  let h := RInv.start (ch := []) hn
  ⟨h.nd, h.lt, h.z, (fun r _ g hg => absurd hg List.not_mem_nil), h.mn⟩
section
variable {P : Program} {w : World} {K : PySem.W.Frag} {mg : Str → Option Value} {base : Heap}
def spGens : Sp := fun vs H Q _ => ∃ (a : Addr) (M : Tab), vs = [.ref a] ∧ TabAt H a M ∧ IsGrp M ∧ ∀ ch o H', (∀ g ∈ ch, g < M.length) → ch.length ≤ 100 → H o = none → Same H H' → H' o = some (.lst (natsV ch)) → Q (.ref o) H'
theorem sc_generators : FnScope ["rows", "chosen", "reached", "x"] ["rows"] HD.d_generators.scope := ⟨rfl, rfl, rfl, by decide +kernel, rfl, by decide +kernel, by decide +kernel⟩
theorem ok_gens (T : Tx K mg) : Ok P w K mg base CX0 2 HD.d_generators ["rows"] spGens := by
  have G_reached : Ok P w K mg base CX0 1 _ _ _ := ok_reached T
  have nd := sc_generators.nd
  refine Ok.mk0 T fn__generators rfl sc_generators (fun vs H Q E h => ?_) (fun _ _ _ _ _ _ us hl => match us, hl with | [_], _ => rfl) (fun cdv A outer s H vs Q E hr h => ?_)
  · obtain ⟨a, M, rfl, _⟩ := h
    rfl
  · obtain ⟨a, M, rfl, hT, G, k⟩ := h
    obtain ⟨rs, ha, hrl, hrr⟩ := id hT
    have hM := G.le
    have hM1 := G.pos
    refine ⟨_, pss_cons
          -- chosen = []
          (ps_set (i := 1) nd rfl (.inl rfl) (pe_lst pa_nil))
         (pss_cons
          -- reached = [0]
          (ps_set (i := 2) nd rfl (.inr rfl) (pe_lst (pa_cons pe_int pa_nil)))
         (pss_cons
          -- while len(reached) < len(rows):
          (ps_while PassesOwn.never (pt_cmpR op_lt (pe_callB call_len_seq (by rfl) T.b_len (by decide +kernel) (pa_cons (pv 2) pa_nil)) (pe_callB call_len_seq (by rfl) T.b_len (by decide +kernel) (pa_cons (pv 0) pa_nil)) (nomark _)) (pss_cons
            -- chosen.append([x for x in range(len(rows)) if x not in reached][0])
            (ps_expr (pe_bm PySem.F.plainAttrs_list PySem.F.slot_list_append PySem.F.type_list_append mt_append (pv 1) (pa_cons (pe_ix (r := rIxL K) ix_list (pe_lc (own := [("x", 3)]) (g := gName 3)  (by rfl) nd (pi_range1 (by rfl) T.b_range (pa_cons (pe_callB call_len_seq (by rfl) T.b_len (by decide +kernel) (pa_cons (pv 0) pa_nil)) pa_nil)) (blkOk_by (own := [("x", 3)]) (N := ["rows", "chosen", "reached", "x"]) (sc := HD.d_generators.scope) (by decide +kernel)) (fun _ _ _ _ _ => (pg_name (i := 3) nd rfl (.inl rfl))) (fun _ _ _ _ _ => pts_one (pt_cmpR (r := rIn K true) op_notIn_seq (pv 3) (pv 2) (by rfl))) (fun _ _ _ _ _ => (pv 3))) pe_int (fun _ _ => rfl)) pa_nil)))
           (pss_one
            -- reached = _reached(rows, chosen)
            (ps_set (i := 2) nd rfl (.inr rfl) (pe_f (G_reached) (hr.mono (by decide)) T.g_reached pass0 (pa_cons (pv 0) (pa_cons (pv 1) pa_nil)))))))
         (pss_one
          -- return chosen
          (ps_ret (pv 1))))), ?_⟩
    dsimp only [cxOf, Cx.wish]
    walk_at "rd"
    intro o ho
    walk_at "rd"
    intro q hq
    walk_at "rd"
    have hqo : q ≠ o := by
      rintro rfl
      rw [upd_same] at hq
      cases hq
    have hq0 : H q = none := by
      have z := hq
      rw [upd_ne hqo] at z
      exact z
    refine wh (fun m σ H' => ∃ (ch R : List Nat) (q : Addr) (v3 : Option V), m = M.length - R.length ∧ σ = [some (.ref a), some (.ref o), some (.ref q), v3] ∧ Reach M ch R ∧ (∀ g ∈ ch, g < M.length) ∧ ch.length ≤ R.length ∧ Same H H' ∧ H' o = some (.lst (natsV ch)) ∧ H' q = some (.lst (natsV R)) ∧ q ≠ o)
      (M.length - [0].length) ⟨[], [0], q, none, rfl, rfl, Reach.start hM1, (fun g hg => absurd hg List.not_mem_nil), Nat.zero_le _, Same.mut (Same.new ho) hq0, ?_, ?_, hqo⟩ ?_
    · rw [upd_ne (Ne.symm hqo), upd_same]
      rfl
    · rw [upd_same]
      rfl
    · rintro m σ H' ⟨ch, R, q, v3, rfl, rfl, hR, hch, hcl, s1, hO, hQ, hqo⟩
      have ha1 := s1 _ _ ha
      have hRM := hR.le
      walk_at "rd"
      rw [List.length_map, List.length_map, hrl]
      refine if_d (fun hlt => ?_) (fun hge => ?_)
      · refine wstep ?_
        walk_at "rd"
        rw [List.length_map, hrl]
        refine lcj_if M.length (fun i => !decide (i ∈ R)) nV (by omega) (fun x => rfl) (fun i H1 hi s2 Q' q2 => ?_) (fun i H1 hi hb s2 Q' q2 => ?_) (fun D H1 hD s2 hD1 => ?_)
        · have hQ1 := s2 _ _ hQ
          walk_at "rd"
          exact q2 H1 (Same.refl _)
        · walk_at "rd"
          exact q2 H1 (Same.refl _)
        · have ho1 := s2 _ _ hO
          obtain ⟨x, hx1, hx2⟩ := some_out (n := M.length) (xs := R) (by omega)
          have hne : 0 < ((List.range M.length).filter fun i => !decide (i ∈ R)).length := List.length_pos_of_mem (List.mem_filter.mpr ⟨List.mem_range.mpr hx1, by simp [hx2]⟩)
          generalize hF : (List.range M.length).filter (fun i => !decide (i ∈ R)) = F at hD1 hne
          have hy : ∀ y ∈ F, y < M.length ∧ y ∉ R := fun y hy => by
            rw [← hF] at hy
            obtain ⟨h1, h2⟩ := List.mem_filter.mp hy
            exact ⟨List.mem_range.mp h1, by simpa using h2⟩
          have h0 := hy F[0] (List.getElem_mem hne)
          have hg0 : F.getD 0 0 = F[0] := by rw [List.getD_eq_getElem?_getD, List.getElem?_eq_getElem hne]; rfl
          generalize F[0] = y at h0 hg0
          walk_at "rd"
          rw [hg0]
          walk_at "rd"
          have s12 := s1.trans s2
          have ech : natsV ch ++ [nV y] = natsV (ch ++ [y]) := by
            show _ = (ch ++ [y]).map nV
            rw [List.map_append]
            rfl
          rw [ech]
          refine ⟨a, o, M, ch ++ [y], rfl, hT.fz (Fz.of (Same.mut s12 ho)), upd_same, G.sq, hM1, hM, ?_, ?_, fun R' o' H' hR' ho' s' hl' => ?_⟩
          · intro g hg
            rcases List.mem_append.mp hg with h | h
            · exact hch g h
            · have : g = y := by simpa using h
              rw [this]
              exact h0.1
          · rw [List.length_append]
            show ch.length + 1 ≤ 100000
            omega
          · walk_at "rd"
            have hgr := Reach.grow G hR hR' h0.1 h0.2
            have hR'M := hR'.le
            refine wn (M.length - R'.length) (by omega) ⟨ch ++ [y], R', o', _, rfl, rfl, hR', ?_, ?_, (Same.mut s12 ho).trans s', s' _ _ upd_same, hl', ?_⟩
            · intro g hg
              rcases List.mem_append.mp hg with h | h
              · exact hch g h
              · have : g = y := by simpa using h
                rw [this]
                exact h0.1
            · rw [List.length_append]
              show ch.length + 1 ≤ _
              omega
            · rintro rfl
              rw [upd_same] at ho'
              cases ho'
      · walk_at "rd"
        exact k ch o H' hch (by omega) ho s1 hO
end
end L2.KL
set_option Elab.async false
set_option linter.all false
set_option maxRecDepth 100000
set_option maxHeartbeats 4000000
namespace L2.KL
open PySem PySem.Spec PyProof.Rows
local macro_rules | `(tactic| walk_at "hp") => `(tactic| first
  | assumption
  | (apply upd_old; (· assumption); (· walk_at "hp")))
local macro_rules | `(tactic| walk_at "cl") => `(tactic| first
  | (with_reducible rfl)
  | ((with_reducible show (_ : Int) < _); first | omega | (simp only [List.length_map]; omega))
  | ((with_reducible show (_ : Int) ≤ _); first | omega | (simp only [List.length_map]; omega))
  | (apply Or.inr; apply SqT.of; walk_at "hp")
  | (apply exL; walk_at "hp")
  | (apply exT; walk_at "hp")
  | ((with_reducible show RgOk _ _); unfold RgOk; first | omega | (simp only [List.length_map]; omega)))
local macro_rules | `(tactic| walk_at "r1") => `(tactic| first
  | (with_reducible refine rd_seq ?_)
  | ((with_reducible apply rd_var); (· exact rfl))
  | (with_reducible refine rd_c ?_)
  | (with_reducible refine rd_op ?_)
  | (with_reducible refine rd_cb ?_)
  | (with_reducible refine rd_cons ?_)
  | (with_reducible refine rd_nil ?_)
  | (with_reducible refine rd_call ?_)
  | (with_reducible refine rd_asg ?_)
  | (with_reducible refine rd_name ?_)
  | (with_reducible refine rd_if ?_)
  | (with_reducible refine rd_test ?_)
  | (with_reducible refine rd_or ?_)
  | (with_reducible refine rd_next ?_)
  | ((with_reducible apply rd_ixT); (· walk_at "hp"); (· walk_at "at"))
  | ((with_reducible apply rd_ne); (· exact rfl))
  | (with_reducible refine rd_for ?_)
  | (with_reducible refine rd_iList ?_)
  | (with_reducible refine rd_iTup ?_)
  | (with_reducible refine rd_iRng1 ?_)
  | (with_reducible refine rd_lc ?_)
  | (with_reducible refine rd_listRg ?_)
  | (with_reducible refine iteNT ?_)
  | (with_reducible apply Exists.intro)
  | ((with_reducible refine And.intro ?_ ?_); (· walk_at "cl")))
local macro_rules | `(tactic| walk_at "at") => `(tactic| first
  | (apply at_nats; first | assumption | omega)
  | (apply at_refs; assumption))
local macro_rules | `(tactic| walk_at "rd") => `(tactic| ((repeat walk_at "r1"); (try dsimp only [List.set])))
theorem rd_neNN {K : PySem.W.Frag} {H : Hp} {a b : Addr} {Q : VK} {xs ys : List Nat} (h1 : H a = some (.lst (natsV xs))) (h2 : H b = some (.lst (natsV ys))) (q : Q (.bl (!decide (xs = ys))) H) : rNeD K (.ref a) (.ref b) H Q := by
  rw [nats_ints] at h1 h2
  refine rd_neLL h1 h2 ?_
  have e : decide ((xs.map fun n => ((n : Nat) : Int)) = ys.map fun n => ((n : Nat) : Int)) = decide (xs = ys) := by
    by_cases h : xs = ys
    · subst h
      simp
    · have h2 : ¬ (xs.map fun n => ((n : Nat) : Int)) = ys.map fun n => ((n : Nat) : Int) := fun z => h (iN_inj z)
      simp [h, h2]
  rw [e]
  exact q
theorem row0 {M : Tab} (G : IsGrp M) : M.getD 0 [] = List.range M.length := by
  have hp := G.pos
  have hl := G.sq.row 0 (by omega)
  apply List.ext_getElem?
  intro i
  by_cases hi : i < M.length
  · rw [List.getElem?_range hi, List.getElem?_eq_getElem (by omega)]
    have h := G.l0 i hi
    unfold tm at h
    rw [List.getD_eq_getElem?_getD (l := M.getD 0 []), List.getElem?_eq_getElem (by omega)] at h
    exact congrArg some h
  · rw [List.getElem?_eq_none (by omega), List.getElem?_eq_none (by rw [List.length_range]; omega)]
theorem range_nats (n : Nat) (f : Nat → Nat) : (List.range n).map (fun i => nV (f i)) = natsV ((List.range n).map f) := by
  show _ = ((List.range n).map f).map nV
  rw [List.map_map]
  rfl
section
variable {P : Program} {w : World} {K : PySem.W.Frag} {mg : Str → Option Value} {base : Heap}
def spCheck : Sp := fun vs H Q _ => ∃ (a : Addr) (M : Tab), vs = [.ref a] ∧ TabAt H a M ∧ IsGrp M ∧ ∀ H', Same H H' → Q .non H'
theorem sc_check : FnScope ["rows", "size", "numbers", "row", "g", "x", "y"] ["rows"] HD.d_check.scope := ⟨rfl, rfl, rfl, by decide +kernel, rfl, by decide +kernel, by decide +kernel⟩
theorem ok_check (T : Tx K mg) : Ok P w K mg base CX0 3 HD.d_check ["rows"] spCheck := by
  have G_generators : Ok P w K mg base CX0 2 _ _ _ := ok_gens T
  have nd := sc_check.nd
  refine Ok.mk0 T fn__check rfl sc_check (fun vs H Q E h => ?_) (fun _ _ _ _ _ _ us hl => match us, hl with | [_], _ => rfl) (fun cdv A outer s H vs Q E hr h => ?_)
  · obtain ⟨a, M, rfl, _⟩ := h
    rfl
  · obtain ⟨a, M, rfl, hT, G, k⟩ := h
    obtain ⟨rs, ha, hrl, hrr⟩ := id hT
    have hM := G.le
    have hM1 := G.pos
    refine ⟨_, pss_cons
          -- size = len(rows)
          (ps_set (i := 1) nd rfl (.inl rfl) (pe_callB call_len_seq (by rfl) T.b_len (by decide +kernel) (pa_cons (pv 0) pa_nil)))
         (pss_cons
          -- numbers = list(range(size))
          (ps_set (i := 2) nd rfl (.inl rfl) (pe_listRg rfl (by rfl) T.b_list (prg_1 (by rfl) T.b_range (pv 1))))
         (pss_cons
          -- if list(rows[0]) != numbers or [row[0] for row in rows] != numbers:
          (ps_if (PW.pt (pw_or (pt_cmpR (r := rNeD K) (op_neD hr.units) (pe_callTy call_list_of (by rfl) T.b_list (by decide +kernel) (pa_cons (pe_ix (r := rIxT K) ix_tup (pv 0) pe_int (fun _ _ => rfl)) pa_nil)) (pv 2) (nomark _)) (pw_or1 (pt_cmpR (r := rNeD K) (op_neD hr.units) (pe_lc (own := [("row", 3)]) (g := gName 3) (tt := tYes) (by rfl) nd (pi_tup (pv 0)) (blkOk_by (own := [("row", 3)]) (N := ["rows", "size", "numbers", "row", "g", "x", "y"]) (sc := HD.d_check.scope) (by decide +kernel)) (fun _ _ _ _ _ => (pg_name (i := 3) nd rfl (.inl rfl))) (fun _ _ _ _ _ => pts_nil) (fun _ _ _ _ _ => (pe_ix (r := rIxT K) ix_tup (pv 3) pe_int (fun _ _ => rfl)))) (pv 2) (nomark _))))) (pss_one
            -- raise Malformed('unit')
            (ps_never)) (pss_nil))
         (pss_cons
          -- for row in rows:
          (ps_for PassesOwn.never rfl (pi_tup (pv 0)) (pg_name (i := 3) nd rfl (.inl rfl)) (pss_one
            -- if 0 not in row:
            (ps_if (pt_cmpR (r := rIn K true) op_notIn_seq pe_int (pv 3) (by rfl)) (pss_one
              -- raise Malformed('inverse')
              (ps_never)) (pss_nil))))
         (pss_one
          -- for g in _generators(rows):
          (ps_for PassesOwn.never rfl (pi_list (pe_f (G_generators) (hr.mono (by decide)) T.g_generators pass0 (pa_cons (pv 0) pa_nil))) (pg_name (i := 4) nd rfl (.inl rfl)) (pss_one
            -- for x in range(size):
            (ps_for PassesOwn.never rfl (pi_range1 (by rfl) T.b_range (pa_cons (pv 1) pa_nil)) (pg_name (i := 5) nd rfl (.inl rfl)) (pss_one
              -- for y in range(size):
              (ps_for PassesOwn.never rfl (pi_range1 (by rfl) T.b_range (pa_cons (pv 1) pa_nil)) (pg_name (i := 6) nd rfl (.inl rfl)) (pss_one
                -- if rows[rows[x][g]][y] != rows[x][rows[g][y]]:
                (ps_if (pt_cmpR op_ne (pe_ix (r := rIxT K) ix_tup (pe_ix (r := rIxT K) ix_tup (pv 0) (pe_ix (r := rIxT K) ix_tup (pe_ix (r := rIxT K) ix_tup (pv 0) (pv 5) (fun _ _ => rfl)) (pv 4) (fun _ _ => rfl)) (fun _ _ => rfl)) (pv 6) (fun _ _ => rfl)) (pe_ix (r := rIxT K) ix_tup (pe_ix (r := rIxT K) ix_tup (pv 0) (pv 5) (fun _ _ => rfl)) (pe_ix (r := rIxT K) ix_tup (pe_ix (r := rIxT K) ix_tup (pv 0) (pv 4) (fun _ _ => rfl)) (pv 6) (fun _ _ => rfl)) (fun _ _ => rfl)) (nomark _)) (pss_one
                  -- raise Malformed('product')
                  (ps_never)) (pss_nil)))))))))))), ?_⟩
    dsimp only [cxOf, Cx.wish]
    walk_at "rd"
    intro o ho
    rw [List.length_map, hrl, rgV_nat]
    obtain ⟨r0, e0, f0⟩ := row_of hrl hrr (show 0 < M.length by omega)
    rw [row0 G] at f0
    walk_at "rd"
    intro l hl
    walk_at "rd"
    refine rd_neNN upd_same (upd_old hl upd_same) ?_
    rw [decide_eq_true rfl]
    walk_at "rd"
    have s1 : Same H (upd (upd H o (.lst (natsV (List.range M.length)))) l (.lst (natsV (List.range M.length)))) := (Same.new ho).trans (Same.new hl)
    have hO1 : upd (upd H o (.lst (natsV (List.range M.length)))) l (.lst (natsV (List.range M.length))) o = some (.lst (natsV (List.range M.length))) := upd_old hl upd_same
    generalize hH1 : upd (upd H o _) l _ = H1 at s1 hO1
    clear hH1
    refine lcj_tup (xs := refsV rs) (fun i v H => v = nV i) (fun i v => fm_eq _ _) (SqT.of (s1 _ _ ha)) (by rw [List.length_map]; omega) (fun x => rfl) (fun i x H2 hx s2 Q' q => ?_) (fun D H2 ys hD s2 hl2 hyl hR => ?_)
    · have hi : i < M.length := by
        have := (List.getElem?_eq_some_iff.mp hx).1
        rw [List.length_map] at this
        omega
      obtain ⟨r, e1, f1⟩ := row_of hrl hrr hi
      rw [List.getElem?_map, e1] at hx
      have hx' : V.ref r = x := by simpa using hx
      subst hx'
      have f2 := s2 _ _ (s1 _ _ f1)
      have hrow := G.sq.row i hi
      have hr0 := G.r0 i hi
      unfold tm at hr0
      walk_at "rd"
      refine rd_ixT f2 (at_nats (i := 0) (by omega)) ?_
      refine q _ H2 (Same.refl _) ?_
      rw [hr0]
    · have hys : ys = natsV (List.range M.length) := list_eq_map (by rw [hyl, List.length_map, hrl]) hR
      rw [hys] at hl2
      have hO2 := s2 _ _ hO1
      walk_at "rd"
      refine rd_neNN hl2 hO2 ?_
      rw [decide_eq_true rfl]
      have s12 := s1.trans s2
      have ha2 := s12 _ _ ha
      walk_at "rd"
      refine fj_tup (xs := refsV rs) (fun i σ H' => Same H H' ∧ ∃ v3, σ = [some (.ref a), some (nV M.length), some (.ref o), v3, none, none, none]) ⟨s12, _, rfl⟩ (fun i σ H' _ z => SqT.of (z.1 _ _ ha)) ?_ ?_
      · rintro i x σ H3 hx ⟨s3, v3, rfl⟩
        have hi : i < M.length := by
          have := (List.getElem?_eq_some_iff.mp hx).1
          rw [List.length_map] at this
          omega
        obtain ⟨r, e1, f1⟩ := row_of hrl hrr hi
        rw [List.getElem?_map, e1] at hx
        have hx' : V.ref r = x := by simpa using hx
        subst hx'
        have f2 := s3 _ _ f1
        have hz := G.iv i hi
        walk_at "rd"
        refine rd_ninT (x := 0) f2 ?_
        rw [decide_eq_true hz]
        walk_at "rd"
        exact at_i ⟨s3, _, rfl⟩
      · rintro σ H3 ⟨s3, v3, rfl⟩
        walk_at "rd"
        refine ⟨a, M, rfl, hT.fz (Fz.of s3), G, fun ch o2 H4 hch hchl ho2 s4 hl4 => ?_⟩
        have s34 := s3.trans s4
        walk_at "rd"
        refine fj_list (xs := natsV ch) (fun i σ H' => Same H4 H' ∧ ∃ v3 v4 v5 v6, σ = [some (.ref a), some (nV M.length), some (.ref o), v3, v4, v5, v6]) ⟨Same.refl _, _, _, _, _, rfl⟩ (fun i σ H' _ z => SqL.of (z.1 _ _ hl4)) ?_ ?_
        · rintro i x σ H5 hx ⟨s5, v3, v4, v5, v6, rfl⟩
          obtain ⟨g, rfl, hg⟩ := nats_get hx
          have hgM := hch g (List.mem_of_getElem? hg)
          walk_at "rd"
          refine fj_range M.length (fun i σ H' => Same H4 H' ∧ ∃ v3 v5 v6, σ = [some (.ref a), some (nV M.length), some (.ref o), v3, some (nV g), v5, v6]) ⟨s5, _, _, _, rfl⟩ ?_ ?_
          · rintro x σ H6 hxM ⟨s6, v3, v5, v6, rfl⟩
            walk_at "rd"
            refine fj_range M.length (fun i σ H' => Same H4 H' ∧ ∃ v3 v6, σ = [some (.ref a), some (nV M.length), some (.ref o), v3, some (nV g), some (nV x), v6]) ⟨s6, _, _, rfl⟩ ?_ ?_
            · rintro y σ H7 hyM ⟨s7, v3, v6, rfl⟩
              have s07 := s34.trans s7
              have ha7 := s07 _ _ ha
              have l1 := G.sq.lt x g hxM hgM
              have l2 := G.sq.lt g y hgM hyM
              obtain ⟨rx, ex, fx⟩ := row_of hrl hrr hxM
              obtain ⟨rg, eg, fg⟩ := row_of hrl hrr hgM
              obtain ⟨rxg, exg, fxg⟩ := row_of hrl hrr l1
              have gx := s07 _ _ fx
              have gg := s07 _ _ fg
              have gxg := s07 _ _ fxg
              have wx := G.sq.row x hxM
              have wg := G.sq.row g hgM
              have wxg := G.sq.row _ l1
              have hass := G.as_ x g y hxM hgM hyM
              have i1 : (M.getD x []).getD g 0 = tm M x g := rfl
              have i2 : (M.getD g []).getD y 0 = tm M g y := rfl
              walk_at "rd"
              refine if_ne (fun z => absurd (congrArg (fun n : Nat => (n : Int)) hass) z) (fun _ => ?_)
              walk_at "rd"
              exact at_i ⟨s7, _, _, rfl⟩
            · rintro σ H7 ⟨s7, v3, v6, rfl⟩
              dsimp only
              exact at_i ⟨s7, _, _, _, rfl⟩
          · rintro σ H6 ⟨s6, v3, v5, v6, rfl⟩
            dsimp only
            exact at_i ⟨s6, _, _, _, _, rfl⟩
        · rintro σ H5 ⟨s5, v3, v4, v5, v6, rfl⟩
          dsimp only
          exact k _ (s34.trans s5)
end
end L2.KL
set_option Elab.async false
set_option linter.all false
set_option maxRecDepth 100000
set_option maxHeartbeats 4000000
namespace L2.KL
open PySem PySem.Spec PyProof.Rows
local macro_rules | `(tactic| walk_at "hp") => `(tactic| first
  | assumption
  | (with_reducible exact upd_same)
  | (apply upd_old; (· assumption); (· walk_at "hp")))
local macro_rules | `(tactic| walk_at "cl") => `(tactic| first
  | (with_reducible rfl)
  | (apply tyL; walk_at "hp")
  | (apply Or.inl; apply SqL.of; walk_at "hp")
  | (apply exL; walk_at "hp")
  | (apply sz_nat; simp only [List.length_map, List.length_append, List.length_cons, List.length_nil]; omega))
local macro_rules | `(tactic| walk_at "r1") => `(tactic| first
  | (with_reducible refine rd_seq ?_)
  | ((with_reducible apply rd_var); (· exact rfl))
  | (with_reducible refine rd_c ?_)
  | (with_reducible refine rd_op ?_)
  | (with_reducible refine rd_cb ?_)
  | (with_reducible refine rd_cons ?_)
  | (with_reducible refine rd_nil ?_)
  | (with_reducible refine rd_tup ?_)
  | (with_reducible refine rd_lst ?_)
  | (with_reducible refine rd_asg ?_)
  | (with_reducible refine rd_name ?_)
  | (with_reducible refine rd_ret ?_)
  | (with_reducible refine rd_drop ?_)
  | (with_reducible refine rd_if ?_)
  | (with_reducible refine rd_test ?_)
  | (with_reducible refine rd_B ?_)
  | (with_reducible refine rd_or ?_)
  | (with_reducible refine rd_not ?_)
  | (with_reducible refine rd_bm ?_)
  | (with_reducible refine rd_next ?_)
  | (with_reducible refine rd_I0 ?_)
  | ((with_reducible apply rd_eq); (· exact rfl))
  | ((with_reducible apply rd_ne); (· exact rfl))
  | (with_reducible refine rd_for ?_)
  | (with_reducible refine rd_iList ?_)
  | ((with_reducible apply rd_append); (· walk_at "hp"); (· simp only [List.length_map, List.length_append, List.length_cons, List.length_nil]; omega))
  | (with_reducible refine iteF ?_)
  | (with_reducible refine iteNT ?_)
  | (with_reducible refine isi_int ?_)
  | (with_reducible refine isi_intB ?_)
  | ((with_reducible apply isi_lt_lst); (· walk_at "hp"); (· walk_at "hp"))
  | ((with_reducible apply or_tl); (· walk_at "hp"))
  | (with_reducible apply Exists.intro)
  | ((with_reducible refine And.intro ?_ ?_); (· walk_at "cl")))
local macro_rules | `(tactic| walk_at "at") => `(tactic| fail)
local macro_rules | `(tactic| walk_at "rd") => `(tactic| ((repeat walk_at "r1"); (try dsimp only [List.set])))
/-- a list of lists of numbers -/
def LLAt (H : Hp) (a : Addr) (M : Tab) : Prop := ∃ bs : List Addr, H a = some (.lst (refsV bs)) ∧ bs.length = M.length ∧ ∀ (i : Nat) b row, bs[i]? = some b → M[i]? = some row → H b = some (.lst (natsV row))
theorem LLAt.same {H H' : Hp} {a : Addr} {M : Tab} (s : Same H H') (h : LLAt H a M) : LLAt H' a M := by
  obtain ⟨bs, h1, h2, h3⟩ := h
  exact ⟨bs, s _ _ h1, h2, fun i b row x y => s _ _ (h3 i b row x y)⟩
section
variable {P : Program} {w : World} {K : PySem.W.Frag} {mg : Str → Option Value} {base : Heap}
def spRows : Sp := fun vs H Q _ => ∃ (a : Addr) (M : Tab), vs = [.ref a] ∧ LLAt H a M ∧ Sq M ∧ 1 ≤ M.length ∧ M.length ≤ 60 ∧ ∀ t H', Same H H' → TabAt H' t M → Q (.ref t) H'
theorem sc_checked_rows : FnScope ["table", "size", "rows", "row", "x"] ["table"] HD.d_checked_rows.scope := ⟨rfl, rfl, rfl, by decide +kernel, rfl, by decide +kernel, by decide +kernel⟩
theorem ok_rows (T : Tx K mg) : Ok P w K mg base CX0 1 HD.d_checked_rows ["table"] spRows := by
  obtain ⟨t60, hMOST_ORDER⟩ := T.i_MOST_ORDER
  have nd := sc_checked_rows.nd
  refine Ok.mk0 T fn__checked_rows rfl sc_checked_rows (fun vs H Q E h => ?_) (fun _ _ _ _ _ _ us hl => match us, hl with | [_], _ => rfl) (fun cdv A outer s H vs Q E hr h => ?_)
  · obtain ⟨a, M, rfl, _⟩ := h
    rfl
  · obtain ⟨a, M, rfl, hL, S, hn, hn60, k⟩ := h
    obtain ⟨bs, ha, hbl, hbb⟩ := id hL
    refine ⟨_, pss_cons
          -- if not isinstance(table, (list, tuple)) or len(table) == 0:
          (ps_if (PW.pt (pw_or (pt_not (pt_val (pe_callB call_isiT (by rfl) T.b_isinstance (by decide +kernel) (pa_cons (pv 0) (pa_cons (pe_tup (pa_cons (pe_bltn (v := .ty "list") (by rfl) T.b_list (by decide +kernel) rfl) (pa_cons (pe_bltn (v := .ty "tuple") (by rfl) T.b_tuple (by decide +kernel) rfl) pa_nil))) pa_nil))))) (pw_or1 (pt_cmpR op_eq (pe_callB call_len_seq (by rfl) T.b_len (by decide +kernel) (pa_cons (pv 0) pa_nil)) pe_int (nomark _))))) (pss_one
            -- raise Malformed('table')
            (ps_never)) (pss_nil))
         (pss_cons
          -- size = len(table)
          (ps_set (i := 1) nd rfl (.inl rfl) (pe_callB call_len_seq (by rfl) T.b_len (by decide +kernel) (pa_cons (pv 0) pa_nil)))
         (pss_cons
          -- if size > MOST_ORDER:
          (ps_if (pt_cmpR op_gt (pv 1) (pe_glob (v := .int 60) rfl hMOST_ORDER ⟨_, rfl⟩) (nomark _)) (pss_one
            -- raise Refused('order')
            (ps_never)) (pss_nil))
         (pss_cons
          -- rows = []
          (ps_set (i := 2) nd rfl (.inl rfl) (pe_lst pa_nil))
         (pss_cons
          -- for row in table:
          (ps_for PassesOwn.never rfl (pi_list (pv 0)) (pg_name (i := 3) nd rfl (.inl rfl)) (pss_cons
            -- if not isinstance(row, (list, tuple)) or len(row) != size:
            (ps_if (PW.pt (pw_or (pt_not (pt_val (pe_callB call_isiT (by rfl) T.b_isinstance (by decide +kernel) (pa_cons (pv 3) (pa_cons (pe_tup (pa_cons (pe_bltn (v := .ty "list") (by rfl) T.b_list (by decide +kernel) rfl) (pa_cons (pe_bltn (v := .ty "tuple") (by rfl) T.b_tuple (by decide +kernel) rfl) pa_nil))) pa_nil))))) (pw_or1 (pt_cmpR op_ne (pe_callB call_len_seq (by rfl) T.b_len (by decide +kernel) (pa_cons (pv 3) pa_nil)) (pv 1) (nomark _))))) (pss_one
              -- raise Malformed('row')
              (ps_never)) (pss_nil))
           (pss_cons
            -- for x in row:
            (ps_for PassesOwn.never rfl (pi_list (pv 3)) (pg_name (i := 4) nd rfl (.inl rfl)) (pss_one
              -- if not isinstance(x, int) or isinstance(x, bool) or x < 0 or (x >= size):
              (ps_if (PW.pt (pw_or (pt_not (pt_val (pe_callB call_isi (by rfl) T.b_isinstance (by decide +kernel) (pa_cons (pv 4) (pa_cons (pe_bltn (v := .ty "int") (by rfl) T.b_int (by decide +kernel) rfl) pa_nil))))) (pw_or (pt_val (pe_callB call_isi (by rfl) T.b_isinstance (by decide +kernel) (pa_cons (pv 4) (pa_cons (pe_bltn (v := .ty "bool") (by rfl) T.b_bool (by decide +kernel) rfl) pa_nil)))) (pw_or (pt_cmpR op_lt (pv 4) pe_int (nomark _)) (pw_or1 (pt_cmpR op_ge (pv 4) (pv 1) (nomark _))))))) (pss_one
                -- raise Malformed('item')
                (ps_never)) (pss_nil))))
           (pss_one
            -- rows.append(tuple(row))
            (ps_expr (pe_bm PySem.F.plainAttrs_list PySem.F.slot_list_append PySem.F.type_list_append mt_append (pv 2) (pa_cons (pe_callTy call_tuple_of (by rfl) T.b_tuple (by decide +kernel) (pa_cons (pv 3) pa_nil)) pa_nil)))))))
         (pss_one
          -- return tuple(rows)
          (ps_ret (pe_callTy call_tuple_of (by rfl) T.b_tuple (by decide +kernel) (pa_cons (pv 2) pa_nil)))))))), ?_⟩
    dsimp only [cxOf, Cx.wish]
    walk_at "rd"
    intro t1 ht1
    have ha1 : upd H t1 (.tup [.ty "list", .ty "tuple"]) a = some (.lst (refsV bs)) := upd_old ht1 ha
    have s01 : Same H (upd H t1 (.tup [.ty "list", .ty "tuple"])) := Same.new ht1
    walk_at "rd"
    refine if_eq (fun z => absurd z (by rw [List.length_map]; omega)) (fun _ => ?_)
    walk_at "rd"
    refine if_d (fun z => absurd z (by rw [List.length_map]; omega)) (fun _ => ?_)
    walk_at "rd"
    intro l hl
    walk_at "rd"
    have hl0 : H l = none := none_of s01 hl
    refine fj_list (xs := refsV bs) (fun i σ H' => ∃ (rs : List Addr) (v3 v4 : Option V), σ = [some (.ref a), some (nV M.length), some (.ref l), v3, v4] ∧ Same H H' ∧ H' l = some (.lst (refsV rs)) ∧ rs.length = i ∧ ∀ (j : Nat) r row, rs[j]? = some r → M[j]? = some row → H' r = some (.tup (natsV row)))
      ⟨[], none, none, ?_, s01.trans (Same.new hl), upd_same, rfl, fun j r row h => by simp at h⟩ (fun i σ H' _ z => by obtain ⟨_, _, _, _, z, _⟩ := z; exact SqL.of (z _ _ ha)) ?_ ?_
    · have e1 : (refsV bs).length = M.length := by rw [List.length_map]; exact hbl
      rw [e1]
      rfl
    · rintro i x σ H3 hx ⟨rs, v3, v4, rfl, s3, hl3, hrl, hrr⟩
      have hi : i < M.length := by
        have := (List.getElem?_eq_some_iff.mp hx).1
        rw [List.length_map] at this
        omega
      obtain ⟨row, hrow⟩ : ∃ row, M[i]? = some row := ⟨_, List.getElem?_eq_getElem hi⟩
      have hb : bs[i]? = some bs[i] := List.getElem?_eq_getElem (by omega)
      generalize bs[i] = b at hb
      rw [List.getElem?_map, hb] at hx
      have hx' : V.ref b = x := by simpa using hx
      subst hx'
      have hb3 := s3 _ _ (hbb i b row hb hrow)
      have hrl2 : row.length = M.length := by
        have := S.row i hi
        rw [List.getD_eq_getElem?_getD, hrow] at this
        exact this
      walk_at "rd"
      intro t2 ht2
      have hb4 : upd H3 t2 (.tup [.ty "list", .ty "tuple"]) b = some (.lst (natsV row)) := upd_old ht2 hb3
      have s34 : Same H3 (upd H3 t2 (.tup [.ty "list", .ty "tuple"])) := Same.new ht2
      walk_at "rd"
      refine if_ne (fun z => absurd (by rw [List.length_map]; omega) z) (fun _ => ?_)
      walk_at "rd"
      generalize hH4 : upd H3 t2 _ = H4 at hb4 s34 ⊢
      clear hH4
      refine fj_list (xs := natsV row) (fun j σ H' => Same H4 H' ∧ ∃ v4, σ = [some (.ref a), some (nV M.length), some (.ref l), some (.ref b), v4]) ⟨Same.refl _, _, rfl⟩ (fun j σ H' _ z => SqL.of (z.1 _ _ hb4)) ?_ ?_
      · rintro j x σ H5 hx ⟨s5, v4, rfl⟩
        obtain ⟨y, rfl, hy⟩ := nats_get hx
        have hyM : y < M.length := by
          have hj := (List.getElem?_eq_some_iff.mp hy).1
          have := S.lt i j hi (by omega)
          unfold tm at this
          rw [List.getD_eq_getElem?_getD (l := M), hrow] at this
          have e : (Option.getD (some row) []).getD j 0 = y := by
            show row.getD j 0 = y
            rw [List.getD_eq_getElem?_getD, hy]
            rfl
          rw [e] at this
          exact this
        walk_at "rd"
        refine if_d (fun z => absurd z (by omega)) (fun _ => ?_)
        walk_at "rd"
        refine if_d (fun z => absurd z (by omega)) (fun _ => ?_)
        walk_at "rd"
        exact at_i ⟨s5, _, rfl⟩
      · rintro σ H5 ⟨s5, v4, rfl⟩
        have hb5 := s5 _ _ hb4
        have hl5 := s5 _ _ (s34 _ _ hl3)
        walk_at "rd"
        intro t3 ht3
        walk_at "rd"
        have hl6 : upd H5 t3 (.tup (natsV row)) l = some (.lst (refsV rs)) := upd_old ht3 hl5
        have fz := Fz.upd (o := .lst (refsV rs ++ [V.ref t3])) hl6 rfl
        refine at_i ⟨rs ++ [t3], _, _, rfl, Same.mut (((s3.trans s34).trans s5).trans (Same.new ht3)) hl0, ?_, ?_, fun j r row' h1 h2 => ?_⟩
        · rw [upd_same]
          show some (HO.lst (refsV rs ++ [V.ref t3])) = some (HO.lst ((rs ++ [t3]).map V.ref))
          rw [List.map_append]
          rfl
        · rw [List.length_append, hrl]
          rfl
        · by_cases hj : j < rs.length
          · rw [List.getElem?_append_left hj] at h1
            exact fz _ _ (upd_old ht3 (s5 _ _ (s34 _ _ (hrr j r row' h1 h2)))) rfl
          · rw [List.getElem?_append_right (by omega)] at h1
            have hl7 := (List.getElem?_eq_some_iff.mp h1).1
            simp at hl7
            have e0 : j - rs.length = 0 := by omega
            rw [e0] at h1
            have e1 : t3 = r := by simpa using h1
            subst e1
            have e2 : j = i := by omega
            rw [e2, hrow] at h2
            cases h2
            exact fz _ _ upd_same rfl
    · rintro σ H3 ⟨rs, v3, v4, rfl, s3, hl3, hrl, hrr⟩
      walk_at "rd"
      intro t ht
      refine k t _ (s3.trans (Same.new ht)) ⟨rs, upd_same, ?_, fun j r row h1 h2 => upd_old ht (hrr j r row h1 h2)⟩
      rw [hrl, List.length_map, hbl]
end
end L2.KL
set_option Elab.async false
set_option linter.all false
set_option maxRecDepth 100000
set_option maxHeartbeats 4000000
namespace L2.KL
open PySem PySem.Spec PyProof.Rows
local macro_rules | `(tactic| walk_at "hp") => `(tactic| fail)
local macro_rules | `(tactic| walk_at "cl") => `(tactic| first
  | (with_reducible rfl)
  | ((with_reducible show (_ : Int) < _); first | omega | (simp only [List.length_map]; omega))
  | ((with_reducible show (_ : Int) ≤ _); first | omega | (simp only [List.length_map]; omega))
  | assumption
  | (exact (by decide : (0 : Nat) < 1000)))
local macro_rules | `(tactic| walk_at "r1") => `(tactic| first
  | (with_reducible refine rd_seq ?_)
  | ((with_reducible apply rd_var); (· exact rfl))
  | (with_reducible refine rd_c ?_)
  | (with_reducible refine rd_op ?_)
  | (with_reducible refine rd_cons ?_)
  | (with_reducible refine rd_nil ?_)
  | (with_reducible refine rd_call ?_)
  | (with_reducible refine rd_asg ?_)
  | (with_reducible refine rd_name ?_)
  | (with_reducible refine rd_ret ?_)
  | (with_reducible refine rd_drop ?_)
  | (with_reducible refine rd_if ?_)
  | (with_reducible refine rd_test ?_)
  | (with_reducible refine rd_or ?_)
  | (with_reducible refine rd_next ?_)
  | (with_reducible refine rd_sfld ?_)
  | (with_reducible refine rd_I0 ?_)
  | ((with_reducible apply rd_I); (· first | assumption | (dsimp only; omega) | omega | (unfold CMul; omega) | (unfold CDiv; omega)))
  | (with_reducible refine rd_iRng1 ?_)
  | (with_reducible refine rd_lc ?_)
  | (with_reducible refine rd_make ?_)
  | (with_reducible apply Exists.intro)
  | ((with_reducible refine And.intro ?_ ?_); (· walk_at "cl")))
local macro_rules | `(tactic| walk_at "at") => `(tactic| fail)
local macro_rules | `(tactic| walk_at "rd") => `(tactic| ((repeat walk_at "r1"); (try dsimp only [List.set])))
def grpB (M : Tab) : Bool := decide (1 ≤ M.length ∧ M.length ≤ 60) && (List.range M.length).all fun x => decide ((M.getD x []).length = M.length ∧ tm M 0 x = x ∧ tm M x 0 = x ∧ 0 ∈ M.getD x []) &&
  (List.range M.length).all fun y => decide (tm M x y < M.length) && (List.range M.length).all fun z => decide (tm M (tm M x y) z = tm M x (tm M y z))
theorem grpB_ok {M : Tab} (h : grpB M = true) : IsGrp M := by
  unfold grpB at h
  obtain ⟨h1, h2⟩ := Bool.and_eq_true_iff.mp h
  have b := of_decide_eq_true h1
  have hx : ∀ x, x < M.length → ((M.getD x []).length = M.length ∧ tm M 0 x = x ∧ tm M x 0 = x ∧ 0 ∈ M.getD x []) := fun x hx => of_decide_eq_true (Bool.and_eq_true_iff.mp (List.all_eq_true.mp h2 x (List.mem_range.mpr hx))).1
  have hy : ∀ x y, x < M.length → y < M.length → tm M x y < M.length ∧ ∀ z, z < M.length → tm M (tm M x y) z = tm M x (tm M y z) := fun x y hx hy => by
    have q := List.all_eq_true.mp (Bool.and_eq_true_iff.mp (List.all_eq_true.mp h2 x (List.mem_range.mpr hx))).2 y (List.mem_range.mpr hy)
    obtain ⟨q1, q2⟩ := Bool.and_eq_true_iff.mp q
    exact ⟨of_decide_eq_true q1, fun z hz => of_decide_eq_true (List.all_eq_true.mp q2 z (List.mem_range.mpr hz))⟩
  exact ⟨⟨fun x h => (hx x h).1, fun x y a c => (hy x y a c).1⟩, b.1, b.2, fun x h => (hx x h).2.1, fun x h => (hx x h).2.2.1, fun x y z a c d => (hy x y a c).2 z d, fun x h => (hx x h).2.2.2⟩
def cycT (n : Nat) : Tab := (List.range n).map fun x => (List.range n).map fun y => (x + y) % n
def dirT (A B : Tab) : Tab := (List.range (A.length * B.length)).map fun x => (List.range (A.length * B.length)).map fun y => tm A (x / B.length) (y / B.length) * B.length + tm B (x % B.length) (y % B.length)
theorem cyc_grp {n : Nat} (h1 : 1 ≤ n) (h2 : n ≤ 7) : IsGrp (cycT n) := by
  have a : ([1, 2, 3, 4, 5, 6, 7].all fun n => grpB (cycT n)) = true := by decide +kernel
  refine grpB_ok (List.all_eq_true.mp a n ?_)
  have : n = 1 ∨ n = 2 ∨ n = 3 ∨ n = 4 ∨ n = 5 ∨ n = 6 ∨ n = 7 := by omega
  rcases this with rfl | rfl | rfl | rfl | rfl | rfl | rfl <;> decide
theorem cycT_len (n : Nat) : (cycT n).length = n := by unfold cycT; rw [List.length_map, List.length_range]
theorem dir_grp {m : Nat} (h : m = 2 ∨ m = 3) : IsGrp (dirT (cycT 2) (cycT m)) := by
  rcases h with rfl | rfl <;> exact grpB_ok (by decide +kernel)
theorem LstsAt.ll {H : Hp} {a : Addr} {bs : List Addr} {n : Nat} {f : Nat → List Nat} (ha : H a = some (.lst (refsV bs))) (hl : bs.length = n) (h : LstsAt H bs (fun i => natsV (f i))) : LLAt H a ((List.range n).map f) := by
  refine ⟨bs, ha, by rw [hl, List.length_map, List.length_range], fun i b row h1 h2 => ?_⟩
  rw [List.getElem?_map] at h2
  have hi : i < n := by
    rw [← hl]
    exact (List.getElem?_eq_some_iff.mp h1).1
  rw [List.getElem?_range hi] at h2
  have e : f i = row := by simpa using h2
  rw [← e]
  exact h i b h1
section
variable {P : Program} {w : World} {K : PySem.W.Frag} {mg : Str → Option Value} {base : Heap}
def spGInit (C : Addr) : Sp := fun vs H Q _ => ∃ (x a dx : Addr) (M : Tab), vs = [.ref x, .ref a] ∧ H x = some (.ins C dx []) ∧ LLAt H a M ∧ IsGrp M ∧ ∀ t H', SameX x H H' → H' x = some (.ins C dx (fsG t)) → TabAt H' t M → Q .non H'
theorem sc_Group_init : FnScope ["self", "table", "rows"] ["self", "table"] HD.dGroup_init.scope := ⟨rfl, rfl, rfl, by decide +kernel, rfl, by decide +kernel, by decide +kernel⟩
theorem ok_ginit (T : Tx K mg) : Ok P w K mg base CX0 4 HD.dGroup_init ["self", "table"] (spGInit (CG K)) := by
  have c1 := T.c_Group
  have n1 := T.na_Group_table
  have G_checked_rows : Ok P w K mg base CX0 1 _ _ _ := ok_rows T
  have G_check : Ok P w K mg base CX0 3 _ _ _ := ok_check T
  have nd := sc_Group_init.nd
  refine Ok.mk0 T fn_Group_init rfl sc_Group_init (fun vs H Q E h => ?_) (fun _ _ _ _ _ _ us hl => match us, hl with | [_, _], _ => rfl) (fun cdv A outer s H vs Q E hr h => ?_)
  · obtain ⟨x, a, dx, M, rfl, _⟩ := h
    rfl
  · obtain ⟨x, a, dx, M, rfl, hx, hL, G, k⟩ := h
    refine ⟨_, pss_cons
          -- rows = _checked_rows(table)
          (ps_set (i := 2) nd rfl (.inl rfl) (pe_f (G_checked_rows) (hr.mono (by decide)) T.g_checked_rows pass0 (pa_cons (pv 1) pa_nil)))
         (pss_cons
          -- _check(rows)
          (ps_expr (pe_f (G_check) (hr.mono (by decide)) T.g_check pass0 (pa_cons (pv 2) pa_nil)))
         (pss_one
          -- self.table = rows
          (ps_fld (pv 0) (pv 2) rfl))), ?_⟩
    dsimp only [cxOf, Cx.wish]
    walk_at "rd"
    refine ⟨a, M, rfl, hL, G.sq, G.pos, G.le, fun t H1 s1 hT => ?_⟩
    walk_at "rd"
    refine ⟨t, M, rfl, hT, G, fun H2 s2 => ?_⟩
    have hx2 := s2 _ _ (s1 _ _ hx)
    walk_at "rd"
    obtain ⟨rs, h1, h2, h3⟩ := hT.fz (Fz.of s2)
    have ntx : ∀ p xs, H2 p = some (.tup xs) → p ≠ x := by
      rintro p xs hp rfl
      rw [hx2] at hp
      cases hp
    refine k t _ ((SameX.of (s1.trans s2)).trans SameX.upd) upd_same ⟨rs, ?_, h2, fun i r row a b => ?_⟩
    · rw [upd_ne (ntx _ _ h1)]
      exact h1
    · rw [upd_ne (ntx _ _ (h3 i r row a b))]
      exact h3 i r row a b
theorem mkG_use {C : Addr} {H1 : Hp} {Q : VK} {E : XK} {vs : List V} (a : Addr) (M : Tab) (hv : vs = [.ref a]) (hL : LLAt H1 a M) (G : IsGrp M) (k : ∀ q H', Same H1 H' → GrpAt C H' q M → Q (.ref q) H') :
    ∀ x dx, H1 x = none → H1 dx = none → dx ≠ x → spGInit C (.ref x :: vs) (upd (upd H1 dx (.own x)) x (.ins C dx [])) (fun v H2 => v = .non ∧ Q (.ref x) H2) E := by
  intro x dx hx hdx hn
  subst hv
  have s : Same H1 (upd (upd H1 dx (.own x)) x (.ins C dx [])) := Same.mut (Same.new hdx) hx
  exact ⟨x, a, dx, M, rfl, upd_same, hL.same s, G, fun t H' s h1 h2 => ⟨rfl, k x H' (SameX.made hx hdx s) ⟨dx, t, h1, h2⟩⟩⟩
def spCyclic (C : Addr) : Sp := fun vs H Q _ => ∃ (n : Nat), vs = [nV n] ∧ 1 ≤ n ∧ n ≤ 7 ∧ ∀ q H', Same H H' → GrpAt C H' q (cycT n) → Q (.ref q) H'
theorem sc_cyclic : FnScope ["n", "x", "y"] ["n"] HD.d_cyclic.scope := ⟨rfl, rfl, rfl, by decide +kernel, rfl, by decide +kernel, by decide +kernel⟩
theorem ok_cyclic (T : Tx K mg) : Ok P w K mg base CX0 6 HD.d_cyclic ["n"] (spCyclic (CG K)) := by
  obtain ⟨t60, hMOST_ORDER⟩ := T.i_MOST_ORDER
  have G_Group_init : Ok P w K mg base CX0 4 _ _ _ := ok_ginit T
  have nd := sc_cyclic.nd
  refine Ok.mk0 T fn__cyclic rfl sc_cyclic (fun vs H Q E h => ?_) (fun _ _ _ _ _ _ us hl => match us, hl with | [_], _ => rfl) (fun cdv A outer s H vs Q E hr h => ?_)
  · obtain ⟨n, rfl, _⟩ := h
    rfl
  · obtain ⟨n, rfl, h1, h7, k⟩ := h
    refine ⟨_, pss_cons
          -- if n < 1 or n > MOST_ORDER:
          (ps_if (PW.pt (pw_or (pt_cmpR op_lt (pv 0) pe_int (nomark _)) (pw_or1 (pt_cmpR op_gt (pv 0) (pe_glob (v := .int 60) rfl hMOST_ORDER ⟨_, rfl⟩) (nomark _))))) (pss_one
            -- raise Refused('order')
            (ps_never)) (pss_nil))
         (pss_one
          -- return Group([[(x + y) % n for y in range(n)] for x in range(n)])
          (ps_ret (pe_mk G_Group_init (hr.mono (by decide)) T.mk_Group T.g_Group pass0 (pa_cons (pe_lc (own := [("x", 1)]) (g := gName 1) (tt := tYes) (by rfl) nd (pi_range1 (by rfl) T.b_range (pa_cons (pv 0) pa_nil)) (blkOk_by (own := [("x", 1)]) (N := ["n", "x", "y"]) (sc := HD.d_cyclic.scope) (by decide +kernel)) (fun _ _ _ _ _ => (pg_name (i := 1) nd rfl (.inr rfl))) (fun _ _ _ _ _ => pts_nil) (fun _ _ _ _ _ => (pe_lc (own := [("y", 2)]) (g := gName 2) (tt := tYes) (by rfl) nd (pi_range1 (by rfl) T.b_range (pa_cons (pv 0) pa_nil)) (blkOk_by (own := [("y", 2)]) (N := ["n", "x", "y"]) (sc := (relS ({ kind := ScopeKind.function, names := [(Str.ofString ".0", NameKind.local), (Str.ofString "x", NameKind.cell), (Str.ofString "range", NameKind.globalImplicit), (Str.ofString "n", NameKind.free)], isGenerator := false, isCoroutine := false } : Scope) HD.d_cyclic.scope)) (by decide +kernel)) (fun _ _ _ _ _ => (pg_name (i := 2) nd rfl (.inl rfl))) (fun _ _ _ _ _ => pts_nil) (fun _ _ _ _ _ => (pe_op op_mod (pe_op op_add (pv 1) (pv 2)) (pv 0)))))) pa_nil)))), ?_⟩
    try dsimp only [cxOf, Cx.wish]
    walk_at "rd"
    refine if_d (fun z => absurd z (by omega)) (fun _ => ?_)
    walk_at "rd"
    refine if_d (fun z => absurd z (by omega)) (fun _ => ?_)
    walk_at "rd"
    have w1 : Walk (Itr 0 ((n : Nat) : Int).toNat) n (fun _ => True) (YFn nV) := walk_range.mono (fun _ _ => trivial) fun i H x H' _ _ y => ⟨y.1, by rw [y.2]; show V.int ((0 : Int) + (i : Int)) = V.int (i : Int); rw [Int.zero_add]⟩
    refine lcj_lists (n := n) (f := fun x => natsV ((List.range n).map fun y => (x + y) % n)) (xv := nV) (by omega) (fun x => rfl) w1 (fun _ _ => trivial) (fun x H5 hx s5 Q' q => ?_) (fun D2 H5 bs hD2 s5 hl5 hbl hL5 => ?_)
    · walk_at "rd"
      refine lcj_range n (fun y v H => v = nV ((x + y) % n)) (fun i v => fm_eq _ _) (by omega) (fun x => rfl) (fun y H6 hy s6 Q2 q2 => ?_) (fun D H6 ys hD s6 hl6 hyl hR => ?_)
      · walk_at "rd"
        exact q2 _ H6 (Same.refl _) rfl
      · refine q D H6 hD s6 ?_
        rw [hl6, list_eq_map hyl hR, range_nats]
    · walk_at "rd"
      exact mkG_use D2 (cycT n) rfl (LstsAt.ll hl5 hbl hL5) (cyc_grp h1 h7) (fun q H' s h => k q H' (s5.trans s) h)
end
end L2.KL
set_option Elab.async false
set_option linter.all false
set_option maxRecDepth 100000
set_option maxHeartbeats 4000000
namespace L2.KL
open PySem PySem.Spec PyProof.Rows
local macro_rules | `(tactic| walk_at "hp") => `(tactic| first
  | assumption)
local macro_rules | `(tactic| walk_at "cl") => `(tactic| first
  | (with_reducible rfl)
  | ((with_reducible show (_ : Int) < _); first | omega | (simp only [List.length_map]; omega))
  | ((with_reducible show (_ : Int) ≤ _); first | omega | (simp only [List.length_map]; omega))
  | assumption
  | (with_reducible exact nk_group (by decide +kernel))
  | (apply tyL; walk_at "hp")
  | (apply sz_nat; simp only [List.length_map, List.length_append, List.length_cons, List.length_nil]; omega))
local macro_rules | `(tactic| walk_at "r1") => `(tactic| first
  | (with_reducible refine rd_seq ?_)
  | ((with_reducible apply rd_var); (· exact rfl))
  | (with_reducible refine rd_c ?_)
  | (with_reducible refine rd_op ?_)
  | (with_reducible refine rd_cb ?_)
  | (with_reducible refine rd_cons ?_)
  | (with_reducible refine rd_nil ?_)
  | (with_reducible refine rd_meth ?_)
  | (with_reducible refine rd_lst ?_)
  | (with_reducible refine rd_asg ?_)
  | (with_reducible refine rd_name ?_)
  | (with_reducible refine rd_ret ?_)
  | (with_reducible refine rd_drop ?_)
  | (with_reducible refine rd_if ?_)
  | (with_reducible refine rd_test ?_)
  | (with_reducible refine rd_bm ?_)
  | (with_reducible refine rd_next ?_)
  | (with_reducible refine rd_I0 ?_)
  | ((with_reducible apply rd_I); (· first | assumption | (dsimp only; omega) | omega | (unfold CMul; omega) | (unfold CDiv; omega)))
  | (with_reducible refine rd_for ?_)
  | (with_reducible refine rd_iRng1 ?_)
  | ((with_reducible apply rd_append); (· walk_at "hp"); (· simp only [List.length_map, List.length_append, List.length_cons, List.length_nil]; omega))
  | (with_reducible refine rd_make ?_)
  | (with_reducible apply Exists.intro)
  | ((with_reducible refine And.intro ?_ ?_); (· walk_at "cl")))
local macro_rules | `(tactic| walk_at "at") => `(tactic| fail)
local macro_rules | `(tactic| walk_at "rd") => `(tactic| ((repeat walk_at "r1"); (try dsimp only [List.set])))
theorem snoc_refs (bs : List Addr) (b : Addr) : refsV bs ++ [V.ref b] = refsV (bs ++ [b]) := by
  show _ = (bs ++ [b]).map V.ref
  rw [List.map_append]
  rfl
theorem snoc_nats (xs : List Nat) (x : Nat) : natsV xs ++ [nV x] = natsV (xs ++ [x]) := by
  show _ = (xs ++ [x]).map nV
  rw [List.map_append]
  rfl
theorem map_range_succ (f : Nat → Nat) (n : Nat) : (List.range (n + 1)).map f = (List.range n).map f ++ [f n] := by
  rw [List.range_succ, List.map_append]
  rfl
theorem LstsAt.snoc {H : Hp} {bs : List Addr} {f : Nat → List V} {b : Addr} (h : LstsAt H bs f) (hb : H b = some (.lst (f bs.length))) : LstsAt H (bs ++ [b]) f := by
  intro i c hc
  by_cases hi : i < bs.length
  · rw [List.getElem?_append_left hi] at hc
    exact h i c hc
  · rw [List.getElem?_append_right (by omega)] at hc
    have hl := (List.getElem?_eq_some_iff.mp hc).1
    simp at hl
    have e0 : i - bs.length = 0 := by omega
    rw [e0] at hc
    have e1 : b = c := by simpa using hc
    have e2 : i = bs.length := by omega
    rw [← e1, e2]
    exact hb
theorem LstsAt.same {H H' : Hp} {bs : List Addr} {f : Nat → List V} (s : Same H H') (h : LstsAt H bs f) : LstsAt H' bs f := fun i b hb => s _ _ (h i b hb)
theorem rd_lenG {C : Addr} {H : Hp} {a : Addr} {M : Tab} {Q : VK} {E : XK} (h : GrpAt C H a M) (hM : M.length ≤ 100000) (k : ∀ H', Same H H' → Q (nV M.length) H') : rLenO C (spLenG C) E [.ref a] H Q := by
  obtain ⟨dx, t, h1, h2⟩ := id h
  exact ⟨a, dx, _, rfl, h1, a, M, rfl, h, fun H' s => ⟨_, rfl, ⟨by omega, by omega⟩, k H' s⟩⟩
theorem rd_eqG {C : Addr} {H : Hp} {a b : Addr} {M N : Tab} {Q : VK} {E : XK} (h : GrpAt C H a M) (g : GrpAt C H b N) (k : ∀ H', Same H H' → Q (.bl (decide (M = N))) H') : rEqO C (spEqG C) E (.ref a) (.ref b) H Q := by
  obtain ⟨dx, t, h1, h2⟩ := id h
  obtain ⟨dy, u, g1, g2⟩ := id g
  exact ⟨a, b, dx, dy, _, _, rfl, rfl, h1, g1, a, b, M, N, rfl, h, g, fun H' s => ⟨_, rfl, k H' s⟩⟩
section
variable {P : Program} {w : World} {K : PySem.W.Frag} {mg : Str → Option Value} {base : Heap}
def spDirect (C : Addr) : Sp := fun vs H Q _ => ∃ (a b : Addr) (A B : Tab), vs = [.ref a, .ref b] ∧ GrpAt C H a A ∧ GrpAt C H b B ∧ Sq A ∧ Sq B ∧ 1 ≤ B.length ∧ A.length ≤ 60 ∧ B.length ≤ 60 ∧ A.length * B.length ≤ 60 ∧ IsGrp (dirT A B) ∧ ∀ q H', Same H H' → GrpAt C H' q (dirT A B) → Q (.ref q) H'
theorem sc_direct : FnScope ["a", "b", "many", "size", "rows", "x", "row", "y"] ["a", "b"] HD.d_direct.scope := ⟨rfl, rfl, rfl, by decide +kernel, rfl, by decide +kernel, by decide +kernel⟩
theorem ok_direct (T : Tx K mg) : Ok P w K mg base CX0 6 HD.d_direct ["a", "b"] (spDirect (CG K)) := by
  obtain ⟨t60, hMOST_ORDER⟩ := T.i_MOST_ORDER
  have c1 := T.c_Group
  have G_Group_init : Ok P w K mg base CX0 4 _ _ _ := ok_ginit T
  have G_Group_len : Ok P w K mg base CX0 1 _ _ _ := ok_lenG T
  have G_Group_product : Ok P w K mg base CX0 1 _ _ _ := ok_prod T
  have nd := sc_direct.nd
  refine Ok.mk0 T fn__direct rfl sc_direct (fun vs H Q E h => ?_) (fun _ _ _ _ _ _ us hl => match us, hl with | [_, _], _ => rfl) (fun cdv A outer s H vs Q E hr h => ?_)
  · obtain ⟨a, b, A, B, rfl, _⟩ := h
    rfl
  · obtain ⟨a, b, A, B, rfl, ha, hb, SA, SB, hB1, hA60, hB60, hAB, G, k⟩ := h
    obtain ⟨dxa, ta, ia, Ta⟩ := id ha
    obtain ⟨dxb, tb, ib, Tb⟩ := id hb
    have cw : CMulW (A.length : Int) (B.length : Int) := cmw (a := 10) (b := 10) (by rw [Int.natAbs_natCast]; exact lb_small (by omega)) (by rw [Int.natAbs_natCast]; exact lb_small (by omega)) (by omega) (by omega) (by omega)
    obtain ⟨N, hN⟩ : ∃ N, N = A.length * B.length := ⟨_, rfl⟩
    have hNi : (A.length : Int) * (B.length : Int) = (N : Int) := by rw [hN]; push_cast; rfl
    have hN60 : N ≤ 60 := by omega
    refine ⟨_, pss_cons
          -- many = len(b)
          (ps_set (i := 2) nd rfl (.inl rfl) (pe_callB (call_lenK G_Group_len T.me_Group_len (hr.mono (by decide)) pass0) (by rfl) T.b_len (by decide +kernel) (pa_cons (pv 1) pa_nil)))
         (pss_cons
          -- size = len(a) * many
          (ps_set (i := 3) nd rfl (.inl rfl) (pe_op op_mulW (pe_callB (call_lenK G_Group_len T.me_Group_len (hr.mono (by decide)) pass0) (by rfl) T.b_len (by decide +kernel) (pa_cons (pv 0) pa_nil)) (pv 2)))
         (pss_cons
          -- if size > MOST_ORDER:
          (ps_if (pt_cmpR op_gt (pv 3) (pe_glob (v := .int 60) rfl hMOST_ORDER ⟨_, rfl⟩) (nomark _)) (pss_one
            -- raise Refused('order')
            (ps_never)) (pss_nil))
         (pss_cons
          -- rows = []
          (ps_set (i := 4) nd rfl (.inl rfl) (pe_lst pa_nil))
         (pss_cons
          -- for x in range(size):
          (ps_for PassesOwn.never rfl (pi_range1 (by rfl) T.b_range (pa_cons (pv 3) pa_nil)) (pg_name (i := 5) nd rfl (.inl rfl)) (pss_cons
            -- row = []
            (ps_set (i := 6) nd rfl (.inl rfl) (pe_lst pa_nil))
           (pss_cons
            -- for y in range(size):
            (ps_for PassesOwn.never rfl (pi_range1 (by rfl) T.b_range (pa_cons (pv 3) pa_nil)) (pg_name (i := 7) nd rfl (.inl rfl)) (pss_one
              -- row.append(a.product(x // many, y // many) * many + b.product(x % many, y % many))
              (ps_expr (pe_bm PySem.F.plainAttrs_list PySem.F.slot_list_append PySem.F.type_list_append mt_append (pv 6) (pa_cons (pe_op op_add (pe_op op_mulW (pe_m (pv 0) T.c_Group (G_Group_product) T.me_Group_product (hr.mono (by decide)) pass0 (pa_cons (pe_op op_fdiv (pv 5) (pv 2)) (pa_cons (pe_op op_fdiv (pv 7) (pv 2)) pa_nil))) (pv 2)) (pe_m (pv 1) T.c_Group (G_Group_product) T.me_Group_product (hr.mono (by decide)) pass0 (pa_cons (pe_op op_mod (pv 5) (pv 2)) (pa_cons (pe_op op_mod (pv 7) (pv 2)) pa_nil)))) pa_nil)))))
           (pss_one
            -- rows.append(row)
            (ps_expr (pe_bm PySem.F.plainAttrs_list PySem.F.slot_list_append PySem.F.type_list_append mt_append (pv 4) (pa_cons (pv 6) pa_nil)))))))
         (pss_one
          -- return Group(rows)
          (ps_ret (pe_mk G_Group_init (hr.mono (by decide)) T.mk_Group T.g_Group pass0 (pa_cons (pv 4) pa_nil)))))))), ?_⟩
    try dsimp only [cxOf, Cx.wish]
    walk_at "rd"
    refine rd_lenG hb (by omega) fun H1 s1 => ?_
    walk_at "rd"
    refine rd_lenG (ha.fz (Fz.of s1)) (by omega) fun H2 s2 => ?_
    walk_at "rd"
    rw [hNi]
    refine if_d (fun z => absurd z (by omega)) (fun _ => ?_)
    walk_at "rd"
    intro l hl
    have s02 := s1.trans s2
    have hl0 := none_of s02 hl
    walk_at "rd"
    refine fj_range N (fun i σ H' => Same H H' ∧ ∃ (bs : List Addr) (v5 v6 v7 : Option V), σ = [some (.ref a), some (.ref b), some (nV B.length), some (nV N), some (.ref l), v5, v6, v7] ∧ H' l = some (.lst (refsV bs)) ∧ bs.length = i ∧ (∀ c ∈ bs, c ≠ l) ∧
        LstsAt H' bs (fun x => natsV ((List.range N).map fun y => tm A (x / B.length) (y / B.length) * B.length + tm B (x % B.length) (y % B.length))))
      ⟨s02.trans (Same.new hl), [], none, none, none, rfl, upd_same, rfl, (fun c hc => absurd hc List.not_mem_nil), (fun i c hc => by simp at hc)⟩ ?_ ?_
    · rintro x σ H3 hx ⟨s3, bs, v5, v6, v7, rfl, hl3, hbl, hbn, hbs⟩
      walk_at "rd"
      intro r hr
      walk_at "rd"
      have hrl : r ≠ l := by
        rintro rfl
        rw [hl3] at hr
        cases hr
      have hr0 := none_of s3 hr
      refine fj_range N (fun y σ H' => Same H3 H' ∧ H' r = some (.lst (natsV ((List.range y).map fun y => tm A (x / B.length) (y / B.length) * B.length + tm B (x % B.length) (y % B.length)))) ∧ ∃ v7, σ = [some (.ref a), some (.ref b), some (nV B.length), some (nV N), some (.ref l), some (nV x), some (.ref r), v7])
        ⟨Same.new hr, upd_same, _, rfl⟩ ?_ ?_
      · rintro y σ H4 hy ⟨s4, hr4, v7, rfl⟩
        have s04 := s3.trans s4
        have ia4 := s04 _ _ ia
        have ib4 := s04 _ _ ib
        have hxA : x / B.length < A.length := Nat.div_lt_of_lt_mul (by rw [Nat.mul_comm, ← hN]; exact hx)
        have hyA : y / B.length < A.length := Nat.div_lt_of_lt_mul (by rw [Nat.mul_comm, ← hN]; exact hy)
        have hxB : x % B.length < B.length := Nat.mod_lt _ (by omega)
        have hyB : y % B.length < B.length := Nat.mod_lt _ (by omega)
        have wA := SA.row _ hxA
        have wB := SB.row _ hxB
        have lA := SA.lt _ _ hxA hyA
        walk_at "rd"
        refine ⟨a, A, x / B.length, y / B.length, rfl, ha.fz (Fz.of s04), hxA, by omega, fun H5 s5 => ?_⟩
        have cw2 : CMulW ((tm A (x / B.length) (y / B.length) : Nat) : Int) (B.length : Int) := cmw (a := 10) (b := 10) (by rw [Int.natAbs_natCast]; exact lb_small (by omega)) (by rw [Int.natAbs_natCast]; exact lb_small (by omega)) (by omega) (by omega) (by omega)
        have ib5 := s5 _ _ ib4
        walk_at "rd"
        refine ⟨b, B, x % B.length, y % B.length, rfl, hb.fz (Fz.of (s04.trans s5)), hxB, by omega, fun H6 s6 => ?_⟩
        have hr6 := s6 _ _ (s5 _ _ hr4)
        walk_at "rd"
        refine rd_append hr6 (by rw [List.length_map, List.length_map, List.length_range]; omega) ?_
        have ev : V.int ((tm A (x / B.length) (y / B.length) : Nat) * (B.length : Int) + (tm B (x % B.length) (y % B.length) : Nat)) = nV (tm A (x / B.length) (y / B.length) * B.length + tm B (x % B.length) (y % B.length)) := by
          show _ = V.int _
          push_cast
          rfl
        rw [ev, snoc_nats]
        refine at_i ⟨Same.mut ((s4.trans s5).trans s6) hr, ?_, _, rfl⟩
        rw [map_range_succ]
        exact upd_same
      · rintro σ H4 ⟨s4, hr4, v7, rfl⟩
        have hl4 := s4 _ _ hl3
        walk_at "rd"
        rw [snoc_refs]
        have hbs4 := hbs.same s4
        have hrest : ∀ c, c ≠ l → upd H4 l (.lst (refsV (bs ++ [r]))) c = H4 c := fun c hc => upd_ne hc
        refine at_i ⟨Same.mut (s3.trans s4) hl0, bs ++ [r], _, _, _, rfl, upd_same, by rw [List.length_append, hbl]; rfl, ?_, ?_⟩
        · intro c hc
          rcases List.mem_append.mp hc with h | h
          · exact hbn c h
          · have : c = r := by simpa using h
            rw [this]
            exact hrl
        · have hb2 : LstsAt (upd H4 l (.lst (refsV (bs ++ [r])))) bs (fun x => natsV ((List.range N).map fun y => tm A (x / B.length) (y / B.length) * B.length + tm B (x % B.length) (y % B.length))) := fun i c hc => by
            rw [hrest c (hbn c (List.mem_of_getElem? hc))]
            exact hbs4 i c hc
          refine hb2.snoc ?_
          rw [hrest r hrl, hr4, hbl]
    · rintro σ H3 ⟨s3, bs, v5, v6, v7, rfl, hl3, hbl, hbn, hbs⟩
      walk_at "rd"
      refine mkG_use l (dirT A B) rfl ?_ G (fun q H' s h => k q H' (s3.trans s) h)
      unfold dirT
      rw [← hN]
      exact LstsAt.ll hl3 hbl hbs
end
end L2.KL
set_option Elab.async false
set_option linter.all false
set_option maxRecDepth 100000
set_option maxHeartbeats 4000000
namespace L2.KL
open PySem PySem.Spec PyProof.Rows PySem.W
/-! sorted() of data -/
def NL (d : PyData) : Prop := ∀ (h : Heap) (v : Value) (as : List Addr), Reads h v d as → as = []
theorem nl_int (i : Int) : NL (.int i) := fun h v as r => by cases r; rfl
theorem nl_all : ∀ (ds : List PyData), (∀ d ∈ ds, NL d) → ∀ (h : Heap) (vs : List Value) (as : List Addr), ReadsAll h vs ds as → as = []
  | [], _, _, _, _, r => by cases r; rfl
  | d :: ds, hd, h, _, _, r => by
    cases r with
    | cons h1 h2 =>
      rw [hd d (.head _) _ _ _ h1, nl_all ds (fun d h => hd d (.tail _ h)) _ _ _ h2]
      rfl
theorem nl_tup {ds : List PyData} (hd : ∀ d ∈ ds, NL d) : NL (.tuple ds) := fun h v as r => by
  cases r with
  | tuple h1 h2 h3 h4 => exact nl_all ds hd _ _ _ h4
theorem nl_ints (xs : List Int) : NL (.tuple (dI xs)) := nl_tup fun d hd => by
  obtain ⟨x, _, rfl⟩ := List.mem_map.mp hd
  exact nl_int x
theorem each_of_vals : ∀ (bs : List (V × PyData)) (us : List Value), Vals (bs.map (·.1)) us → EachIs (fun v (b : V × PyData) => RelV b.1 v) us bs
  | [], _, r => by cases r; exact .nil
  | b :: bs, _, r => by
    cases r with
    | cons h t => exact .cons h (each_of_vals bs _ t)
theorem vals_of_each : ∀ (bs : List (V × PyData)) (us : List Value), EachIs (fun v (b : V × PyData) => RelV b.1 v) us bs → Vals (bs.map (·.1)) us
  | [], _, e => by cases e; exact .nil
  | b :: bs, _, e => by
    cases e with
    | cons h t => exact .cons h (vals_of_each bs _ t)
theorem each_len {α β : Type} {R : α → β → Prop} : ∀ {as : List α} {bs : List β}, EachIs R as bs → as.length = bs.length
  | _, _, .nil => rfl
  | _, _, .cons _ t => congrArg Nat.succ (each_len t)
section
variable {X : Cx} {pins : List (Addr × Obj)} {σ : St} {H : Hp} {s : Shared}
theorem reads_of (I : Inv X pins σ H s) : ∀ (bs : List (V × PyData)) (us : List Value), Vals (bs.map (·.1)) us → (∀ b ∈ bs, Dp X.K H b.1 b.2) → EachIs (fun v (b : V × PyData) => ∃ as, Reads s.heap v b.2 as) us bs
  | [], _, r, _ => by cases r; exact .nil
  | b :: bs, _, r, h => by
    cases r with
    | cons h1 t => exact .cons (Dp.reads I b.2 b.1 _ (h b (.head _)) h1) (reads_of I bs _ t fun b hb => h b (.tail _ hb))
theorem each_push {h : Heap} {o : Obj} : ∀ (bs : List (V × PyData)) (us : List Value), (∀ b ∈ bs, NL b.2) → EachIs (fun v (b : V × PyData) => ∃ as, Reads h v b.2 as) us bs → EachIs (fun v (b : V × PyData) => ∃ as, Reads (h.push o) v b.2 as ∧ h.objs.size ∉ as) us bs
  | [], _, _, e => by cases e; exact .nil
  | b :: bs, _, hn, e => by
    cases e with
    | cons h1 t =>
      obtain ⟨as, r⟩ := h1
      have e0 := hn b (.head _) _ _ _ r
      subst e0
      exact .cons ⟨[], PyProof.Rows.Reads.keeps (fun _ _ q => Heap.get?_push_of_some _ q) r, by simp⟩ (each_push bs _ (fun b hb => hn b (.tail _ hb)) t)
/-- what the data must be -/
structure SortOk (ds : List PyData) : Prop where
  al : AllAlike ds
  so : Sortable ds
  nl : ∀ d ∈ ds, NL d
  dp : ∀ d ∈ ds, d.depth ≤ 4
def srtD (bs : List (V × PyData)) : List (V × PyData) := bs.mergeSort (dataLe false (·.2))
theorem srtD_len (bs : List (V × PyData)) : (srtD bs).length = bs.length := List.length_mergeSort _
/-- sorted(xs): a list of data -/
def rSortDL (K : PySem.W.Frag) : List V → Hp → VK → Prop := fun vs H Q => ∃ (a : Addr) (bs : List (V × PyData)), vs = [V.ref a] ∧ SqL K H a (bs.map (·.1)) ∧ (∀ b ∈ bs, Dp K H b.1 b.2) ∧ SortOk (bs.map (·.2)) ∧ bs.length ≤ 100000 ∧
  ∀ p, H p = none → Q (.ref p) (upd H p (.lst ((srtD bs).map (·.1))))
theorem cr_sortedDL (hu : X.A.units + 64 < cLine) : CallR X (.builtin "sorted") (rSortDL X.K) := by
  intro pins s σ H vs us Q I r h
  obtain ⟨a, bs, rfl, hs, hd, ok, hl5, q⟩ := h
  obtain ⟨its, rv, hl, hz⟩ := I.list hs
  rw [Vals.ref1 r]
  have hL : bs.length ≤ sizeLine := by rw [sizeLine_eq]; omega
  refine sorted_data (enc := fun b : V × PyData => b.2) (R := fun v (b : V × PyData) => RelV b.1 v) hl.isList (each_of_vals bs its rv) (reads_of I bs its rv hd) ok.al ok.so hL (fun b hb => ?_) fun out ho eo => ?_
  · have := ok.dp b.2 (List.mem_map.mpr ⟨b, hb, rfl⟩)
    omega
  · obtain ⟨ep, he'⟩ := PyProof.Rows.sortedAll_at s.heap its out.toArray
    have hlen : ((srtD bs).map (·.1)).length ≤ sizeLine := by rw [List.length_map, srtD_len]; exact hL
    exact ⟨.ref _, upd H (s.heap.objs.size + 1) (.lst ((srtD bs).map (·.1))), I.laid (t' := s.toks) (fun _ _ => PyProof.Rows.sortedAll_old) (Nat.le_succ _) ⟨hlen, out, ep, vals_of_each _ _ eo, he'⟩, rfl, q _ (I.hok.fresh (Nat.le_succ _))⟩
/-- sorted(t): a tuple of ints -/
def rSortTI (K : PySem.W.Frag) : List V → Hp → VK → Prop := fun vs H Q => ∃ (a : Addr) (ns : List Int), vs = [V.ref a] ∧ SqT K H a (intsV ns) ∧ ns.length < 64 ∧
  ∀ (ns' : List Int) (p : Addr), ns'.Perm ns → ns'.Pairwise (· ≤ ·) → H p = none → Q (.ref p) (upd H p (.lst (intsV ns')))
theorem cr_sortedU : CallR X (.builtin "sorted") (rSortTI X.K) := by
  intro pins s σ H vs us Q I r h
  obtain ⟨a, ns, rfl, hs, h64, q⟩ := h
  obtain ⟨its, rv, ⟨o, ho, hoc, n, hod⟩, hz⟩ := I.tuple hs
  rw [Vals.ref1 r]
  have hS : IntsAre its ns := rv.ints
  have hil : its.length = ns.length := hS.length
  refine Calls.call_function_entry PyProof.Rows.kind_sorted PyProof.Rows.plain_sorted PyProof.Rows.entry_sorted (PyProof.Rows.args_sorted1 _) ?_
  unfold Builtin.«sorted»
  refine wpAny_bind (m := checkCount "sorted" 1 1 _) (wpAny_pure ?_)
  refine wpAny_bind (wpAny_collect_seq a (.inr rfl) ho hoc hod (fun h' hk => ?_) (by rw [List.size_toArray, hil, sizeLine_eq]; omega))
  have I1 : Inv X pins σ H { s with heap := h' } := I.kept (t' := s.toks) hk
  refine wpAny_bind (wpAny_newList ?_ (by show its.length ≤ _; rw [hil, sizeLine_eq]; omega))
  have hoL : (h'.push (seqObj "list" its.toArray 0)).get? h'.objs.size = some (seqObj "list" its.toArray 0) := Heap.get?_push_size _ rfl
  show wpAny _ _ _ _ _ { s with heap := h'.push (seqObj "list" its.toArray 0) }
  refine wpAny_bind (wpAny_holding (wpAny_call_entry PyProof.Rows.slot_list_sort ⟨_, hoL, rfl⟩ PyProof.Rows.entry_list_sort
    (PyProof.Rows.list_sort_tree (s := { s with heap := h'.push (seqObj "list" its.toArray 0) }) hoL hS (by rw [hil]; exact h64) fun out ys g1 g2 g3 => ⟨_, rfl, ?_⟩) (PyProof.Rows.args_list_sort _)))
  obtain ⟨e', he'⟩ := PyProof.Rows.sortedHeap_at (vs := its) (out := out) hoL
  have hlen : (ys.map V.int).length ≤ sizeLine := by
    rw [List.length_map, g2.length_eq]
    exact Nat.le_trans (Nat.le_of_lt h64) (by decide)
  refine wpAny_pure ⟨_, rfl, .ref h'.objs.size, upd H h'.objs.size (.lst (ys.map V.int)), I1.laid (t' := s.toks) (fun b u e => ?_) (Nat.le_refl _)
    (show ObjOk X.prog X.w _ _ _ (.lst (ys.map V.int)) from ⟨hlen, out.toList, e', vals_of_ints g1, by rw [Array.toArray_toList]; exact he'⟩), rfl, q ys _ g2 g3 (I1.hok.fresh (Nat.le_refl _))⟩
  have hb : b < h'.objs.size := Heap.lt_size e
  rw [PyProof.Rows.sortedHeap_old (Nat.ne_of_lt hb) (by rw [size_push']; exact Nat.lt_succ_of_lt hb)]
  exact Heap.get?_push_of_some _ e
/-- sorted(d): a dict with tuples of ints for keys -/
def rSortDT (K : PySem.W.Frag) : List V → Hp → VK → Prop := fun vs H Q => ∃ (d : Addr) (kvs : List (List Key × V)) (ks : List (List Int)), vs = [V.ref d] ∧ H d = some (.dT kvs) ∧ kvs.map (·.1) = ks.map (fun k => k.map Sum.inl) ∧ SortOk (ks.map fun k => .tuple (dI k)) ∧ ks.length ≤ 100000 ∧
  ∀ p (bs : List Addr), H p = none → IsKeys H kvs bs → Q (.ref p) (upd H p (.lst ((srtD ((bs.zip ks).map fun q => (V.ref q.1, PyData.tuple (dI q.2)))).map (·.1))))
theorem isKeys_get : ∀ {kvs : List (List Key × V)} {bs : List Addr}, IsKeys H kvs bs → bs.length = kvs.length ∧ ∀ (i : Nat) b p, bs[i]? = some b → kvs[i]? = some p → H b = some (.tup (p.1.map kV)) := by
  intro kvs bs h
  unfold IsKeys at h
  induction h with
  | nil => exact ⟨rfl, fun i b p h => by simp at h⟩
  | cons h1 t ih =>
    refine ⟨congrArg Nat.succ ih.1, fun i b p h2 h3 => ?_⟩
    cases i with
    | zero =>
      cases h2
      cases h3
      exact h1
    | succ i => exact ih.2 i b p (by simpa using h2) (by simpa using h3)
theorem cr_sortedDT (hc : X.calm = true) (hu : X.A.units + 64 < cLine) : CallR X (.builtin "sorted") (rSortDT X.K) := by
  intro pins s σ H vs us Q I r h
  obtain ⟨d, kvs, kl, rfl, hd, hkl, ok, hl5, q⟩ := h
  rw [Vals.ref1 r]
  obtain ⟨z, hs, ks, pr, o, es, ep, ho, hx, hdt, he, hn⟩ := dt_of I.hok hd
  have l1 : es.size = ks.length := size_of_entries he
  have l2 : kvs.length = ks.length := Paired.length pr
  have l3 : kvs.length = kl.length := by
    have e := congrArg List.length hkl
    rw [List.length_map, List.length_map] at e
    exact e
  refine Calls.call_function_entry PyProof.Rows.kind_sorted PyProof.Rows.plain_sorted PyProof.Rows.entry_sorted (PyProof.Rows.args_sorted1 _) ?_
  unfold Builtin.«sorted»
  refine wpAny_bind (m := checkCount "sorted" 1 1 _) (wpAny_pure ?_)
  refine wpAny_bind (kdu_collect (A := X.A.in1) (kdl_raw hs hx hdt) (I.ok.hd hc) ho (by omega) fun h' tk acc' kp it => ?_)
  have ea : acc'.toList = ks.map fun x => Value.ref x.2.1 := by
    have hl : acc'.toList.length = ks.length := by rw [Array.length_toList, it.1]; exact l1
    apply List.ext_getElem?
    intro j
    rw [List.getElem?_map]
    cases hj : acc'.toList[j]? with
    | none =>
      have h1 := List.getElem?_eq_none_iff.mp hj
      rw [List.getElem?_eq_none (by omega)]
      all_goals rfl
    | some v =>
      obtain ⟨en, hen, hv⟩ := it.2 j v (by rw [← Array.getElem?_toList]; exact hj)
      have qe := entry_at he j
      rw [hen] at qe
      cases hb : ks[j]? with
      | none =>
        rw [hb] at qe
        exact nomatch (show some en = none from qe)
      | some b =>
        rw [hb] at qe
        have e2 : en = entryOfKey (tupleKind (mixKind X.prog X.w)) b := Option.some.inj qe
        rw [hv, e2]
        all_goals rfl
  have eb : acc'.toList = (ks.map fun x => x.2.1).map Value.ref := by rw [ea, List.map_map]; all_goals rfl
  have I1 : Inv X pins σ H { s with heap := h', toks := tk } := I.kept kp
  have ik := isKeys_of pr
  obtain ⟨k1, k2⟩ := isKeys_get ik
  generalize hba : (ks.map fun x => x.2.1) = ba at eb ik k1 k2
  have lz : (ba.zip kl).length = kl.length := by rw [List.length_zip]; omega
  have ev : ((ba.zip kl).map fun q => (V.ref q.1, PyData.tuple (dI q.2))).map (·.1) = ba.map V.ref := by
    rw [List.map_map]
    show (ba.zip kl).map (fun q => V.ref q.1) = _
    rw [show (fun q : Addr × List Int => V.ref q.1) = V.ref ∘ Prod.fst from rfl, ← List.map_map, List.map_fst_zip (by omega)]
  have e2 : ((ba.zip kl).map fun q => (V.ref q.1, PyData.tuple (dI q.2))).map (·.2) = kl.map fun k => PyData.tuple (dI k) := by
    rw [List.map_map]
    show (ba.zip kl).map (fun q => PyData.tuple (dI q.2)) = _
    rw [show (fun q : Addr × List Int => PyData.tuple (dI q.2)) = (fun k => PyData.tuple (dI k)) ∘ Prod.snd from rfl, ← List.map_map, List.map_snd_zip (by omega)]
  have rv : Vals (((ba.zip kl).map fun q => (V.ref q.1, PyData.tuple (dI q.2))).map (·.1)) acc'.toList := by rw [ev, eb]; exact vals_refs _
  have hdp : ∀ b ∈ ((ba.zip kl).map fun q => (V.ref q.1, PyData.tuple (dI q.2))), Dp X.K H b.1 b.2 := by
    intro b hb
    obtain ⟨q, hq, rfl⟩ := List.mem_map.mp hb
    obtain ⟨j, hj, ej⟩ := List.mem_iff_getElem.mp hq
    have e3 : (ba.zip kl)[j]? = some q := by rw [List.getElem?_eq_getElem hj, ej]
    obtain ⟨e4, e5⟩ := List.getElem?_zip_eq_some.mp e3
    have hjk : j < kvs.length := by
      have := (List.getElem?_eq_some_iff.mp e4).1
      omega
    have e6 := k2 j q.1 kvs[j] e4 (List.getElem?_eq_getElem hjk)
    have e7 : (kvs.map (·.1))[j]? = (kl.map fun k => k.map (Sum.inl : Int → Key))[j]? := by rw [hkl]
    rw [List.getElem?_map, List.getElem?_map, e5, List.getElem?_eq_getElem hjk] at e7
    have e8 : kvs[j].1 = q.2.map (Sum.inl : Int → Key) := by simpa using e7
    rw [e8, List.map_map] at e6
    exact dp_tup e6
  generalize hbs : ((ba.zip kl).map fun q => (V.ref q.1, PyData.tuple (dI q.2))) = bs at *
  have lbs : bs.length = kl.length := by rw [← hbs, List.length_map, lz]
  have hL : bs.length ≤ sizeLine := by rw [sizeLine_eq]; omega
  have hal : acc'.toList.length = bs.length := by
    have := rv.length
    rw [List.length_map] at this
    exact this.symm
  rw [← e2] at ok
  have er := reads_of I1 bs acc'.toList rv hdp
  refine wpAny_bind (wpAny_newList ?_ (by rw [hal]; exact hL))
  have hoL : (h'.push (seqObj "list" acc'.toList.toArray 0)).get? h'.objs.size = some (seqObj "list" acc'.toList.toArray 0) := Heap.get?_push_size _ rfl
  show wpAny _ _ _ _ _ { s with heap := h'.push (seqObj "list" acc'.toList.toArray 0), toks := tk }
  refine wpAny_bind (wpAny_holding (list_sort_data (s := { s with heap := h'.push (seqObj "list" acc'.toList.toArray 0), toks := tk }) (enc := fun b : V × PyData => b.2) (R := fun v (b : V × PyData) => RelV b.1 v) hoL (each_of_vals bs acc'.toList rv)
    (each_push bs _ (fun b hb => ok.nl b.2 (List.mem_map.mpr ⟨b, hb, rfl⟩)) er) ok.al ok.so hL (fun b hb => ?_) fun out ho2 eo => ?_))
  · have := ok.dp b.2 (List.mem_map.mpr ⟨b, hb, rfl⟩)
    show X.A.units + 1 + 1 + _ < _
    omega
  · obtain ⟨e', he'⟩ := PyProof.Rows.sortedHeap_at (vs := acc'.toList) (out := out.toArray) hoL
    have hlen : ((srtD bs).map (·.1)).length ≤ sizeLine := by rw [List.length_map, srtD_len]; exact hL
    refine wpAny_pure ⟨_, rfl, .ref h'.objs.size, upd H h'.objs.size (.lst ((srtD bs).map (·.1))), I1.laid (t' := tk) (fun b u e => ?_) (Nat.le_refl _)
      (show ObjOk X.prog X.w _ _ _ (.lst ((srtD bs).map (·.1))) from ⟨hlen, out, e', vals_of_each _ _ eo, he'⟩), rfl, ?_⟩
    · have hb : b < h'.objs.size := Heap.lt_size e
      rw [PyProof.Rows.sortedHeap_old (Nat.ne_of_lt hb) (by rw [size_push']; exact Nat.lt_succ_of_lt hb)]
      exact Heap.get?_push_of_some _ e
    · have := q h'.objs.size ba (I1.hok.fresh (Nat.le_refl _)) ik
      rw [hbs] at this
      exact this
end
end L2.KL
set_option Elab.async false
set_option linter.all false
set_option maxRecDepth 100000
set_option maxHeartbeats 4000000
namespace L2.KL
open PySem PySem.Spec PyProof.Rows
def fsP (t : Addr) : List (Str × V) := [("images", .ref t)]
theorem lk_images {t : Addr} : (fsP t).lookup ("images" : Str) = some (.ref t) := by
  unfold fsP
  rw [List.lookup_cons]
  rw [show (("images" : Str) == "images") = true by decide +kernel]
theorem nk_perm {t : Addr} {m : Str} (h : (m == ("images" : Str)) = false) : (fsP t).lookup m = none := by
  unfold fsP
  rw [List.lookup_cons, h]
  rfl
local macro_rules | `(tactic| walk_at "hp") => `(tactic| first
  | assumption
  | (with_reducible exact upd_same)
  | (apply upd_old; (· assumption); (· walk_at "hp")))
local macro_rules | `(tactic| walk_at "cl") => `(tactic| first
  | (with_reducible rfl)
  | assumption
  | (walk_at "hp")
  | (apply Or.inl; apply SqL.of; walk_at "hp")
  | (apply Or.inr; apply SqT.of; walk_at "hp")
  | (apply exL; walk_at "hp")
  | (apply exT; walk_at "hp")
  | (apply sz_nat; simp only [List.length_map, List.length_append, List.length_cons, List.length_nil]; omega)
  | ((with_reducible show RgOk _ _); unfold RgOk; first | omega | (simp only [List.length_map]; omega))
  | (exact (by decide : (0 : Nat) < 1000)))
local macro_rules | `(tactic| walk_at "r1") => `(tactic| first
  | (with_reducible refine rd_seq ?_)
  | ((with_reducible apply rd_var); (· exact rfl))
  | (with_reducible refine rd_c ?_)
  | (with_reducible refine rd_op ?_)
  | (with_reducible refine rd_cb ?_)
  | (with_reducible refine rd_cons ?_)
  | (with_reducible refine rd_nil ?_)
  | (with_reducible refine rd_call ?_)
  | (with_reducible refine rd_tup ?_)
  | (with_reducible refine rd_name ?_)
  | (with_reducible refine rd_if ?_)
  | (with_reducible refine rd_test ?_)
  | (with_reducible refine rd_B ?_)
  | (with_reducible refine rd_or ?_)
  | (with_reducible refine rd_not ?_)
  | (with_reducible refine rd_next ?_)
  | (with_reducible refine rd_sfld ?_)
  | (with_reducible refine rd_I0 ?_)
  | ((with_reducible apply rd_eq); (· exact rfl))
  | (with_reducible refine rd_for ?_)
  | (with_reducible refine rd_iList ?_)
  | (with_reducible refine rd_iTup ?_)
  | (with_reducible refine rd_listRg ?_)
  | (with_reducible refine iteNT ?_)
  | ((with_reducible apply isi_lt_lst); (· walk_at "hp"); (· walk_at "hp"))
  | ((with_reducible apply isi_lt_tup); (· walk_at "hp"); (· walk_at "hp"))
  | ((with_reducible apply or_tl); (· walk_at "hp"))
  | ((with_reducible apply or_tt); (· walk_at "hp"))
  | (with_reducible apply Exists.intro)
  | ((with_reducible refine And.intro ?_ ?_); (· walk_at "cl")))
local macro_rules | `(tactic| walk_at "at") => `(tactic| fail)
local macro_rules | `(tactic| walk_at "rd") => `(tactic| ((repeat walk_at "r1"); (try dsimp only [List.set])))
def PermAt (C : Addr) (H : Hp) (p : Addr) (xs : List Nat) : Prop := ∃ dx t, H p = some (.ins C dx (fsP t)) ∧ H t = some (.tup (natsV xs))
theorem PermAt.fz {C : Addr} {H H' : Hp} {p : Addr} {xs : List Nat} (s : Fz H H') (h : PermAt C H p xs) : PermAt C H' p xs := by
  obtain ⟨dx, t, h1, h2⟩ := h
  exact ⟨dx, t, s _ _ h1 rfl, s _ _ h2 rfl⟩
def LstOrTupN (H : Hp) (a : Addr) (xs : List Nat) : Prop := H a = some (.lst (natsV xs)) ∨ H a = some (.tup (natsV xs))
theorem sorted_range {n : Nat} {ns : List Int} {xs : List Nat} (hp : xs.Perm (List.range n)) (h1 : ns.Perm (xs.map fun k => ((k : Nat) : Int))) (h2 : ns.Pairwise (· ≤ ·)) : ns = (List.range n).map fun k => ((k : Nat) : Int) := by
  refine List.Perm.eq_of_pairwise (le := fun a b : Int => a ≤ b) (fun a b _ _ h h' => Int.le_antisymm h h') h2 ?_ (h1.trans (hp.map _))
  rw [List.pairwise_map]
  exact List.Pairwise.imp (fun h => by omega) List.pairwise_lt_range
section
variable {K : PySem.W.Frag} {H : Hp} {a : Addr} {Q : VK} {n : Nat} {xs : List Nat}
theorem rd_sortedL (h : H a = some (.lst (natsV xs))) (hp : xs.Perm (List.range n)) (hn : n < 64) (k : ∀ p, H p = none → Q (.ref p) (upd H p (.lst (natsV (List.range n))))) : rSorted K [.ref a] H Q := by
  rw [nats_ints] at h
  refine ⟨a, _, rfl, SqL.of h, by rw [List.length_map, hp.length_eq, List.length_range]; exact hn, fun ns' p h1 h2 hp0 => ?_⟩
  rw [sorted_range hp h1 h2]
  have := k p hp0
  rw [nats_ints] at this
  exact this
theorem rd_sortedT (h : H a = some (.tup (natsV xs))) (hp : xs.Perm (List.range n)) (hn : n < 64) (k : ∀ p, H p = none → Q (.ref p) (upd H p (.lst (natsV (List.range n))))) : rSortTI K [.ref a] H Q := by
  rw [nats_ints] at h
  refine ⟨a, _, rfl, SqT.of h, by rw [List.length_map, hp.length_eq, List.length_range]; exact hn, fun ns' p h1 h2 hp0 => ?_⟩
  rw [sorted_range hp h1 h2]
  have := k p hp0
  rw [nats_ints] at this
  exact this
end
section
variable {P : Program} {w : World} {K : PySem.W.Frag} {mg : Str → Option Value} {base : Heap}
def spPInit (C : Addr) : Sp := fun vs H Q _ => ∃ (x a dx : Addr) (n : Nat) (xs : List Nat), vs = [.ref x, .ref a] ∧ H x = some (.ins C dx []) ∧ LstOrTupN H a xs ∧ xs.Perm (List.range n) ∧ 1 ≤ n ∧ n ≤ 12 ∧
  ∀ t H', SameX x H H' → H' x = some (.ins C dx (fsP t)) → H' t = some (.tup (natsV xs)) → Q .non H'
theorem sc_Permutation_init : FnScope ["self", "images", "k"] ["self", "images"] HD.dPermutation_init.scope := ⟨rfl, rfl, rfl, by decide +kernel, rfl, by decide +kernel, by decide +kernel⟩
theorem ok_pinit (T : Tx K mg) : Ok P w K mg base CX0 2 HD.dPermutation_init ["self", "images"] (spPInit (CP K)) := by
  have c1 := T.c_Permutation
  have n1 := T.na_Permutation_images
  have G_pis_integer : Ok P w K mg base CX0 1 _ _ _ := ok_pisint T
  obtain ⟨t12, hMOST_POINTS⟩ := T.i_MOST_POINTS
  have nd := sc_Permutation_init.nd
  refine Ok.mk0 T fn_Permutation_init rfl sc_Permutation_init (fun vs H Q E h => ?_) (fun _ _ _ _ _ _ us hl => match us, hl with | [_, _], _ => rfl) (fun cdv A outer s H vs Q E hr h => ?_)
  · obtain ⟨x, a, dx, n, xs, rfl, _⟩ := h
    rfl
  · obtain ⟨x, a, dx, n, xs, rfl, hx, ha, hp, h1, h12, k⟩ := h
    have hxl : xs.length = n := by rw [hp.length_eq, List.length_range]
    rcases ha with ha | ha
    · refine ⟨_, pss_cons
          -- if not isinstance(images, (list, tuple)) or len(images) == 0:
          (ps_if (PW.pt (pw_or (pt_not (pt_val (pe_callB call_isiT (by rfl) T.b_isinstance (by decide +kernel) (pa_cons (pv 1) (pa_cons (pe_tup (pa_cons (pe_bltn (v := .ty "list") (by rfl) T.b_list (by decide +kernel) rfl) (pa_cons (pe_bltn (v := .ty "tuple") (by rfl) T.b_tuple (by decide +kernel) rfl) pa_nil))) pa_nil))))) (pw_or1 (pt_cmpR op_eq (pe_callB call_len_seq (by rfl) T.b_len (by decide +kernel) (pa_cons (pv 1) pa_nil)) pe_int (nomark _))))) (pss_one
            -- raise Malformed('images')
            (ps_never)) (pss_nil))
         (pss_cons
          -- for k in images:
          (ps_for PassesOwn.never rfl (pi_list (pv 1)) (pg_name (i := 2) nd rfl (.inl rfl)) (pss_one
            -- if not _is_integer(k):
            (ps_if (pt_not (pt_val (pe_f (G_pis_integer) (hr.mono (by decide)) T.g_pis_integer pass0 (pa_cons (pv 2) pa_nil)))) (pss_one
              -- raise Malformed('point')
              (ps_never)) (pss_nil))))
         (pss_cons
          -- if sorted(images) != list(range(len(images))):
          (ps_if (pt_cmpR (r := rNeD K) (op_neD hr.units) (pe_callB cr_sorted (by rfl) T.b_sorted (by decide +kernel) (pa_cons (pv 1) pa_nil)) (pe_listRg rfl (by rfl) T.b_list (prg_1 (by rfl) T.b_range (pe_callB call_len_seq (by rfl) T.b_len (by decide +kernel) (pa_cons (pv 1) pa_nil)))) (nomark _)) (pss_one
            -- raise Malformed('points')
            (ps_never)) (pss_nil))
         (pss_cons
          -- if len(images) > MOST_POINTS:
          (ps_if (pt_cmpR op_gt (pe_callB call_len_seq (by rfl) T.b_len (by decide +kernel) (pa_cons (pv 1) pa_nil)) (pe_glob (v := .int 12) rfl hMOST_POINTS ⟨_, rfl⟩) (nomark _)) (pss_one
            -- raise Refused('points')
            (ps_never)) (pss_nil))
         (pss_one
          -- self.images = tuple(images)
          (ps_fld (pv 0) (pe_callTy call_tuple_of (by rfl) T.b_tuple (by decide +kernel) (pa_cons (pv 1) pa_nil)) rfl))))), ?_⟩
      dsimp only [cxOf, Cx.wish]
      walk_at "rd"
      intro t1 ht1
      have ha1 := upd_old (u := .tup [.ty "list", .ty "tuple"]) ht1 ha
      have s01 : Same H (upd H t1 (.tup [.ty "list", .ty "tuple"])) := Same.new ht1
      walk_at "rd"
      refine if_eq (fun z => absurd z (by rw [List.length_map]; omega)) (fun _ => ?_)
      walk_at "rd"
      generalize upd H t1 (.tup [.ty "list", .ty "tuple"]) = H1 at ha1 s01 ⊢
      refine fj_list (xs := natsV xs) (fun i σ H' => Same H1 H' ∧ ∃ v, σ = [some (.ref x), some (.ref a), v]) ⟨Same.refl _, _, rfl⟩ (fun i σ H' _ z => SqL.of (z.1 _ _ ha1)) ?_ ?_
      · rintro i y σ H2 hy ⟨s2, v, rfl⟩
        obtain ⟨m, rfl, _⟩ := nats_get hy
        walk_at "rd"
        refine ⟨(m : Int), rfl, fun H3 s3 => ?_⟩
        walk_at "rd"
        exact at_i ⟨s2.trans s3, _, rfl⟩
      · rintro σ H2 ⟨s2, v, rfl⟩
        have ha2 := s2 _ _ ha1
        walk_at "rd"
        refine rd_sortedL ha2 hp (by omega) fun p2 hp2 => ?_
        have ha3 := upd_old (u := .lst (natsV (List.range n))) hp2 ha2
        walk_at "rd"
        intro p3 hp3
        walk_at "rd"
        rw [List.length_map, hxl, rgV_nat]
        refine rd_neNN (upd_old hp3 upd_same) upd_same ?_
        rw [decide_eq_true rfl]
        have ha4 := upd_old (u := .lst (natsV (List.range n))) hp3 ha3
        have s04 : Same H (upd (upd H2 p2 (.lst (natsV (List.range n)))) p3 (.lst (natsV (List.range n)))) := ((s01.trans s2).trans (Same.new hp2)).trans (Same.new hp3)
        walk_at "rd"
        refine if_d (fun z => absurd z (by rw [List.length_map]; omega)) (fun _ => ?_)
        generalize upd (upd H2 p2 (.lst (natsV (List.range n)))) p3 (.lst (natsV (List.range n))) = H4 at ha4 s04 ⊢
        have hx4 := s04 _ _ hx
        walk_at "rd"
        intro t ht
        walk_at "rd"
        have ntx : t ≠ x := by
          rintro rfl
          rw [hx4] at ht
          cases ht
        refine k t _ ((SameX.of (s04.trans (Same.new ht))).trans SameX.upd) upd_same ?_
        rw [upd_ne ntx, upd_same]
    · refine ⟨_, pss_cons
          -- if not isinstance(images, (list, tuple)) or len(images) == 0:
          (ps_if (PW.pt (pw_or (pt_not (pt_val (pe_callB call_isiT (by rfl) T.b_isinstance (by decide +kernel) (pa_cons (pv 1) (pa_cons (pe_tup (pa_cons (pe_bltn (v := .ty "list") (by rfl) T.b_list (by decide +kernel) rfl) (pa_cons (pe_bltn (v := .ty "tuple") (by rfl) T.b_tuple (by decide +kernel) rfl) pa_nil))) pa_nil))))) (pw_or1 (pt_cmpR op_eq (pe_callB call_len_seq (by rfl) T.b_len (by decide +kernel) (pa_cons (pv 1) pa_nil)) pe_int (nomark _))))) (pss_one
            -- raise Malformed('images')
            (ps_never)) (pss_nil))
         (pss_cons
          -- for k in images:
          (ps_for PassesOwn.never rfl (pi_tup (pv 1)) (pg_name (i := 2) nd rfl (.inl rfl)) (pss_one
            -- if not _is_integer(k):
            (ps_if (pt_not (pt_val (pe_f (G_pis_integer) (hr.mono (by decide)) T.g_pis_integer pass0 (pa_cons (pv 2) pa_nil)))) (pss_one
              -- raise Malformed('point')
              (ps_never)) (pss_nil))))
         (pss_cons
          -- if sorted(images) != list(range(len(images))):
          (ps_if (pt_cmpR (r := rNeD K) (op_neD hr.units) (pe_callB cr_sortedU (by rfl) T.b_sorted (by decide +kernel) (pa_cons (pv 1) pa_nil)) (pe_listRg rfl (by rfl) T.b_list (prg_1 (by rfl) T.b_range (pe_callB call_len_seq (by rfl) T.b_len (by decide +kernel) (pa_cons (pv 1) pa_nil)))) (nomark _)) (pss_one
            -- raise Malformed('points')
            (ps_never)) (pss_nil))
         (pss_cons
          -- if len(images) > MOST_POINTS:
          (ps_if (pt_cmpR op_gt (pe_callB call_len_seq (by rfl) T.b_len (by decide +kernel) (pa_cons (pv 1) pa_nil)) (pe_glob (v := .int 12) rfl hMOST_POINTS ⟨_, rfl⟩) (nomark _)) (pss_one
            -- raise Refused('points')
            (ps_never)) (pss_nil))
         (pss_one
          -- self.images = tuple(images)
          (ps_fld (pv 0) (pe_callTy call_tuple_of (by rfl) T.b_tuple (by decide +kernel) (pa_cons (pv 1) pa_nil)) rfl))))), ?_⟩
      dsimp only [cxOf, Cx.wish]
      walk_at "rd"
      intro t1 ht1
      have ha1 := upd_old (u := .tup [.ty "list", .ty "tuple"]) ht1 ha
      have s01 : Same H (upd H t1 (.tup [.ty "list", .ty "tuple"])) := Same.new ht1
      walk_at "rd"
      refine if_eq (fun z => absurd z (by rw [List.length_map]; omega)) (fun _ => ?_)
      walk_at "rd"
      generalize upd H t1 (.tup [.ty "list", .ty "tuple"]) = H1 at ha1 s01 ⊢
      refine fj_tup (xs := natsV xs) (fun i σ H' => Same H1 H' ∧ ∃ v, σ = [some (.ref x), some (.ref a), v]) ⟨Same.refl _, _, rfl⟩ (fun i σ H' _ z => SqT.of (z.1 _ _ ha1)) ?_ ?_
      · rintro i y σ H2 hy ⟨s2, v, rfl⟩
        obtain ⟨m, rfl, _⟩ := nats_get hy
        walk_at "rd"
        refine ⟨(m : Int), rfl, fun H3 s3 => ?_⟩
        walk_at "rd"
        exact at_i ⟨s2.trans s3, _, rfl⟩
      · rintro σ H2 ⟨s2, v, rfl⟩
        have ha2 := s2 _ _ ha1
        walk_at "rd"
        refine rd_sortedT ha2 hp (by omega) fun p2 hp2 => ?_
        have ha3 := upd_old (u := .lst (natsV (List.range n))) hp2 ha2
        walk_at "rd"
        intro p3 hp3
        walk_at "rd"
        rw [List.length_map, hxl, rgV_nat]
        refine rd_neNN (upd_old hp3 upd_same) upd_same ?_
        rw [decide_eq_true rfl]
        have ha4 := upd_old (u := .lst (natsV (List.range n))) hp3 ha3
        have s04 : Same H (upd (upd H2 p2 (.lst (natsV (List.range n)))) p3 (.lst (natsV (List.range n)))) := ((s01.trans s2).trans (Same.new hp2)).trans (Same.new hp3)
        walk_at "rd"
        refine if_d (fun z => absurd z (by rw [List.length_map]; omega)) (fun _ => ?_)
        generalize upd (upd H2 p2 (.lst (natsV (List.range n)))) p3 (.lst (natsV (List.range n))) = H4 at ha4 s04 ⊢
        have hx4 := s04 _ _ hx
        walk_at "rd"
        have nax : a ≠ x := by
          rintro rfl
          rw [hx4] at ha4
          cases ha4
        refine k a _ ((SameX.of s04).trans SameX.upd) upd_same ?_
        rw [upd_ne nax]
        exact ha4
end
end L2.KL
set_option Elab.async false
set_option linter.all false
set_option maxRecDepth 100000
set_option maxHeartbeats 4000000
namespace L2.KL
/-! ### permutations as lists -/
structure IsP (n : Nat) (p : List Nat) : Prop where
  len : p.length = n
  nd : p.Nodup
  lt : ∀ x ∈ p, x < n
theorem IsP.perm {n : Nat} {p : List Nat} (h : IsP n p) : p.Perm (List.range n) :=
  (List.perm_ext_iff_of_nodup h.nd List.nodup_range).mpr fun x => ⟨fun hx => List.mem_range.mpr (h.lt x hx), fun hx => nodup_full h.nd h.lt h.len (List.mem_range.mp hx)⟩
theorem IsP.of_perm {n : Nat} {p : List Nat} (h : p.Perm (List.range n)) : IsP n p :=
  ⟨by rw [h.length_eq, List.length_range], h.nodup_iff.mpr List.nodup_range, fun x hx => List.mem_range.mp (h.mem_iff.mp hx)⟩
theorem isP_id (n : Nat) : IsP n (List.range n) := .of_perm (List.Perm.refl _)
def mulP (p q : List Nat) : List Nat := q.map fun k => p.getD k 0
theorem getD_lt {p : List Nat} {i : Nat} (h : i < p.length) : p.getD i 0 ∈ p := by
  rw [List.getD_eq_getElem?_getD, List.getElem?_eq_getElem h]
  exact List.getElem_mem h
theorem nodup_inj {α : Type} {xs : List α} (nd : xs.Nodup) {i j : Nat} (hi : i < xs.length) (hj : j < xs.length) (e : xs[i] = xs[j]) : i = j := by
  rcases Nat.lt_trichotomy i j with h | h | h
  · exact absurd e (List.pairwise_iff_getElem.mp nd i j hi hj h)
  · exact h
  · exact absurd e.symm (List.pairwise_iff_getElem.mp nd j i hj hi h)
theorem getD_inj {p : List Nat} (nd : p.Nodup) {i j : Nat} (hi : i < p.length) (hj : j < p.length) (h : p.getD i 0 = p.getD j 0) : i = j := by
  rw [List.getD_eq_getElem?_getD, List.getD_eq_getElem?_getD, List.getElem?_eq_getElem hi, List.getElem?_eq_getElem hj] at h
  exact nodup_inj nd hi hj h
theorem nodup_map_on {α β : Type} {f : α → β} : ∀ {l : List α}, (∀ x ∈ l, ∀ y ∈ l, f x = f y → x = y) → l.Nodup → (l.map f).Nodup
  | [], _, _ => List.nodup_nil
  | a :: l, h, nd => by
    obtain ⟨h1, h2⟩ := List.nodup_cons.mp nd
    rw [List.map_cons]
    refine List.nodup_cons.mpr ⟨fun hm => ?_, nodup_map_on (fun x hx y hy => h x (.tail _ hx) y (.tail _ hy)) h2⟩
    obtain ⟨b, hb, e⟩ := List.mem_map.mp hm
    have := h b (.tail _ hb) a (.head _) e
    subst this
    exact h1 hb
theorem IsP.mul {n : Nat} {p q : List Nat} (hp : IsP n p) (hq : IsP n q) : IsP n (mulP p q) := by
  refine ⟨by unfold mulP; rw [List.length_map, hq.len], nodup_map_on (fun x hx y hy e => getD_inj hp.nd (by rw [hp.len]; exact hq.lt x hx) (by rw [hp.len]; exact hq.lt y hy) e) hq.nd, fun x hx => ?_⟩
  obtain ⟨k, hk, rfl⟩ := List.mem_map.mp hx
  exact hp.lt _ (getD_lt (by rw [hp.len]; exact hq.lt k hk))
theorem mulP_getD {p q : List Nat} {i : Nat} (h : i < q.length) : (mulP p q).getD i 0 = p.getD (q.getD i 0) 0 := by
  unfold mulP
  rw [List.getD_eq_getElem?_getD, List.getElem?_map, List.getElem?_eq_getElem h, List.getD_eq_getElem?_getD (l := q), List.getElem?_eq_getElem h]
  rfl
theorem mulP_assoc {n : Nat} {a b c : List Nat} (hb : IsP n b) (hc : IsP n c) : mulP (mulP a b) c = mulP a (mulP b c) := by
  show c.map _ = (c.map _).map _
  rw [List.map_map]
  refine List.map_congr_left fun k hk => ?_
  exact mulP_getD (by rw [hb.len]; exact hc.lt k hk)
theorem mulP_idL {n : Nat} {p : List Nat} (hp : IsP n p) : mulP (List.range n) p = p := by
  refine Eq.trans (List.map_congr_left fun k hk => ?_) (List.map_id _)
  have hk2 := hp.lt k hk
  rw [List.getD_eq_getElem?_getD, List.getElem?_range hk2]
  rfl
theorem mulP_idR {n : Nat} {p : List Nat} (hp : IsP n p) : mulP p (List.range n) = p := by
  apply List.ext_getElem?
  intro i
  unfold mulP
  rw [List.getElem?_map]
  by_cases hi : i < n
  · rw [List.getElem?_range hi, List.getElem?_eq_getElem (by rw [hp.len]; exact hi)]
    show some (p.getD i 0) = _
    rw [List.getD_eq_getElem?_getD, List.getElem?_eq_getElem (by rw [hp.len]; exact hi)]
    rfl
  · rw [List.getElem?_eq_none (by rw [List.length_range]; omega), List.getElem?_eq_none (by rw [hp.len]; omega)]
    rfl
theorem mulP_cancel {n : Nat} {a b c : List Nat} (ha : IsP n a) (hb : IsP n b) (hc : IsP n c) (h : mulP a b = mulP a c) : b = c := by
  apply List.ext_getElem?
  intro i
  by_cases hi : i < n
  · have h1 := congrArg (fun l => l.getD i 0) h
    rw [mulP_getD (by rw [hb.len]; exact hi), mulP_getD (by rw [hc.len]; exact hi)] at h1
    have h2 := getD_inj ha.nd (by rw [ha.len]; exact hb.lt _ (getD_lt (by rw [hb.len]; exact hi))) (by rw [ha.len]; exact hc.lt _ (getD_lt (by rw [hc.len]; exact hi))) h1
    rw [List.getD_eq_getElem?_getD, List.getD_eq_getElem?_getD, List.getElem?_eq_getElem (by rw [hb.len]; exact hi), List.getElem?_eq_getElem (by rw [hc.len]; exact hi)] at h2
    rw [List.getElem?_eq_getElem (by rw [hb.len]; exact hi), List.getElem?_eq_getElem (by rw [hc.len]; exact hi)]
    exact congrArg some h2
  · rw [List.getElem?_eq_none (by rw [hb.len]; omega), List.getElem?_eq_none (by rw [hc.len]; omega)]
/-- a closed list of permutations, the unit first -/
structure PGrp (n : Nat) (L : List (List Nat)) : Prop where
  nd : L.Nodup
  isP : ∀ p ∈ L, IsP n p
  cl : ∀ a ∈ L, ∀ b ∈ L, mulP a b ∈ L
  e0 : L[0]? = some (List.range n)
  le : L.length ≤ 60
def tabP (L : List (List Nat)) : Tab := L.map fun a => L.map fun b => L.idxOf (mulP a b)
theorem tabP_len (L : List (List Nat)) : (tabP L).length = L.length := List.length_map _
theorem tabP_row {L : List (List Nat)} {x : Nat} (hx : x < L.length) : (tabP L).getD x [] = L.map fun b => L.idxOf (mulP L[x] b) := by
  unfold tabP
  rw [List.getD_eq_getElem?_getD, List.getElem?_map, List.getElem?_eq_getElem hx]
  rfl
theorem tabP_tm {L : List (List Nat)} {x y : Nat} (hx : x < L.length) (hy : y < L.length) : tm (tabP L) x y = L.idxOf (mulP L[x] L[y]) := by
  unfold tm
  rw [tabP_row hx, List.getD_eq_getElem?_getD, List.getElem?_map, List.getElem?_eq_getElem hy]
  rfl
theorem idxOf_get {L : List (List Nat)} (nd : L.Nodup) {x : Nat} (hx : x < L.length) : L.idxOf L[x] = x := by
  have h := List.idxOf_lt_length_of_mem (List.getElem_mem hx)
  exact nodup_inj nd h hx (List.getElem_idxOf h)
theorem nodup_surj {α : Type} [DecidableEq α] {L : List α} (nd : L.Nodup) {f : α → α} (hc : ∀ x ∈ L, f x ∈ L) (hi : ∀ x ∈ L, ∀ y ∈ L, f x = f y → x = y) {z : α} (hz : z ∈ L) : ∃ x ∈ L, f x = z := by
  refine Decidable.byContradiction fun hno => ?_
  have h1 : (L.map f).Nodup := nodup_map_on hi nd
  have := nodup_lt (ys := L) (z := z) h1 (fun x hx => by
    obtain ⟨y, hy, rfl⟩ := List.mem_map.mp hx
    exact hc y hy) hz (fun hm => by
    obtain ⟨y, hy, e⟩ := List.mem_map.mp hm
    exact hno ⟨y, hy, e⟩)
  rw [List.length_map] at this
  omega
theorem tabP_grp {n : Nat} {L : List (List Nat)} (G : PGrp n L) : IsGrp (tabP L) := by
  have h0 : 0 < L.length := (List.getElem?_eq_some_iff.mp G.e0).1
  have e0 : L[0] = List.range n := (List.getElem?_eq_some_iff.mp G.e0).2
  have mem : ∀ {x : Nat} (hx : x < L.length), L[x] ∈ L := fun hx => List.getElem_mem hx
  have tlt : ∀ x y, x < L.length → y < L.length → tm (tabP L) x y < L.length := fun x y hx hy => by
    rw [tabP_tm hx hy]
    exact List.idxOf_lt_length_of_mem (G.cl _ (mem hx) _ (mem hy))
  have tget : ∀ x y (hx : x < L.length) (hy : y < L.length), L[tm (tabP L) x y]'(tlt x y hx hy) = mulP L[x] L[y] := fun x y hx hy => by
    simp only [tabP_tm hx hy]
    exact List.getElem_idxOf _
  refine ⟨⟨fun x hx => ?_, fun x y hx hy => ?_⟩, by rw [tabP_len]; omega, by rw [tabP_len]; exact G.le, fun x hx => ?_, fun x hx => ?_, fun x y z hx hy hz => ?_, fun x hx => ?_⟩
  · rw [tabP_len] at hx ⊢
    rw [tabP_row hx, List.length_map]
  · rw [tabP_len] at hx hy ⊢
    exact tlt x y hx hy
  · rw [tabP_len] at hx
    rw [tabP_tm h0 hx, e0, mulP_idL (G.isP _ (mem hx)), idxOf_get G.nd hx]
  · rw [tabP_len] at hx
    rw [tabP_tm hx h0, e0, mulP_idR (G.isP _ (mem hx)), idxOf_get G.nd hx]
  · rw [tabP_len] at hx hy hz
    have l1 := tlt x y hx hy
    have l2 := tlt y z hy hz
    rw [tabP_tm l1 hz, tabP_tm hx l2, tget x y hx hy, tget y z hy hz, mulP_assoc (G.isP _ (mem hy)) (G.isP _ (mem hz))]
  · rw [tabP_len] at hx
    obtain ⟨b, hb, e⟩ := nodup_surj G.nd (f := fun b => mulP L[x] b) (fun b hb => G.cl _ (mem hx) b hb) (fun b hb c hc h => mulP_cancel (G.isP _ (mem hx)) (G.isP _ hb) (G.isP _ hc) h) (mem h0)
    rw [tabP_row hx]
    refine List.mem_map.mpr ⟨b, hb, ?_⟩
    rw [e, idxOf_get G.nd h0]
end L2.KL
set_option Elab.async false
set_option linter.all false
set_option maxRecDepth 100000
set_option maxHeartbeats 4000000
namespace L2.KL
open PySem PySem.W
structure CInv (n : Nat) (gs : List (List Nat)) (at_ : Nat) (O : List (List Nat)) : Prop where
  nd : O.Nodup
  isP : ∀ p ∈ O, IsP n p
  z : List.range n ∈ O
  cl : ∀ i r, i < at_ → O[i]? = some r → ∀ g ∈ gs, mulP r g ∈ O
  mn : ∀ S : List Nat → Prop, S (List.range n) → (∀ r g, IsP n r → S r → g ∈ gs → S (mulP r g)) → ∀ r ∈ O, S r
def addP (O : List (List Nat)) (x : List Nat) : List (List Nat) := if x ∈ O then O else O ++ [x]
theorem addP_mem {O : List (List Nat)} {x y : List Nat} : y ∈ addP O x ↔ y ∈ O ∨ y = x := by
  unfold addP
  split
  · exact ⟨.inl, fun h => h.elim id fun e => by rw [e]; assumption⟩
  · simp
theorem addP_nodup {O : List (List Nat)} {x : List Nat} (h : O.Nodup) : (addP O x).Nodup := by
  unfold addP
  split
  · exact h
  · rename_i z
    rw [List.nodup_append]
    refine ⟨h, by simp, fun a ha b hb => ?_⟩
    have : b = x := by simpa using hb
    subst this
    rintro rfl
    exact z ha
theorem addP_get {O : List (List Nat)} {x r : List Nat} {i : Nat} (h : O[i]? = some r) : (addP O x)[i]? = some r := by
  unfold addP
  split
  · exact h
  · rw [List.getElem?_append_left (List.getElem?_eq_some_iff.mp h).1]
    exact h
theorem CInv.start (n : Nat) (gs : List (List Nat)) : CInv n gs 0 [List.range n] := by
  refine ⟨by simp, fun p hp => ?_, by simp, fun i r hi => by omega, fun S h0 _ r hr => ?_⟩
  · have : p = List.range n := by simpa using hp
    rw [this]
    exact isP_id n
  · have : r = List.range n := by simpa using hr
    rw [this]
    exact h0
theorem CInv.next {n at_ : Nat} {gs O : List (List Nat)} {r : List Nat} (h : CInv n gs at_ O) (hr : O[at_]? = some r) (hc : ∀ g ∈ gs, mulP r g ∈ O) : CInv n gs (at_ + 1) O := by
  refine ⟨h.nd, h.isP, h.z, fun i q hi hq g hg => ?_, h.mn⟩
  by_cases z : i = at_
  · subst z
    rw [hr] at hq
    cases hq
    exact hc g hg
  · exact h.cl i q (by omega) hq g hg
theorem CInv.add {n at_ : Nat} {gs O : List (List Nat)} {r g : List Nat} (h : CInv n gs at_ O) (hnl : at_ < O.length) (hr : r ∈ O) (hg : g ∈ gs) (hgP : IsP n g) : CInv n gs at_ (addP O (mulP r g)) := by
  have hrP := h.isP r hr
  refine ⟨addP_nodup h.nd, fun x hx => ?_, addP_mem.mpr (.inl h.z), fun i q hi hq g' hg' => ?_, fun S' h0 hs x hx => ?_⟩
  · rcases addP_mem.mp hx with z | z
    · exact h.isP x z
    · rw [z]
      exact hrP.mul hgP
  · have hil : i < O.length := by omega
    have : O[i]? = some q := by
      rw [← hq, addP_get (List.getElem?_eq_getElem hil), List.getElem?_eq_getElem hil]
    exact addP_mem.mpr (.inl (h.cl i q hi this g' hg'))
  · rcases addP_mem.mp hx with z | z
    · exact h.mn S' h0 hs x z
    · rw [z]
      exact hs r g hrP (h.mn S' h0 hs r hr) hg
/-- closed behind the last turn -/
theorem CInv.closed {n at_ : Nat} {gs O : List (List Nat)} (h : CInv n gs at_ O) (hn : O.length ≤ at_) (hg : ∀ g ∈ gs, IsP n g) : ∀ a ∈ O, ∀ b ∈ O, mulP a b ∈ O := by
  intro a ha b hb
  have hA := h.isP a ha
  refine h.mn (fun b => mulP a b ∈ O) ?_ (fun r g hr hs hgg => ?_) b hb
  · rw [mulP_idR hA]
    exact ha
  · rw [← mulP_assoc hr (hg g hgg)]
    obtain ⟨i, hi, e⟩ := List.mem_iff_getElem.mp hs
    exact h.cl i _ (by omega) (by rw [List.getElem?_eq_getElem hi, e]) g hgg
/-! all of them -/
def allL : Nat → Nat → List (List Nat)
  | 0, _ => [[]]
  | k + 1, n => (List.range n).flatMap fun x => (allL k n).map fun l => x :: l
theorem allL_mem {n : Nat} : ∀ (k : Nat) (p : List Nat), p.length = k → (∀ x ∈ p, x < n) → p ∈ allL k n
  | 0, p, h, _ => by
    have : p = [] := List.eq_nil_of_length_eq_zero h
    rw [this]
    exact .head _
  | k + 1, [], h, _ => by cases h
  | k + 1, x :: p, h, hx => by
    refine List.mem_flatMap.mpr ⟨x, List.mem_range.mpr (hx x (.head _)), List.mem_map.mpr ⟨p, allL_mem k p (by simpa using h) fun y hy => hx y (.tail _ hy), rfl⟩⟩
def allP (n : Nat) : List (List Nat) := (allL n n).filter fun p => decide p.Nodup
theorem allP_mem {n : Nat} {p : List Nat} (h : IsP n p) : p ∈ allP n := List.mem_filter.mpr ⟨allL_mem n p h.len h.lt, decide_eq_true h.nd⟩
theorem allP_len {n : Nat} (h : n = 3 ∨ n = 4) : (allP n).length ≤ 24 := by
  have a : ([3, 4].all fun n => decide ((allP n).length ≤ 24)) = true := by decide +kernel
  refine of_decide_eq_true (List.all_eq_true.mp a n ?_)
  rcases h with rfl | rfl <;> decide
theorem CInv.le {n at_ : Nat} {gs O : List (List Nat)} (hn : n = 3 ∨ n = 4) (h : CInv n gs at_ O) : O.length ≤ 24 :=
  Nat.le_trans (nodup_sub O (allP n) h.nd fun x hx => allP_mem (h.isP x hx)) (allP_len hn)
/-- the unit is the least -/
theorem id_least {n : Nat} (hn : n = 3 ∨ n = 4) {f : List Nat} (hf : IsP n f) (hne : f ≠ List.range n) : dataLt (.tuple (dI (iN (List.range n)))) (.tuple (dI (iN f))) = true := by
  have a : ([3, 4].all fun n => (allP n).all fun f => decide (f = List.range n ∨ iN (List.range n) < iN f)) = true := by decide +kernel
  have b := of_decide_eq_true (List.all_eq_true.mp (List.all_eq_true.mp a n (by rcases hn with rfl | rfl <;> decide)) f (allP_mem hf))
  rw [dataLt_tuple]
  have c := dataLt_ints (iN (List.range n)) (iN f)
  have d : rowLt (List.map PyData.int (iN (List.range n))) (List.map PyData.int (iN f)) = true := by
    rw [c]
    exact decide_eq_true (b.resolve_left hne)
  exact d
def srtL (O : List (List Nat)) : List (List Nat) := O.mergeSort (dataLe false fun k => .tuple (dI (iN k)))
theorem srtL_perm (O : List (List Nat)) : (srtL O).Perm O := List.mergeSort_perm _ _
theorem srtL_first {n : Nat} (hn : n = 3 ∨ n = 4) {O : List (List Nat)} (hO : ∀ p ∈ O, IsP n p) (hz : List.range n ∈ O) : (srtL O)[0]? = some (List.range n) := by
  have T : TotalLe (dataLe false fun k : List Nat => PyData.tuple (dI (iN k))) := sortLe_total _ _ _
  have hs := List.pairwise_mergeSort (le := dataLe false fun k : List Nat => PyData.tuple (dI (iN k))) T.trans (fun a b => by rcases T.total a b with h | h <;> simp [h]) O
  have hm : List.range n ∈ srtL O := (srtL_perm O).mem_iff.mpr hz
  obtain ⟨j, hj, e⟩ := List.mem_iff_getElem.mp hm
  have h0 : 0 < (srtL O).length := by omega
  rw [List.getElem?_eq_getElem h0]
  congr 1
  refine Decidable.byContradiction fun hne => ?_
  have hj0 : 0 < j := by
    rcases Nat.eq_zero_or_pos j with z | z
    · subst z
      exact absurd e hne
    · exact z
  have h1 := List.pairwise_iff_getElem.mp hs 0 j h0 hj hj0
  have hP := hO _ ((srtL_perm O).mem_iff.mp (List.getElem_mem h0))
  have h2 := id_least hn hP hne
  have h3 : (!dataLt (.tuple (dI (iN ((srtL O)[j])))) (.tuple (dI (iN ((srtL O)[0]))))) = true := h1
  rw [e, h2] at h3
  cases h3
/-- the group of a closure -/
theorem clos_grp {n at_ : Nat} (hn : n = 3 ∨ n = 4) {gs O : List (List Nat)} (h : CInv n gs at_ O) (hl : O.length ≤ at_) (hg : ∀ g ∈ gs, IsP n g) : PGrp n (srtL O) := by
  have P := srtL_perm O
  refine ⟨P.nodup_iff.mpr h.nd, fun p hp => h.isP p (P.mem_iff.mp hp), fun a ha b hb => P.mem_iff.mpr (h.closed hl hg a (P.mem_iff.mp ha) b (P.mem_iff.mp hb)), srtL_first hn h.isP h.z, ?_⟩
  rw [P.length_eq]
  have := h.le hn
  omega
end L2.KL
set_option Elab.async false
set_option linter.all false
set_option maxRecDepth 100000
set_option maxHeartbeats 4000000
namespace L2.KL
open PySem PySem.Spec PyProof.Rows
/-! dicts with tuples for keys: a store, a display of one pair, a comprehension -/
section
variable {X : Cx} {pins : List (Addr × Obj)} {σ : St} {H : Hp} {s : Shared}
theorem dset_T {E : Value → Shared → Prop} {A : Around} {D b : Addr} {kvs : List (List Key × V)} {k : List Key} {v : V} {r : Value} {Q : Unit → Shared → Prop} (hu : A.units < cLine) (I : Inv X pins σ H s) (hD : H D = some (.dT kvs)) (hz : kvs.length < sizeLine)
    (hb : H b = some (.tup (k.map kV))) (rv : RelV v r) (h : ∀ s', Inv X pins σ (upd H D (.dT (putK kvs k v))) s' → Q () s') : wpAny (model X.prog X.w) A (dictSet D (.ref b) r) Q E s := by
  obtain ⟨z, hd, xs, rel, dd⟩ := dt_of I.hok hD
  have hx : xs.length ≤ sizeLine := by rw [← Paired.length rel]; exact z
  have hp := length_putK kvs k v
  refine wpAny_dictSet_heap (hsz := hx) hu (key_of I.hok hb) dd fun h' dd' hs => h _ ?_
  obtain ⟨q, es, ep, hq, g2, g3, g4, _, g5⟩ := dd'
  refine d_write I (by rw [hD]; exact True.intro) hs ⟨q, hq⟩ ⟨by omega, hd, _, (rel.put k hb rv).keeps fun c ys ec => ?_, q, es, ep, hq, g2, g3, g4, g5⟩
  rw [upd_ne (ne_of ec hD (fun w => nomatch w))]
  exact ec
/-- {t: v}: one pair, the key a tuple -/
def tDispT1 (tk tv : TE) : TE := fun σ H Q => ∀ p, H p = none → tk σ (upd H p (.dT [])) fun x H1 => tv σ H1 fun y H2 => H2 p = some (.dT []) ∧ ∃ (ks : List Key) (b : Addr), x = .ref b ∧ H2 b = some (.tup (ks.map kV)) ∧ Q (.ref p) (upd H2 p (.dT [(ks, y)]))
theorem pe_dispT {k v : Expr} {pos : Pos} {tk tv : TE} (hu : X.A.units < cLine) (hk : PE X k tk) (hv : PE X v tv) : PE X (.Dict [some k] [v] pos) (tDispT1 tk tv) := by
  refine ⟨fun pins s σ H Q I q => ?_⟩
  have hn := I.hok.fresh (Nat.le_refl s.heap.objs.size)
  have I1 := I.laid (a := s.heap.objs.size) (o := .dT []) (h' := s.heap.push { cls := .type "dict", data := .dict #[] }) (t' := s.toks) (fun _ _ e => Heap.get?_push_of_some _ e) (Nat.le_refl _) (dt_empty s.heap I.big)
  have hl := pairTrees_length [some k] [v] X.env pos rfl rfl
  rw [arm_eval_Dict, zip_pairTrees [some k] [v] X.env pos rfl rfl, dictDisplay_pairs _ (by intro z; rw [z] at hl; cases hl) (by rw [hl]; show 1 < 17; decide)]
  refine wpAny_bind (wpAny_standAt (wpAny_bind ?_))
  unfold subDict
  refine wpAny_bind (wpAny_alloc (wpAny_bind (wpAny_holding ?_)))
  rw [if_pos (by rw [hl]; show 1 ≤ 15; decide)]
  refine wpAny_bind (pairTrees_cons_walk (thn (hk.run pins _ σ _ _ I1 (q _ hn)) fun u s1 ⟨x, H1, I2, rx, q1⟩ => thn (hv.run pins s1 σ H1 _ I2 q1) fun w2 s2 ⟨y, H2, I3, ry, e, ks, b, ex, hb, q2⟩ => pairTrees_nil_walk ?_))
  subst ex
  obtain rfl : u = Value.ref b := rx
  refine wpAny_holding ?_
  refine wpAny_bind ?_
  rw [List.forIn_cons]
  refine wpAny_bind (wpAny_bind (dset_T hu I3 e (by rw [sizeLine_eq]; decide) hb ry fun s3 I4 => wpAny_pure ?_))
  have e1 : putK ([] : List (List Key × V)) ks y = [(ks, y)] := rfl
  rw [e1] at I4
  show wpAny _ _ (forIn [] PUnit.unit _) _ _ _
  rw [List.forIn_nil]
  exact wpAny_pure (wpAny_pure (wpAny_pure (wpAny_pure ⟨.ref s.heap.objs.size, _, I4, rfl, q2⟩)))
/-- {t: v for target in iter if ..}, keys tuples: D the new dict -/
def tDcT (wi : TI) (g : TG) (tt : TT) (tk tv : TE) (vs : List Nat) : TE := fun σ H Q => wi σ H fun J H1 => ∀ D, H1 D = none → ∃ W : Nat → Nat → Hp → Prop, (∃ m, W 0 m (upd H1 D (.dT []))) ∧ ∀ i m H, W i m H →
  (J.stop i H ∧ Q (.ref D) H) ∨ (J.go i H ∧ ∃ Nx : Hp → Prop, (∀ H', Nx H' → ∃ m', m' < m ∧ W (i + 1) m' H') ∧ ∀ x H', J.yld i H x H' → g x (wipe σ vs) H' fun σ2 H2 => wipe σ2 vs = wipe σ vs ∧ tt σ2 H2 fun b H3 =>
    if b = true then tk σ2 H3 fun y H4 => tv σ2 H4 fun z H5 => ∃ (kvs : List (List Key × V)) (k : List Key) (p : Addr), y = .ref p ∧ H5 p = some (.tup (k.map kV)) ∧ H5 D = some (.dT kvs) ∧ kvs.length < sizeLine ∧ Nx (upd H5 D (.dT (putK kvs k z))) else Nx H3)
theorem pe_dcT {kx vx tg iter : Expr} {ifs : List Expr} {scope : Scope} {own : List (Str × Nat)} {pos : Pos} {wi : TI} {g : TG} {tt : TT} {tk tv : TE} (hu : X.A.units < cLine) (hc : X.calm = true) (hN : X.N.Nodup) (hi : PI X tg iter wi) (ok : BlkOk X.N X.env.scope scope own)
    (hg : ∀ s H C cl fp, PG (X.blk s H scope (compEnvC scope cl C X.env) fp) tg g) (ht : ∀ s H C cl fp, PTs (X.blk s H scope (compEnvC scope cl C X.env) fp) ifs tt)
    (hk : ∀ s H C cl fp, PE (X.blk s H scope (compEnvC scope cl C X.env) fp) kx tk) (he : ∀ s H C cl fp, PE (X.blk s H scope (compEnvC scope cl C X.env) fp) vx tv)
    (hs : ∀ x, foldedSetIterable iter X.env x = pure x := by intro _; rfl) : PE X (.DictComp kx vx [⟨tg, iter, ifs, 0⟩] scope pos) (tDcT wi g tt tk tv (own.map (·.2))) := by
  refine ⟨fun pins s σ H Q I h => ?_⟩
  rw [arm_eval_DictComp]
  have free : ∀ y ∈ scope.names, y.2 = .free → ∃ c, X.env.cells.lookup y.1 = some c := fun y hy e => by
    rcases ok.free y hy e with z | z
    · exact I.ok.has _ (.inl z)
    · exact I.ok.has _ (.inr z)
  refine wpAny_comprehension_free rfl hs (closure_ok free) ok.kind (fun y hy e => by rw [ok.uniq y hy, e]) (thn (hi.run pins s σ H _ I h) fun xv s1 q1 => thn q1 fun itv s2 q2 => ?_)
  obtain ⟨it, fp, tn, J, H2, e, I2, T, st2, f2, q⟩ := q2
  subst e
  refine wpAny_newObj_type (newEnv_comp ?_)
  obtain ⟨D, hD⟩ : ∃ D, s2.heap.objs.size = D := ⟨_, rfl⟩
  obtain ⟨W, ⟨m0, w0⟩, turn⟩ := q D (by rw [← hD]; exact I2.hok.fresh (Nat.le_refl _))
  obtain ⟨s3, e3⟩ : ∃ s3 : Shared, ({ s2 with heap := s2.heap.push { cls := .type "dict", data := .dict #[] } } : Shared) = s3 := ⟨_, rfl⟩
  have h3 : s3.heap = s2.heap.push { cls := .type "dict", data := .dict #[] } := by rw [← e3]
  have I3 : Inv X pins σ (upd H2 D (.dT [])) s3 := by
    rw [← e3, ← hD]
    exact I2.laid (t' := s2.toks) (fun b o e => Heap.get?_push_of_some _ e) (Nat.le_refl _) (dt_empty s2.heap I2.big)
  rw [hD, e3]
  have f3 : ∀ b ∈ fp, FpOk X pins (upd H2 D (.dT [])) b ∧ b < s3.heap.objs.size := fun b hb => by
    obtain ⟨o, eo, _⟩ := T.obj _ _ st2 b hb
    have lt := Heap.lt_size eo
    have hne : b ≠ D := by rw [← hD]; exact Nat.ne_of_lt lt
    refine ⟨⟨?_, (f2 b hb).2⟩, by rw [h3, Heap.size_push]; exact Nat.lt_succ_of_lt lt⟩
    rw [upd_ne hne]
    exact (f2 b hb).1
  have st3 : tn 0 s3.heap := T.keep _ _ _ st2 fun b _ o eo => by rw [h3]; exact Heap.get?_push_of_some _ eo
  have I4 := block_start I3 ok hN f3
  obtain ⟨cl, ecl⟩ : ∃ cl, cl = cellsFrom (s3.heap.objs.size + 1) scope.names (cloFrom X.env.cells scope.names []) := ⟨_, rfl⟩
  rw [← ecl] at I4
  have pg := hg s3 (upd H2 D (.dT [])) s3.heap.objs.size cl fp
  have pt := ht s3 (upd H2 D (.dT [])) s3.heap.objs.size cl fp
  have pk := hk s3 (upd H2 D (.dT [])) s3.heap.objs.size cl fp
  have pv := he s3 (upd H2 D (.dT [])) s3.heap.objs.size cl fp
  have n3 : ∀ b ∈ fp, (upd H2 D (.dT [])) b = none := fun b hb => (f3 b hb).1.1
  show codeAny _ _ (.compStart (.DictComp kx vx [⟨tg, iter, ifs, 0⟩] scope pos) 0 (.ref it) (.ref D) (compEnvC scope (cellsFrom (s3.heap.objs.size + 1) scope.names (cloFrom X.env.cells scope.names [])) s3.heap.objs.size X.env)) _ _
  rw [← ecl]
  obtain ⟨ce, ece⟩ : ∃ ce, compEnvC scope cl s3.heap.objs.size X.env = ce := ⟨_, rfl⟩
  have cL : ce.locals = s3.heap.objs.size := by rw [← ece]; rfl
  rw [ece] at I4 pg pt pk pv ⊢
  obtain ⟨H3, eH3⟩ : ∃ H3, upd H2 D (.dT []) = H3 := ⟨_, rfl⟩
  rw [eH3] at I3 I4 pg pt pk pv w0 n3 f3
  obtain ⟨s4, e4⟩ : ∃ s4 : Shared, ({ s3 with heap := pushCells (s3.heap.push { cls := .type "dict", data := .dict #[] }) scope.names } : Shared) = s4 := ⟨_, rfl⟩
  rw [e4] at I4 ⊢
  have st4 : tn 0 s4.heap := T.keep _ _ _ st3 fun b _ o eo => by rw [← e4]; exact pushCells_keeps _ _ _ _ (Heap.get?_push_of_some _ eo)
  -- what the iterator's objects bear within the block
  have bear : ∀ {σ' : St} {H' : Hp} {s' : Shared}, Inv (X.blk s3 H3 scope ce fp) [] σ' H' s' → (∀ b ∈ fp, H' b = none) → ∀ b ∈ fp, FpOk (X.blk s3 H3 scope ce fp) [] H' b := by
    intro σ' H' s' I' hn b hb
    have x1 := I'.ok.exf b hb
    exact ⟨hn b hb, x1.1, I'.ok.exfs b hb, .inl hb, fun x c e => x1.2 x c e, fun p hp => absurd (show p ∈ ([] : List (Addr × Obj)) ++ [] from hp) (by simp)⟩
  have loop : codeAny (model X.prog X.w) X.A (.compLoop (.DictComp kx vx [⟨tg, iter, ifs, 0⟩] scope pos) 0 (.ref it) (.ref D) ce) (compPost (model X.prog X.w) X.A X.xe none (EP X pins σ Q) (.ref D) s3.heap.objs.size) s4 := by
    refine compLoop_anyD (fun n s' => ∃ i H', Inv (X.blk s3 H3 scope ce fp) [] (wipe σ (own.map (·.2))) H' s' ∧ tn i s'.heap ∧ (∀ b ∈ fp, H' b = none) ∧ W i n H') ?_ m0 ⟨0, H3, I4, st4, n3, w0⟩
    rintro n s5 ⟨i, H5, I5, st5, n5, w5⟩
    rcases turn i n H5 w5 with ⟨stop, qq⟩ | ⟨go, Nx, hNx, step⟩
    · refine thnF (T.done (X.blk s3 H3 scope ce fp) rfl rfl rfl hc i [] s5 _ H5 (fun _ _ => False) I5 (bear I5 n5) st5 stop) fun r s6 ⟨hr, I6⟩ => ?_
      subst hr
      have I7 : Inv X pins σ H5 s6 := I3.call' (ch := fp) I6.os I6.base I6.hok I6.bare fun b hb => ⟨(f3 b hb).1.2.2.2.1, (f3 b hb).1.2.1, (f3 b hb).1.2.2.2.2.1, (f3 b hb).1.2.2.2.2.2⟩
      have nC : H5 s3.heap.objs.size = none := by
        have z : H5 ce.locals = none := I6.free
        rw [cL] at z
        exact z
      obtain ⟨m, hn, _⟩ := I6.loc
      have hn2 : s6.heap.Ns ce.locals m := hn
      rw [cL] at hn2
      obtain ⟨g0, g1, g2, g3, g4, g5⟩ := I3.fpOk (Nat.le_refl _) nC
      exact ⟨m, hn2, fun h'' sb => ⟨.ref D, H5, I7.turned (t' := s6.toks) (fun b o hb e => (sb.2 b hb).trans e) g0 g1 g3 g4 g5, rfl, qq⟩⟩
    · refine thnF (T.item (X.blk s3 H3 scope ce fp) rfl rfl rfl hc i [] s5 _ H5 (fun _ _ => False) I5 (bear I5 n5) st5 go) fun r s6 ⟨u, hr, h6⟩ => ?_
      subst hr
      refine thnF h6 fun _ s7 ⟨x, H7, I7, r7, y7, st7, n7⟩ => ?_
      have I7' := I7.pinned (bear I7 n7) (T.obj _ _ st7)
      refine thnF (pg.run _ s7 _ H7 x u _ I7' r7 (step x H7 y7)) fun _ s8 ⟨σ8, H8, I8, hw8, q8⟩ => ?_
      refine thnF (pt.run _ s8 σ8 H8 _ I8 q8) fun b s9 ⟨H9, I9, q9⟩ => ?_
      have fin : ∀ {s' : Shared} {H' : Hp}, Inv (X.blk s3 H3 scope ce fp) ([] ++ pinsAt fp s7.heap) σ8 H' s' → Nx H' → ∃ m, m < n ∧ ∃ i H', Inv (X.blk s3 H3 scope ce fp) [] (wipe σ (own.map (·.2))) H' s' ∧ tn i s'.heap ∧ (∀ b ∈ fp, H' b = none) ∧ W i m H' := by
        intro s' H' I' nx
        obtain ⟨m', hm, w'⟩ := hNx H' nx
        have pin' : ∀ b ∈ fp, ∀ o, s7.heap.get? b = some o → s'.heap.get? b = some o ∧ H' b = none := fun b hb o eo => by
          have z := I'.pin (b, o) (List.mem_append_right _ (List.mem_append_right _ (mem_pinsAt hb eo)))
          exact ⟨z.1, z.2.1⟩
        refine ⟨m', hm, i + 1, H', (I'.unpinned (pins := [])).weak (by rw [← hw8, wipe_length]) (fun j v ev => ?_), T.keep _ _ _ st7 fun b hb o eo => (pin' b hb o eo).1, fun b hb => ?_, w'⟩
        · rw [← hw8] at ev
          exact (wipe_some ev).1
        · obtain ⟨o, eo, _⟩ := T.obj _ _ st7 b hb
          exact (pin' b hb o eo).2
      cases b with
      | false =>
        simp only [Bool.false_eq_true, if_false] at q9 ⊢
        exact fin I9 q9
      | true =>
        simp only [if_true] at q9 ⊢
        refine thnF (pk.run _ s9 σ8 H9 _ I9 q9) fun z s10 ⟨yk, H10, I10, r10, q10⟩ => ?_
        refine thnF (pv.run _ s10 σ8 H10 _ I10 q10) fun z2 s11 ⟨yv, H11, I11, r11, kvs, k, p, ek, hp, hD11, hz11, nx⟩ => ?_
        subst ek
        obtain rfl : z = Value.ref p := r10
        exact dset_T (X := X.blk s3 H3 scope ce fp) hu I11 hD11 hz11 hp r11 fun s12 I12 => fin I12 nx
  exact codeAny_compStart_dict loop (T.self X.A 0 _ _ _ st4 loop)
end
end L2.KL
set_option Elab.async false
set_option linter.all false
set_option maxRecDepth 100000
set_option maxHeartbeats 4000000
namespace L2.KL
open PySem PySem.Spec PyProof.Rows
/-! dicts with permutations for keys -/
def keyP (p : List Nat) : List Key := p.map fun (k : Nat) => (.inl ((k : Nat) : Int) : Key)
theorem keyP_kV (p : List Nat) : (keyP p).map kV = natsV p := by
  unfold keyP
  rw [List.map_map]
  rfl
theorem keyP_inj : ∀ {p q : List Nat}, keyP p = keyP q → p = q
  | [], [], _ => rfl
  | [], _ :: _, h => by cases h
  | _ :: _, [], h => by cases h
  | a :: p, b :: q, h => by
    have h' : (Sum.inl (a : Int) : Key) :: keyP p = Sum.inl (b : Int) :: keyP q := h
    injection h' with h1 h2
    rw [keyP_inj h2]
    congr 1
    have := Sum.inl.inj h1
    omega
def kvP (O : List (List Nat)) : List (List Key × V) := O.map fun p => (keyP p, V.bl true)
theorem valV_P (x : List Nat) : ∀ O : List (List Nat), valV (kvP O) (keyP x) = if x ∈ O then some (.bl true) else none
  | [] => rfl
  | k :: O => by
    show valV ((keyP k, V.bl true) :: kvP O) _ = _
    by_cases h : k = x
    · subst h
      rw [valV_pos rfl, if_pos (.head _)]
    · rw [valV_neg (fun z => h (keyP_inj z)), valV_P x O]
      have : x ∈ k :: O ↔ x ∈ O := by
        rw [List.mem_cons]
        exact ⟨fun z => z.resolve_left fun y => h y.symm, .inr⟩
      simp only [this]
theorem putK_P (O : List (List Nat)) (x : List Nat) : putK (kvP O) (keyP x) (.bl true) = kvP (addP O x) := by
  unfold putK addP
  rw [valV_any, valV_P]
  by_cases h : x ∈ O
  · rw [if_pos h, if_pos h, if_pos (by rfl)]
    unfold kvP
    rw [List.map_map]
    refine List.map_congr_left fun k _ => ?_
    show (if keyP k = keyP x then (keyP k, V.bl true) else (keyP k, V.bl true)) = _
    rw [ite_self]
  · rw [if_neg h, if_neg h, if_neg (by simp)]
    unfold kvP
    rw [List.map_append]
    rfl
section
variable {K : PySem.W.Frag} {a b : Addr} {H : Hp} {Q : VK} {σ : St} {O : List (List Nat)} {x : List Nat} {tk tv : TE}
theorem dg_seenP (h : H a = some (.dT (kvP O))) (hb : H b = some (.tup (natsV x))) : DGet H a (.ref b) (if x ∈ O then some (.bl true) else none) := by
  rw [← valV_P]
  exact DGet.t h (by rw [keyP_kV]; exact hb)
theorem dp_seenP (h : H a = some (.dT (kvP O))) (hb : H b = some (.tup (natsV x))) (hl : O.length ≤ 100000) : DPut H a (.ref b) (.bl true) (upd H a (.dT (kvP (addP O x)))) := by
  rw [← putK_P]
  refine DPut.t h (by rw [keyP_kV]; exact hb) ?_
  unfold kvP
  rw [List.length_map, sizeLine_eq]
  omega
theorem rd_dispT1 (h : ∀ p, H p = none → tk σ (upd H p (.dT [])) fun x H1 => tv σ H1 fun y H2 => H2 p = some (.dT []) ∧ ∃ (ks : List Key) (b : Addr), x = .ref b ∧ H2 b = some (.tup (ks.map kV)) ∧ Q (.ref p) (upd H2 p (.dT [(ks, y)]))) : tDispT1 tk tv σ H Q := h
end
theorem pe_fldK {X : Cx} {K : PySem.W.Frag} {e : Expr} {ta : TE} {f : Str} {pos : Pos} (he : PE X e ta) (hb : attributeBase e f X.env (eval e X.env) = eval e X.env) (hK : X.K = K := by rfl) : PE X (.Attribute e f pos) (tFld K ta f) := by
  subst hK
  exact pe_fld he hb
local macro_rules | `(tactic| walk_at "hp") => `(tactic| first
  | assumption)
local macro_rules | `(tactic| walk_at "cl") => `(tactic| first
  | (with_reducible rfl)
  | assumption
  | (with_reducible exact lk_images)
  | (apply Or.inr; apply SqT.of; walk_at "hp")
  | (apply exT; walk_at "hp")
  | ((with_reducible show RgOk _ _); unfold RgOk; first | omega | (simp only [List.length_map]; omega)))
local macro_rules | `(tactic| walk_at "r1") => `(tactic| first
  | (with_reducible refine rd_seq ?_)
  | ((with_reducible apply rd_var); (· exact rfl))
  | (with_reducible refine rd_op ?_)
  | (with_reducible refine rd_fld ?_)
  | (with_reducible refine rd_cb ?_)
  | (with_reducible refine rd_cons ?_)
  | (with_reducible refine rd_nil ?_)
  | (with_reducible refine rd_ret ?_)
  | (with_reducible refine rd_if ?_)
  | (with_reducible refine rd_test ?_)
  | (with_reducible refine rd_next ?_)
  | ((with_reducible apply rd_ixT); (· walk_at "hp"); (· walk_at "at"))
  | ((with_reducible apply rd_ne); (· exact rfl))
  | (with_reducible refine rd_iTup ?_)
  | (with_reducible refine rd_lc ?_)
  | (with_reducible refine rd_make ?_)
  | (with_reducible refine rd_listRg ?_)
  | (with_reducible apply Exists.intro)
  | ((with_reducible refine And.intro ?_ ?_); (· walk_at "cl")))
local macro_rules | `(tactic| walk_at "at") => `(tactic| first
  | (apply at_nats; first | assumption | omega))
local macro_rules | `(tactic| walk_at "rd") => `(tactic| ((repeat walk_at "r1"); (try dsimp only [List.set])))
theorem mkP_use {C : Addr} {H1 : Hp} {Q : VK} {E : XK} {vs : List V} (a : Addr) (n : Nat) (xs : List Nat) (hv : vs = [.ref a]) (ha : LstOrTupN H1 a xs) (hp : IsP n xs) (h1 : 1 ≤ n) (h12 : n ≤ 12) (k : ∀ q H', Same H1 H' → PermAt C H' q xs → Q (.ref q) H') :
    ∀ x dx, H1 x = none → H1 dx = none → dx ≠ x → spPInit C (.ref x :: vs) (upd (upd H1 dx (.own x)) x (.ins C dx [])) (fun v H2 => v = .non ∧ Q (.ref x) H2) E := by
  intro x dx hx hdx hn
  subst hv
  have s : Same H1 (upd (upd H1 dx (.own x)) x (.ins C dx [])) := Same.mut (Same.new hdx) hx
  refine ⟨x, a, dx, n, xs, rfl, upd_same, ?_, hp.perm, h1, h12, fun t H' s h1 h2 => ⟨rfl, k x H' (SameX.made hx hdx s) ⟨dx, t, h1, h2⟩⟩⟩
  rcases ha with ha | ha
  · exact .inl (s _ _ ha)
  · exact .inr (s _ _ ha)
section
variable {P : Program} {w : World} {K : PySem.W.Frag} {mg : Str → Option Value} {base : Heap}
def spIdent (C : Addr) : Sp := fun vs H Q _ => ∃ n : Nat, vs = [nV n] ∧ 1 ≤ n ∧ n ≤ 12 ∧ ∀ q H', Same H H' → PermAt C H' q (List.range n) → Q (.ref q) H'
theorem sc_identity : FnScope ["m"] ["m"] HD.d_identity.scope := ⟨rfl, rfl, rfl, by decide +kernel, rfl, by decide +kernel, by decide +kernel⟩
theorem ok_ident (T : Tx K mg) : Ok P w K mg base CX0 4 HD.d_identity ["m"] (spIdent (CP K)) := by
  have G_Permutation_init : Ok P w K mg base CX0 2 _ _ _ := ok_pinit T
  have nd := sc_identity.nd
  refine Ok.mk0 T fn__identity rfl sc_identity (fun vs H Q E h => ?_) (fun _ _ _ _ _ _ us hl => match us, hl with | [_], _ => rfl) (fun cdv A outer s H vs Q E hr h => ?_)
  · obtain ⟨n, rfl, _⟩ := h
    rfl
  · obtain ⟨n, rfl, h1, h12, k⟩ := h
    refine ⟨_, pss_one
          -- return Permutation(list(range(m)))
          (ps_ret (pe_mk G_Permutation_init (hr.mono (by decide)) T.mk_Permutation T.g_Permutation pass0 (pa_cons (pe_listRg rfl (by rfl) T.b_list (prg_1 (by rfl) T.b_range (pv 0))) pa_nil))), ?_⟩
    try dsimp only [cxOf, Cx.wish]
    walk_at "rd"
    intro l hl
    walk_at "rd"
    rw [rgV_nat]
    exact mkP_use l n (List.range n) rfl (.inl upd_same) (isP_id n) h1 h12 (fun q H' s h => k q H' ((Same.new hl).trans s) h)
def spMulP (C : Addr) : Sp := fun vs H Q _ => ∃ (p q : Addr) (n : Nat) (xs ys : List Nat), vs = [.ref p, .ref q] ∧ PermAt C H p xs ∧ PermAt C H q ys ∧ IsP n xs ∧ IsP n ys ∧ 1 ≤ n ∧ n ≤ 12 ∧ ∀ r H', Same H H' → PermAt C H' r (mulP xs ys) → Q (.ref r) H'
theorem sc_Permutation_mul : FnScope ["self", "other", "k"] ["self", "other"] HD.dPermutation_mul.scope := ⟨rfl, rfl, rfl, by decide +kernel, rfl, by decide +kernel, by decide +kernel⟩
theorem ok_mulP (T : Tx K mg) : Ok P w K mg base CX0 4 HD.dPermutation_mul ["self", "other"] (spMulP (CP K)) := by
  have c1 := T.c_Permutation
  have n1 := T.na_Permutation_images
  have G_Permutation_init : Ok P w K mg base CX0 2 _ _ _ := ok_pinit T
  have nd := sc_Permutation_mul.nd
  refine Ok.mk0 T fn_Permutation_mul rfl sc_Permutation_mul (fun vs H Q E h => ?_) (fun _ _ _ _ _ _ us hl => match us, hl with | [_, _], _ => rfl) (fun cdv A outer s H vs Q E hr h => ?_)
  · obtain ⟨p, q, n, xs, ys, rfl, _⟩ := h
    rfl
  · obtain ⟨p, q, n, xs, ys, rfl, ⟨dx, t, ip, it⟩, ⟨dy, u, iq, iu⟩, hx, hy, h1, h12, k⟩ := h
    have lx := hx.len
    have ly := hy.len
    refine ⟨_, pss_cons
          -- if len(self.images) != len(other.images):
          (ps_if (pt_cmpR op_ne (pe_callB call_len_seq (by rfl) T.b_len (by decide +kernel) (pa_cons (pe_fldK (K := K) (pv 0) rfl) pa_nil)) (pe_callB call_len_seq (by rfl) T.b_len (by decide +kernel) (pa_cons (pe_fldK (K := K) (pv 1) rfl) pa_nil)) (nomark _)) (pss_one
            -- raise Malformed('points')
            (ps_never)) (pss_nil))
         (pss_one
          -- return Permutation([self.images[k] for k in other.images])
          (ps_ret (pe_mk G_Permutation_init (hr.mono (by decide)) T.mk_Permutation T.g_Permutation pass0 (pa_cons (pe_lc (own := [("k", 2)]) (g := gName 2) (tt := tYes) (by rfl) nd (pi_tup (pe_fldK (K := K) (pv 1) rfl)) (blkOk_by (own := [("k", 2)]) (N := ["self", "other", "k"]) (sc := HD.dPermutation_mul.scope) (by decide +kernel)) (fun _ _ _ _ _ => (pg_name (i := 2) nd rfl (.inl rfl))) (fun _ _ _ _ _ => pts_nil) (fun _ _ _ _ _ => (pe_ix (r := rIxT K) ix_tup (pe_fldK (K := K) (pv 0) rfl) (pv 2) (fun _ _ => rfl)))) pa_nil)))), ?_⟩
    try dsimp only [cxOf, Cx.wish]
    walk_at "rd"
    refine if_ne (fun z => absurd (by rw [List.length_map, List.length_map]; omega) z) (fun _ => ?_)
    walk_at "rd"
    refine lcj_tup (xs := natsV ys) (fun i v H => v = nV (xs.getD (ys.getD i 0) 0)) (fun i v => fm_eq _ _) (SqT.of iu) (by rw [List.length_map]; omega) (fun x => rfl) (fun i x H2 hxi s2 Q' q2 => ?_) (fun D H2 zs hD s2 hl2 hyl hR => ?_)
    · obtain ⟨m, rfl, hm⟩ := nats_get hxi
      have hmn := hy.lt m (List.mem_of_getElem? hm)
      have ip2 := s2 _ _ ip
      have it2 := s2 _ _ it
      walk_at "rd"
      refine q2 _ H2 (Same.refl _) ?_
      have : ys.getD i 0 = m := by
        rw [List.getD_eq_getElem?_getD, hm]
        rfl
      rw [this]
    · have hz : zs = natsV (mulP xs ys) := by
        rw [list_eq_map (by rw [hyl, List.length_map]) hR]
        show _ = (ys.map _).map nV
        rw [List.map_map]
        apply List.ext_getElem?
        intro i
        rw [List.getElem?_map, List.getElem?_map]
        by_cases hi : i < ys.length
        · rw [List.getElem?_range hi, List.getElem?_eq_getElem hi]
          show some (nV (xs.getD (ys.getD i 0) 0)) = some (nV (xs.getD ys[i] 0))
          rw [List.getD_eq_getElem?_getD (l := ys), List.getElem?_eq_getElem hi]
          rfl
        · rw [List.getElem?_eq_none (by rw [List.length_range]; omega), List.getElem?_eq_none (by omega)]
          rfl
      rw [hz] at hl2
      walk_at "rd"
      exact mkP_use D n (mulP xs ys) rfl (.inl hl2) (hx.mul hy) h1 h12 (fun q H' s h => k q H' (s2.trans s) h)
end
end L2.KL
set_option Elab.async false
set_option linter.all false
set_option maxRecDepth 100000
set_option maxHeartbeats 4000000
namespace L2.KL
open PySem PySem.Spec PyProof.Rows PySem.W
local macro_rules | `(tactic| walk_at "hp") => `(tactic| first
  | assumption
  | (with_reducible exact upd_same)
  | (apply Same.get; (· assumption); (· walk_at "hp")))
local macro_rules | `(tactic| walk_at "cl") => `(tactic| first
  | (with_reducible rfl)
  | assumption
  | ((with_reducible apply dg_seenP); (· walk_at "hp"); (· walk_at "hp"))
  | ((with_reducible apply dp_seenP); (· walk_at "hp"); (· walk_at "hp"); (· omega))
  | (with_reducible exact lk_images)
  | (walk_at "hp")
  | (apply tyL; walk_at "hp")
  | (apply Or.inl; apply SqL.of; walk_at "hp")
  | (apply Or.inr; apply SqT.of; walk_at "hp")
  | (apply exT; walk_at "hp")
  | (apply sz_nat; simp only [List.length_map, List.length_append, List.length_cons, List.length_nil]; omega))
local macro_rules | `(tactic| walk_at "r1") => `(tactic| first
  | (with_reducible refine rd_seq ?_)
  | ((with_reducible apply rd_var); (· exact rfl))
  | (with_reducible refine rd_c ?_)
  | (with_reducible refine rd_op ?_)
  | (with_reducible refine rd_fld ?_)
  | (with_reducible refine rd_cb ?_)
  | (with_reducible refine rd_cons ?_)
  | (with_reducible refine rd_nil ?_)
  | (with_reducible refine rd_call ?_)
  | (with_reducible refine rd_lst ?_)
  | (with_reducible refine rd_asg ?_)
  | (with_reducible refine rd_name ?_)
  | (with_reducible refine rd_ret ?_)
  | (with_reducible refine rd_drop ?_)
  | (with_reducible refine rd_if ?_)
  | (with_reducible refine rd_test ?_)
  | (with_reducible refine rd_B ?_)
  | (with_reducible refine rd_bm ?_)
  | (with_reducible refine rd_next ?_)
  | (with_reducible refine rd_I0 ?_)
  | ((with_reducible apply rd_ixT); (· walk_at "hp"); (· walk_at "at"))
  | ((with_reducible apply rd_ixL); (· walk_at "hp"); (· walk_at "at"))
  | (with_reducible refine rd_for ?_)
  | (with_reducible refine rd_iTup ?_)
  | ((with_reducible apply rd_append); (· walk_at "hp"); (· simp only [List.length_map, List.length_append, List.length_cons, List.length_nil]; omega))
  | (with_reducible refine rd_dnotin ?_)
  | (with_reducible refine rd_dput ?_)
  | (with_reducible refine rd_dispT1 ?_)
  | (with_reducible apply Exists.intro)
  | ((with_reducible refine And.intro ?_ ?_); (· walk_at "cl")))
local macro_rules | `(tactic| walk_at "at") => `(tactic| first
  | (apply at_refs; assumption))
local macro_rules | `(tactic| walk_at "rd") => `(tactic| ((repeat walk_at "r1"); (try dsimp only [List.set])))
def TupR (t : Addr) (xs : List Nat) (H : Hp) : Prop := H t = some (.tup (natsV xs))
theorem tupR_fm (t : Addr) (xs : List Nat) : Fm (TupR t xs) := fun _ _ s h => s _ _ h rfl
theorem permR_fm (C : Addr) (t : Addr) (xs : List Nat) : Fm (fun H => PermAt C H t xs) := fun _ _ s h => h.fz s
def PermR (C : Addr) (t : Addr) (xs : List Nat) (H : Hp) : Prop := PermAt C H t xs
theorem permRfm (C : Addr) (t : Addr) (xs : List Nat) : Fm (PermR C t xs) := fun _ _ s h => PermAt.fz s h
theorem sortOk_perms {n : Nat} (hn : 1 ≤ n) {O : List (List Nat)} (hO : ∀ p ∈ O, IsP n p) : SortOk ((O.map iN).map fun k => PyData.tuple (dI k)) := by
  have hd : ∀ d ∈ (O.map iN).map (fun k => PyData.tuple (dI k)), ∃ p ∈ O, d = .tuple (dI (iN p)) := fun d h => by
    obtain ⟨k, hk, rfl⟩ := List.mem_map.mp h
    obtain ⟨p, hp, rfl⟩ := List.mem_map.mp hk
    exact ⟨p, hp, rfl⟩
  refine ⟨fun d hd1 d' hd2 => ?_, .inl fun d h => ?_, fun d h => ?_, fun d h => ?_⟩
  · obtain ⟨p, _, rfl⟩ := hd d hd1
    obtain ⟨q, _, rfl⟩ := hd d' hd2
    show alike (.tuple ((iN p).map .int)) (.tuple ((iN q).map .int)) = true
    rw [alike]
    exact alike_ints _ _
  · obtain ⟨p, hp, rfl⟩ := hd d h
    have hl := (hO p hp).len
    cases p with
    | nil =>
      have : (0 : Nat) = n := hl
      omega
    | cons a r => exact ⟨.int (a : Int), dI (iN r), rfl⟩
  · obtain ⟨p, _, rfl⟩ := hd d h
    exact nl_ints _
  · obtain ⟨p, _, rfl⟩ := hd d h
    have e1 : PyData.depth (.tuple (dI (iN p))) = PyData.depthAll (dI (iN p)) + 1 := rfl
    have := dI_depth (iN p)
    omega
/-- the sorted keys: their tuples, in order -/
theorem srt_keys {H : Hp} {O : List (List Nat)} {bs : List Addr} (hl : bs.length = O.length) (hb : ∀ (i : Nat) b p, bs[i]? = some b → O[i]? = some p → H b = some (.tup (natsV p))) :
    ∃ rs, (srtD ((bs.zip (O.map iN)).map fun q => (V.ref q.1, PyData.tuple (dI q.2)))).map (·.1) = refsV rs ∧ AllAt TupR H rs (srtL O) := by
  have e0 : ((bs.zip (O.map iN)).map fun q => (V.ref q.1, PyData.tuple (dI q.2))) = (bs.zip O).map fun q => (V.ref q.1, PyData.tuple (dI (iN q.2))) := by
    rw [List.zip_map_right, List.map_map]
    rfl
  have e1 : srtD ((bs.zip O).map fun q => (V.ref q.1, PyData.tuple (dI (iN q.2)))) = ((bs.zip O).mergeSort (dataLe false fun q => PyData.tuple (dI (iN q.2)))).map fun q => (V.ref q.1, PyData.tuple (dI (iN q.2))) := by
    unfold srtD
    exact (List.map_mergeSort (r := dataLe false fun q : Addr × List Nat => PyData.tuple (dI (iN q.2))) (s := dataLe false fun b : V × PyData => b.2) (f := fun q : Addr × List Nat => (V.ref q.1, PyData.tuple (dI (iN q.2)))) (l := bs.zip O) (fun a _ b _ => rfl)).symm
  have e2 : ((bs.zip O).mergeSort (dataLe false fun q => PyData.tuple (dI (iN q.2)))).map (·.2) = srtL O := by
    unfold srtL
    rw [List.map_mergeSort (r := dataLe false fun q : Addr × List Nat => PyData.tuple (dI (iN q.2))) (s := dataLe false fun k : List Nat => PyData.tuple (dI (iN k))) (f := fun q : Addr × List Nat => q.2) (l := bs.zip O) (fun a _ b _ => rfl)]
    congr 1
    exact List.map_snd_zip (by omega)
  generalize hz : (bs.zip O).mergeSort (dataLe false fun q => PyData.tuple (dI (iN q.2))) = zs at e1 e2
  have hm : ∀ q ∈ zs, H q.1 = some (.tup (natsV q.2)) := fun q hq => by
    rw [← hz] at hq
    have hq2 := (List.mergeSort_perm _ _).mem_iff.mp hq
    obtain ⟨j, hj, ej⟩ := List.mem_iff_getElem.mp hq2
    have e3 : (bs.zip O)[j]? = some q := by rw [List.getElem?_eq_getElem hj, ej]
    obtain ⟨e4, e5⟩ := List.getElem?_zip_eq_some.mp e3
    exact hb j q.1 q.2 e4 e5
  refine ⟨zs.map (·.1), ?_, ?_, fun i t x h1 h2 => ?_⟩
  · rw [e0, e1, List.map_map]
    show zs.map (fun q => V.ref q.1) = (zs.map (·.1)).map V.ref
    rw [List.map_map]
    rfl
  · rw [← e2, List.length_map, List.length_map]
  · rw [← e2] at h2
    rw [List.getElem?_map] at h1 h2
    cases e : zs[i]? with
    | none => rw [e] at h1; cases h1
    | some q =>
      rw [e] at h1 h2
      have h1' : q.1 = t := by simpa using h1
      have h2' : q.2 = x := by simpa using h2
      rw [← h1', ← h2']
      exact hm q (List.mem_of_getElem? e)
section
variable {P : Program} {w : World} {K : PySem.W.Frag} {mg : Str → Option Value} {base : Heap}
theorem rd_mulP {C : Addr} {H : Hp} {p q : Addr} {Q : VK} {E : XK} {n : Nat} {xs ys : List Nat} (hp : PermAt C H p xs) (hq : PermAt C H q ys) (hx : IsP n xs) (hy : IsP n ys) (h1 : 1 ≤ n) (h12 : n ≤ 12) (k : ∀ r H', Same H H' → PermAt C H' r (mulP xs ys) → Q (.ref r) H') : rBinO C (spMulP C) E (.ref p) (.ref q) H Q := by
  obtain ⟨dx, t, a1, a2⟩ := id hp
  obtain ⟨dy, u, b1, b2⟩ := id hq
  exact ⟨p, q, dx, dy, _, _, rfl, rfl, a1, b1, p, q, n, xs, ys, rfl, hp, hq, hx, hy, h1, h12, fun r H' s hr => ⟨(fun z => by cases z), (fun m z => by cases z), k r H' s hr⟩⟩
def spClos (C : Addr) : Sp := fun vs H Q _ => ∃ (a : Addr) (gs : List Addr) (gl : List (List Nat)) (n : Nat), vs = [.ref a] ∧ H a = some (.tup (refsV gs)) ∧ AllAt (PermR C) H gs gl ∧ (∀ g ∈ gl, IsP n g) ∧ (n = 3 ∨ n = 4) ∧ 1 ≤ gl.length ∧ gl.length ≤ 1000 ∧
  ∀ L o rs H', PGrp n L → H o = none → Same H H' → H' o = some (.lst (refsV rs)) → AllAt TupR H' rs L → Q (.ref o) H'
theorem sc_closure : FnScope ["generators", "first", "order", "seen", "at", "g", "found"] ["generators"] HD.d_closure.scope := ⟨rfl, rfl, rfl, by decide +kernel, rfl, by decide +kernel, by decide +kernel⟩
theorem ok_clos (T : Tx K mg) : Ok P w K mg base CX0 5 HD.d_closure ["generators"] (spClos (CP K)) := by
  have c1 := T.c_Permutation
  have n1 := T.na_Permutation_images
  obtain ⟨t60, hMOST_ORDER⟩ := T.i_MOST_ORDER
  have G_identity : Ok P w K mg base CX0 4 _ _ _ := ok_ident T
  have G_Permutation_mul : Ok P w K mg base CX0 4 _ _ _ := ok_mulP T
  have nd := sc_closure.nd
  refine Ok.mk0 T fn__closure rfl sc_closure (fun vs H Q E h => ?_) (fun _ _ _ _ _ _ us hl => match us, hl with | [_], _ => rfl) (fun cdv A outer s H vs Q E hr h => ?_)
  · obtain ⟨a, gs, gl, n, rfl, _⟩ := h
    rfl
  · obtain ⟨a, gs, gl, n, rfl, ha, hg, hgP, hn, hgl, hgl2, k⟩ := h
    have hn1 : 1 ≤ n := by omega
    have hn12 : n ≤ 12 := by omega
    obtain ⟨g0, hg0⟩ : ∃ g0, gl[0]? = some g0 := ⟨_, List.getElem?_eq_getElem (by omega)⟩
    obtain ⟨p0, hp0, dx0, t0, ip0, it0⟩ := hg.get hg0
    have lg0 := (hgP g0 (List.mem_of_getElem? hg0)).len
    refine ⟨_, pss_cons
          -- first = identity(len(generators[0].images))
          (ps_set (i := 1) nd rfl (.inl rfl) (pe_f (G_identity) (hr.mono (by decide)) T.g_identity pass0 (pa_cons (pe_callB call_len_seq (by rfl) T.b_len (by decide +kernel) (pa_cons (pe_fld (pe_ix (r := rIxT K) ix_tup (pv 0) pe_int (fun _ _ => rfl)) rfl) pa_nil)) pa_nil)))
         (pss_cons
          -- order = [first]
          (ps_set (i := 2) nd rfl (.inl rfl) (pe_lst (pa_cons (pv 1) pa_nil)))
         (pss_cons
          -- seen = {first.images: True}
          (ps_set (i := 3) nd rfl (.inl rfl) (pe_dispT hr.units0 (pe_fld (pv 1) rfl) pe_bl))
         (pss_cons
          -- at = 0
          (ps_set (i := 4) nd rfl (.inl rfl) pe_int)
         (pss_cons
          -- while at < len(order):
          (ps_while PassesOwn.never (pt_cmpR op_lt (pv 4) (pe_callB call_len_seq (by rfl) T.b_len (by decide +kernel) (pa_cons (pv 2) pa_nil)) (nomark _)) (pss_cons
            -- for g in generators:
            (ps_for PassesOwn.never rfl (pi_tup (pv 0)) (pg_name (i := 5) nd rfl (.inl rfl)) (pss_cons
              -- found = order[at] * g
              (ps_set (i := 6) nd rfl (.inl rfl) (pe_op (op_binK G_Permutation_mul T.me_Permutation_mul rfl T.sf_Permutation (hr.mono (by decide)) pass0) (pe_ix (r := rIxL K) ix_list (pv 2) (pv 4) (fun _ _ => rfl)) (pv 5)))
             (pss_one
              -- if found.images not in seen:
              (ps_if (pt_cmp (pc_dnotin (hu_of hr) (pe_fld (pv 6) rfl) (pv 3))) (pss_cons
                -- seen[found.images] = True
                (ps_dput (hu_of hr) (pv 3) (pe_fld (pv 6) rfl) pe_bl rfl)
               (pss_cons
                -- order.append(found)
                (ps_expr (pe_bm PySem.F.plainAttrs_list PySem.F.slot_list_append PySem.F.type_list_append mt_append (pv 2) (pa_cons (pv 6) pa_nil)))
               (pss_one
                -- if len(order) > MOST_ORDER:
                (ps_if (pt_cmpR op_gt (pe_callB call_len_seq (by rfl) T.b_len (by decide +kernel) (pa_cons (pv 2) pa_nil)) (pe_glob (v := .int 60) rfl hMOST_ORDER ⟨_, rfl⟩) (nomark _)) (pss_one
                  -- raise Refused('order')
                  (ps_never)) (pss_nil))))) (pss_nil)))))
           (pss_one
            -- at = at + 1
            (ps_set (i := 4) nd rfl (.inl rfl) (pe_op op_add (pv 4) pe_int)))))
         (pss_one
          -- return sorted(seen)
          (ps_ret (pe_callB (cr_sortedDT rfl hr.units) (by rfl) T.b_sorted (by decide +kernel) (pa_cons (pv 3) pa_nil)))))))), ?_⟩
    try dsimp only [cxOf, Cx.wish]
    walk_at "rd"
    rw [List.length_map, lg0]
    refine ⟨n, rfl, hn1, hn12, fun f H1 s1 hf => ?_⟩
    obtain ⟨dxf, tf, ip1, it1⟩ := id hf
    walk_at "rd"
    intro o ho
    have ip2 : upd H1 o (.lst [V.ref f]) f = _ := upd_old ho ip1
    have it2 : upd H1 o (.lst [V.ref f]) tf = _ := upd_old ho it1
    walk_at "rd"
    intro d hd
    have ip3 := upd_old (u := .dT []) hd ip2
    have it3 := upd_old (u := .dT []) hd it2
    walk_at "rd"
    have hk0 : upd (upd H1 o (.lst [V.ref f])) d (.dT []) tf = some (.tup ((keyP (List.range n)).map kV)) := by
      rw [keyP_kV]
      exact it3
    refine ⟨hk0, ?_⟩
    have hdo : d ≠ o := by
      rintro rfl
      rw [upd_same] at hd
      cases hd
    have ho0 := none_of s1 ho
    have hd1 : H1 d = none := by
      have z := hd
      rw [upd_ne hdo] at z
      exact z
    have hd0 := none_of s1 hd1
    have e1 : upd (upd (upd H1 o (.lst [V.ref f])) d (.dT [])) d (.dT [(keyP (List.range n), V.bl true)]) o = some (.lst (refsV [f])) := by rw [upd_ne (Ne.symm hdo), upd_ne (Ne.symm hdo), upd_same]; rfl
    have e2 : upd (upd (upd H1 o (.lst [V.ref f])) d (.dT [])) d (.dT [(keyP (List.range n), V.bl true)]) d = some (.dT (kvP [List.range n])) := by rw [upd_same]; rfl
    have s13 : Same H1 (upd (upd (upd H1 o (.lst [V.ref f])) d (.dT [])) d (.dT [(keyP (List.range n), V.bl true)])) := Same.mut (Same.mut (Same.new ho) hd1) hd1
    generalize upd (upd (upd H1 o (.lst [V.ref f])) d (.dT [])) d (.dT [(keyP (List.range n), V.bl true)]) = H2 at e1 e2 s13 ⊢
    have s03 := s1.trans s13
    walk_at "rd"
    refine wh (fun m σ H' => ∃ (at_ : Nat) (O : List (List Nat)) (os : List Addr) (v5 v6 : Option V), m = 24 - at_ ∧ σ = [some (.ref a), some (.ref f), some (.ref o), some (.ref d), some (nV at_), v5, v6] ∧ CInv n gl at_ O ∧ Same H H' ∧ H' o = some (.lst (refsV os)) ∧ H' d = some (.dT (kvP O)) ∧ AllAt (PermR (CP K)) H' os O)
      (24 - 0) ⟨0, [List.range n], [f], none, none, rfl, rfl, CInv.start n gl, s03, e1, e2, ⟨rfl, fun i t x h1 h2 => ?_⟩⟩ ?_
    · have hi : i = 0 := by
        have := (List.getElem?_eq_some_iff.mp h1).1
        simp at this
        omega
      subst hi
      cases h1
      cases h2
      exact hf.fz (Fz.of s13)
    rintro m σ H' ⟨at_, O, os, v5, v6, rfl, rfl, I, s4, hO, hD, hA⟩
    have hO24 := I.le hn
    have hosl := hA.1
    walk_at "rd"
    rw [List.length_map]
    refine if_d (fun hlt => ?_) (fun hge => ?_)
    · have hlt' : at_ < O.length := by omega
      refine wstep ?_
      walk_at "rd"
      obtain ⟨r, hr⟩ : ∃ r, O[at_]? = some r := ⟨_, List.getElem?_eq_getElem hlt'⟩
      have hrP := I.isP r (List.mem_of_getElem? hr)
      refine fj_tup (xs := refsV gs) (fun j σ H' => ∃ (O' : List (List Nat)) (os' : List Addr) (v5 v6 : Option V), σ = [some (.ref a), some (.ref f), some (.ref o), some (.ref d), some (nV at_), v5, v6] ∧ CInv n gl at_ O' ∧ O'[at_]? = some r ∧ (∀ i g, i < j → gl[i]? = some g → mulP r g ∈ O') ∧ Same H H' ∧ H' o = some (.lst (refsV os')) ∧ H' d = some (.dT (kvP O')) ∧ AllAt (PermR (CP K)) H' os' O')
        ⟨O, os, v5, v6, rfl, I, hr, (fun i g hi => by omega), s4, hO, hD, hA⟩ (fun i σ H' _ z => SqT.of (by obtain ⟨_, _, _, _, _, _, _, _, z, _⟩ := z; exact z _ _ ha)) ?_ ?_
      · rintro j x σ H3 hx ⟨O', os', v5, v6, rfl, I', hr', hj, s5, hO', hD', hA'⟩
        have hjl : j < gl.length := by
          have := (List.getElem?_eq_some_iff.mp hx).1
          rw [List.length_map] at this
          rw [← hg.1]
          exact this
        obtain ⟨g, hgg⟩ : ∃ g, gl[j]? = some g := ⟨_, List.getElem?_eq_getElem hjl⟩
        obtain ⟨gt, hgt, hgP'⟩ := hg.get hgg
        rw [List.getElem?_map, hgt] at hx
        have hx' : V.ref gt = x := by simpa using hx
        subst hx'
        have hgm := List.mem_of_getElem? hgg
        obtain ⟨ot, hot, hoP⟩ := hA'.get hr'
        have hO24' := I'.le hn
        have hnl := (List.getElem?_eq_some_iff.mp hr').1
        walk_at "rd"
        refine rd_mulP hoP (PermAt.fz (Fz.of s5) hgP') hrP (hgP g hgm) hn1 hn12 fun q H4 s6 hq => ?_
        obtain ⟨dxq, tq, iq, itq⟩ := id hq
        have s56 := s5.trans s6
        have hO4 := s6 _ _ hO'
        have hD4 := s6 _ _ hD'
        have hA4 := hA'.fz (permRfm (CP K)) (Fz.of s6)
        walk_at "rd"
        by_cases hm : mulP r g ∈ O'
        · rw [if_pos hm]
          refine if_bF (by simp) ?_
          walk_at "rd"
          refine at_i ⟨O', os', _, _, rfl, I', hr', fun i g' hi hg' => ?_, s56, hO4, hD4, hA4⟩
          by_cases z : i = j
          · subst z
            rw [hgg] at hg'
            cases hg'
            exact hm
          · exact hj i g' (by omega) hg'
        · rw [if_neg hm]
          refine if_bT (by simp) ?_
          have hO5 : upd H4 d (.dT (kvP (addP O' (mulP r g)))) o = some (.lst (refsV os')) := by
            rw [upd_ne (Ne.symm hdo)]
            exact hO4
          have hosl' := hA4.1
          walk_at "rd"
          rw [snoc_refs]
          walk_at "rd"
          refine if_d (fun z => absurd z (by rw [List.length_map, List.length_append]; show ¬ (60 : Int) < ((os'.length + 1 : Nat) : Int); omega)) (fun _ => ?_)
          walk_at "rd"
          have fz1 : Fz H4 (upd H4 d (.dT (kvP (addP O' (mulP r g))))) := Fz.upd hD4 rfl
          have fz2 := fz1.trans (Fz.upd (o := .lst (refsV (os' ++ [q]))) hO5 rfl)
          have eAdd : addP O' (mulP r g) = O' ++ [mulP r g] := by
            unfold addP
            rw [if_neg hm]
          refine at_i ⟨addP O' (mulP r g), os' ++ [q], _, _, rfl, I'.add hnl (List.mem_of_getElem? hr') hgm (hgP g hgm), addP_get hr', fun i g' hi hg' => ?_, Same.mut (Same.mut s56 hd0) ho0, upd_same, ?_, ?_⟩
          · by_cases z : i = j
            · subst z
              rw [hgg] at hg'
              cases hg'
              exact addP_mem.mpr (.inr rfl)
            · exact addP_mem.mpr (.inl (hj i g' (by omega) hg'))
          · rw [upd_ne hdo, upd_same]
          · have zz := (hA4.fz (permRfm (CP K)) fz2).snoc (t := q) (x := mulP r g) (hq.fz fz2)
            rw [← eAdd] at zz
            exact zz
      · rintro σ H3 ⟨O', os', v5, v6, rfl, I', hr', hj, s5, hO', hD', hA'⟩
        have hO24' := I'.le hn
        have hnl := (List.getElem?_eq_some_iff.mp hr').1
        walk_at "rd"
        refine wn (24 - (at_ + 1)) (by omega) ⟨at_ + 1, O', os', _, _, rfl, rfl, I'.next hr' fun g hgg => ?_, s5, hO', hD', hA'⟩
        obtain ⟨i, hi, e⟩ := List.mem_iff_getElem.mp hgg
        exact hj i g (by rw [List.length_map, hg.1]; exact hi) (by rw [List.getElem?_eq_getElem hi, e])
    · walk_at "rd"
      have hkeys : (kvP O).map (·.1) = (O.map iN).map fun k => k.map (Sum.inl : Int → Key) := by
        unfold kvP
        rw [List.map_map, List.map_map]
        refine List.map_congr_left fun p _ => ?_
        show keyP p = (p.map _).map _
        rw [List.map_map]
        rfl
      refine ⟨d, kvP O, O.map iN, rfl, hD, hkeys, sortOk_perms hn1 I.isP, by rw [List.length_map]; omega, fun p bs hp hik => ?_⟩
      obtain ⟨k1, k2⟩ := isKeys_get hik
      have lk : (kvP O).length = O.length := List.length_map _
      obtain ⟨rs, h1, h2⟩ := srt_keys (H := H') (O := O) (bs := bs) (by omega) (fun i b p hb hp' => by
        have := k2 i b (keyP p, V.bl true) hb (by unfold kvP; rw [List.getElem?_map, hp']; rfl)
        rw [keyP_kV] at this
        exact this)
      rw [h1]
      have hdone : O.length ≤ at_ := by omega
      exact k (srtL O) p rs _ (clos_grp hn I hdone hgP) (none_of s4 hp) (s4.trans (Same.new hp)) upd_same (h2.fz tupR_fm (Fz.of (Same.new hp)))
end
end L2.KL
set_option Elab.async false
set_option linter.all false
set_option maxRecDepth 100000
set_option maxHeartbeats 4000000
namespace L2.KL
open PySem PySem.Spec PyProof.Rows
/-! comprehensions of dicts with tuples for keys -/
def DcTJ (J : It) (g : TG) (tt : TT) (tk tv : TE) (vs : List Nat) (σ : St) (Q : VK) (H1 : Hp) : Prop := ∀ D, H1 D = none → ∃ W : Nat → Nat → Hp → Prop, (∃ m, W 0 m (upd H1 D (.dT []))) ∧ ∀ i m H, W i m H →
  (J.stop i H ∧ Q (.ref D) H) ∨ (J.go i H ∧ ∃ Nx : Hp → Prop, (∀ H', Nx H' → ∃ m', m' < m ∧ W (i + 1) m' H') ∧ ∀ x H', J.yld i H x H' → g x (wipe σ vs) H' fun σ2 H2 => wipe σ2 vs = wipe σ vs ∧ tt σ2 H2 fun b H3 =>
    if b = true then tk σ2 H3 fun y H4 => tv σ2 H4 fun z H5 => ∃ (kvs : List (List Key × V)) (k : List Key) (p : Addr), y = .ref p ∧ H5 p = some (.tup (k.map kV)) ∧ H5 D = some (.dT kvs) ∧ kvs.length < sizeLine ∧ Nx (upd H5 D (.dT (putK kvs k z))) else Nx H3)
theorem rd_dcT {wi : TI} {g : TG} {tt : TT} {tk tv : TE} {vs : List Nat} {σ : St} {H : Hp} {Q : VK} (h : wi σ H fun J H1 => DcTJ J g tt tk tv vs σ Q H1) : tDcT wi g tt tk tv vs σ H Q := h
theorem dctj_it {J : It} {g : TG} {tt : TT} {tk tv : TE} {vs : List Nat} {σ : St} {Q : VK} {H1 : Hp} {n : Nat} {G : Hp → Prop} {Y : Nat → Hp → V → Hp → Prop} (w : Walk J n G Y) (Pv : Addr → Nat → Hp → Prop) (h0 : ∀ D, H1 D = none → Pv D 0 (upd H1 D (.dT []))) (hG : ∀ D i H, i ≤ n → Pv D i H → G H)
    (hs : ∀ D i x H H', H1 D = none → i < n → Pv D i H → Y i H x H' → g x (wipe σ vs) H' fun σ2 H2 => wipe σ2 vs = wipe σ vs ∧ tt σ2 H2 fun b H3 =>
      if b = true then tk σ2 H3 fun y H4 => tv σ2 H4 fun z H5 => ∃ (kvs : List (List Key × V)) (k : List Key) (p : Addr), y = .ref p ∧ H5 p = some (.tup (k.map kV)) ∧ H5 D = some (.dT kvs) ∧ kvs.length < sizeLine ∧ Pv D (i + 1) (upd H5 D (.dT (putK kvs k z))) else Pv D (i + 1) H3) (hd : ∀ D H, H1 D = none → Pv D n H → Q (.ref D) H) : DcTJ J g tt tk tv vs σ Q H1 := by
  intro D hD
  refine ⟨fun i m H => m = n - i ∧ i ≤ n ∧ Pv D i H, ⟨n, by simp, Nat.zero_le _, h0 D hD⟩, ?_⟩
  rintro i m H ⟨rfl, hi, p⟩
  have q := hG D i H hi p
  by_cases hlt : i < n
  · exact .inr ⟨w.goes i H hlt q, Pv D (i + 1), fun H' p' => ⟨n - (i + 1), by omega, rfl, hlt, p'⟩, fun x H' y => hs D i x H H' hD hlt p (w.yields i H x H' hlt q y)⟩
  · have e : i = n := by omega
    subst e
    exact .inl ⟨w.stops H q, hd D H hD p⟩
theorem pi_listK {X : Cx} {K : PySem.W.Frag} {tg l : Expr} {tl : TE} (h : PE X l tl) (hK : X.K = K := by rfl) : PI X tg l (iList K tl) := by
  subst hK
  exact pi_list h
theorem pi_tupK {X : Cx} {K : PySem.W.Frag} {tg l : Expr} {tl : TE} (h : PE X l tl) (hK : X.K = K := by rfl) : PI X tg l (iTup K tl) := by
  subst hK
  exact pi_tup h
theorem refs_of : ∀ {ys : List V} {R : Nat → Addr → Prop}, (∀ (i : Nat) v, ys[i]? = some v → ∃ p, v = V.ref p ∧ R i p) → ∃ ps : List Addr, ys = refsV ps ∧ ps.length = ys.length ∧ ∀ (i : Nat) p, ps[i]? = some p → R i p
  | [], _, _ => ⟨[], rfl, rfl, fun i p h => by simp at h⟩
  | y :: ys, R, h => by
    obtain ⟨p, rfl, hp⟩ := h 0 y rfl
    obtain ⟨ps, rfl, h2, h3⟩ := refs_of (ys := ys) (R := fun i => R (i + 1)) fun i v hv => h (i + 1) v (by simpa using hv)
    refine ⟨p :: ps, rfl, by rw [List.length_cons, List.length_cons, h2], fun i q hq => ?_⟩
    cases i with
    | zero =>
      cases hq
      exact hp
    | succ i => exact h3 i q (by simpa using hq)
/-! the numbers of permutations -/
def kvN : Nat → List (List Nat) → List (List Key × V)
  | _, [] => []
  | i, p :: r => (keyP p, nV i) :: kvN (i + 1) r
theorem kvN_len : ∀ (i : Nat) (L : List (List Nat)), (kvN i L).length = L.length
  | _, [] => rfl
  | i, _ :: r => congrArg Nat.succ (kvN_len (i + 1) r)
theorem valV_N (x : List Nat) : ∀ (i : Nat) (L : List (List Nat)), valV (kvN i L) (keyP x) = if x ∈ L then some (nV (i + L.idxOf x)) else none
  | _, [] => rfl
  | i, p :: r => by
    show valV ((keyP p, nV i) :: kvN (i + 1) r) _ = _
    by_cases h : p = x
    · subst h
      rw [valV_pos rfl, if_pos (.head _), List.idxOf_cons_self]
      rfl
    · rw [valV_neg (fun z => h (keyP_inj z)), valV_N x (i + 1) r]
      by_cases hm : x ∈ r
      · have e : (p :: r).idxOf x = r.idxOf x + 1 := by
          rw [List.idxOf_cons]
          have : (p == x) = false := beq_eq_false_iff_ne.mpr h
          rw [this]
          rfl
        rw [if_pos hm, if_pos (.tail _ hm), e, show i + 1 + r.idxOf x = i + (r.idxOf x + 1) by omega]
      · rw [if_neg hm, if_neg (fun z => by rcases List.mem_cons.mp z with y | y; exact h y.symm; exact hm y)]
theorem kvN_snoc (p : List Nat) : ∀ (i : Nat) (L : List (List Nat)), kvN i (L ++ [p]) = kvN i L ++ [(keyP p, nV (i + L.length))]
  | i, [] => rfl
  | i, q :: r => by
    show (keyP q, nV i) :: kvN (i + 1) (r ++ [p]) = (keyP q, nV i) :: (kvN (i + 1) r ++ _)
    rw [kvN_snoc p (i + 1) r]
    rw [show i + 1 + r.length = i + (q :: r).length by show _ = i + (r.length + 1); omega]
theorem putK_N {L : List (List Nat)} {p : List Nat} (h : p ∉ L) : putK (kvN 0 L) (keyP p) (nV L.length) = kvN 0 (L ++ [p]) := by
  unfold putK
  rw [valV_any, valV_N, if_neg h, if_neg (by simp), kvN_snoc, Nat.zero_add]
theorem dg_num {H : Hp} {a b : Addr} {L : List (List Nat)} {x : List Nat} (h : H a = some (.dT (kvN 0 L))) (hb : H b = some (.tup (natsV x))) (hx : x ∈ L) : DGet H a (.ref b) (some (nV (L.idxOf x))) := by
  have e : valV (kvN 0 L) (keyP x) = some (nV (L.idxOf x)) := by rw [valV_N, if_pos hx, Nat.zero_add]
  rw [← e]
  exact DGet.t h (by rw [keyP_kV]; exact hb)
theorem tabP_range (L : List (List Nat)) : tabP L = (List.range L.length).map fun x => L.map fun b => L.idxOf (mulP (L.getD x []) b) := by
  unfold tabP
  apply List.ext_getElem?
  intro i
  rw [List.getElem?_map, List.getElem?_map]
  by_cases hi : i < L.length
  · rw [List.getElem?_range hi, List.getElem?_eq_getElem hi]
    show some _ = some (L.map fun b => L.idxOf (mulP (L.getD i []) b))
    rw [List.getD_eq_getElem?_getD, List.getElem?_eq_getElem hi]
    rfl
  · rw [List.getElem?_eq_none (by omega), List.getElem?_eq_none (by rw [List.length_range]; omega)]
    rfl
local macro_rules | `(tactic| walk_at "hp") => `(tactic| first
  | assumption
  | (with_reducible exact upd_same)
  | (apply Same.get; (· assumption); (· walk_at "hp")))
local macro_rules | `(tactic| walk_at "cl") => `(tactic| first
  | (with_reducible rfl)
  | assumption
  | (with_reducible exact lk_images)
  | (walk_at "hp")
  | (apply SqL.of; walk_at "hp")
  | (apply Or.inr; apply SqT.of; walk_at "hp")
  | (apply exL; walk_at "hp")
  | (apply exT; walk_at "hp")
  | (apply sz_nat; simp only [List.length_map, List.length_append, List.length_cons, List.length_nil]; omega))
local macro_rules | `(tactic| walk_at "r1") => `(tactic| first
  | (with_reducible refine rd_seq ?_)
  | ((with_reducible apply rd_var); (· exact rfl))
  | (with_reducible refine rd_c ?_)
  | (with_reducible refine rd_op ?_)
  | (with_reducible refine rd_fld ?_)
  | (with_reducible refine rd_cb ?_)
  | (with_reducible refine rd_cons ?_)
  | (with_reducible refine rd_nil ?_)
  | (with_reducible refine rd_call ?_)
  | (with_reducible refine rd_tup ?_)
  | (with_reducible refine rd_asg ?_)
  | (with_reducible refine rd_name ?_)
  | (with_reducible refine rd_ret ?_)
  | (with_reducible refine rd_if ?_)
  | (with_reducible refine rd_test ?_)
  | (with_reducible refine rd_B ?_)
  | (with_reducible refine rd_or ?_)
  | (with_reducible refine rd_not ?_)
  | (with_reducible refine rd_next ?_)
  | ((with_reducible apply rd_ixT); (· walk_at "hp"); (· walk_at "at"))
  | ((with_reducible apply rd_eq); (· exact rfl))
  | ((with_reducible apply rd_ne); (· exact rfl))
  | (with_reducible refine rd_for ?_)
  | (with_reducible refine rd_iList ?_)
  | (with_reducible refine rd_iTup ?_)
  | (with_reducible refine rd_lc ?_)
  | (with_reducible refine rd_dcT ?_)
  | (with_reducible refine rd_make ?_)
  | (with_reducible refine rd_dget ?_)
  | (with_reducible refine rd_iEnum ?_)
  | (with_reducible refine iteNT ?_)
  | ((with_reducible apply isi_own); (· assumption); (· assumption); (· walk_at "hp"))
  | ((with_reducible apply isi_lt_tup); (· walk_at "hp"); (· walk_at "hp"))
  | ((with_reducible apply or_tl); (· walk_at "hp"))
  | (with_reducible apply Exists.intro)
  | ((with_reducible refine And.intro ?_ ?_); (· walk_at "cl")))
local macro_rules | `(tactic| walk_at "at") => `(tactic| first
  | (apply at_refs; assumption))
local macro_rules | `(tactic| walk_at "rd") => `(tactic| ((repeat walk_at "r1"); (try dsimp only [List.set])))
section
variable {P : Program} {w : World} {K : PySem.W.Frag} {mg : Str → Option Value} {base : Heap}
def spFrom (C CG : Addr) : Sp := fun vs H Q _ => ∃ (a : Addr) (gs : List Addr) (gl : List (List Nat)) (n : Nat), vs = [.ref a] ∧ H a = some (.tup (refsV gs)) ∧ AllAt (PermR C) H gs gl ∧ (∀ g ∈ gl, IsP n g) ∧ (n = 3 ∨ n = 4) ∧ 1 ≤ gl.length ∧ gl.length ≤ 1000 ∧
  ∀ L t g p H', PGrp n L → Same H H' → H' t = some (.tup [.ref g, .ref p]) → GrpAt CG H' g (tabP L) → Q (.ref t) H'
theorem sc_from_permutations : FnScope ["generators", "g", "images", "permutations", "number", "rows", "row", "at", "a", "b"] ["generators"] HD.d_from_permutations.scope := ⟨rfl, rfl, rfl, by decide +kernel, rfl, by decide +kernel, by decide +kernel⟩
theorem ok_from (T : Tx K mg) : Ok P w K mg base CX0 7 HD.d_from_permutations ["generators"] (spFrom (CP K) (CG K)) := by
  have c1 := T.c_Permutation
  have n1 := T.na_Permutation_images
  have i1 := T.in_Permutation
  have G_closure : Ok P w K mg base CX0 5 _ _ _ := ok_clos T
  have G_Permutation_mul : Ok P w K mg base CX0 4 _ _ _ := ok_mulP T
  have G_Permutation_init : Ok P w K mg base CX0 2 _ _ _ := ok_pinit T
  have G_Group_init : Ok P w K mg base CX0 4 _ _ _ := ok_ginit T
  have nd := sc_from_permutations.nd
  refine Ok.mk0 T fn__from_permutations rfl sc_from_permutations (fun vs H Q E h => ?_) (fun _ _ _ _ _ _ us hl => match us, hl with | [_], _ => rfl) (fun cdv A outer s H vs Q E hr h => ?_)
  · obtain ⟨a, gs, gl, n, rfl, _⟩ := h
    rfl
  · obtain ⟨a, gs, gl, n, rfl, ha, hg, hgP, hn, hgl, hgl2, k⟩ := h
    have hn1 : 1 ≤ n := by omega
    have hn12 : n ≤ 12 := by omega
    obtain ⟨g0, hg0⟩ : ∃ g0, gl[0]? = some g0 := ⟨_, List.getElem?_eq_getElem (by omega)⟩
    obtain ⟨p0, hp0, dx0, t0, ip0, it0⟩ := hg.get hg0
    have lg0 := (hgP g0 (List.mem_of_getElem? hg0)).len
    have lgs := hg.1
    refine ⟨_, pss_cons
          -- if not isinstance(generators, (list, tuple)) or len(generators) == 0:
          (ps_if (PW.pt (pw_or (pt_not (pt_val (pe_callB call_isiT (by rfl) T.b_isinstance (by decide +kernel) (pa_cons (pv 0) (pa_cons (pe_tup (pa_cons (pe_bltn (v := .ty "list") (by rfl) T.b_list (by decide +kernel) rfl) (pa_cons (pe_bltn (v := .ty "tuple") (by rfl) T.b_tuple (by decide +kernel) rfl) pa_nil))) pa_nil))))) (pw_or1 (pt_cmpR op_eq (pe_callB call_len_seq (by rfl) T.b_len (by decide +kernel) (pa_cons (pv 0) pa_nil)) pe_int (nomark _))))) (pss_one
            -- raise Malformed('generators')
            (ps_never)) (pss_nil))
         (pss_cons
          -- for g in generators:
          (ps_for PassesOwn.never rfl (pi_tupK (K := K) (pv 0)) (pg_name (i := 1) nd rfl (.inl rfl)) (pss_one
            -- if not isinstance(g, Permutation) or len(g.images) != len(generators[0].images):
            (ps_if (PW.pt (pw_or (pt_not (pt_val (pe_callB call_isi (by rfl) T.b_isinstance (by decide +kernel) (pa_cons (pv 1) (pa_cons (pe_glob (v := .ref (He.ga K "Permutation")) rfl T.g_Permutation rfl) pa_nil))))) (pw_or1 (pt_cmpR op_ne (pe_callB call_len_seq (by rfl) T.b_len (by decide +kernel) (pa_cons (pe_fldK (K := K) (pv 1) rfl) pa_nil)) (pe_callB call_len_seq (by rfl) T.b_len (by decide +kernel) (pa_cons (pe_fldK (K := K) (pe_ix (r := rIxT K) ix_tup (pv 0) pe_int (fun _ _ => rfl)) rfl) pa_nil)) (nomark _))))) (pss_one
              -- raise Malformed('generator')
              (ps_never)) (pss_nil))))
         (pss_cons
          -- images = _closure(generators)
          (ps_set (i := 2) nd rfl (.inl rfl) (pe_f (G_closure) (hr.mono (by decide)) T.g_closure pass0 (pa_cons (pv 0) pa_nil)))
         (pss_cons
          -- permutations = [Permutation(row) for row in images]
          (ps_set (i := 3) nd rfl (.inr rfl) (pe_lc (own := [("row", 6)]) (g := gName 6) (tt := tYes) (by rfl) nd (pi_listK (K := K) (pv 2)) (blkOk_by (own := [("row", 6)]) (N := ["generators", "g", "images", "permutations", "number", "rows", "row", "at", "a", "b"]) (sc := HD.d_from_permutations.scope) (by decide +kernel)) (fun _ _ _ _ _ => (pg_name (i := 6) nd rfl (.inl rfl))) (fun _ _ _ _ _ => pts_nil) (fun _ _ _ _ _ => (pe_mk G_Permutation_init (hr.mono (by decide)) T.mk_Permutation T.g_Permutation pass0 (pa_cons (pv 6) pa_nil)))))
         (pss_cons
          -- number = {row: at for at, row in enumerate(images)}
          (ps_set (i := 4) nd rfl (.inr rfl) (pe_dcT (own := [("at", 7), ("row", 6)]) (g := gTup K 2 (gCons (gName 7) (gCons (gName 6) gNil))) (tt := tYes)  hr.units0 rfl nd (pi_enum (by rfl) T.b_enumerate (pa_cons (pv 2) pa_nil)) (blkOk_by (own := [("at", 7), ("row", 6)]) (N := ["generators", "g", "images", "permutations", "number", "rows", "row", "at", "a", "b"]) (sc := HD.d_from_permutations.scope) (by decide +kernel)) (fun _ _ _ _ _ => (pg_tup rfl (pgs_cons (pg_name (i := 7) nd rfl (.inl rfl)) (pgs_cons (pg_name (i := 6) nd rfl (.inl rfl)) pgs_nil)))) (fun _ _ _ _ _ => pts_nil) (fun _ _ _ _ _ => (pv 6)) (fun _ _ _ _ _ => (pv 7))))
         (pss_cons
          -- rows = [[number[(a * b).images] for b in permutations] for a in permutations]
          (ps_setLc (i := 5) (own := [("a", 8)]) (g := gName 8) (tt := tYes) (by rfl) nd rfl rfl (sw_true rfl rfl rfl (by decide +kernel)) (pi_listK (K := K) (pv 3)) (blkOk_by (own := [("a", 8)]) (N := ["generators", "g", "images", "permutations", "number", "rows", "row", "at", "a", "b"]) (sc := HD.d_from_permutations.scope) (by decide +kernel)) (fun _ _ _ _ _ => (pg_name (i := 8) nd rfl (.inr rfl))) (fun _ _ _ _ _ => pts_nil) (fun _ _ _ _ _ => (pe_lc (own := [("b", 9)]) (g := gName 9) (tt := tYes) (by rfl) nd (pi_listK (K := K) (pv 3)) (blkOk_by (own := [("b", 9)]) (N := ["generators", "g", "images", "permutations", "number", "rows", "row", "at", "a", "b"]) (sc := (relS ({ kind := ScopeKind.function, names := [(Str.ofString ".0", NameKind.local), (Str.ofString "a", NameKind.cell), (Str.ofString "number", NameKind.free), (Str.ofString "permutations", NameKind.free)], isGenerator := false, isCoroutine := false } : Scope) HD.d_from_permutations.scope)) (by decide +kernel)) (fun _ _ _ _ _ => (pg_name (i := 9) nd rfl (.inl rfl))) (fun _ _ _ _ _ => pts_nil) (fun _ _ _ _ _ => (pe_dget (hu_of hr) (pv 4) (pe_fldK (K := K) (pe_op (op_binK G_Permutation_mul T.me_Permutation_mul rfl T.sf_Permutation (hr.mono (by decide)) pass0) (pv 8) (pv 9)) rfl) (fun _ _ => rfl))))))
         (pss_one
          -- return (Group(rows), tuple(permutations))
          (ps_ret (pe_tup (pa_cons (pe_mk G_Group_init (hr.mono (by decide)) T.mk_Group T.g_Group pass0 (pa_cons (pv 5) pa_nil)) (pa_cons (pe_callTy call_tuple_of (by rfl) T.b_tuple (by decide +kernel) (pa_cons (pv 3) pa_nil)) pa_nil)))))))))), ?_⟩
    try dsimp only [cxOf, Cx.wish]
    walk_at "rd"
    intro t1 ht1
    have ha1 := upd_old (u := .tup [.ty "list", .ty "tuple"]) ht1 ha
    have s01 : Same H (upd H t1 (.tup [.ty "list", .ty "tuple"])) := Same.new ht1
    walk_at "rd"
    refine if_eq (fun z => absurd z (by rw [List.length_map]; omega)) (fun _ => ?_)
    walk_at "rd"
    generalize upd H t1 (.tup [.ty "list", .ty "tuple"]) = H1 at ha1 s01 ⊢
    refine fj_tup (xs := refsV gs) (fun i σ H' => Same H1 H' ∧ ∃ v1, σ = [some (.ref a), v1, none, none, none, none, none, none, none, none]) ⟨Same.refl _, _, rfl⟩ (fun i σ H' _ z => SqT.of (z.1 _ _ ha1)) ?_ ?_
    · rintro j x σ H3 hx ⟨s3, v1, rfl⟩
      have hjl : j < gl.length := by
        have := (List.getElem?_eq_some_iff.mp hx).1
        rw [List.length_map] at this
        omega
      obtain ⟨g, hgg⟩ : ∃ g, gl[j]? = some g := ⟨_, List.getElem?_eq_getElem hjl⟩
      obtain ⟨gt, hgt, dxg, tg, ig, itg⟩ := hg.get hgg
      rw [List.getElem?_map, hgt] at hx
      have hx' : V.ref gt = x := by simpa using hx
      subst hx'
      have lg := (hgP g (List.mem_of_getElem? hgg)).len
      have s13 := s01.trans s3
      walk_at "rd"
      refine if_ne (fun z => absurd (by rw [List.length_map, List.length_map]; omega) z) (fun _ => ?_)
      walk_at "rd"
      exact at_i ⟨s3, _, rfl⟩
    · rintro σ H3 ⟨s3, v1, rfl⟩
      have s03 := s01.trans s3
      walk_at "rd"
      refine ⟨a, gs, gl, n, rfl, s03 _ _ ha, hg.fz (permRfm (CP K)) (Fz.of s03), hgP, hn, hgl, hgl2, fun L o rs H4 hL ho s4 ho4 hA4 => ?_⟩
      have s04 := s03.trans s4
      have hrl := hA4.1
      have hL60 := hL.le
      walk_at "rd"
      refine lcj_list (xs := refsV rs) (fun i v H => ∃ p, v = V.ref p ∧ PermAt (CP K) H p (L.getD i [])) (fun i v H H' fz h => let ⟨p, e, hp⟩ := h; ⟨p, e, hp.fz fz⟩) (SqL.of ho4) (by rw [List.length_map]; omega) (fun x => rfl) (fun i x H5 hx s5 Q' q => ?_) (fun D H5 ys hD s5 hl5 hyl hR => ?_)
      · have hil : i < L.length := by
          have := (List.getElem?_eq_some_iff.mp hx).1
          rw [List.length_map] at this
          omega
        obtain ⟨r, hr⟩ : ∃ r, L[i]? = some r := ⟨_, List.getElem?_eq_getElem hil⟩
        obtain ⟨rt, hrt, hrT⟩ := hA4.get hr
        rw [List.getElem?_map, hrt] at hx
        have hx' : V.ref rt = x := by simpa using hx
        subst hx'
        have hrT : H4 rt = some (.tup (natsV r)) := hrT
        have eg : L.getD i [] = r := by rw [List.getD_eq_getElem?_getD, hr]; rfl
        walk_at "rd"
        refine mkP_use rt n r rfl (.inr (s5 _ _ hrT)) (hL.isP r (List.mem_of_getElem? hr)) hn1 hn12 (fun q' H' s h => q _ H' s ⟨q', rfl, ?_⟩)
        rw [eg]
        exact h
      · have hylL : ys.length = L.length := by rw [hyl, List.length_map]; omega
        obtain ⟨ps, rfl, hpl, hPs⟩ := refs_of hR
        rw [hylL] at hpl
        have hP : AllAt (PermR (CP K)) H5 ps L := ⟨hpl, fun i t x h1 h2 => by
          have hp := hPs i t h1
          rw [List.getD_eq_getElem?_getD, h2] at hp
          exact hp⟩
        have ho5 := s5 _ _ ho4
        have hA5 := hA4.fz tupR_fm (Fz.of s5)
        walk_at "rd"
        have wE : Walk (Ite K o) L.length (fun H => SqL K H o (refsV rs)) (YPair (fun i => some (.int (i : Nat))) (fun i => (refsV rs)[i]?)) := by
          have e : L.length = (refsV rs).length := by rw [List.length_map]; omega
          rw [e]
          exact walk_enum
        refine dctj_it wE (fun D i H => Same H5 H ∧ H D = some (.dT (kvN 0 (L.take i)))) (fun D hD => ⟨Same.new hD, by rw [List.take_zero]; exact upd_same⟩) (fun D i H _ p => p.1.seq (SqL.of ho5)) ?_ ?_
        · rintro D2 i x H6 H7 hD2 hi ⟨s6, hd6⟩ ⟨t, u, v, rfl, ht, rfl, hu, hv⟩
          have hu' : V.int (i : Nat) = u := by simpa using hu
          subst hu'
          obtain ⟨r, hr⟩ : ∃ r, L[i]? = some r := ⟨_, List.getElem?_eq_getElem hi⟩
          obtain ⟨rt, hrt, hrT⟩ := hA5.get hr
          have hv' : V.ref rt = v := by
            have hv2 : (refsV rs)[i]? = some v := hv
            rw [List.getElem?_map, hrt] at hv2
            simpa using hv2
          subst hv'
          have hrT : H5 rt = some (.tup (natsV r)) := hrT
          have hnotin : r ∉ L.take i := by
            intro hm
            obtain ⟨j, hj, ej⟩ := List.mem_iff_getElem.mp hm
            rw [List.length_take] at hj
            rw [List.getElem_take] at ej
            have e9 : L[i] = r := (List.getElem?_eq_some_iff.mp hr).2
            have := nodup_inj hL.nd (i := j) (j := i) (by omega) hi (by rw [ej, e9])
            omega
          refine ⟨t, [nV i, .ref rt], rfl, SqT.of upd_same, rfl, _, _, rfl, _, _, rfl, rfl, ?_⟩
          refine ⟨rfl, tyes ?_⟩
          walk_at "rd"
          have hlt : (L.take i).length = i := by rw [List.length_take]; omega
          have hk : upd H6 t (.tup [nV i, .ref rt]) rt = some (.tup ((keyP r).map kV)) := by
            rw [keyP_kV]
            exact upd_old ht (s6 _ _ hrT)
          refine ⟨hk, upd_old ht hd6, by rw [kvN_len, hlt, sizeLine_eq]; omega, Same.mut (s6.trans (Same.new ht)) hD2, ?_⟩
          rw [upd_same]
          have e8 := putK_N (p := r) hnotin
          rw [hlt] at e8
          rw [e8, take_snoc hr]
        · rintro D2 H6 hD2 ⟨s6, hd6⟩
          rw [List.take_length] at hd6
          have hD6 := s6 _ _ hl5
          have hP6 := hP.fz (permRfm (CP K)) (Fz.of s6)
          walk_at "rd"
          have wL : Walk (Itl K D) L.length (fun H => SqL K H D (refsV ps)) (YFn fun i => V.ref (ps.getD i 0)) := by
            have e : L.length = (refsV ps).length := by rw [List.length_map]; omega
            rw [e]
            refine walk_list.mono (fun _ h => h) fun i H x H' hi _ y => ⟨y.1, ?_⟩
            have y2 := y.2
            rw [List.getElem?_map] at y2
            rw [List.length_map] at hi
            rw [List.getElem?_eq_getElem hi] at y2
            have : V.ref ps[i] = x := by simpa using y2
            rw [← this]
            show V.ref ps[i] = V.ref (ps.getD i 0)
            rw [List.getD_eq_getElem?_getD, List.getElem?_eq_getElem hi]
            rfl
          refine lcj_lists (n := L.length) (f := fun x => natsV (L.map fun b => L.idxOf (mulP (L.getD x []) b))) (xv := fun i => V.ref (ps.getD i 0)) (by omega) (fun x => rfl) wL (fun H s => s.seq (SqL.of hD6)) (fun x H7 hx s7 Q' q => ?_) (fun D3 H7 bs hD3 s7 hl7 hbl hL7 => ?_)
          · obtain ⟨r, hr⟩ : ∃ r, L[x]? = some r := ⟨_, List.getElem?_eq_getElem hx⟩
            obtain ⟨pa, hpa, hpaP⟩ := hP6.get hr
            have epa : ps.getD x 0 = pa := by rw [List.getD_eq_getElem?_getD, hpa]; rfl
            have er : L.getD x [] = r := by rw [List.getD_eq_getElem?_getD, hr]; rfl
            rw [epa]
            rw [er] at q
            have hrP := hL.isP r (List.mem_of_getElem? hr)
            have hD7 := s7 _ _ hD6
            walk_at "rd"
            refine lcj_list (xs := refsV ps) (fun i v H => v = nV (L.idxOf (mulP r (L.getD i [])))) (fun i v => fm_eq _ _) (SqL.of hD7) (by rw [List.length_map]; omega) (fun x => rfl) (fun i y H8 hy s8 Q2 q2 => ?_) (fun D4 H8 ys hD4 s8 hl8 hyl hR => ?_)
            · have hil : i < L.length := by
                have := (List.getElem?_eq_some_iff.mp hy).1
                rw [List.length_map] at this
                omega
              obtain ⟨r2, hr2⟩ : ∃ r, L[i]? = some r := ⟨_, List.getElem?_eq_getElem hil⟩
              obtain ⟨pb, hpb, hpbP⟩ := hP6.get hr2
              rw [List.getElem?_map, hpb] at hy
              have hy' : V.ref pb = y := by simpa using hy
              subst hy'
              have er2 : L.getD i [] = r2 := by rw [List.getD_eq_getElem?_getD, hr2]; rfl
              have s78 := s7.trans s8
              have hd8 := s78 _ _ hd6
              walk_at "rd"
              refine rd_mulP (PermAt.fz (Fz.of s78) hpaP) (PermAt.fz (Fz.of s78) hpbP) hrP (hL.isP r2 (List.mem_of_getElem? hr2)) hn1 hn12 fun pq H9 s9 hq => ?_
              obtain ⟨dxq, tq, iq, itq⟩ := id hq
              have hd9 := s9 _ _ hd8
              have hmem := hL.cl r (List.mem_of_getElem? hr) r2 (List.mem_of_getElem? hr2)
              walk_at "rd"
              refine ⟨dg_num hd9 itq hmem, ?_⟩
              refine q2 _ H9 s9 ?_
              rw [er2]
            · have hys : ys = natsV (L.map fun b => L.idxOf (mulP r b)) := by
                rw [list_eq_map (by rw [hyl, List.length_map]) hR]
                show _ = (L.map _).map nV
                rw [List.map_map]
                apply List.ext_getElem?
                intro i
                rw [List.getElem?_map, List.getElem?_map]
                by_cases hi : i < L.length
                · rw [List.getElem?_range (by omega), List.getElem?_eq_getElem hi]
                  show some (nV (L.idxOf (mulP r (L.getD i [])))) = _
                  rw [List.getD_eq_getElem?_getD, List.getElem?_eq_getElem hi]
                  rfl
                · rw [List.getElem?_eq_none (by rw [List.length_range]; omega), List.getElem?_eq_none (by omega)]
                  rfl
              rw [hys] at hl8
              exact q D4 H8 hD4 s8 hl8
          · have hD7 := s7 _ _ hD6
            walk_at "rd"
            have hLL : LLAt H7 D3 (tabP L) := by
              rw [tabP_range]
              exact LstsAt.ll hl7 hbl hL7
            refine mkG_use (Q := fun u H2 => tCons _ tNil _ H2 fun xs H3 => (u :: xs).length ≤ sizeLine ∧ ∀ p, H3 p = none → Q (.ref p) (upd H3 p (.tup (u :: xs)))) D3 (tabP L) rfl hLL (tabP_grp hL) (fun g H8 s8 hg8 => ?_)
            have hD8 := s8 _ _ hD7
            walk_at "rd"
            intro tp htp
            walk_at "rd"
            intro tt htt
            have sAll : Same H (upd (upd H8 tp (.tup (refsV ps))) tt (.tup [.ref g, .ref tp])) := (((((s04.trans s5).trans s6).trans s7).trans s8).trans (Same.new htp)).trans (Same.new htt)
            exact k L tt g tp _ hL sAll upd_same (hg8.fz (Fz.of ((Same.new htp).trans (Same.new htt))))
end
end L2.KL
set_option Elab.async false
set_option linter.all false
set_option maxRecDepth 100000
set_option maxHeartbeats 4000000
namespace L2.KL
open PySem PySem.W
/-! ### orders -/
theorem pw_add {M : Tab} (G : IsGrp M) {x : Nat} (hx : x < M.length) : ∀ i j, pw M x (i + j + 1) = tm M (pw M x i) (pw M x j)
  | i, 0 => rfl
  | i, j + 1 => by
    show tm M (pw M x (i + j + 1)) x = tm M (pw M x i) (tm M (pw M x j) x)
    rw [pw_add G hx i j, G.as_ _ _ _ (pw_lt G.sq hx i) (pw_lt G.sq hx j) hx]
theorem pw_zero {M : Tab} (G : IsGrp M) {x : Nat} (hx : x < M.length) : ∃ k, k < M.length ∧ pw M x k = 0 := by
  refine Decidable.byContradiction fun hno => ?_
  have hne : ∀ k, k < M.length → pw M x k ≠ 0 := fun k hk z => hno ⟨k, hk, z⟩
  have hinj : ∀ i j, i < j → j < M.length → pw M x i ≠ pw M x j := by
    intro i j hij hj e
    have e2 := pw_add G hx i (j - i - 1)
    rw [show i + (j - i - 1) + 1 = j by omega, ← e] at e2
    have e3 : tm M (pw M x i) 0 = tm M (pw M x i) (pw M x (j - i - 1)) := by rw [G.r0 _ (pw_lt G.sq hx i)]; exact e2
    have := tm_cancel G (pw_lt G.sq hx i) (by have := G.pos; omega) (pw_lt G.sq hx _) e3
    exact hne (j - i - 1) (by omega) this.symm
  have nd : ((List.range M.length).map (pw M x)).Nodup := by
    refine nodup_map_on (fun a ha b hb e => ?_) List.nodup_range
    have ha' := List.mem_range.mp ha
    have hb' := List.mem_range.mp hb
    rcases Nat.lt_trichotomy a b with h | h | h
    · exact absurd e (hinj a b h hb')
    · exact h
    · exact absurd e.symm (hinj b a h ha')
  have hall := nodup_full nd (fun y hy => by
    obtain ⟨k, _, rfl⟩ := List.mem_map.mp hy
    exact pw_lt G.sq hx k) (by rw [List.length_map, List.length_range]) (x := 0) (by have := G.pos; omega)
  obtain ⟨k, hk, e⟩ := List.mem_map.mp hall
  exact hne k (List.mem_range.mp hk) e
def ordF (M : Tab) (x : Nat) : Nat := ((List.range M.length).findIdx fun k => pw M x k == 0) + 1
theorem ordF_is {M : Tab} (G : IsGrp M) {x : Nat} (hx : x < M.length) : OrdIs M x (ordF M x) := by
  obtain ⟨k, hk, hk0⟩ := pw_zero G hx
  have hlt : (List.range M.length).findIdx (fun k => pw M x k == 0) < (List.range M.length).length := List.findIdx_lt_length_of_exists ⟨k, List.mem_range.mpr hk, by simp [hk0]⟩
  unfold ordF
  refine ⟨by omega, ?_, fun m hm hz => ?_⟩
  · have h := List.findIdx_getElem (w := hlt)
    rw [List.getElem_range] at h
    rw [Nat.add_sub_cancel]
    simpa using h
  · rw [Nat.add_sub_cancel] at hm
    have h := List.not_of_lt_findIdx hm
    rw [List.getElem_range] at h
    simp [hz] at h
/-! ### conjugates -/
theorem conj_lt {M : Tab} (G : IsGrp M) {x g : Nat} (hx : x < M.length) (hg : g < M.length) : conj M x g < M.length := G.sq.lt _ _ (inv_lt G hg) (G.sq.lt _ _ hx hg)
def clsOf (M : Tab) (x : Nat) : List Nat := (List.range M.length).filter fun y => (List.range M.length).any fun g => conj M x g == y
theorem clsOf_mem {M : Tab} {x y : Nat} : y ∈ clsOf M x ↔ y < M.length ∧ ∃ g, g < M.length ∧ conj M x g = y := by
  unfold clsOf
  rw [List.mem_filter, List.mem_range, List.any_eq_true]
  constructor
  · rintro ⟨h, g, hg, e⟩
    exact ⟨h, g, List.mem_range.mp hg, by simpa using e⟩
  · rintro ⟨h, g, hg, e⟩
    exact ⟨h, g, List.mem_range.mpr hg, by simpa using e⟩
theorem clsOf_sorted (M : Tab) (x : Nat) : (clsOf M x).Pairwise (· < ·) := List.Pairwise.filter _ List.pairwise_lt_range
theorem clsOf_nodup (M : Tab) (x : Nat) : (clsOf M x).Nodup := List.Pairwise.filter _ List.nodup_range
def orbL (M : Tab) (x : Nat) (n : Nat) : List Nat := (List.range n).foldl (fun ks g => addK ks (conj M x g)) []
theorem orbL_succ (M : Tab) (x n : Nat) : orbL M x (n + 1) = addK (orbL M x n) (conj M x n) := by
  unfold orbL
  rw [List.range_succ, List.foldl_append]
  rfl
theorem orbL_nodup (M : Tab) (x : Nat) : ∀ n, (orbL M x n).Nodup
  | 0 => List.nodup_nil
  | n + 1 => by rw [orbL_succ]; exact addK_nodup (orbL_nodup M x n)
theorem orbL_mem {M : Tab} {x y : Nat} : ∀ {n : Nat}, y ∈ orbL M x n ↔ ∃ g, g < n ∧ conj M x g = y
  | 0 => ⟨fun h => absurd h List.not_mem_nil, fun ⟨g, h, _⟩ => by omega⟩
  | n + 1 => by
    rw [orbL_succ, addK_mem, orbL_mem (n := n)]
    constructor
    · rintro (⟨g, h, e⟩ | e)
      · exact ⟨g, by omega, e⟩
      · exact ⟨n, by omega, e.symm⟩
    · rintro ⟨g, h, e⟩
      by_cases z : g = n
      · subst z
        exact .inr e.symm
      · exact .inl ⟨g, by omega, e⟩
theorem orbL_lt {M : Tab} (G : IsGrp M) {x : Nat} (hx : x < M.length) : ∀ y ∈ orbL M x M.length, y < M.length := fun y hy => by
  obtain ⟨g, hg, rfl⟩ := orbL_mem.mp hy
  exact conj_lt G hx hg
theorem orb_perm {M : Tab} (G : IsGrp M) {x : Nat} (hx : x < M.length) : (clsOf M x).Perm (orbL M x M.length) :=
  (List.perm_ext_iff_of_nodup (clsOf_nodup M x) (orbL_nodup M x _)).mpr fun y => by
    rw [clsOf_mem, orbL_mem]
    exact ⟨fun h => h.2, fun h => ⟨by obtain ⟨g, hg, e⟩ := h; rw [← e]; exact conj_lt G hx hg, h⟩⟩
/-- a sorted list of the orbit is the class -/
theorem sorted_cls {M : Tab} (G : IsGrp M) {x : Nat} (hx : x < M.length) {ns : List Int} {L : List Nat} (hL : L.Perm (clsOf M x)) (h1 : ns.Perm (L.map fun k => ((k : Nat) : Int))) (h2 : ns.Pairwise (· ≤ ·)) : ns = iN (clsOf M x) := by
  refine List.Perm.eq_of_pairwise (le := fun a b : Int => a ≤ b) (fun a b _ _ h h' => Int.le_antisymm h h') h2 ?_ (h1.trans (hL.map _))
  unfold iN
  rw [List.pairwise_map]
  exact List.Pairwise.imp (fun h => by omega) (clsOf_sorted M x)
abbrev CKey := Nat × Nat × List Nat
def keysGo (M : Tab) : Nat → List CKey
  | 0 => []
  | x + 1 => if (keysGo M x).any (fun k => decide (x ∈ k.2.2)) = true then keysGo M x else keysGo M x ++ [(ordF M x, (clsOf M x).length, clsOf M x)]
def dCK (k : CKey) : PyData := .tuple [.int (k.1 : Int), .int (k.2.1 : Int), .tuple (dI (iN k.2.2))]
def clsM (M : Tab) : Tab := ((keysGo M M.length).mergeSort (dataLe false dCK)).map fun k => k.2.2
theorem keys_len (M : Tab) : ∀ n, (keysGo M n).length ≤ n
  | 0 => Nat.le_refl _
  | n + 1 => by
    unfold keysGo
    have := keys_len M n
    split
    · omega
    · rw [List.length_append]
      show _ + 1 ≤ _
      omega
theorem keys_mem {M : Tab} {k : CKey} : ∀ {n : Nat}, k ∈ keysGo M n → ∃ x, x < n ∧ k = (ordF M x, (clsOf M x).length, clsOf M x)
  | 0, h => by cases h
  | n + 1, h => by
    unfold keysGo at h
    split at h
    · obtain ⟨x, hx, e⟩ := keys_mem h
      exact ⟨x, by omega, e⟩
    · rcases List.mem_append.mp h with h | h
      · obtain ⟨x, hx, e⟩ := keys_mem h
        exact ⟨x, by omega, e⟩
      · exact ⟨n, by omega, by simpa using h⟩
end L2.KL
set_option Elab.async false
set_option linter.all false
set_option maxRecDepth 100000
set_option maxHeartbeats 4000000
namespace L2.KL
open PySem PySem.Spec PyProof.Rows PySem.W
/-- sorted objects, whatever they stand for -/
theorem srt_all {α : Type} {H : Hp} {R : Addr → α → Hp → Prop} {enc : α → PyData} {ts : List Addr} {ks : List α} (h : AllAt R H ts ks) :
    ∃ rs, (srtD ((ts.zip ks).map fun q => (V.ref q.1, enc q.2))).map (·.1) = refsV rs ∧ AllAt R H rs (ks.mergeSort (dataLe false enc)) := by
  have hl := h.1
  have e1 : srtD ((ts.zip ks).map fun q => (V.ref q.1, enc q.2)) = ((ts.zip ks).mergeSort (dataLe false fun q => enc q.2)).map fun q => (V.ref q.1, enc q.2) := by
    unfold srtD
    exact (List.map_mergeSort (r := dataLe false fun q : Addr × α => enc q.2) (s := dataLe false fun b : V × PyData => b.2) (f := fun q : Addr × α => (V.ref q.1, enc q.2)) (l := ts.zip ks) (fun a _ b _ => rfl)).symm
  have e2 : ((ts.zip ks).mergeSort (dataLe false fun q => enc q.2)).map (·.2) = ks.mergeSort (dataLe false enc) := by
    rw [List.map_mergeSort (r := dataLe false fun q : Addr × α => enc q.2) (s := dataLe false enc) (f := fun q : Addr × α => q.2) (l := ts.zip ks) (fun a _ b _ => rfl)]
    congr 1
    exact List.map_snd_zip (by omega)
  generalize hz : (ts.zip ks).mergeSort (dataLe false fun q => enc q.2) = zs at e1 e2
  have hm : ∀ q ∈ zs, R q.1 q.2 H := fun q hq => by
    rw [← hz] at hq
    have hq2 := (List.mergeSort_perm _ _).mem_iff.mp hq
    obtain ⟨j, hj, ej⟩ := List.mem_iff_getElem.mp hq2
    have e3 : (ts.zip ks)[j]? = some q := by rw [List.getElem?_eq_getElem hj, ej]
    obtain ⟨e4, e5⟩ := List.getElem?_zip_eq_some.mp e3
    exact h.2 j q.1 q.2 e4 e5
  refine ⟨zs.map (·.1), ?_, ?_, fun i t x h1 h2 => ?_⟩
  · rw [e1, List.map_map]
    show zs.map (fun q => V.ref q.1) = (zs.map (·.1)).map V.ref
    rw [List.map_map]
    rfl
  · rw [← e2, List.length_map, List.length_map]
  · rw [← e2] at h2
    rw [List.getElem?_map] at h1 h2
    cases e : zs[i]? with
    | none => rw [e] at h1; cases h1
    | some q =>
      rw [e] at h1 h2
      have h1' : q.1 = t := by simpa using h1
      have h2' : q.2 = x := by simpa using h2
      rw [← h1', ← h2']
      exact hm q (List.mem_of_getElem? e)
def KeyR (t : Addr) (k : CKey) (H : Hp) : Prop := ∃ u, H t = some (.tup [nV k.1, nV k.2.1, .ref u]) ∧ H u = some (.tup (natsV k.2.2))
theorem keyR_fm (t : Addr) (k : CKey) : Fm (KeyR t k) := fun _ _ s h => let ⟨u, h1, h2⟩ := h; ⟨u, s _ _ h1 rfl, s _ _ h2 rfl⟩
theorem dp_ck {K : PySem.W.Frag} {H : Hp} {t : Addr} {k : CKey} (h : KeyR t k H) : Dp K H (.ref t) (dCK k) := by
  obtain ⟨u, h1, h2⟩ := h
  rw [nats_ints] at h2
  exact .tup (SqT.of h1) (.cons (.int _) (.cons (.int _) (.cons (dp_tup h2) .nil)))
theorem sortOk_ck (ks : List CKey) : SortOk (ks.map dCK) := by
  refine ⟨fun d hd1 d' hd2 => ?_, .inl fun d h => ?_, fun d h => ?_, fun d h => ?_⟩
  · obtain ⟨k, _, rfl⟩ := List.mem_map.mp hd1
    obtain ⟨k', _, rfl⟩ := List.mem_map.mp hd2
    have e1 : alike (.tuple (dI (iN k.2.2))) (.tuple (dI (iN k'.2.2))) = true := by
      rw [alike]
      exact alike_ints _ _
    show alike (.tuple _) (.tuple _) = true
    rw [alike, alikeAll, alikeAll, alikeAll, alikeAll, e1]
    · simp [alike]
    all_goals simp
  · obtain ⟨k, _, rfl⟩ := List.mem_map.mp h
    exact ⟨_, _, rfl⟩
  · obtain ⟨k, _, rfl⟩ := List.mem_map.mp h
    refine nl_tup fun d hd => ?_
    rcases List.mem_cons.mp hd with rfl | hd
    · exact nl_int _
    rcases List.mem_cons.mp hd with rfl | hd
    · exact nl_int _
    rcases List.mem_cons.mp hd with rfl | hd
    · exact nl_ints _
    · cases hd
  · obtain ⟨k, _, rfl⟩ := List.mem_map.mp h
    have e1 : PyData.depth (dCK k) = max 0 (max 0 (max (PyData.depthAll (dI (iN k.2.2)) + 1) 0)) + 1 := rfl
    have := dI_depth (iN k.2.2)
    omega
/-- sorted() of the keys -/
theorem rd_sortK {K : PySem.W.Frag} {H : Hp} {a : Addr} {Q : VK} {ts : List Addr} {ks : List CKey} (ha : H a = some (.lst (refsV ts))) (h : AllAt KeyR H ts ks) (hl : ks.length ≤ 1000) (q : ∀ p rs, H p = none → AllAt KeyR H rs (ks.mergeSort (dataLe false dCK)) → Q (.ref p) (upd H p (.lst (refsV rs)))) : rSortDL K [.ref a] H Q := by
  have h1 := h.1
  have lz : (ts.zip ks).length = ks.length := by rw [List.length_zip]; omega
  have ev : ((ts.zip ks).map fun q => (V.ref q.1, dCK q.2)).map (·.1) = refsV ts := by
    rw [List.map_map]
    show (ts.zip ks).map (fun q => V.ref q.1) = _
    rw [show (fun q : Addr × CKey => V.ref q.1) = V.ref ∘ Prod.fst from rfl, ← List.map_map, List.map_fst_zip (by omega)]
  have e2 : ((ts.zip ks).map fun q => (V.ref q.1, dCK q.2)).map (·.2) = ks.map dCK := by
    rw [List.map_map]
    show (ts.zip ks).map (fun q => dCK q.2) = _
    rw [show (fun q : Addr × CKey => dCK q.2) = dCK ∘ Prod.snd from rfl, ← List.map_map, List.map_snd_zip (by omega)]
  refine ⟨a, (ts.zip ks).map fun q => (V.ref q.1, dCK q.2), rfl, SqL.of (by rw [ev]; exact ha), fun b hb => ?_, by rw [e2]; exact sortOk_ck ks, by rw [List.length_map, lz]; omega, fun p hp => ?_⟩
  · obtain ⟨q, hq, rfl⟩ := List.mem_map.mp hb
    obtain ⟨j, hj, ej⟩ := List.mem_iff_getElem.mp hq
    have e3 : (ts.zip ks)[j]? = some q := by rw [List.getElem?_eq_getElem hj, ej]
    obtain ⟨e4, e5⟩ := List.getElem?_zip_eq_some.mp e3
    exact dp_ck (h.2 j q.1 q.2 e4 e5)
  · obtain ⟨rs, r1, r2⟩ := srt_all (enc := dCK) h
    rw [r1]
    exact q p rs hp r2
/-! dict comprehensions that only gather numbers -/
def DcJ (J : It) (g : TG) (tt : TT) (tk tv : TE) (vs : List Nat) (σ : St) (Q : VK) (H1 : Hp) : Prop := ∀ D, H1 D = none → ∃ W : Nat → Nat → Hp → Prop, (∃ m, W 0 m (upd H1 D (.dK []))) ∧ ∀ i m H, W i m H →
  (J.stop i H ∧ Q (.ref D) H) ∨ (J.go i H ∧ ∃ Nx : Hp → Prop, (∀ H', Nx H' → ∃ m', m' < m ∧ W (i + 1) m' H') ∧ ∀ x H', J.yld i H x H' → g x (wipe σ vs) H' fun σ2 H2 => wipe σ2 vs = wipe σ vs ∧ tt σ2 H2 fun b H3 =>
    if b = true then tk σ2 H3 fun y H4 => tv σ2 H4 fun z H5 => ∃ (kvs : List (Key × V)) (k : Key), y = kV k ∧ H5 D = some (.dK kvs) ∧ kvs.length < sizeLine ∧ Nx (upd H5 D (.dK (putK kvs k z))) else Nx H3)
theorem rd_dc {wi : TI} {g : TG} {tt : TT} {tk tv : TE} {vs : List Nat} {σ : St} {H : Hp} {Q : VK} (h : wi σ H fun J H1 => DcJ J g tt tk tv vs σ Q H1) : tDc wi g tt tk tv vs σ H Q := h
theorem dcj_it {J : It} {g : TG} {tt : TT} {tk tv : TE} {vs : List Nat} {σ : St} {Q : VK} {H1 : Hp} {n : Nat} {G : Hp → Prop} {Y : Nat → Hp → V → Hp → Prop} (w : Walk J n G Y) (Pv : Addr → Nat → Hp → Prop) (h0 : ∀ D, H1 D = none → Pv D 0 (upd H1 D (.dK []))) (hG : ∀ D i H, i ≤ n → Pv D i H → G H)
    (hs : ∀ D i x H H', H1 D = none → i < n → Pv D i H → Y i H x H' → g x (wipe σ vs) H' fun σ2 H2 => wipe σ2 vs = wipe σ vs ∧ tt σ2 H2 fun b H3 =>
      if b = true then tk σ2 H3 fun y H4 => tv σ2 H4 fun z H5 => ∃ (kvs : List (Key × V)) (k : Key), y = kV k ∧ H5 D = some (.dK kvs) ∧ kvs.length < sizeLine ∧ Pv D (i + 1) (upd H5 D (.dK (putK kvs k z))) else Pv D (i + 1) H3) (hd : ∀ D H, H1 D = none → Pv D n H → Q (.ref D) H) : DcJ J g tt tk tv vs σ Q H1 := by
  intro D hD
  refine ⟨fun i m H => m = n - i ∧ i ≤ n ∧ Pv D i H, ⟨n, by simp, Nat.zero_le _, h0 D hD⟩, ?_⟩
  rintro i m H ⟨rfl, hi, p⟩
  have q := hG D i H hi p
  by_cases hlt : i < n
  · exact .inr ⟨w.goes i H hlt q, Pv D (i + 1), fun H' p' => ⟨n - (i + 1), by omega, rfl, hlt, p'⟩, fun x H' y => hs D i x H H' hD hlt p (w.yields i H x H' hlt q y)⟩
  · have e : i = n := by omega
    subst e
    exact .inl ⟨w.stops H q, hd D H hD p⟩
theorem addK_len {ks : List Nat} {x : Nat} : (addK ks x).length ≤ ks.length + 1 := by
  unfold addK
  split
  · omega
  · rw [List.length_append]
    exact Nat.le_refl _
/-- {f(g): True for g in range(n)} -/
theorem dcj_seen {j : Nat} {tk : TE} {vs : List Nat} {σ : St} {Q : VK} {H1 : Hp} (n : Nat) (f : Nat → Nat) (hn : n ≤ 100000) (hw : ∀ x, wipe ((wipe σ vs).set j (some x)) vs = wipe σ vs)
    (he : ∀ (i : Nat) (H : Hp), i < n → Same H1 H → ∀ Q' : VK, (∀ H2, Same H H2 → Q' (nV (f i)) H2) → tk ((wipe σ vs).set j (some (nV i))) H Q')
    (k : ∀ D H, H1 D = none → Same H1 H → H D = some (.dK (kvT ((List.range n).foldl (fun ks g => addK ks (f g)) []))) → Q (.ref D) H) : DcJ (Itr 0 ((n : Nat) : Int).toNat) (gName j) tYes tk (tC (.bl true)) vs σ Q H1 := by
  have w1 : Walk (Itr 0 ((n : Nat) : Int).toNat) n (fun _ => True) (YFn nV) := walk_range.mono (fun _ _ => trivial) fun i H x H' _ _ y => ⟨y.1, by rw [y.2]; show V.int ((0 : Int) + (i : Int)) = V.int (i : Int); rw [Int.zero_add]⟩
  refine dcj_it w1 (fun D i H => Same H1 H ∧ ((List.range i).foldl (fun ks g => addK ks (f g)) []).length ≤ i ∧ H D = some (.dK (kvT ((List.range i).foldl (fun ks g => addK ks (f g)) [])))) (fun D hD => ⟨Same.new hD, Nat.le_refl _, upd_same⟩) (fun _ _ _ _ _ => trivial) ?_ (fun D H hD p => k D H hD p.1 p.2.2)
  rintro D i x H H' hD hi ⟨s, hl, hd⟩ ⟨rfl, rfl⟩
  refine ⟨hw _, tyes ?_⟩
  refine he i H' hi s _ fun H2 s2 => ?_
  refine ⟨_, .inl ((f i : Nat) : Int), rfl, s2 _ _ hd, by unfold kvT; rw [List.length_map, sizeLine_eq]; omega, Same.mut (s.trans s2) hD, ?_, ?_⟩
  · rw [List.range_succ, List.foldl_append]
    exact Nat.le_trans addK_len (by omega)
  · rw [upd_same, putK_T, List.range_succ, List.foldl_append]
    rfl
end L2.KL
set_option Elab.async false
set_option linter.all false
set_option maxRecDepth 100000
set_option maxHeartbeats 4000000
namespace L2.KL
open PySem PySem.Spec PyProof.Rows PySem.W
local macro_rules | `(tactic| walk_at "hp") => `(tactic| first
  | assumption
  | (with_reducible exact upd_same))
local macro_rules | `(tactic| walk_at "cl") => `(tactic| first
  | (with_reducible rfl)
  | ((with_reducible show (_ : Int) < _); first | omega | (simp only [List.length_map]; omega))
  | ((with_reducible show (_ : Int) ≤ _); first | omega | (simp only [List.length_map]; omega))
  | assumption
  | ((with_reducible apply dg_seen); walk_at "hp")
  | ((with_reducible apply dp_seen); (· walk_at "hp"); (· omega))
  | (with_reducible exact nk_group (by decide +kernel))
  | (apply tyL; walk_at "hp")
  | (apply Or.inl; apply SqL.of; walk_at "hp")
  | (apply exL; walk_at "hp")
  | (apply sz_nat; simp only [List.length_map, List.length_append, List.length_cons, List.length_nil]; omega))
local macro_rules | `(tactic| walk_at "r1") => `(tactic| first
  | (with_reducible refine rd_seq ?_)
  | ((with_reducible apply rd_var); (· exact rfl))
  | (with_reducible refine rd_c ?_)
  | (with_reducible refine rd_op ?_)
  | (with_reducible refine rd_cb ?_)
  | (with_reducible refine rd_cons ?_)
  | (with_reducible refine rd_nil ?_)
  | (with_reducible refine rd_meth ?_)
  | (with_reducible refine rd_tup ?_)
  | (with_reducible refine rd_lst ?_)
  | (with_reducible refine rd_asg ?_)
  | (with_reducible refine rd_name ?_)
  | (with_reducible refine rd_ret ?_)
  | (with_reducible refine rd_drop ?_)
  | (with_reducible refine rd_if ?_)
  | (with_reducible refine rd_B ?_)
  | (with_reducible refine rd_bm ?_)
  | (with_reducible refine rd_next ?_)
  | ((with_reducible apply rd_ixT); (· walk_at "hp"); (· walk_at "at"))
  | (with_reducible refine rd_for ?_)
  | (with_reducible refine rd_iList ?_)
  | (with_reducible refine rd_iRng1 ?_)
  | ((with_reducible apply rd_append); (· walk_at "hp"); (· simp only [List.length_map, List.length_append, List.length_cons, List.length_nil]; omega))
  | (with_reducible refine rd_lc ?_)
  | (with_reducible refine rd_dc ?_)
  | (with_reducible refine rd_dnotin ?_)
  | (with_reducible refine rd_dput ?_)
  | (with_reducible refine rd_dnewK ?_)
  | ((with_reducible apply or_tl); (· walk_at "hp"))
  | (with_reducible apply Exists.intro)
  | ((with_reducible refine And.intro ?_ ?_); (· walk_at "cl")))
local macro_rules | `(tactic| walk_at "at") => `(tactic| first
  | exact rfl)
local macro_rules | `(tactic| walk_at "rd") => `(tactic| ((repeat walk_at "r1"); (try dsimp only [List.set])))
theorem any_mem {M : Tab} {n x : Nat} : (keysGo M n).any (fun k => decide (x ∈ k.2.2)) = true ↔ ∃ k ∈ keysGo M n, x ∈ k.2.2 := by
  rw [List.any_eq_true]
  exact ⟨fun ⟨k, h, e⟩ => ⟨k, h, of_decide_eq_true e⟩, fun ⟨k, h, e⟩ => ⟨k, h, decide_eq_true e⟩⟩
section
variable {P : Program} {w : World} {K : PySem.W.Frag} {mg : Str → Option Value} {base : Heap}
def spClasses (C : Addr) : Sp := fun vs H Q _ => ∃ (p : Addr) (M : Tab), vs = [.ref p] ∧ GrpAt C H p M ∧ IsGrp M ∧ ∀ t H', Same H H' → TabAt H' t (clsM M) → Q (.ref t) H'
theorem sc_classes : FnScope ["group", "seen", "keys", "x", "found", "y", "g", "key"] ["group"] HD.d_classes.scope := ⟨rfl, rfl, rfl, by decide +kernel, rfl, by decide +kernel, by decide +kernel⟩
theorem ok_classes (T : Tx K mg) : Ok P w K mg base CX0 3 HD.d_classes ["group"] (spClasses (CG K)) := by
  have c1 := T.c_Group
  have n1 := T.na_Group_table
  have G_Group_len : Ok P w K mg base CX0 1 _ _ _ := ok_lenG T
  have G_Group_conjugated : Ok P w K mg base CX0 2 _ _ _ := ok_conj T
  have G_Group_order_of : Ok P w K mg base CX0 1 _ _ _ := ok_order T
  have nd := sc_classes.nd
  refine Ok.mk0 T fn__classes rfl sc_classes (fun vs H Q E h => ?_) (fun _ _ _ _ _ _ us hl => match us, hl with | [_], _ => rfl) (fun cdv A outer s H vs Q E hr h => ?_)
  · obtain ⟨p, M, rfl, _⟩ := h
    rfl
  · obtain ⟨p, M, rfl, hg, G, k⟩ := h
    obtain ⟨dx, t, ip, hT⟩ := id hg
    have hM := G.le
    have hM1 := G.pos
    refine ⟨_, pss_cons
          -- seen = {}
          (ps_set (i := 1) nd rfl (.inl rfl) pe_dnewK)
         (pss_cons
          -- keys = []
          (ps_set (i := 2) nd rfl (.inl rfl) (pe_lst pa_nil))
         (pss_cons
          -- for x in range(len(group)):
          (ps_for PassesOwn.never rfl (pi_range1 (by rfl) T.b_range (pa_cons (pe_callB (call_lenK G_Group_len T.me_Group_len (hr.mono (by decide)) pass0) (by rfl) T.b_len (by decide +kernel) (pa_cons (pv 0) pa_nil)) pa_nil)) (pg_name (i := 3) nd rfl (.inr rfl)) (pss_one
            -- if x not in seen:
            (ps_if (pt_cmp (pc_dnotin (hu_of hr) (pv 3) (pv 1))) (pss_cons
              -- found = sorted({group.conjugated(x, g): True for g in range(len(group))})
              (ps_set (i := 4) nd rfl (.inl rfl) (pe_callB (call_sortedDI rfl) (by rfl) T.b_sorted (by decide +kernel) (pa_cons (pe_dc (own := [("g", 6)]) (g := gName 6) (tt := tYes) (by rfl) nd (pi_range1 (by rfl) T.b_range (pa_cons (pe_callB (call_lenK G_Group_len T.me_Group_len (hr.mono (by decide)) pass0) (by rfl) T.b_len (by decide +kernel) (pa_cons (pv 0) pa_nil)) pa_nil)) (blkOk_by (own := [("g", 6)]) (N := ["group", "seen", "keys", "x", "found", "y", "g", "key"]) (sc := HD.d_classes.scope) (by decide +kernel)) (fun _ _ _ _ _ => (pg_name (i := 6) nd rfl (.inl rfl))) (fun _ _ _ _ _ => pts_nil) (fun _ _ _ _ _ => (pe_m (pv 0) T.c_Group (G_Group_conjugated) T.me_Group_conjugated (hr.mono (by decide)) pass0 (pa_cons (pv 3) (pa_cons (pv 6) pa_nil)))) (fun _ _ _ _ _ => pe_bl)) pa_nil)))
             (pss_cons
              -- for y in found:
              (ps_for PassesOwn.never rfl (pi_listK (K := K) (pv 4)) (pg_name (i := 5) nd rfl (.inl rfl)) (pss_one
                -- seen[y] = True
                (ps_dput (hu_of hr) (pv 1) (pv 5) pe_bl rfl)))
             (pss_one
              -- keys.append((group.order_of(x), len(found), tuple(found)))
              (ps_expr (pe_bm PySem.F.plainAttrs_list PySem.F.slot_list_append PySem.F.type_list_append mt_append (pv 2) (pa_cons (pe_tup (pa_cons (pe_m (pv 0) T.c_Group (G_Group_order_of) T.me_Group_order_of (hr.mono (by decide)) pass0 (pa_cons (pv 3) pa_nil)) (pa_cons (pe_callB call_len_seq (by rfl) T.b_len (by decide +kernel) (pa_cons (pv 4) pa_nil)) (pa_cons (pe_callTy call_tuple_of (by rfl) T.b_tuple (by decide +kernel) (pa_cons (pv 4) pa_nil)) pa_nil)))) pa_nil)))))) (pss_nil))))
         (pss_one
          -- return tuple([key[2] for key in sorted(keys)])
          (ps_ret (pe_callTy call_tuple_of (by rfl) T.b_tuple (by decide +kernel) (pa_cons (pe_lc (own := [("key", 7)]) (g := gName 7) (tt := tYes) (by rfl) nd (pi_listK (K := K) (pe_callB (cr_sortedDL hr.units) (by rfl) T.b_sorted (by decide +kernel) (pa_cons (pv 2) pa_nil))) (blkOk_by (own := [("key", 7)]) (N := ["group", "seen", "keys", "x", "found", "y", "g", "key"]) (sc := HD.d_classes.scope) (by decide +kernel)) (fun _ _ _ _ _ => (pg_name (i := 7) nd rfl (.inl rfl))) (fun _ _ _ _ _ => pts_nil) (fun _ _ _ _ _ => (pe_ix (r := rIxT K) ix_tup (pv 7) pe_int (fun _ _ => rfl)))) pa_nil)))))), ?_⟩
    try dsimp only [cxOf, Cx.wish]
    walk_at "rd"
    intro d hd
    walk_at "rd"
    intro l hl
    walk_at "rd"
    have hdl : d ≠ l := by
      rintro rfl
      rw [upd_same] at hl
      cases hl
    have hl0 : H l = none := none_of (Same.new hd) hl
    have s1 : Same H (upd (upd H d (.dK [])) l (.lst [])) := (Same.new hd).trans (Same.new hl)
    have hd1 : upd (upd H d (.dK [])) l (.lst []) d = some (.dK (kvT [])) := upd_old hl upd_same
    have hl1 : upd (upd H d (.dK [])) l (.lst []) l = some (.lst (refsV [])) := upd_same
    generalize upd (upd H d (.dK [])) l (.lst []) = H1 at s1 hd1 hl1 ⊢
    refine rd_lenG (hg.fz (Fz.of s1)) (by omega) fun H2 s2 => ?_
    have s02 := s1.trans s2
    walk_at "rd"
    refine fj_range M.length (fun i σ H' => ∃ (seen : List Nat) (ts : List Addr) (v3 v4 v5 : Option V), σ = [some (.ref p), some (.ref d), some (.ref l), v3, v4, v5, none, none] ∧ Same H H' ∧ H' d = some (.dK (kvT seen)) ∧ H' l = some (.lst (refsV ts)) ∧ AllAt KeyR H' ts (keysGo M i) ∧ seen.Nodup ∧ (∀ y ∈ seen, y < M.length) ∧ ∀ y, y ∈ seen ↔ ∃ k ∈ keysGo M i, y ∈ k.2.2)
      ⟨[], [], none, none, none, rfl, s02, s2 _ _ hd1, s2 _ _ hl1, AllAt.nil, List.nodup_nil, (fun y hy => absurd hy List.not_mem_nil), fun y => ⟨fun h => absurd h List.not_mem_nil, fun ⟨k, h, _⟩ => absurd h List.not_mem_nil⟩⟩ ?_ ?_
    · rintro x σ H3 hx ⟨seen, ts, v3, v4, v5, rfl, s3, hd3, hl3, hA, hsn, hsl, hsm⟩
      have hseen60 := nodup_le hsn hsl
      have htl := hA.1
      have hkl := keys_len M x
      walk_at "rd"
      by_cases hm : x ∈ seen
      · rw [if_pos hm]
        refine if_bF (by simp) ?_
        walk_at "rd"
        have ek : keysGo M (x + 1) = keysGo M x := by
          show (if _ then _ else _) = _
          rw [if_pos (any_mem.mpr ((hsm x).mp hm))]
        refine at_i ⟨seen, ts, _, _, _, rfl, s3, hd3, hl3, ?_, hsn, hsl, ?_⟩
        · rw [ek]
          exact hA
        · rw [ek]
          exact hsm
      · rw [if_neg hm]
        refine if_bT (by simp) ?_
        have ek : keysGo M (x + 1) = keysGo M x ++ [(ordF M x, (clsOf M x).length, clsOf M x)] := by
          show (if _ then _ else _) = _
          rw [if_neg (fun z => hm ((hsm x).mpr (any_mem.mp z)))]
        walk_at "rd"
        refine rd_lenG (hg.fz (Fz.of s3)) (by omega) fun H4 s4 => ?_
        have s04 := s3.trans s4
        walk_at "rd"
        refine dcj_seen M.length (fun g => conj M x g) (by omega) (fun x => rfl) (fun g H5 hgM s5 Q' q => ?_) (fun D H5 hD s5 hD5 => ?_)
        · have s05 := s04.trans s5
          have ip5 := s05 _ _ ip
          walk_at "rd"
          refine ⟨p, M, x, g, rfl, hg.fz (Fz.of s05), G.inv0, hx, hgM, fun H6 s6 => ?_⟩
          exact q H6 s6
        · have s05 := s04.trans s5
          have eo : (List.range M.length).foldl (fun ks g => addK ks (conj M x g)) [] = orbL M x M.length := rfl
          rw [eo] at hD5
          have horl : (orbL M x M.length).length ≤ M.length := nodup_le (orbL_nodup M x _) (orbL_lt G hx)
          walk_at "rd"
          have hkeys : (kvT (orbL M x M.length)).map (·.1) = ((orbL M x M.length).map fun k => ((k : Nat) : Int)).map Sum.inl := by
            unfold kvT
            rw [List.map_map, List.map_map]
            rfl
          have hrd : Rd H5 D (.dK (kvT (orbL M x M.length))) := .inl hD5
          refine ⟨hrd, hkeys, by rw [List.length_map]; omega, fun ys p2 hy1 hy2 hp2 => ?_⟩
          rw [sorted_cls G hx (orb_perm G hx).symm hy1 hy2]
          have eV : (iN (clsOf M x)).map V.int = natsV (clsOf M x) := (nats_ints _).symm
          rw [eV]
          walk_at "rd"
          have cl := clsOf_nodup M x
          have cml : (clsOf M x).length ≤ M.length := nodup_le cl fun y hy => (clsOf_mem.mp hy).1
          have s56 : Same H5 (upd H5 p2 (.lst (natsV (clsOf M x)))) := Same.new hp2
          have hp6 : upd H5 p2 (.lst (natsV (clsOf M x))) p2 = some (.lst (natsV (clsOf M x))) := upd_same
          have hd6 := s56 _ _ (s5 _ _ (s4 _ _ hd3))
          have hl6 := s56 _ _ (s5 _ _ (s4 _ _ hl3))
          have s06 := s05.trans s56
          have hA6 := hA.fz keyR_fm (Fz.of ((s4.trans s5).trans s56))
          generalize upd H5 p2 (.lst (natsV (clsOf M x))) = H6 at s56 hp6 hd6 hl6 s06 hA6 ⊢
          refine fj_list (xs := natsV (clsOf M x)) (fun j σ H' => ∃ (se : List Nat) (v5 : Option V), σ = [some (.ref p), some (.ref d), some (.ref l), some (nV x), some (.ref p2), v5, none, none] ∧ Same H H' ∧ Fz H6 H' ∧ H' d = some (.dK (kvT se)) ∧ H' l = some (.lst (refsV ts)) ∧ H' p2 = some (.lst (natsV (clsOf M x))) ∧ se.Nodup ∧ (∀ y ∈ se, y < M.length) ∧ ∀ y, y ∈ se ↔ y ∈ seen ∨ y ∈ (clsOf M x).take j)
            ⟨seen, _, rfl, s06, Fz.refl _, hd6, hl6, hp6, hsn, hsl, fun y => by simp⟩ (fun j σ H' _ z => by obtain ⟨_, _, _, _, _, _, _, z, _⟩ := z; exact SqL.of z) ?_ ?_
          · rintro j y σ H7 hy ⟨se, v5, rfl, s7, f7, hd7, hl7, hp7, hn7, hlt7, hm7⟩
            obtain ⟨m, rfl, hm'⟩ := nats_get hy
            have hse60 := nodup_le hn7 hlt7
            have hmM := (clsOf_mem.mp (List.mem_of_getElem? hm')).1
            walk_at "rd"
            refine at_i ⟨addK se m, _, rfl, Same.mut s7 hd, f7.trans (Fz.upd hd7 rfl), upd_same, ?_, ?_, addK_nodup hn7, ?_, ?_⟩
            · rw [upd_ne (Ne.symm hdl)]
              exact hl7
            · rw [upd_ne]
              · exact hp7
              · rintro rfl
                rw [hp7] at hd7
                cases hd7
            · intro y hy'
              rcases addK_mem.mp hy' with z | z
              · exact hlt7 y z
              · rw [z]
                exact hmM
            · intro y
              rw [addK_mem, hm7, take_snoc hm', List.mem_append, List.mem_singleton]
              exact ⟨fun h => by rcases h with (h | h) | h; exact .inl h; exact .inr (.inl h); exact .inr (.inr h), fun h => by rcases h with h | h | h; exact .inl (.inl h); exact .inl (.inr h); exact .inr h⟩
          · rintro σ H7 ⟨se, v5, rfl, s7, f7, hd7, hl7, hp7, hn7, hlt7, hm7⟩
            rw [List.length_map, List.take_length] at hm7
            have ip7 := s7 _ _ ip
            walk_at "rd"
            refine ⟨p, M, x, ordF M x, rfl, hg.fz (Fz.of s7), G.sq, hx, ordF_is G hx, fun H8 s8 => ?_⟩
            have hp8 := s8 _ _ hp7
            have hl8 := s8 _ _ hl7
            have hd8 := s8 _ _ hd7
            walk_at "rd"
            intro tc htc
            walk_at "rd"
            intro t3 ht3
            have hl9 := upd_old (u := .tup [nV (ordF M x), nV (natsV (clsOf M x)).length, .ref tc]) ht3 (upd_old (u := .tup (natsV (clsOf M x))) htc hl8)
            have hd9 := upd_old (u := .tup [nV (ordF M x), nV (natsV (clsOf M x)).length, .ref tc]) ht3 (upd_old (u := .tup (natsV (clsOf M x))) htc hd8)
            walk_at "rd"
            rw [snoc_refs]
            have ecl : (natsV (clsOf M x)).length = (clsOf M x).length := List.length_map _
            have f9 : Fz H6 (upd (upd (upd H8 tc (.tup (natsV (clsOf M x)))) t3 (.tup [nV (ordF M x), V.int (natsV (clsOf M x)).length, .ref tc])) l (.lst (refsV (ts ++ [t3])))) := ((f7.trans (Fz.of s8)).trans ((Fz.of (Same.new htc)).trans (Fz.of (Same.new ht3)))).trans (Fz.upd hl9 rfl)
            have f10 : Fz (upd (upd H8 tc (.tup (natsV (clsOf M x)))) t3 (.tup [nV (ordF M x), V.int (natsV (clsOf M x)).length, .ref tc])) (upd (upd (upd H8 tc (.tup (natsV (clsOf M x)))) t3 (.tup [nV (ordF M x), V.int (natsV (clsOf M x)).length, .ref tc])) l (.lst (refsV (ts ++ [t3])))) := Fz.upd hl9 rfl
            refine at_i ⟨se, ts ++ [t3], _, _, _, rfl, Same.mut (((s7.trans s8).trans (Same.new htc)).trans (Same.new ht3)) hl0, ?_, upd_same, ?_, hn7, hlt7, fun y => ?_⟩
            · rw [upd_ne hdl]
              exact hd9
            · rw [ek]
              refine (hA6.fz keyR_fm f9).snoc ⟨tc, ?_, f10 _ _ (upd_old ht3 upd_same) rfl⟩
              have := f10 t3 _ upd_same rfl
              rw [this, ecl]
            · rw [hm7, hsm, ek]
              constructor
              · rintro (⟨k, hk, hy⟩ | hy)
                · exact ⟨k, List.mem_append_left _ hk, hy⟩
                · exact ⟨_, List.mem_append_right _ (.head _), hy⟩
              · rintro ⟨k, hk, hy⟩
                rcases List.mem_append.mp hk with hk | hk
                · exact .inl ⟨k, hk, hy⟩
                · have e : k = (ordF M x, (clsOf M x).length, clsOf M x) := by simpa using hk
                  rw [e] at hy
                  exact .inr hy
    · rintro σ H3 ⟨seen, ts, v3, v4, v5, rfl, s3, hd3, hl3, hA, hsn, hsl, hsm⟩
      have hkl := keys_len M M.length
      walk_at "rd"
      refine rd_sortK hl3 hA (by omega) fun o rs ho hrs => ?_
      walk_at "rd"
      have so : Same H3 (upd H3 o (.lst (refsV rs))) := Same.new ho
      have ho1 : upd H3 o (.lst (refsV rs)) o = some (.lst (refsV rs)) := upd_same
      have hrs1 := hrs.fz keyR_fm (Fz.of so)
      generalize upd H3 o (.lst (refsV rs)) = H4 at so ho1 hrs1 ⊢
      obtain ⟨ks, hks⟩ : ∃ ks, ks = (keysGo M M.length).mergeSort (dataLe false dCK) := ⟨_, rfl⟩
      rw [← hks] at hrs1
      have hksl : ks.length = (keysGo M M.length).length := by rw [hks]; exact List.length_mergeSort _
      have eM : clsM M = ks.map fun k => k.2.2 := by rw [hks]; rfl
      have hrl := hrs1.1
      refine lcj_list (xs := refsV rs) (fun i v H => ∃ u, v = V.ref u ∧ H u = some (.tup (natsV ((clsM M).getD i [])))) (fun i v H H' fz h => let ⟨u, e, hu⟩ := h; ⟨u, e, fz _ _ hu rfl⟩) (SqL.of ho1) (by rw [List.length_map]; omega) (fun x => rfl) (fun i x H5 hx s5 Q' q => ?_) (fun D H5 ys hD s5 hl5 hyl hR => ?_)
      · have hil : i < ks.length := by
          have := (List.getElem?_eq_some_iff.mp hx).1
          rw [List.length_map] at this
          omega
        obtain ⟨r, hr⟩ : ∃ r, ks[i]? = some r := ⟨_, List.getElem?_eq_getElem hil⟩
        obtain ⟨rt, hrt, u, hu1, hu2⟩ := hrs1.get hr
        rw [List.getElem?_map, hrt] at hx
        have hx' : V.ref rt = x := by simpa using hx
        subst hx'
        have hu5 := s5 _ _ hu1
        walk_at "rd"
        refine q _ H5 (Same.refl _) ⟨u, rfl, ?_⟩
        have e : (clsM M).getD i [] = r.2.2 := by
          rw [eM, List.getD_eq_getElem?_getD, List.getElem?_map, hr]
          rfl
        rw [e]
        exact s5 _ _ hu2
      · obtain ⟨us, rfl, hul, hU⟩ := refs_of hR
        walk_at "rd"
        intro tt htt
        have hlen : us.length = (clsM M).length := by
          rw [hul, hyl, List.length_map, eM, List.length_map]
          exact hrl
        refine k tt _ (((s3.trans so).trans s5).trans (Same.new htt)) ⟨us, upd_same, hlen, fun i u row h1 h2 => upd_old htt ?_⟩
        have := hU i u h1
        rw [List.getD_eq_getElem?_getD, h2] at this
        exact this
end
end L2.KL
set_option Elab.async false
set_option linter.all false
set_option maxRecDepth 100000
set_option maxHeartbeats 4000000
namespace L2.KL
open PySem PySem.Spec PyProof.Rows PySem.W
local macro_rules | `(tactic| walk_at "hp") => `(tactic| first
  | assumption
  | (apply Same.get; (· assumption); (· walk_at "hp")))
local macro_rules | `(tactic| walk_at "cl") => `(tactic| first
  | (with_reducible rfl)
  | (apply exL; walk_at "hp"))
local macro_rules | `(tactic| walk_at "r1") => `(tactic| first
  | (with_reducible refine rd_seq ?_)
  | ((with_reducible apply rd_var); (· exact rfl))
  | (with_reducible refine rd_c ?_)
  | (with_reducible refine rd_op ?_)
  | (with_reducible refine rd_cons ?_)
  | (with_reducible refine rd_nil ?_)
  | (with_reducible refine rd_call ?_)
  | (with_reducible refine rd_asg ?_)
  | (with_reducible refine rd_name ?_)
  | (with_reducible refine rd_ret ?_)
  | (with_reducible refine rd_for ?_)
  | (with_reducible refine rd_iList ?_)
  | (with_reducible apply Exists.intro)
  | ((with_reducible refine And.intro ?_ ?_); (· walk_at "cl")))
local macro_rules | `(tactic| walk_at "at") => `(tactic| fail)
local macro_rules | `(tactic| walk_at "rd") => `(tactic| ((repeat walk_at "r1"); (try dsimp only [List.set])))
def CycR (C : Addr) (t : Addr) (c : Cyc) (H : Hp) : Prop := CycAt C H t c
theorem cycR_fm (C : Addr) (t : Addr) (c : Cyc) : Fm (CycR C t c) := fun _ _ s h => CycAt.fz s h
theorem rd_addC {C : Addr} {H : Hp} {p q : Addr} {Q : VK} {E : XK} {a b : Cyc} (hp : CycAt C H p a) (hq : CycAt C H q b) (F : Fit a b) (k : ∀ r H', Same H H' → CycAt C H' r (addM a b) → Q (.ref r) H') : rBinO C (spAddC C) E (.ref p) (.ref q) H Q := by
  obtain ⟨dx, t, a1, a2⟩ := id hp
  obtain ⟨dy, u, b1, b2⟩ := id hq
  exact ⟨p, q, dx, dy, _, _, rfl, rfl, a1, b1, p, q, a, b, rfl, hp, hq, F, fun r H' s hr => ⟨(fun z => by cases z), (fun m z => by cases z), k r H' s hr⟩⟩
theorem rd_mulC {C : Addr} {H : Hp} {p q : Addr} {Q : VK} {E : XK} {a b : Cyc} (hp : CycAt C H p a) (hq : CycAt C H q b) (F : Fit a b) (k : ∀ r H', Same H H' → CycAt C H' r (mulM a b) → Q (.ref r) H') : rBinO C (spMulC C) E (.ref p) (.ref q) H Q := by
  obtain ⟨dx, t, a1, a2⟩ := id hp
  obtain ⟨dy, u, b1, b2⟩ := id hq
  exact ⟨p, q, dx, dy, _, _, rfl, rfl, a1, b1, p, q, a, b, rfl, hp, hq, F, fun r H' s hr => ⟨(fun z => by cases z), (fun m z => by cases z), k r H' s hr⟩⟩
/-- sums of up to sixty numbers of size n, l keep within what the operations carry -/
theorem sum_fit {n l : Nat} {cs : List Cyc} {c : Cyc} (hc : ∀ x ∈ cs, Sz n l x) (h : Sz n l c) (hl : cs.length ≤ 60) (h0 : 0 < n) (hn : n ≤ 1000) (h1 : l ≤ 60) : Fit (sumC cs) c := by
  have a := sumC_sz cs.length cs rfl hc
  obtain ⟨m, hm⟩ : ∃ m, m = cs.length := ⟨_, rfl⟩
  rw [← hm] at a hl
  have e1 : m * l ≤ 60 * 60 := Nat.mul_le_mul hl h1
  have e2 : m * (n + (m * l + 1) + l + 8) ≤ 60 * (1000 + (60 * 60 + 1) + 60 + 8) := Nat.mul_le_mul hl (by omega)
  exact a.fit h (by omega) (by omega) (by omega) h0 (by omega)
section
variable {P : Program} {w : World} {K : PySem.W.Frag} {mg : Str → Option Value} {base : Heap}
def spAdded (C : Addr) : Sp := fun vs H Q _ => ∃ (a : Addr) (rs : List Addr) (cs : List Cyc) (n l : Nat), vs = [.ref a] ∧ H a = some (.lst (refsV rs)) ∧ AllAt (CycR C) H rs cs ∧ (∀ c ∈ cs, Sz n l c) ∧ cs.length ≤ 60 ∧ 0 < n ∧ n ≤ 1000 ∧ l ≤ 60 ∧
  ∀ r H', Same H H' → CycAt C H' r (sumC cs) → Q (.ref r) H'
theorem sc_added : FnScope ["numbers", "total", "number"] ["numbers"] HD.d_added.scope := ⟨rfl, rfl, rfl, by decide +kernel, rfl, by decide +kernel, by decide +kernel⟩
theorem ok_added (T : Tx K mg) : Ok P w K mg base CX0 9 HD.d_added ["numbers"] (spAdded (CY K)) := by
  have c1 := T.c_Cyclo
  have G_of_integer : Ok P w K mg base CX0 8 _ _ _ := ok_ofInt T
  have G_Cyclo_add : Ok P w K mg base CX0 8 _ _ _ := ok_addC T
  have nd := sc_added.nd
  refine Ok.mk0 T fn__added rfl sc_added (fun vs H Q E h => ?_) (fun _ _ _ _ _ _ us hl => match us, hl with | [_], _ => rfl) (fun cdv A outer s H vs Q E hr h => ?_)
  · obtain ⟨a, rs, cs, n, l, rfl, _⟩ := h
    rfl
  · obtain ⟨a, rs, cs, n, l, rfl, ha, hA, hz, h60, h0, hn, hl, k⟩ := h
    have hrl := hA.1
    refine ⟨_, pss_cons
          -- total = of_integer(0)
          (ps_set (i := 1) nd rfl (.inl rfl) (pe_f (G_of_integer) (hr.mono (by decide)) T.g_of_integer pass0 (pa_cons pe_int pa_nil)))
         (pss_cons
          -- for number in numbers:
          (ps_for PassesOwn.never rfl (pi_list (pv 0)) (pg_name (i := 2) nd rfl (.inl rfl)) (pss_one
            -- total = total + number
            (ps_set (i := 1) nd rfl (.inl rfl) (pe_op (op_binK G_Cyclo_add T.me_Cyclo_add rfl T.sf_Cyclo (hr.mono (by decide)) pass0) (pv 1) (pv 2)))))
         (pss_one
          -- return total
          (ps_ret (pv 1)))), ?_⟩
    try dsimp only [cxOf, Cx.wish]
    walk_at "rd"
    refine ⟨0, rfl, fun q H1 s1 hq => ?_⟩
    walk_at "rd"
    refine fj_list (xs := refsV rs) (fun i σ H' => ∃ (t : Addr) (v2 : Option V), σ = [some (.ref a), some (.ref t), v2] ∧ Same H H' ∧ CycAt (CY K) H' t (sumC (cs.take i)))
      ⟨q, _, rfl, s1, hq⟩ (fun i σ H' _ z => by obtain ⟨_, _, _, s, _⟩ := z; exact SqL.of (s _ _ ha)) ?_ ?_
    · rintro i x σ H3 hx ⟨t, v2, rfl, s3, ht⟩
      have hil : i < cs.length := by
        have := (List.getElem?_eq_some_iff.mp hx).1
        rw [List.length_map] at this
        omega
      obtain ⟨c, hc⟩ : ∃ c, cs[i]? = some c := ⟨_, List.getElem?_eq_getElem hil⟩
      obtain ⟨rt, hrt, hr⟩ := hA.get hc
      rw [List.getElem?_map, hrt] at hx
      have hx' : V.ref rt = x := by simpa using hx
      subst hx'
      walk_at "rd"
      refine rd_addC ht (CycAt.fz (Fz.of s3) hr) (sum_fit (fun x hx => hz x (List.mem_of_mem_take hx)) (hz c (List.mem_of_getElem? hc)) (by rw [List.length_take]; omega) h0 hn hl) fun r H4 s4 hr4 => ?_
      walk_at "rd"
      refine at_i ⟨r, _, rfl, s3.trans s4, ?_⟩
      rw [take_snoc hc, sumC_snoc]
      exact hr4
    · rintro σ H3 ⟨t, v2, rfl, s3, ht⟩
      have e : cs.take (refsV rs).length = cs := by rw [List.length_map, hrl]; exact List.take_length
      rw [e] at ht
      walk_at "rd"
      exact k t H3 s3 ht
end
end L2.KL
set_option Elab.async false
set_option linter.all false
set_option maxRecDepth 100000
set_option maxHeartbeats 4000000
namespace L2.KL
open PySem PySem.Spec PyProof.Rows PySem.W
local macro_rules | `(tactic| walk_at "hp") => `(tactic| first
  | assumption
  | (apply Same.get; (· assumption); (· walk_at "hp")))
local macro_rules | `(tactic| walk_at "cl") => `(tactic| first
  | (with_reducible rfl)
  | assumption
  | (with_reducible exact nk_group (by decide +kernel))
  | (walk_at "hp")
  | (apply Or.inr; apply SqT.of; walk_at "hp")
  | (apply exT; walk_at "hp"))
local macro_rules | `(tactic| walk_at "r1") => `(tactic| first
  | (with_reducible refine rd_seq ?_)
  | ((with_reducible apply rd_var); (· exact rfl))
  | (with_reducible refine rd_c ?_)
  | (with_reducible refine rd_op ?_)
  | (with_reducible refine rd_cb ?_)
  | (with_reducible refine rd_cons ?_)
  | (with_reducible refine rd_nil ?_)
  | (with_reducible refine rd_meth ?_)
  | (with_reducible refine rd_name ?_)
  | (with_reducible refine rd_ret ?_)
  | (with_reducible refine rd_if ?_)
  | (with_reducible refine rd_test ?_)
  | (with_reducible refine rd_B ?_)
  | (with_reducible refine rd_or ?_)
  | (with_reducible refine rd_not ?_)
  | (with_reducible refine rd_next ?_)
  | (with_reducible refine rd_I0 ?_)
  | ((with_reducible apply rd_eq); (· exact rfl))
  | ((with_reducible apply rd_ne); (· exact rfl))
  | (with_reducible refine rd_for ?_)
  | (with_reducible refine rd_iTup ?_)
  | (with_reducible refine rd_dc ?_)
  | (with_reducible refine iteT ?_)
  | (with_reducible refine iteF ?_)
  | (with_reducible refine iteNT ?_)
  | (with_reducible refine iteNF ?_)
  | (with_reducible refine isi_int ?_)
  | (with_reducible refine isi_intB ?_)
  | ((with_reducible apply isi_tup); (· walk_at "hp"))
  | ((with_reducible apply isi_lstT); (· walk_at "hp"))
  | (with_reducible apply Exists.intro)
  | ((with_reducible refine And.intro ?_ ?_); (· walk_at "cl")))
local macro_rules | `(tactic| walk_at "at") => `(tactic| first
  | (apply at_nats; first | assumption | omega))
local macro_rules | `(tactic| walk_at "rd") => `(tactic| ((repeat walk_at "r1"); (try dsimp only [List.set])))
/-! a tuple of numbers, plain or frozen -/
def TupN (H : Hp) (a : Addr) (S : List Nat) : Prop := Rd H a (.tup (natsV S))
theorem TupN.of {H : Hp} {a : Addr} {S : List Nat} (h : H a = some (.tup (natsV S))) : TupN H a S := .inl h
theorem TupN.same {H H' : Hp} {a : Addr} {S : List Nat} (h : TupN H a S) (s : Same H H') : TupN H' a S := by
  rcases h with h | ⟨o, h⟩
  · exact .inl (s _ _ h)
  · exact .inr ⟨o, s _ _ h⟩
theorem TupN.sq {K : PySem.W.Frag} {H : Hp} {a : Addr} {S : List Nat} (h : TupN H a S) : SqT K H a (natsV S) := .inl h
section
variable {K : PySem.W.Frag} {H : Hp} {Q : VK} {a p : Addr} {S : List Nat} {x : Nat} {v : V} {i : Int}
theorem isi_tupR (h : TupN H a S) (q : Q (.bl true) H) : rIsi K [.ref a, .ty "tuple"] H Q := by
  rcases h with e | ⟨o, e⟩
  · exact isi_tup e q
  · exact ⟨_, _, _, _, true, rfl, .ty _, .fTuple e, kit_ty (by decide +kernel), q⟩
theorem rd_ixTR (h : TupN H p S) (ha : atI (natsV S) i = some v) (q : Q v H) : rIxT K (.ref p) (.int i) H Q := ⟨p, _, i, v, rfl, rfl, h.sq, ha, q⟩
theorem rd_inTR (h : TupN H p S) (q : Q (.bl (decide (x ∈ S))) H) : rIn K false (nV x) (.ref p) H Q := ⟨p, _, rfl, .inr h.sq, rfl, flat_nats _, by rw [if_neg (by decide), in_nats]; exact q⟩
theorem rd_ninTR (h : TupN H p S) (q : Q (.bl (!decide (x ∈ S))) H) : rIn K true (nV x) (.ref p) H Q := ⟨p, _, rfl, .inr h.sq, rfl, flat_nats _, by rw [if_pos rfl, in_nats]; exact q⟩
theorem or_ttR {A B : Prop} (h : TupN H p S) (q : A) : B ∨ (SqT K H p (natsV S) ∧ A) := .inr ⟨h.sq, q⟩
end
local macro_rules | `(tactic| walk_at "cl") => `(tactic| first
  | (exact Or.inr (TupN.sq (by assumption)))
  | (exact ⟨_, TupN.sq (by assumption)⟩))
local macro_rules | `(tactic| walk_at "r1") => `(tactic| first
  | ((with_reducible apply rd_ixTR); (· assumption); (· walk_at "at"))
  | ((with_reducible apply isi_tupR); (· assumption))
  | ((with_reducible apply rd_ninTR); (· assumption)))
structure SubOk (M : Tab) (S : List Nat) : Prop where
  so : S.Pairwise (· < ·)
  lt : ∀ x ∈ S, x < M.length
  z : ∃ R, S = 0 :: R
  cl : ∀ x ∈ S, ∀ y ∈ S, tm M x y ∈ S
theorem SubOk.nd {M : Tab} {S : List Nat} (h : SubOk M S) : S.Nodup := h.so.imp fun h => Nat.ne_of_lt h
theorem SubOk.le {M : Tab} {S : List Nat} (h : SubOk M S) : S.length ≤ M.length := nodup_le h.nd h.lt
theorem SubOk.pos {M : Tab} {S : List Nat} (h : SubOk M S) : 1 ≤ S.length := by
  obtain ⟨R, e⟩ := h.z
  rw [e]
  exact Nat.succ_pos _
theorem sorted_sub {S : List Nat} {ns : List Int} (h : S.Pairwise (· < ·)) (h1 : ns.Perm (iN S)) (h2 : ns.Pairwise (· ≤ ·)) : ns = iN S := by
  refine List.Perm.eq_of_pairwise (le := fun a b : Int => a ≤ b) (fun a b _ _ h h' => Int.le_antisymm h h') h2 ?_ h1
  unfold iN
  rw [List.pairwise_map]
  exact List.Pairwise.imp (fun h => by omega) h
theorem rd_sortS {K : PySem.W.Frag} {H : Hp} {a : Addr} {Q : VK} {S : List Nat} (h : SqT K H a (natsV S)) (hs : S.Pairwise (· < ·)) (hn : S.length < 64) (k : ∀ p, H p = none → Q (.ref p) (upd H p (.lst (natsV S)))) : rSortTI K [.ref a] H Q := by
  rw [nats_ints] at h
  refine ⟨a, _, rfl, h, by rw [List.length_map]; exact hn, fun ns' p h1 h2 hp0 => ?_⟩
  rw [sorted_sub hs h1 h2]
  have := k p hp0
  rw [nats_ints] at this
  exact this
theorem dcj_tupN {K : PySem.W.Frag} {j : Nat} {tk : TE} {vs : List Nat} {σ : St} {Q : VK} {H1 : Hp} {a : Addr} {S : List Nat} (hs : SqT K H1 a (natsV S)) (hn : S.length ≤ 100000) (hw : ∀ x, wipe ((wipe σ vs).set j (some x)) vs = wipe σ vs)
    (he : ∀ (i : Nat) (H : Hp) (x : Nat), Same H1 H → ∀ Q' : VK, Q' (nV x) H → tk ((wipe σ vs).set j (some (nV x))) H Q')
    (k : ∀ D H, H1 D = none → Same H1 H → H D = some (.dK (kvT (S.foldl addK []))) → Q (.ref D) H) : DcJ (Itt K a) (gName j) tYes tk (tC (.bl true)) vs σ Q H1 := by
  refine dcj_it (walk_tup (K := K) (a := a) (xs := natsV S)) (fun D i H => Same H1 H ∧ ((S.take i).foldl addK []).length ≤ i ∧ H D = some (.dK (kvT ((S.take i).foldl addK [])))) (fun D hD => ⟨Same.new hD, Nat.le_refl _, upd_same⟩) (fun _ _ _ _ p => Same.tup p.1 hs) ?_ (fun D H hD p => k D H hD p.1 (by have := p.2.2; rw [List.length_map, List.take_length] at this; exact this))
  rintro D i x H H' hD hi ⟨s, hl, hd⟩ ⟨rfl, hx⟩
  obtain ⟨m, rfl, hm⟩ := nats_get hx
  refine ⟨hw _, tyes ?_⟩
  refine he i _ m s _ ?_
  rw [List.length_map] at hi
  refine ⟨_, .inl ((m : Nat) : Int), rfl, hd, by unfold kvT; rw [List.length_map, sizeLine_eq]; omega, Same.mut s hD, ?_, ?_⟩
  · rw [take_snoc hm, List.foldl_append]
    exact Nat.le_trans addK_len (by omega)
  · rw [upd_same, putK_T, take_snoc hm, List.foldl_append]
    rfl
theorem addK_all : ∀ (S ks : List Nat), (ks ++ S).Nodup → S.foldl addK ks = ks ++ S
  | [], ks, _ => by rw [List.append_nil]; rfl
  | x :: S, ks, h => by
    show S.foldl addK (addK ks x) = _
    have hx : x ∉ ks := fun z => by
      have := (List.nodup_append.mp h).2.2 x z x (.head _)
      exact this rfl
    have e : addK ks x = ks ++ [x] := by unfold addK; rw [if_neg hx]
    rw [e, addK_all S (ks ++ [x]) (by rw [List.append_assoc]; exact h), List.append_assoc]
    rfl
section
variable {P : Program} {w : World} {K : PySem.W.Frag} {mg : Str → Option Value} {base : Heap}
def spIsSub (C : Addr) : Sp := fun vs H Q _ => ∃ (p a : Addr) (M : Tab), vs = [.ref p, .ref a] ∧ GrpAt C H p M ∧ IsGrp M ∧
  ((∃ S, TupN H a S ∧ SubOk M S ∧ ∀ H', Same H H' → Q (.bl true) H') ∨ ((H a = some (.tup (natsV [])) ∨ H a = some (.tup (natsV [0, M.length])) ∨ H a = some (.lst (natsV [0]))) ∧ ∀ H', Same H H' → Q (.bl false) H'))
theorem sc_is_subgroup : FnScope ["group", "elems", "x", "y"] ["group", "elems"] HD.d_is_subgroup.scope := ⟨rfl, rfl, rfl, by decide +kernel, rfl, by decide +kernel, by decide +kernel⟩
theorem ok_issub (T : Tx K mg) : Ok P w K mg base CX0 3 HD.d_is_subgroup ["group", "elems"] (spIsSub (CG K)) := by
  have c1 := T.c_Group
  have G_Group_len : Ok P w K mg base CX0 1 _ _ _ := ok_lenG T
  have G_Group_product : Ok P w K mg base CX0 1 _ _ _ := ok_prod T
  have nd := sc_is_subgroup.nd
  refine Ok.mk0 T fn__is_subgroup rfl sc_is_subgroup (fun vs H Q E h => ?_) (fun _ _ _ _ _ _ us hl => match us, hl with | [_, _], _ => rfl) (fun cdv A outer s H vs Q E hr h => ?_)
  · obtain ⟨p, a, M, rfl, _⟩ := h
    rfl
  · obtain ⟨p, a, M, rfl, hg, G, h⟩ := h
    obtain ⟨dx, t, ip, hT⟩ := id hg
    have hM := G.le
    have hM1 := G.pos
    refine ⟨_, pss_cons
          -- if not isinstance(elems, tuple) or len(elems) == 0:
          (ps_if (PW.pt (pw_or (pt_not (pt_val (pe_callB call_isi (by rfl) T.b_isinstance (by decide +kernel) (pa_cons (pv 1) (pa_cons (pe_bltn (v := .ty "tuple") (by rfl) T.b_tuple (by decide +kernel) rfl) pa_nil))))) (pw_or1 (pt_cmpR op_eq (pe_callB call_len_seq (by rfl) T.b_len (by decide +kernel) (pa_cons (pv 1) pa_nil)) pe_int (nomark _))))) (pss_one
            -- return False
            (ps_ret pe_bl)) (pss_nil))
         (pss_cons
          -- for x in elems:
          (ps_for PassesOwn.never rfl (pi_tupK (K := K) (pv 1)) (pg_name (i := 2) nd rfl (.inl rfl)) (pss_one
            -- if not isinstance(x, int) or isinstance(x, bool) or x < 0 or (x >= len(group)):
            (ps_if (PW.pt (pw_or (pt_not (pt_val (pe_callB call_isi (by rfl) T.b_isinstance (by decide +kernel) (pa_cons (pv 2) (pa_cons (pe_bltn (v := .ty "int") (by rfl) T.b_int (by decide +kernel) rfl) pa_nil))))) (pw_or (pt_val (pe_callB call_isi (by rfl) T.b_isinstance (by decide +kernel) (pa_cons (pv 2) (pa_cons (pe_bltn (v := .ty "bool") (by rfl) T.b_bool (by decide +kernel) rfl) pa_nil)))) (pw_or (pt_cmpR op_lt (pv 2) pe_int (nomark _)) (pw_or1 (pt_cmpR op_ge (pv 2) (pe_callB (call_lenK G_Group_len T.me_Group_len (hr.mono (by decide)) pass0) (by rfl) T.b_len (by decide +kernel) (pa_cons (pv 0) pa_nil)) (nomark _))))))) (pss_one
              -- return False
              (ps_ret pe_bl)) (pss_nil))))
         (pss_cons
          -- if sorted(elems) != list(elems) or elems[0] != 0 or len({x: True for x in elems}) != len(elems):
          (ps_if (PW.pt (pw_or (pt_cmpR (r := rNeD K) (op_neD hr.units) (pe_callB cr_sortedU (by rfl) T.b_sorted (by decide +kernel) (pa_cons (pv 1) pa_nil)) (pe_callTy call_list_of (by rfl) T.b_list (by decide +kernel) (pa_cons (pv 1) pa_nil)) (nomark _)) (pw_or (pt_cmpR op_ne (pe_ix (r := rIxT K) ix_tup (pv 1) pe_int (fun _ _ => rfl)) pe_int (nomark _)) (pw_or1 (pt_cmpR op_ne (pe_callB call_lenD (by rfl) T.b_len (by decide +kernel) (pa_cons (pe_dc (own := [("x", 2)]) (g := gName 2) (tt := tYes) (by rfl) nd (pi_tupK (K := K) (pv 1)) (blkOk_by (own := [("x", 2)]) (N := ["group", "elems", "x", "y"]) (sc := HD.d_is_subgroup.scope) (by decide +kernel)) (fun _ _ _ _ _ => (pg_name (i := 2) nd rfl (.inl rfl))) (fun _ _ _ _ _ => pts_nil) (fun _ _ _ _ _ => (pv 2)) (fun _ _ _ _ _ => pe_bl)) pa_nil)) (pe_callB call_len_seq (by rfl) T.b_len (by decide +kernel) (pa_cons (pv 1) pa_nil)) (nomark _)))))) (pss_one
            -- return False
            (ps_ret pe_bl)) (pss_nil))
         (pss_cons
          -- for x in elems:
          (ps_for PassesOwn.never rfl (pi_tupK (K := K) (pv 1)) (pg_name (i := 2) nd rfl (.inl rfl)) (pss_one
            -- for y in elems:
            (ps_for PassesOwn.never rfl (pi_tupK (K := K) (pv 1)) (pg_name (i := 3) nd rfl (.inl rfl)) (pss_one
              -- if group.product(x, y) not in elems:
              (ps_if (pt_cmpR (r := rIn K true) op_notIn_seq (pe_m (pv 0) T.c_Group (G_Group_product) T.me_Group_product (hr.mono (by decide)) pass0 (pa_cons (pv 2) (pa_cons (pv 3) pa_nil))) (pv 1) (by rfl)) (pss_one
                -- return False
                (ps_ret pe_bl)) (pss_nil))))))
         (pss_one
          -- return True
          (ps_ret pe_bl))))), ?_⟩
    try dsimp only [cxOf, Cx.wish]
    rcases h with ⟨S, ha, hS, k⟩ | ⟨ha | ha | ha, k⟩
    · have hSl := hS.le
      have hS1 := hS.pos
      walk_at "rd"
      refine if_eq (fun z => absurd z (by rw [List.length_map]; omega)) (fun _ => ?_)
      walk_at "rd"
      refine fj_tup (xs := natsV S) (fun i σ H' => ∃ v2, σ = [some (.ref p), some (.ref a), v2, none] ∧ Same H H') ⟨_, rfl, Same.refl _⟩ (fun i σ H' _ z => by obtain ⟨_, _, s⟩ := z; exact (TupN.same ha s).sq) ?_ ?_
      · rintro i x σ H2 hx ⟨v2, rfl, s2⟩
        obtain ⟨m, rfl, hm⟩ := nats_get hx
        have hmM := hS.lt m (List.mem_of_getElem? hm)
        walk_at "rd"
        refine if_d (fun z => absurd z (by omega)) (fun _ => ?_)
        walk_at "rd"
        refine rd_lenG (hg.fz (Fz.of s2)) (by omega) fun H3 s3 => ?_
        walk_at "rd"
        refine if_d (fun z => absurd z (by omega)) (fun _ => ?_)
        walk_at "rd"
        exact at_i ⟨_, rfl, s2.trans s3⟩
      · rintro σ H2 ⟨v2, rfl, s2⟩
        have ha2 := TupN.same ha s2
        walk_at "rd"
        refine rd_sortS ha2.sq hS.so (by omega) fun p1 hp1 => ?_
        have ha3 := ha2.same (Same.new (o := .lst (natsV S)) hp1)
        walk_at "rd"
        intro p2 hp2
        walk_at "rd"
        refine rd_neNN (upd_old hp2 upd_same) upd_same ?_
        rw [decide_eq_true rfl]
        have ha4 := ha3.same (Same.new (o := .lst (natsV S)) hp2)
        have s4 := (s2.trans (Same.new hp1)).trans (Same.new (o := .lst (natsV S)) hp2)
        generalize upd (upd H2 p1 (.lst (natsV S))) p2 (.lst (natsV S)) = H4 at ha4 s4 ⊢
        obtain ⟨R, hR⟩ := hS.z
        have hz : (natsV S).getD 0 .non = nV 0 := by rw [hR]; rfl
        have h00 : S.getD 0 0 = 0 := by rw [hR]; rfl
        walk_at "rd"
        rw [h00]
        refine if_ne (i := ((0 : Nat) : Int)) (j := 0) (fun z => absurd rfl z) (fun _ => ?_)
        walk_at "rd"
        refine dcj_tupN ha4.sq (by omega) (fun x => rfl) (fun i H5 x s5 Q' q => ?_) (fun D H5 hD s5 hd5 => ?_)
        · walk_at "rd"
          exact q
        have ha5 := ha4.same s5
        rw [addK_all S [] hS.nd, List.nil_append] at hd5
        walk_at "rd"
        refine if_ne (fun z => absurd (by unfold kvT; rw [List.length_map, List.length_map]) z) (fun _ => ?_)
        have s05 := s4.trans s5
        clear hd5
        walk_at "rd"
        refine fj_tup (xs := natsV S) (fun i σ H' => ∃ v2 v3, σ = [some (.ref p), some (.ref a), v2, v3] ∧ Same H H') ⟨_, _, rfl, s05⟩ (fun i σ H' _ z => by obtain ⟨_, _, _, s⟩ := z; exact (TupN.same ha s).sq) ?_ ?_
        · rintro i x σ H6 hx ⟨v2, v3, rfl, s6⟩
          obtain ⟨m, rfl, hm⟩ := nats_get hx
          have hmS := List.mem_of_getElem? hm
          have hmM := hS.lt m hmS
          have ha6 := TupN.same ha s6
          walk_at "rd"
          refine fj_tup (xs := natsV S) (fun i σ H' => ∃ v3, σ = [some (.ref p), some (.ref a), some (nV m), v3] ∧ Same H H') ⟨_, rfl, s6⟩ (fun i σ H' _ z => by obtain ⟨_, _, s⟩ := z; exact (TupN.same ha s).sq) ?_ ?_
          · rintro i x σ H7 hx ⟨v3, rfl, s7⟩
            obtain ⟨n, rfl, hn⟩ := nats_get hx
            have hnS := List.mem_of_getElem? hn
            have hnM := hS.lt n hnS
            have hrow : n < (M.getD m []).length := by rw [G.sq.row m hmM]; exact hnM
            walk_at "rd"
            refine ⟨p, M, m, n, rfl, hg.fz (Fz.of s7), hmM, hrow, fun H8 s8 => ?_⟩
            have ha8 := (TupN.same ha s7).same s8
            walk_at "rd"
            rw [decide_eq_true (hS.cl m hmS n hnS)]
            refine if_bF (by simp) ?_
            walk_at "rd"
            exact at_i ⟨_, rfl, s7.trans s8⟩
          · rintro σ H7 ⟨v3, rfl, s7⟩
            walk_at "rd"
            exact at_i ⟨_, _, rfl, s7⟩
        · rintro σ H6 ⟨v2, v3, rfl, s6⟩
          walk_at "rd"
          exact k H6 s6
    · walk_at "rd"
      refine if_eq (fun _ => ?_) (fun z => absurd rfl z)
      walk_at "rd"
      exact k H (Same.refl _)
    · walk_at "rd"
      refine if_eq (fun z => absurd z (by simp)) (fun _ => ?_)
      walk_at "rd"
      refine fj_tup (xs := natsV [0, M.length]) (fun i σ H' => i ≤ 1 ∧ ∃ v2, σ = [some (.ref p), some (.ref a), v2, none] ∧ Same H H') ⟨by omega, _, rfl, Same.refl _⟩ (fun i σ H' _ z => by obtain ⟨_, _, _, s⟩ := z; exact SqT.of (s _ _ ha)) ?_ ?_
      · rintro i x σ H2 hx ⟨hi, v2, rfl, s2⟩
        match i, hx with
        | 0, hx =>
          obtain rfl : x = nV 0 := by simpa using hx.symm
          walk_at "rd"
          refine if_d (fun z => absurd z (by omega)) (fun _ => ?_)
          walk_at "rd"
          refine rd_lenG (hg.fz (Fz.of s2)) (by omega) fun H3 s3 => ?_
          walk_at "rd"
          refine if_d (fun z => absurd z (by omega)) (fun _ => ?_)
          walk_at "rd"
          exact at_i ⟨by omega, _, rfl, s2.trans s3⟩
        | 1, hx =>
          obtain rfl : x = nV M.length := by simpa using hx.symm
          walk_at "rd"
          refine if_d (fun z => absurd z (by omega)) (fun _ => ?_)
          walk_at "rd"
          refine rd_lenG (hg.fz (Fz.of s2)) (by omega) fun H3 s3 => ?_
          walk_at "rd"
          refine if_d (fun _ => ?_) (fun z => absurd (by omega) z)
          walk_at "rd"
          exact k H3 (s2.trans s3)
      · rintro σ H2 ⟨hi, _⟩
        exact absurd hi (by simp)
    · walk_at "rd"
      exact k H (Same.refl _)
end
end L2.KL
set_option Elab.async false
set_option linter.all false
set_option maxRecDepth 100000
set_option maxHeartbeats 4000000
namespace PySem
open Sem (wp)
theorem meets_enumerate_new1B {v : Value} {o : Obj} {H : Heap → Prop} (B : Begins v o H) :
    Meets (Builtin.«enumerate.__new__» ⟨[.type "enumerate", v], []⟩) (fun _ R s => H s.heap ∧
      R (.ok (.ret (.ref (s.heap.push o).objs.size))) { s with heap := (s.heap.push o).push { cls := .type "enumerate", data := .fields #[.none, .bool false, .ref s.heap.objs.size, rawInt 0, .none, .none] } }) :=
  .of_wp fun prog w A R s h => by
    obtain ⟨hp, g, d, tk, os⟩ := s; obtain ⟨h1, h⟩ := h
    have hsub := sub_enumerate
    have q1 : ∀ {A' : Around} {E : Value → Shared → Prop} {Q : Value → Shared → Prop}, Q (.ref hp.objs.size) ⟨hp.push o, g, d, tk, os⟩ → wpAny (model prog w) A' (pyIter v) Q E ⟨hp, g, d, tk, os⟩ :=
      fun q => B.iter prog w _ _ ⟨hp, g, d, tk, os⟩ _ h1 q
    wp_walk using q1
    refine wpAny_stack_any fun st => wpAny_pure ?_
    split
    · rename_i c _ _ _ _ _
      cases (c == Value.type "enumerate")
      · wp_walk using q1
        exact ⟨_, rfl, h⟩
      · wp_walk using q1
        exact ⟨_, rfl, h⟩
    · wp_walk using q1
      exact ⟨_, rfl, h⟩
section
variable {prog : Program} {w : World} {A : Around} {E : Value → Shared → Prop} {s : Shared}
theorem call_enumerate_begins {v : Value} {o : Obj} {H : Heap → Prop} {Q : Value → Shared → Prop} (B : Begins v o H) (h1 : H s.heap)
    (h : ∀ h', IsEnum h' (s.heap.objs.size + 1) s.heap.objs.size 0 .none → h'.get? s.heap.objs.size = some o → h'.objs.size = s.heap.objs.size + 2 →
      (∀ b o, s.heap.get? b = some o → h'.get? b = some o) → Q (.ref (s.heap.objs.size + 1)) { s with heap := h' }) :
    wpAny (model prog w) A (call (.type "enumerate") [v]) Q E s := by
  refine callType_new F.called_enumerate (by decide) (F.typeCall_enumerate_1 _) (F.newCall_enumerate_1 _) (fun obj => F.args_object_init_2 obj _) F.entry_enumerate_new
    (meets_enumerate_new1B B) ⟨h1, ?_⟩
  have hz : (s.heap.push o).objs.size = s.heap.objs.size + 1 := Heap.size_push ..
  show _ ∧ _
  rw [hz]
  have he : IsEnum ((s.heap.push o).push { cls := .type "enumerate", data := .fields #[.none, .bool false, .ref s.heap.objs.size, rawInt 0, .none, .none] }) (s.heap.objs.size + 1) s.heap.objs.size 0 .none := by
    have := Heap.get?_push_size (s.heap.push o) (o := { cls := .type "enumerate", data := .fields #[.none, .bool false, .ref s.heap.objs.size, rawInt 0, .none, .none] }) rfl
    rw [hz] at this; exact this
  refine ⟨⟨_, he, rfl⟩, h _ he (Heap.get?_push_of_some _ (Heap.get?_push_size _ B.free)) (by rw [Heap.size_push, hz]) fun b o x => Heap.get?_push_of_some _ (Heap.get?_push_of_some _ x)⟩
end
end PySem
namespace L2.KL
open PySem PySem.Spec PyProof.Rows PySem.W
/-! enumerate(tuple) -/
def IteT (K : PySem.W.Frag) (a : Addr) : It :=
  ⟨fun i H => ∃ (xs : List V) (x : V), SqT K H a xs ∧ xs[i]? = some x, fun i H v H' => ∃ T x, v = .ref T ∧ H T = none ∧ H' = upd H T (.tup [.int (i : Nat), x]) ∧ ∀ xs, SqT K H a xs → xs[i]? = some x, fun i H => ∃ xs : List V, SqT K H a xs ∧ xs.length ≤ i⟩
theorem turn_enumT {P : Program} {w : World} {K : PySem.W.Frag} {elts : List Expr} {kk : Nat} {tpos : Pos} (a e it : Addr) :
    Turn P w K (.Tuple elts kk tpos) (IteT K a) [e, it] e (fun i h => (∃ old, IsEnum h e it ((i : Nat) : Int) old) ∧ h.IsTupleIter it a i ∧ e ≠ it) where
  mem := by simp
  obj := fun i h st b hb => by
    obtain ⟨⟨old, he⟩, ⟨o, ho, hc, hd⟩, _⟩ := st
    have e' : b = e ∨ b = it := by simpa using hb
    rcases e' with z | z
    · rw [z]; exact ⟨_, he, fun v q => nomatch q⟩
    · rw [z]; exact ⟨o, ho, fun v q => by rw [hd] at q; cases q⟩
  keep := fun i h h' st k => let ⟨⟨old, he⟩, hi, hne⟩ := st; ⟨⟨old, k e (by simp) _ he⟩, hi.at fun o q => k it (by simp) o q, hne⟩
  item := by
    intro X hP hw hK hc i pins s σ H E I hf st hg
    subst hP hw hK
    obtain ⟨⟨old, he⟩, hit, hne⟩ := st
    obtain ⟨xs, x, hq, hx⟩ := hg
    obtain ⟨its, rv, p, hz⟩ := I.tuple hq
    obtain ⟨u, hu, ru⟩ := rv.get hx
    have hel : e < s.heap.objs.size := Heap.lt_size he
    have hil : it < s.heap.objs.size := by obtain ⟨_, q, _⟩ := hit; exact Heap.lt_size q
    have hea : e ≠ a := by
      rintro rfl
      obtain ⟨o, ho, hcl, _⟩ := id p
      rw [he] at ho
      cases ho
      injection hcl with z
      exact absurd z (by decide)
    have hia : a ≠ it := by
      rintro rfl
      obtain ⟨o, ho, hcl, _⟩ := id p
      obtain ⟨o', ho', hcl', _⟩ := id hit
      rw [ho] at ho'
      cases ho'
      rw [hcl] at hcl'
      injection hcl' with z
      exact absurd z (by decide)
    have hef : e ∉ [it, a] := fun z => by
      rcases List.mem_cons.mp z with z | z
      · exact hne z
      · rcases List.mem_cons.mp z with z | z
        · exact hea z
        · cases z
    have hlt : i < its.toArray.size := by
      have := (List.getElem?_eq_some_iff.mp hu).1
      simpa using this
    refine wpAny_pyNext_enum_itemD (Draws.tuple (A := X.A.in1) (I.ok.hd hc) it a hia its.toArray) he ⟨hit, p⟩ hlt hne hef fun x' h' tk hx' ho hit' hT hsz hk => ?_
    obtain ⟨hit', _⟩ := hit'
    have ex' : x' = u := by
      have hx2 : its.toArray[i]? = some u := by simpa using hu
      rw [hx2] at hx'
      exact (Option.some.inj hx').symm
    subst ex'
    refine ⟨_, rfl, wpAny_letOwnedTupleGo_enum (s := { s with heap := h', toks := tk + 1 }) ho fun h'' he' sb => ?_⟩
    have hT2 : h''.get? s.heap.objs.size = some { cls := .type "tuple", data := .seq #[.int i tk, x'] } := (sb.2 _ (Nat.ne_of_gt hel)).trans hT
    have new : ObjOk X.prog X.w (upd H s.heap.objs.size (.tup [.int (i : Nat), x])) h'' s.heap.objs.size (.tup [.int (i : Nat), x]) :=
      ⟨by show 2 ≤ sizeLine; decide, [.int i tk, x'], .cons ⟨_, rfl⟩ (.cons ru .nil), ⟨_, hT2, rfl, _, rfl⟩⟩
    have I1 : Inv X pins σ (upd H s.heap.objs.size (.tup [.int (i : Nat), x])) { s with heap := h'', toks := tk + 1 } :=
      I.turnedNew (ch := [e, it]) (fun b ob hb q => (sb.2 b (fun z => hb (by simp [z]))).trans (hk b ob (fun z => hb (by simp [z])) (fun z => hb (by simp [z])) q)) hf (Nat.le_refl _) new
    refine ⟨.ref s.heap.objs.size, _, I1, rfl, ⟨_, x, rfl, I.hok.fresh (Nat.le_refl _), rfl, fun ys hy => by rw [I.tuple_inj hy hq]; exact hx⟩, ⟨⟨x', ?_⟩, hit'.at fun o q => (sb.2 it (Ne.symm hne)).trans q, hne⟩, fun b hb => ?_⟩
    · have e1 : ((i + 1 : Nat) : Int) = (i : Int) + 1 := by omega
      rw [e1]; exact he'
    · have hb' : b < s.heap.objs.size := by
        have e' : b = e ∨ b = it := by simpa using hb
        rcases e' with z | z
        · rw [z]; exact hel
        · rw [z]; exact hil
      rw [upd_ne (Nat.ne_of_lt hb')]
      exact (hf b hb).1
  done := by
    intro X hP hw hK hc i pins s σ H E I hf st hg
    subst hP hw hK
    obtain ⟨⟨old, he⟩, hit, hne⟩ := st
    obtain ⟨xs, hq, hx⟩ := hg
    obtain ⟨its, rv, p, hz⟩ := I.tuple hq
    obtain ⟨f0, f1, f2, f3, f4, f5⟩ := hf it (by simp)
    have hl := rv.length
    have hT : s.TypeIs (.ref e) "enumerate" := ⟨_, he, rfl⟩
    unfold pyNext
    refine wpAny_bind (wpAny_attempt (wpAny_callSpecial?_slot (name := Str.ofString "__next__") hT F.slot_enumerate_next
      (wpAny_call_entry F.slot_enumerate_next hT F.entry_enumerate_next ?_ (F.args_enumerate_next_1 _))))
    show wpAny _ _ (field (.ref e) 2 >>= _) _ _ _
    refine wpAny_bind (wpAny_field he rfl (x := .ref it) rfl ?_)
    refine wpAny_bind (wpAny_nextOf_tuple_end (I.ok.hd hc) hit p (by simp; omega) fun h' x he' hx' => ?_)
    obtain ⟨o, ho, hc2⟩ := hx'
    refine wpAny_bind (wpAny_isInstance (T := "StopIteration") (b := true) ⟨o, ho, hc2⟩ isSubtype_stop ?_)
    exact wpAny_pure ⟨rfl, I.turned (t' := s.toks) (fun b o hb q => he' b o hb q) f0 f1 f3 f4 f5⟩
  self := fun A i s Q E st h => let ⟨⟨_, he⟩, _⟩ := st; wpAny_pyIter_enum he h
def iEnumT (K : PySem.W.Frag) (ta : TA) : TI := fun σ H R => ta σ H fun vs H1 => ∃ a xs, vs = [.ref a] ∧ SqT K H1 a xs ∧ R (IteT K a) H1
theorem pi_enumT {X : Cx} {K : PySem.W.Frag} {e : Expr} {ta : TA} {p pos tpos : Pos} {elts : List Expr} {kk : Nat} (hg : Gl X "enumerate") (hm : X.mg "enumerate" = none) (ha : PA X [e] ta) (hs : starEach [e] X.env = [(false, eval e X.env)] := by rfl) (hK : X.K = K := by rfl) :
    PI X (.Tuple elts kk tpos) (.Call (.Name "enumerate" p) [e] [] pos) (iEnumT K ta) := by
  subst hK
  refine ⟨fun pins s σ H R I h => ?_⟩
  refine Call_ (ld_blt I hg hm boot_enumerate (PyProof.Rows.callWith_type1 (thn (ha.run pos pins s σ H _ I h) fun us s1 ⟨vs, H1, I1, r1, q1⟩ => ?_) hs rfl))
  obtain ⟨a, xs, ex, hq, q⟩ := q1
  subst ex
  cases r1 with
  | cons r rr =>
    cases rr
    cases r
    obtain ⟨its, rv, p', hz⟩ := I1.tuple hq
    refine call_enumerate_begins (begins_tuple a its.toArray) p' fun h' he hit hsz hk => wpAny_pyIter_enum he ?_
    have I2 : Inv X pins σ H1 { s1 with heap := h' } := I1.kept (t' := s1.toks) hk
    refine ⟨s1.heap.objs.size + 1, [s1.heap.objs.size + 1, s1.heap.objs.size], _, _, H1, rfl, I2, turn_enumT a (s1.heap.objs.size + 1) s1.heap.objs.size, ⟨⟨.none, he⟩, ⟨_, hit, rfl, rfl⟩, Nat.succ_ne_self _⟩, fun b hb => ?_, q⟩
    have e' : b = s1.heap.objs.size + 1 ∨ b = s1.heap.objs.size := by simpa using hb
    have hle : s1.heap.objs.size ≤ b := by
      rcases e' with z | z
      · rw [z]; exact Nat.le_add_right _ _
      · rw [z]; exact Nat.le_refl _
    exact I1.fpOk hle (I1.hok.fresh hle)
theorem walk_enumT {K : PySem.W.Frag} {a : Addr} {xs : List V} : Walk (IteT K a) xs.length (fun H => SqT K H a xs) (YPair (fun i => some (.int (i : Nat))) (fun i => xs[i]?)) :=
  ⟨fun i _ hi q => ⟨xs, xs[i], q, by simp [hi]⟩, fun _ q => ⟨xs, q, Nat.le_refl _⟩, fun i H v H' hi q y => by
    obtain ⟨T, x, e1, e2, e3, e4⟩ := y
    exact ⟨T, .int (i : Nat), x, e1, e2, e3, rfl, e4 xs q⟩⟩
end L2.KL
set_option Elab.async false
set_option linter.all false
set_option maxRecDepth 100000
set_option maxHeartbeats 4000000
namespace L2.KL
open PySem PySem.Spec PyProof.Rows PySem.W
local macro_rules | `(tactic| walk_at "hp") => `(tactic| first
  | assumption
  | (with_reducible exact upd_same)
  | (apply upd_old; (· assumption); (· walk_at "hp")))
local macro_rules | `(tactic| walk_at "cl") => `(tactic| first
  | (with_reducible rfl)
  | assumption
  | (walk_at "hp")
  | (apply Or.inr; apply SqT.of; walk_at "hp")
  | (apply exT; walk_at "hp")
  | (exact (by decide : (0 : Nat) < 1000))
  | (exact (by decide : (1 : Nat) < 1000))
  | (exact (by decide : (2 : Nat) < 1000))
  | exact rfl)
local macro_rules | `(tactic| walk_at "r1") => `(tactic| first
  | (with_reducible refine rd_seq ?_)
  | ((with_reducible apply rd_var); (· exact rfl))
  | (with_reducible refine rd_c ?_)
  | (with_reducible refine rd_op ?_)
  | (with_reducible refine rd_fld ?_)
  | (with_reducible refine rd_cb ?_)
  | (with_reducible refine rd_cons ?_)
  | (with_reducible refine rd_nil ?_)
  | (with_reducible refine rd_call ?_)
  | (with_reducible refine rd_name ?_)
  | (with_reducible refine rd_if ?_)
  | (with_reducible refine rd_test ?_)
  | (with_reducible refine rd_B ?_)
  | (with_reducible refine rd_not ?_)
  | (with_reducible refine rd_next ?_)
  | (with_reducible refine rd_sfld ?_)
  | ((with_reducible apply rd_ne); (· exact rfl))
  | (with_reducible refine rd_for ?_)
  | (with_reducible refine rd_iTup ?_)
  | (with_reducible refine iteNT ?_)
  | ((with_reducible apply isi_own); (· assumption); (· assumption); (· walk_at "hp"))
  | ((with_reducible apply or_tl); (· walk_at "hp"))
  | (with_reducible apply Exists.intro)
  | ((with_reducible refine And.intro ?_ ?_); (· walk_at "cl")))
local macro_rules | `(tactic| walk_at "at") => `(tactic| fail)
local macro_rules | `(tactic| walk_at "rd") => `(tactic| ((repeat walk_at "r1"); (try dsimp only [List.set])))
theorem upd_oth {H : Hp} {a x : Addr} {o u : HO} (hn : a ≠ x) (h : H a = some o) : upd H x u a = some o := by
  rw [upd_ne hn]
  exact h
local macro_rules | `(tactic| walk_at "hp") => `(tactic| (apply upd_oth; (· assumption); (· walk_at "hp")))
structure OkK (P : Program) (w : World) (K : PySem.W.Frag) (mg : Str → Option Value) (base : Heap) (CX : CXT) (k : Nat) (d : He.DefD) (ps : List Str) (sp : Sp) (n : Nat) (ks : List Str) (dvs : List V) : Prop where
  ex : ∃ fd, FnOk P w K mg base CX k (He.fAd K d.at_) fd ps sp ∧ (∃ ds, Vals dvs ds ∧ Binds K fd ps ds) ∧ KBn K fd ps n ks (fun us ws => us ++ ws) (fun vs zs => vs ++ zs)
section
variable {X : Cx} {CX : CXT} {k n : Nat} {d : He.DefD} {ps ks : List Str} {sp : Sp} {E : XK} {x m : Str} {p pos apos : Pos} {e o : Expr} {es : List Expr} {ta : TE} {t tk : TA} {C : Addr} {dvs : List V} {kws : List Keyword}
/-- C(e, ..), the keyword-only ones lack -/
theorem pe_mkN (G : OkK X.prog X.w X.K X.mg X.base CX k d ps sp n ks dvs) (hr : Room (k + 1) X.A) (M : Mk X.K C (He.fAd X.K d.at_)) (hm : X.mg x = some (.ref C)) (hx : Passes CX X E) (ha : PA X (e :: es) t) (hg : Gl X x := by rfl)
    (hdb : (x == ("__debug__" : Str)) = false := by decide) (he : starEach (e :: es) X.env = (false, eval e X.env) :: starEach es X.env := by rfl) (hpl : (backTo pos (starEach es X.env)).any (·.1) = false := by rfl) :
    PE X (.Call (.Name x p) (e :: es) [] pos) (tMake C sp dvs E t) := by
  obtain ⟨fd, F, ⟨ds, r, b⟩, _⟩ := G.ex
  exact pe_make M F hr hg hm b r hx ha hdb he hpl
/-- C(e, .., k = v) -/
theorem pe_mkK (G : OkK X.prog X.w X.K X.mg X.base CX k d ps sp (n + 1) ks dvs) (hr : Room (k + 1) X.A) (M : Mk X.K C (He.fAd X.K d.at_)) (hm : X.mg x = some (.ref C)) (hx : Passes CX X E) (ha : PA X (e :: es) t) (hkw : PK X kws tk) (hg : Gl X x := by rfl)
    (hall : (backToKw pos (keywordEach kws X.env)).all (·.1.isSome) = true := by rfl) (hks : (backToKw pos (keywordEach kws X.env)).filterMap (·.1) = ks := by rfl) (hdb : (x == ("__debug__" : Str)) = false := by decide)
    (he : starEach (e :: es) X.env = (false, eval e X.env) :: starEach es X.env := by rfl) (hpl : ((backTo pos (starEach (e :: es) X.env)).any (·.1) || (backToKw pos (keywordEach kws X.env)).any (·.1.isNone)) = false := by rfl) :
    PE X (.Call (.Name x p) (e :: es) kws pos) (tMakeK C n ks.length sp (fun vs zs => vs ++ zs) E t tk) := by
  obtain ⟨fd, F, _, b⟩ := G.ex
  exact pe_makeK M F hr hg hm b hx ha hkw hall hks hdb he hpl
end
theorem TabAt.sx {x a C dx : Addr} {fs : List (Str × V)} {H H' : Hp} {M : Tab} (h : TabAt H a M) (s : SameX x H H') (hx : H x = some (.ins C dx fs)) : TabAt H' a M := by
  have nx : ∀ p xs, H p = some (.tup xs) → p ≠ x := by
    rintro p xs hp rfl
    rw [hx] at hp
    cases hp
  obtain ⟨rs, h1, h2, h3⟩ := h
  exact ⟨rs, s _ _ (nx _ _ h1) h1, h2, fun i r row a b => s _ _ (nx _ _ (h3 i r row a b)) (h3 i r row a b)⟩
theorem GrpAt.sx {x q Cq C dx : Addr} {H H' : Hp} {M : Tab} (h : GrpAt Cq H q M) (s : SameX x H H') (hx : H x = some (.ins C dx [])) : GrpAt Cq H' q M := by
  obtain ⟨dq, t, h1, h2⟩ := h
  refine ⟨dq, t, s _ _ ?_ h1, h2.sx s hx⟩
  rintro rfl
  rw [hx] at h1
  cases h1
theorem CycAt.sx {x q Cq C dx : Addr} {H H' : Hp} {c : Cyc} (h : CycAt Cq H q c) (s : SameX x H H') (hx : H x = some (.ins C dx [])) : CycAt Cq H' q c := by
  obtain ⟨dq, t, h1, h2⟩ := h
  refine ⟨dq, t, s _ _ ?_ h1, s _ _ ?_ h2⟩
  · rintro rfl
    rw [hx] at h1
    cases h1
  · rintro rfl
    rw [hx] at h2
    cases h2
def fsF (g t u : Addr) : List (Str × V) := [("group", .ref g), ("row", .ref t), ("known", .ref u)]
/-- a class function at p: its group's table M, its values cs, one for each class -/
def CFAt (K : PySem.W.Frag) (H : Hp) (p : Addr) (M : Tab) (cs : List Cyc) : Prop := ∃ dx g t u rs, H p = some (.ins (CF K) dx (fsF g t u)) ∧ GrpAt (CG K) H g M ∧ H t = some (.tup (refsV rs)) ∧ AllAt (CycR (CY K)) H rs cs ∧ TabAt H u (clsM M) ∧ cs.length = (clsM M).length
theorem CFAt.fz {K : PySem.W.Frag} {H H' : Hp} {p : Addr} {M : Tab} {cs : List Cyc} (s : Fz H H') (h : CFAt K H p M cs) : CFAt K H' p M cs := by
  obtain ⟨dx, g, t, u, rs, h1, h2, h3, h4, h5, h6⟩ := h
  exact ⟨dx, g, t, u, rs, s _ _ h1 rfl, h2.fz s, s _ _ h3 rfl, h4.fz (cycR_fm _) s, h5.fz s, h6⟩
section
variable {P : Program} {w : World} {K : PySem.W.Frag} {mg : Str → Option Value} {base : Heap}
def spCFInit (K : PySem.W.Frag) : Sp := fun vs H Q _ => ∃ (x g a dx : Addr) (kn : V) (M : Tab) (rs : List Addr) (cs : List Cyc), vs = [.ref x, .ref g, .ref a, kn] ∧ H x = some (.ins (CF K) dx []) ∧ GrpAt (CG K) H g M ∧ IsGrp M ∧ H a = some (.lst (refsV rs)) ∧
  AllAt (CycR (CY K)) H rs cs ∧ cs.length = (clsM M).length ∧ (kn = .non ∨ ∃ u, kn = .ref u ∧ TabAt H u (clsM M)) ∧
  ∀ t u H', SameX x H H' → H' x = some (.ins (CF K) dx (fsF g t u)) → H' t = some (.tup (refsV rs)) → TabAt H' u (clsM M) → Q .non H'
theorem sc_ClassFunction_init : FnScope ["self", "group", "values", "known", "value"] ["self", "group", "values", "known"] HD.dClassFunction_init.scope := ⟨rfl, rfl, rfl, by decide +kernel, rfl, by decide +kernel, by decide +kernel⟩
theorem ok_cfinit (T : Tx K mg) : OkK P w K mg base CX0 4 HD.dClassFunction_init ["self", "group", "values", "known"] (spCFInit K) 3 ["known"] [.non] := by
  have c1 := T.c_ClassFunction
  have c2 := T.c_Cyclo
  have i2 := T.in_Cyclo
  have n1 := T.na_ClassFunction_group
  have n2 := T.na_ClassFunction_row
  have n3 := T.na_ClassFunction_known
  have G_classes : Ok P w K mg base CX0 3 _ _ _ := ok_classes T
  have nd := sc_ClassFunction_init.nd
  obtain ⟨fd, F⟩ := T.fn 61 fn_ClassFunction_init
  have hdv : HD.dClassFunction_init.dvs K = [] := rfl
  rw [hdv] at F
  have hkv : HD.dClassFunction_init.kws K = [((Str.ofString "known"), V.non)] := rfl
  rw [hkv] at F
  have OK : FnOk P w K mg base CX0 4 (He.fAd K HD.dClassFunction_init.at_) fd ["self", "group", "values", "known"] (spCFInit K) := by
    refine F.ok sc_ClassFunction_init (fun vs H Q E h => ?_) fun cdv A outer s H vs Q E hr h => ?_
    · obtain ⟨x, g, a, dx, kn, M, rs, cs, rfl, _⟩ := h
      rfl
    · suffices hh : ∃ t, PSs (cxOf CX0 P w K mg base ["self", "group", "values", "known", "value"] HD.dClassFunction_init.qual HD.dClassFunction_init.scope (He.fAd K HD.dClassFunction_init.at_) cdv A outer s H E).nox HD.dClassFunction_init.body t ∧ t { nx := fun _ H' => Q .non H', rt := Q } (start ["self", "group", "values", "known", "value"] vs) H from let ⟨t, p, q⟩ := hh; ⟨t, PSs.nox p, q⟩
      obtain ⟨x, g, a, dx, kn, M, rs, cs, rfl, hx, hg, G, ha, hA, hl, hk, k⟩ := h
      have hax : a ≠ x := by
        rintro rfl
        rw [hx] at ha
        cases ha
      refine ⟨_, pss_cons
          -- self.group = group
          (ps_fld (pv 0) (pv 1) rfl)
         (pss_cons
          -- self.row = tuple(values)
          (ps_fld (pv 0) (pe_callTy call_tuple_of (by rfl) T.b_tuple (by decide +kernel) (pa_cons (pv 2) pa_nil)) rfl)
         (pss_cons
          -- self.known = known
          (ps_fld (pv 0) (pv 3) rfl)
         (pss_cons
          -- if known is None:
          (ps_if (pt_cmpR op_isN (pv 3) pe_non (nomark _)) (pss_one
            -- self.known = classes(group)
            (ps_fld (pv 0) (pe_f (G_classes) (hr.mono (by decide)) T.g_classes pass0 (pa_cons (pv 1) pa_nil)) rfl)) (pss_nil))
         (pss_cons
          -- if len(self.row) != len(self.known):
          (ps_if (pt_cmpR op_ne (pe_callB call_len_seq (by rfl) T.b_len (by decide +kernel) (pa_cons (pe_fldK (K := K) (pv 0) rfl) pa_nil)) (pe_callB call_len_seq (by rfl) T.b_len (by decide +kernel) (pa_cons (pe_fldK (K := K) (pv 0) rfl) pa_nil)) (nomark _)) (pss_one
            -- raise Malformed('values')
            (ps_never)) (pss_nil))
         (pss_one
          -- for value in self.row:
          (ps_for PassesOwn.never rfl (pi_tupK (K := K) (pe_fldK (K := K) (pv 0) rfl)) (pg_name (i := 4) nd rfl (.inl rfl)) (pss_one
            -- if not isinstance(value, Cyclo):
            (ps_if (pt_not (pt_val (pe_callB call_isi (by rfl) T.b_isinstance (by decide +kernel) (pa_cons (pv 4) (pa_cons (pe_glob (v := .ref (He.ga K "Cyclo")) rfl T.g_Cyclo rfl) pa_nil))))) (pss_one
              -- raise Malformed('values')
              (ps_never)) (pss_nil))))))))), ?_⟩
      try dsimp only [cxOf, Cx.wish]
      walk_at "rd"
      intro t ht
      have hxt : t ≠ x := by
        rintro rfl
        rw [upd_same] at ht
        cases ht
      walk_at "rd"
      rcases hk with rfl | ⟨u, rfl, hT⟩
      · refine if_d (fun _ => ?_) (fun z => absurd rfl z)
        generalize hH2 : upd (upd (upd (upd H x _) t _) x _) x _ = H2
        have hx2 : H2 x = some (.ins (CF K) dx [("group", .ref g), ("row", .ref t), ("known", .non)]) := by
          rw [← hH2]
          exact upd_same
        have ht2 : H2 t = some (.tup (refsV rs)) := by
          rw [← hH2, upd_ne hxt, upd_ne hxt, upd_same]
        have sX : SameX x H H2 := by
          rw [← hH2]
          exact ((SameX.upd.trans (SameX.of (Same.new ht))).trans SameX.upd).trans SameX.upd
        clear hH2
        have hg2 : GrpAt (CG K) H2 g M := hg.sx sX hx
        walk_at "rd"
        refine ⟨g, M, rfl, hg2, G, fun u H3 s3 hT => ?_⟩
        have hx3 := s3 _ _ hx2
        have ht3 := s3 _ _ ht2
        walk_at "rd"
        refine ⟨(by show 3 < 1000; omega), ?_⟩
        generalize hH4 : upd H3 x _ = H4
        have hx4 : H4 x = some (.ins (CF K) dx (fsF g t u)) := by
          rw [← hH4]
          exact upd_same
        have ht4 : H4 t = some (.tup (refsV rs)) := by
          rw [← hH4, upd_ne hxt]
          exact ht3
        have hT4 : TabAt H4 u (clsM M) := by
          rw [← hH4]
          exact hT.sx SameX.upd hx3
        have sX4 : SameX x H H4 := by
          rw [← hH4]
          exact (sX.trans (SameX.of s3)).trans SameX.upd
        clear hH4
        obtain ⟨us, hu1, hu2, hu3⟩ := id hT4
        have hul : (refsV us).length = (refsV rs).length := by rw [List.length_map, List.length_map, hu2, ← hl, hA.1]
        walk_at "rd"
        refine if_ne (fun z => absurd (by rw [hul]) z) (fun _ => ?_)
        walk_at "rd"
        refine fj_tup (xs := refsV rs) (fun i σ H' => Same H4 H' ∧ ∃ v4, σ = [some (.ref x), some (.ref g), some (.ref a), some .non, v4]) ⟨Same.refl _, _, rfl⟩ (fun i σ H' _ z => SqT.of (z.1 _ _ ht4)) ?_ ?_
        · rintro i y σ H5 hy ⟨s5, v4, rfl⟩
          have hil : i < cs.length := by
            have := (List.getElem?_eq_some_iff.mp hy).1
            rw [List.length_map] at this
            rw [← hA.1]
            exact this
          obtain ⟨c, hc⟩ : ∃ c, cs[i]? = some c := ⟨_, List.getElem?_eq_getElem hil⟩
          obtain ⟨rt, hrt, hr⟩ := hA.get hc
          rw [List.getElem?_map, hrt] at hy
          have hy' : V.ref rt = y := by simpa using hy
          subst hy'
          have hr5 : CycAt (CY K) H5 rt c := CycAt.fz (Fz.of s5) (CycAt.sx hr sX4 hx)
          obtain ⟨dc, bb, q1, q2⟩ := id hr5
          walk_at "rd"
          exact at_i ⟨s5, _, rfl⟩
        · rintro σ H5 ⟨s5, v4, rfl⟩
          walk_at "rd"
          exact k t u H5 (sX4.trans (SameX.of s5)) (s5 _ _ hx4) (s5 _ _ ht4) (hT4.fz (Fz.of s5))
      · refine if_d (fun z => by cases z) (fun _ => ?_)
        generalize hH4 : upd (upd (upd (upd H x _) t _) x _) x _ = H4
        have hx4 : H4 x = some (.ins (CF K) dx (fsF g t u)) := by
          rw [← hH4]
          exact upd_same
        have ht4 : H4 t = some (.tup (refsV rs)) := by
          rw [← hH4, upd_ne hxt, upd_ne hxt, upd_same]
        have sX4 : SameX x H H4 := by
          rw [← hH4]
          exact ((SameX.upd.trans (SameX.of (Same.new ht))).trans SameX.upd).trans SameX.upd
        clear hH4
        have hT4 : TabAt H4 u (clsM M) := hT.sx sX4 hx
        obtain ⟨us, hu1, hu2, hu3⟩ := id hT4
        have hul : (refsV us).length = (refsV rs).length := by rw [List.length_map, List.length_map, hu2, ← hl, hA.1]
        walk_at "rd"
        refine if_ne (fun z => absurd (by rw [hul]) z) (fun _ => ?_)
        walk_at "rd"
        refine fj_tup (xs := refsV rs) (fun i σ H' => Same H4 H' ∧ ∃ v4, σ = [some (.ref x), some (.ref g), some (.ref a), some (.ref u), v4]) ⟨Same.refl _, _, rfl⟩ (fun i σ H' _ z => SqT.of (z.1 _ _ ht4)) ?_ ?_
        · rintro i y σ H5 hy ⟨s5, v4, rfl⟩
          have hil : i < cs.length := by
            have := (List.getElem?_eq_some_iff.mp hy).1
            rw [List.length_map] at this
            rw [← hA.1]
            exact this
          obtain ⟨c, hc⟩ : ∃ c, cs[i]? = some c := ⟨_, List.getElem?_eq_getElem hil⟩
          obtain ⟨rt, hrt, hr⟩ := hA.get hc
          rw [List.getElem?_map, hrt] at hy
          have hy' : V.ref rt = y := by simpa using hy
          subst hy'
          have hr5 : CycAt (CY K) H5 rt c := CycAt.fz (Fz.of s5) (CycAt.sx hr sX4 hx)
          obtain ⟨dc, bb, q1, q2⟩ := id hr5
          walk_at "rd"
          exact at_i ⟨s5, _, rfl⟩
        · rintro σ H5 ⟨s5, v4, rfl⟩
          walk_at "rd"
          exact k t u H5 (sX4.trans (SameX.of s5)) (s5 _ _ hx4) (s5 _ _ ht4) (hT4.fz (Fz.of s5))
  refine ⟨fd, OK, ?_, ?_⟩
  · exact F.binds0 3 (by simp) rfl (fun D doc pm an cdv ct us ks hu hk => match us, ks, hu, hk with | [_, _, _], [_], _, _ => ⟨_, _, _, _, _, _, rfl, rfl, rfl⟩)
  · obtain ⟨mv, b⟩ := F.kbinds0 (ps := ["self", "group", "values", "known"]) 3 ["known"] [] (fun vs mz zs => vs ++ zs) (by simp) (fun q h => by cases h) (fun r1 _ r3 => r1.append r3) (fun D doc pm an cdv ct us mv ws hu hm hw => match us, mv, ws, hu, hm, hw with | [_, _, _], [], [_], _, _, _ => rfl)
    exact b
end
end L2.KL
set_option Elab.async false
set_option linter.all false
set_option maxRecDepth 100000
set_option maxHeartbeats 4000000
namespace L2.KL
open PySem PySem.Spec PyProof.Rows PySem.W
local macro_rules | `(tactic| walk_at "hp") => `(tactic| first
  | assumption)
local macro_rules | `(tactic| walk_at "cl") => `(tactic| first
  | (with_reducible rfl)
  | ((with_reducible show (_ : Int) < _); first | omega | (simp only [List.length_map]; omega))
  | ((with_reducible show (_ : Int) ≤ _); first | omega | (simp only [List.length_map]; omega))
  | assumption
  | (apply Or.inr; apply SqT.of; walk_at "hp"))
local macro_rules | `(tactic| walk_at "r1") => `(tactic| first
  | (with_reducible refine rd_seq ?_)
  | ((with_reducible apply rd_var); (· exact rfl))
  | (with_reducible refine rd_c ?_)
  | (with_reducible refine rd_op ?_)
  | (with_reducible refine rd_fld ?_)
  | (with_reducible refine rd_cb ?_)
  | (with_reducible refine rd_cons ?_)
  | (with_reducible refine rd_nil ?_)
  | (with_reducible refine rd_meth ?_)
  | (with_reducible refine rd_name ?_)
  | (with_reducible refine rd_ret ?_)
  | (with_reducible refine rd_if ?_)
  | (with_reducible refine rd_test ?_)
  | (with_reducible refine rd_B ?_)
  | (with_reducible refine rd_not ?_)
  | (with_reducible refine rd_next ?_)
  | ((with_reducible apply rd_ixT); (· walk_at "hp"); (· walk_at "at"))
  | (with_reducible refine rd_for ?_)
  | (with_reducible refine rd_iRng1 ?_)
  | ((with_reducible apply rd_inT); (· walk_at "hp"))
  | (with_reducible refine rd_andV ?_)
  | (with_reducible refine iteT ?_)
  | (with_reducible refine iteNT ?_)
  | ((with_reducible apply isi_own); (· assumption); (· assumption); (· walk_at "hp"))
  | (with_reducible apply Exists.intro)
  | ((with_reducible refine And.intro ?_ ?_); (· walk_at "cl")))
local macro_rules | `(tactic| walk_at "at") => `(tactic| first
  | (apply at_refs; assumption))
local macro_rules | `(tactic| walk_at "rd") => `(tactic| ((repeat walk_at "r1"); (try dsimp only [List.set])))
theorem cls_len (M : Tab) : (clsM M).length ≤ M.length := by
  unfold clsM
  rw [List.length_map, List.length_mergeSort]
  exact keys_len M M.length
/-! rows of numbers -/
def RC (C : Addr) : Addr → Addr → Hp → Prop := fun a b H => ∃ c, CycAt C H a c ∧ CycAt C H b c
theorem mon_rc {C : Addr} : ∀ a b H H', Ext H H' → RC C a b H → RC C a b H' := fun a b H H' e h => by
  obtain ⟨c, h1, h2⟩ := h
  exact ⟨c, CycAt.fz (Fz.of e) h1, CycAt.fz (Fz.of e) h2⟩
section
variable {X : Cx} {k : Nat} {d : He.DefD} {ps : List Str}
theorem op_eqRow (G : Ok X.prog X.w X.K X.mg X.base CX0 k d ps (spEqC (CY X.K))) (hm : Meth X.K (CY X.K) "__eq__" (He.fAd X.K d.at_)) (hr : Room (k + 1) X.A) : OpR X (compareOp .Eq) (rEqG (DTup X.K (DIns (CY X.K) (RC (CY X.K))))) := by
  have G2 : Ok X.prog X.w X.K X.mg X.base CX0 k d ps (spEq (RC (CY X.K))) := G.imp fun vs H Q E h => by
    obtain ⟨a, b, rfl, ⟨c, h1, h2⟩, q⟩ := h
    refine ⟨a, b, c, c, rfl, h1, h2, fun H' s => ?_⟩
    rw [decide_eq_true ⟨rfl, rfl, rfl⟩]
    exact q H' s
  obtain ⟨fd, F, b⟩ := G2.ex
  exact op_eqG (rcG_tup (mon_ins mon_rc) (eqG_ins F hm.at_ hm.fn b pass0 (E := E0))) hr
end
theorem rd_eqRow {K : PySem.W.Frag} {H : Hp} {a b : Addr} {Q : VK} {rs rs' : List Addr} {cs : List Cyc} (ha : H a = some (.tup (refsV rs))) (hb : H b = some (.tup (refsV rs'))) (h1 : AllAt (CycR (CY K)) H rs cs) (h2 : AllAt (CycR (CY K)) H rs' cs) (q : ∀ H', Same H H' → Q (.bl true) H') :
    rEqG (DTup K (DIns (CY K) (RC (CY K)))) (.ref a) (.ref b) H Q := by
  refine ⟨⟨a, b, _, _, rfl, rfl, SqT.of ha, SqT.of hb, ?_, fun i x y e1 e2 => ?_⟩, q⟩
  · rw [List.length_map, List.length_map, h1.1, h2.1]
  · have hi : i < cs.length := by
      have := (List.getElem?_eq_some_iff.mp e1).1
      rw [List.length_map] at this
      rw [← h1.1]
      exact this
    obtain ⟨c, hc⟩ : ∃ c, cs[i]? = some c := ⟨_, List.getElem?_eq_getElem hi⟩
    obtain ⟨r, hr, hR⟩ := h1.get hc
    obtain ⟨r', hr', hR'⟩ := h2.get hc
    rw [List.getElem?_map, hr] at e1
    rw [List.getElem?_map, hr'] at e2
    have e1' : V.ref r = x := by simpa using e1
    have e2' : V.ref r' = y := by simpa using e2
    subst e1' e2'
    obtain ⟨dx, t, q1, q2⟩ := id hR
    obtain ⟨dy, u, q3, q4⟩ := id hR'
    exact ⟨r, r', dx, dy, _, _, rfl, rfl, q1, q3, c, hR, hR'⟩
theorem lk_group {g t u : Addr} : (fsF g t u).lookup ("group" : Str) = some (.ref g) := rfl
theorem lk_row {g t u : Addr} : (fsF g t u).lookup ("row" : Str) = some (.ref t) := rfl
theorem lk_known {g t u : Addr} : (fsF g t u).lookup ("known" : Str) = some (.ref u) := rfl
theorem nk_cf {g t u : Addr} {m : Str} (h : (m == ("group" : Str) || (m == ("row" : Str) || m == ("known" : Str))) = false) : (fsF g t u).lookup m = none := by
  rw [Bool.or_eq_false_iff, Bool.or_eq_false_iff] at h
  obtain ⟨h1, h2, h3⟩ := h
  unfold fsF
  rw [List.lookup_cons, h1, List.lookup_cons, h2, List.lookup_cons, h3]
  rfl
local macro_rules | `(tactic| walk_at "cl") => `(tactic| first
  | (with_reducible exact lk_group)
  | (with_reducible exact lk_row)
  | (with_reducible exact lk_known)
  | (with_reducible exact nk_cf (by decide +kernel)))
def cIdx (M : Tab) (x : Nat) : Nat := (clsM M).findIdx fun c => decide (x ∈ c)
def cVal (M : Tab) (cs : List Cyc) (x : Nat) : Cyc := cs.getD (cIdx M x) ⟨1, [], 1⟩
section
variable {P : Program} {w : World} {K : PySem.W.Frag} {mg : Str → Option Value} {base : Heap}
def spEqF (K : PySem.W.Frag) : Sp := fun vs H Q _ => ∃ (p q : Addr) (M : Tab) (cs : List Cyc), vs = [.ref p, .ref q] ∧ CFAt K H p M cs ∧ CFAt K H q M cs ∧ ∀ H', Same H H' → Q (.bl true) H'
theorem sc_ClassFunction_eq : FnScope ["self", "other"] ["self", "other"] HD.dClassFunction_eq.scope := ⟨rfl, rfl, rfl, by decide +kernel, rfl, by decide +kernel, by decide +kernel⟩
theorem ok_cfeq (T : Tx K mg) : Ok P w K mg base CX0 4 HD.dClassFunction_eq ["self", "other"] (spEqF K) := by
  have c1 := T.c_ClassFunction
  have i1 := T.in_ClassFunction
  have n1 := T.na_ClassFunction_group
  have n2 := T.na_ClassFunction_row
  have n3 := T.na_ClassFunction_known
  have G_Group_eq : Ok P w K mg base CX0 _ _ _ _ := ok_eqG T
  have G_Cyclo_eq : Ok P w K mg base CX0 2 _ _ _ := ok_eqC T
  have nd := sc_ClassFunction_eq.nd
  refine Ok.mk0 T fn_ClassFunction_eq rfl sc_ClassFunction_eq (fun vs H Q E h => ?_) (fun _ _ _ _ _ _ us hl => match us, hl with | [_, _], _ => rfl) (fun cdv A outer s H vs Q E hr h => ?_)
  · obtain ⟨p, q, M, cs, rfl, _⟩ := h
    rfl
  · obtain ⟨p, q, M, cs, rfl, ⟨dx, g, t, u, rs, h1, h2, h3, h4, h5, h6⟩, ⟨dx', g', t', u', rs', h1', h2', h3', h4', h5', h6'⟩, k⟩ := h
    refine ⟨_, pss_cons
          -- if not isinstance(other, ClassFunction):
          (ps_if (pt_not (pt_val (pe_callB call_isi (by rfl) T.b_isinstance (by decide +kernel) (pa_cons (pv 1) (pa_cons (pe_glob (v := .ref (He.ga K "ClassFunction")) rfl T.g_ClassFunction rfl) pa_nil))))) (pss_one
            -- return False
            (ps_ret pe_bl)) (pss_nil))
         (pss_one
          -- return self.group == other.group and self.row == other.row
          (ps_ret (pe_and (pe_cmpR (op_eqK G_Group_eq T.me_Group_eq (hr.mono (by decide)) pass0) (pe_fldK (K := K) (pv 0) rfl) (pe_fldK (K := K) (pv 1) rfl) (nomark _)) (pe_one (pe_cmpR (op_eqRow G_Cyclo_eq T.me_Cyclo_eq (hr.mono (by decide))) (pe_fldK (K := K) (pv 0) rfl) (pe_fldK (K := K) (pv 1) rfl) (nomark _)))))), ?_⟩
    try dsimp only [cxOf, Cx.wish]
    walk_at "rd"
    refine rd_eqG h2 h2' fun H2 s2 => ?_
    rw [decide_eq_true rfl]
    have k1 := s2 _ _ h1
    have k1' := s2 _ _ h1'
    walk_at "rd"
    refine rd_eqRow (s2 _ _ h3) (s2 _ _ h3') (h4.fz (cycR_fm _) (Fz.of s2)) (h4'.fz (cycR_fm _) (Fz.of s2)) fun H3 s3 => ?_
    walk_at "rd"
    exact k H3 (s2.trans s3)
def spVal (K : PySem.W.Frag) : Sp := fun vs H Q _ => ∃ (p : Addr) (M : Tab) (cs : List Cyc) (x : Nat), vs = [.ref p, nV x] ∧ CFAt K H p M cs ∧ IsGrp M ∧ cIdx M x < (clsM M).length ∧ ∀ r H', Same H H' → CycAt (CY K) H' r (cVal M cs x) → Q (.ref r) H'
theorem sc_ClassFunction_value_at : FnScope ["self", "x", "i"] ["self", "x"] HD.dClassFunction_value_at.scope := ⟨rfl, rfl, rfl, by decide +kernel, rfl, by decide +kernel, by decide +kernel⟩
theorem ok_valat (T : Tx K mg) : Ok P w K mg base CX0 1 HD.dClassFunction_value_at ["self", "x"] (spVal K) := by
  have c1 := T.c_ClassFunction
  have n1 := T.na_ClassFunction_group
  have n2 := T.na_ClassFunction_row
  have n3 := T.na_ClassFunction_known
  have nd := sc_ClassFunction_value_at.nd
  refine Ok.mk0 T fn_ClassFunction_value_at rfl sc_ClassFunction_value_at (fun vs H Q E h => ?_) (fun _ _ _ _ _ _ us hl => match us, hl with | [_, _], _ => rfl) (fun cdv A outer s H vs Q E hr h => ?_)
  · obtain ⟨p, M, cs, x, rfl, _⟩ := h
    rfl
  · obtain ⟨p, M, cs, x, rfl, ⟨dx, g, t, u, rs, h1, h2, h3, h4, h5, h6⟩, G, hx, k⟩ := h
    have hl60 : (clsM M).length ≤ 60 := Nat.le_trans (cls_len M) G.le
    obtain ⟨us, hu1, hu2, hu3⟩ := id h5
    refine ⟨_, pss_cons
          -- for i in range(len(self.known)):
          (ps_for PassesOwn.never rfl (pi_range1 (by rfl) T.b_range (pa_cons (pe_callB call_len_seq (by rfl) T.b_len (by decide +kernel) (pa_cons (pe_fldK (K := K) (pv 0) rfl) pa_nil)) pa_nil)) (pg_name (i := 2) nd rfl (.inl rfl)) (pss_one
            -- if x in self.known[i]:
            (ps_if (pt_cmpR (r := rIn K false) op_in_seq (pv 1) (pe_ix (r := rIxT K) ix_tup (pe_fldK (K := K) (pv 0) rfl) (pv 2) (fun _ _ => rfl)) (by rfl)) (pss_one
              -- return self.row[i]
              (ps_ret (pe_ix (r := rIxT K) ix_tup (pe_fldK (K := K) (pv 0) rfl) (pv 2) (fun _ _ => rfl)))) (pss_nil))))
         (pss_one
          -- raise Malformed('element')
          (ps_never)), ?_⟩
    try dsimp only [cxOf, Cx.wish]
    walk_at "rd"
    have hul : (refsV us).length = (clsM M).length := by rw [List.length_map, hu2]
    rw [hul]
    refine fj_range (clsM M).length (fun i σ H' => Same H H' ∧ i ≤ cIdx M x ∧ ∃ v2, σ = [some (.ref p), some (nV x), v2]) ⟨Same.refl _, Nat.zero_le _, _, rfl⟩ ?_ ?_
    · rintro i σ H2 hi ⟨s2, hi2, v2, rfl⟩
      obtain ⟨row, hrow⟩ : ∃ r, (clsM M)[i]? = some r := ⟨_, List.getElem?_eq_getElem hi⟩
      have hiu : i < us.length := by omega
      obtain ⟨tu, htu⟩ : ∃ r, us[i]? = some r := ⟨_, List.getElem?_eq_getElem hiu⟩
      have htr := s2 _ _ (hu3 i tu row htu hrow)
      have hir : i < cs.length := by omega
      obtain ⟨c, hc⟩ : ∃ c, cs[i]? = some c := ⟨_, List.getElem?_eq_getElem hir⟩
      obtain ⟨rt, hrt, hR⟩ := h4.get hc
      have k1 := s2 _ _ h1
      have k3 := s2 _ _ h3
      have ku := s2 _ _ hu1
      walk_at "rd"
      by_cases hm : x ∈ row
      · rw [decide_eq_true hm]
        refine if_bT rfl ?_
        walk_at "rd"
        refine k rt H2 s2 ?_
        have e : cIdx M x = i := by
          refine Nat.le_antisymm ?_ hi2
          refine Nat.le_of_not_lt fun z => ?_
          have := List.not_of_lt_findIdx (xs := clsM M) (p := fun c => decide (x ∈ c)) z
          rw [List.getElem?_eq_getElem hi] at hrow
          rw [Option.some.inj hrow] at this
          simp [hm] at this
        have e2 : cVal M cs x = c := by
          unfold cVal
          rw [e, List.getD_eq_getElem?_getD, hc]
          rfl
        rw [e2]
        exact CycAt.fz (Fz.of s2) hR
      · rw [decide_eq_false hm]
        refine if_bF (by simp) ?_
        walk_at "rd"
        refine at_i ⟨s2, ?_, _, rfl⟩
        rcases Nat.lt_or_eq_of_le hi2 with z | z
        · exact z
        · have q : decide (x ∈ (clsM M)[cIdx M x]'hx) = true := List.findIdx_getElem (xs := clsM M) (p := fun c => decide (x ∈ c)) (w := hx)
          have e3 : (clsM M)[cIdx M x]'hx = row := by
            have h9 := hrow
            rw [z, List.getElem?_eq_getElem hx] at h9
            exact Option.some.inj h9
          rw [e3] at q
          exact absurd (of_decide_eq_true q) hm
    · rintro σ H2 ⟨s2, hi2, _⟩
      omega
theorem sc_ClassFunction_call : FnScope ["self", "x"] ["self", "x"] HD.dClassFunction_call.scope := ⟨rfl, rfl, rfl, by decide +kernel, rfl, by decide +kernel, by decide +kernel⟩
theorem ok_cfcall (T : Tx K mg) : Ok P w K mg base CX0 2 HD.dClassFunction_call ["self", "x"] (spVal K) := by
  have c1 := T.c_ClassFunction
  have G_ClassFunction_value_at : Ok P w K mg base CX0 1 _ _ _ := ok_valat T
  have nd := sc_ClassFunction_call.nd
  refine Ok.mk0 T fn_ClassFunction_call rfl sc_ClassFunction_call (fun vs H Q E h => ?_) (fun _ _ _ _ _ _ us hl => match us, hl with | [_, _], _ => rfl) (fun cdv A outer s H vs Q E hr h => ?_)
  · obtain ⟨p, M, cs, x, rfl, _⟩ := h
    rfl
  · obtain ⟨p, M, cs, x, rfl, hF, G, hx, k⟩ := h
    obtain ⟨dx, g, t, u, rs, h1, _⟩ := id hF
    refine ⟨_, pss_one
          -- return self.value_at(x)
          (ps_ret (pe_m (pv 0) T.c_ClassFunction (G_ClassFunction_value_at) T.me_ClassFunction_value_at (hr.mono (by decide)) pass0 (pa_cons (pv 1) pa_nil))), ?_⟩
    try dsimp only [cxOf, Cx.wish]
    walk_at "rd"
    refine ⟨p, M, cs, x, rfl, hF, G, hx, fun r H2 s2 hr => ?_⟩
    walk_at "rd"
    exact k r H2 s2 hr
end
end L2.KL
set_option Elab.async false
set_option linter.all false
set_option maxRecDepth 100000
set_option maxHeartbeats 4000000
namespace L2.KL
open PySem PySem.Spec PyProof.Rows PySem.W
/-! zip of three tuples -/
def Itz3 (K : PySem.W.Frag) (a b c : Addr) : It :=
  ⟨fun i H => ∃ (xs ys zs : List V) (x y z : V), SqT K H a xs ∧ SqT K H b ys ∧ SqT K H c zs ∧ xs[i]? = some x ∧ ys[i]? = some y ∧ zs[i]? = some z ∧ xs.length = ys.length ∧ ys.length = zs.length,
    fun i H v H' => ∃ T x y z, v = .ref T ∧ H T = none ∧ H' = upd H T (.tup [x, y, z]) ∧ (∀ xs, SqT K H a xs → xs[i]? = some x) ∧ (∀ ys, SqT K H b ys → ys[i]? = some y) ∧ ∀ zs, SqT K H c zs → zs[i]? = some z,
    fun i H => ∃ xs ys zs : List V, SqT K H a xs ∧ SqT K H b ys ∧ SqT K H c zs ∧ i = xs.length ∧ xs.length = ys.length ∧ ys.length = zs.length⟩
theorem tup_not {s : Shared} {a e : Addr} {its : Array Value} {n : String} {o : Obj} (p : s.heap.IsTuple a its) (he : s.heap.get? e = some o) (hc : o.cls = .type n) (hn : n ≠ "tuple") : a ≠ e := by
  rintro rfl
  obtain ⟨o', ho', hcl', _⟩ := p
  rw [he] at ho'
  cases ho'
  rw [hc] at hcl'
  injection hcl' with z
  exact hn z
theorem turn_zip3 {P : Program} {w : World} {K : PySem.W.Frag} {elts : List Expr} {kk : Nat} {tpos : Pos} {a b c z TI TO i1 i2 i3 : Addr} (D : ZipSep3 z TI TO i1 i2 i3 [i1, a] [i2, b] [i3, c]) :
    Turn P w K (.Tuple elts kk tpos) (Itz3 K a b c) [z, TI, TO, i1, i2, i3] z (fun i h => IsZip h z TI TO .none ∧ IsTupOf3 h TI (.ref i1) (.ref i2) (.ref i3) ∧ (∃ x y u, IsTupOf3 h TO x y u) ∧ h.IsTupleIter i1 a i ∧ h.IsTupleIter i2 b i ∧ h.IsTupleIter i3 c i) where
  mem := by simp
  obj := fun i h st q hq => by
    obtain ⟨hz, hTI, ⟨x, y, u, hTO⟩, ⟨o1, e1, _, d1⟩, ⟨o2, e2, _, d2⟩, ⟨o3, e3, _, d3⟩⟩ := st
    have e' : q = z ∨ q = TI ∨ q = TO ∨ q = i1 ∨ q = i2 ∨ q = i3 := by simpa using hq
    rcases e' with r | r | r | r | r | r
    · rw [r]; exact ⟨_, hz, fun v q => nomatch q⟩
    · rw [r]; exact ⟨_, hTI, fun v q => nomatch q⟩
    · rw [r]; exact ⟨_, hTO, fun v q => nomatch q⟩
    · rw [r]; exact ⟨o1, e1, fun v q => by rw [d1] at q; cases q⟩
    · rw [r]; exact ⟨o2, e2, fun v q => by rw [d2] at q; cases q⟩
    · rw [r]; exact ⟨o3, e3, fun v q => by rw [d3] at q; cases q⟩
  keep := fun i h h' st k => by
    obtain ⟨hz, hTI, ⟨x, y, u, hTO⟩, h1, h2, h3⟩ := st
    exact ⟨k z (by simp) _ hz, k TI (by simp) _ hTI, ⟨x, y, u, k TO (by simp) _ hTO⟩, h1.at fun o q => k i1 (by simp) o q, h2.at fun o q => k i2 (by simp) o q, h3.at fun o q => k i3 (by simp) o q⟩
  item := by
    intro X hP hw hK hc i pins s σ H E I hf st hg
    subst hP hw hK
    obtain ⟨hz, hTI, ⟨x0, y0, u0, hTO⟩, h1, h2, h3⟩ := st
    obtain ⟨xs, ys, zs, x, y, t, hqx, hqy, hqz, hx, hy, ht, l12, l23⟩ := hg
    obtain ⟨its, rv, p, _⟩ := I.tuple hqx
    obtain ⟨its2, rv2, p2, _⟩ := I.tuple hqy
    obtain ⟨its3, rv3, p3, _⟩ := I.tuple hqz
    obtain ⟨u, hu, ru⟩ := rv.get hx
    obtain ⟨u2, hu2, ru2⟩ := rv2.get hy
    obtain ⟨u3, hu3, ru3⟩ := rv3.get ht
    have hzl : z < s.heap.objs.size := Heap.lt_size hz
    have hd := I.ok.hd hc
    have n1 : a ≠ i1 := by obtain ⟨o, ho, hcl, _⟩ := id h1; exact tup_not p ho hcl (by decide)
    have n2 : b ≠ i2 := by obtain ⟨o, ho, hcl, _⟩ := id h2; exact tup_not p2 ho hcl (by decide)
    have n3 : c ≠ i3 := by obtain ⟨o, ho, hcl, _⟩ := id h3; exact tup_not p3 ho hcl (by decide)
    have lt1 : i < its.toArray.size := by have := (List.getElem?_eq_some_iff.mp hu).1; simpa using this
    have lt2 : i < its2.toArray.size := by have := (List.getElem?_eq_some_iff.mp hu2).1; simpa using this
    have lt3 : i < its3.toArray.size := by have := (List.getElem?_eq_some_iff.mp hu3).1; simpa using this
    refine wpAny_pyNext_zipD3_item D (Draws.tuple (A := X.A.in1) hd i1 a n1 its.toArray) (Draws.tuple (A := X.A.in1) hd i2 b n2 its2.toArray) (Draws.tuple (A := X.A.in1) hd i3 c n3 its3.toArray) hz hTI hTO ⟨h1, p⟩ ⟨h2, p2⟩ ⟨h3, p3⟩ lt1 lt2 lt3
      fun x1 x2 x3 h' tk y1 y2 y3 z' TO' h1' h2' h3' hT hsz hk => ?_
    have e1 : x1 = u := by
      have q : its.toArray[i]? = some u := by simpa using hu
      rw [q] at y1
      exact (Option.some.inj y1).symm
    have e2 : x2 = u2 := by
      have q : its2.toArray[i]? = some u2 := by simpa using hu2
      rw [q] at y2
      exact (Option.some.inj y2).symm
    have e3 : x3 = u3 := by
      have q : its3.toArray[i]? = some u3 := by simpa using hu3
      rw [q] at y3
      exact (Option.some.inj y3).symm
    subst e1 e2 e3
    refine ⟨_, rfl, wpAny_letOwnedTupleGo_zip (s := { s with heap := h', toks := tk }) z' fun h'' z'' sb => ?_⟩
    have hT2 : h''.get? s.heap.objs.size = some { cls := .type "tuple", data := .seq #[x1, x2, x3] } := (sb.2 _ (Nat.ne_of_gt hzl)).trans hT
    have new : ObjOk X.prog X.w (upd H s.heap.objs.size (.tup [x, y, t])) h'' s.heap.objs.size (.tup [x, y, t]) :=
      ⟨by show 3 ≤ sizeLine; decide, [x1, x2, x3], .cons ru (.cons ru2 (.cons ru3 .nil)), ⟨_, hT2, rfl, _, rfl⟩⟩
    have I1 : Inv X pins σ (upd H s.heap.objs.size (.tup [x, y, t])) { s with heap := h'', toks := tk } :=
      I.turnedNew (t' := tk) (ch := [z, TI, TO, i1, i2, i3]) (fun q o hb r => (sb.2 q (fun q' => hb (by simp [q']))).trans (hk q o (fun q' => hb (by simp [q'])) (fun q' => hb (by simp [q'])) (fun q' => hb (by simp [q'])) (fun q' => hb (by simp [q'])) (fun q' => hb (by simp [q'])) r)) hf (Nat.le_refl _) new
    refine ⟨.ref s.heap.objs.size, _, I1, rfl, ⟨_, x, y, t, rfl, I.hok.fresh (Nat.le_refl _), rfl, fun l hl => by rw [I.tuple_inj hl hqx]; exact hx, fun l hl => by rw [I.tuple_inj hl hqy]; exact hy, fun l hl => by rw [I.tuple_inj hl hqz]; exact ht⟩, ⟨z'', ?_, ⟨x1, x2, x3, ?_⟩, ?_, ?_, ?_⟩, fun q hcm => ?_⟩
    · exact (sb.2 _ D.TIz).trans (hk _ _ D.TIz D.TITO D.TIi1 D.TIi2 D.TIi3 hTI)
    · exact (sb.2 _ D.TOz).trans TO'
    · exact h1'.1.at fun o q => (sb.2 _ D.zi1.symm).trans q
    · exact h2'.1.at fun o q => (sb.2 _ D.zi2.symm).trans q
    · exact h3'.1.at fun o q => (sb.2 _ D.zi3.symm).trans q
    · have hlt : q < s.heap.objs.size := by
        have e' : q = z ∨ q = TI ∨ q = TO ∨ q = i1 ∨ q = i2 ∨ q = i3 := by simpa using hcm
        rcases e' with r | r | r | r | r | r
        · rw [r]; exact hzl
        · rw [r]; exact Heap.lt_size hTI
        · rw [r]; exact Heap.lt_size hTO
        · rw [r]; obtain ⟨_, e1, _⟩ := h1; exact Heap.lt_size e1
        · rw [r]; obtain ⟨_, e2, _⟩ := h2; exact Heap.lt_size e2
        · rw [r]; obtain ⟨_, e3, _⟩ := h3; exact Heap.lt_size e3
      rw [upd_ne (Nat.ne_of_lt hlt)]
      exact (hf q hcm).1
  done := by
    intro X hP hw hK hc i pins s σ H E I hf st hg
    subst hP hw hK
    obtain ⟨hz, hTI, ⟨x0, y0, u0, hTO⟩, h1, h2, h3⟩ := st
    obtain ⟨xs, ys, zs, hqx, hqy, hqz, hend, l12, l23⟩ := hg
    obtain ⟨its, rv, p, _⟩ := I.tuple hqx
    obtain ⟨its2, rv2, p2, _⟩ := I.tuple hqy
    obtain ⟨its3, rv3, p3, _⟩ := I.tuple hqz
    have l1 := rv.length
    have l2 := rv2.length
    have l3 := rv3.length
    have hd := I.ok.hd hc
    have n1 : a ≠ i1 := by obtain ⟨o, ho, hcl, _⟩ := id h1; exact tup_not p ho hcl (by decide)
    have n2 : b ≠ i2 := by obtain ⟨o, ho, hcl, _⟩ := id h2; exact tup_not p2 ho hcl (by decide)
    have n3 : c ≠ i3 := by obtain ⟨o, ho, hcl, _⟩ := id h3; exact tup_not p3 ho hcl (by decide)
    have m1 : i = its.toArray.size := by rw [List.size_toArray]; omega
    have m2 : i = its2.toArray.size := by rw [List.size_toArray]; omega
    have m3 : i = its3.toArray.size := by rw [List.size_toArray]; omega
    exact wpAny_pyNext_zipD3_end D (Draws.tuple (A := X.A.in1) hd i1 a n1 its.toArray) (Draws.tuple (A := X.A.in1) hd i2 b n2 its2.toArray) (Draws.tuple (A := X.A.in1) hd i3 c n3 its3.toArray) hz hTI hTO ⟨h1, p⟩ ⟨h2, p2⟩ ⟨h3, p3⟩ (Nat.le_of_eq m1) (Nat.le_of_eq m2) (Nat.le_of_eq m3) (.inl m1)
      fun h' tk hk => ⟨rfl, I.turnedL (t' := tk) (ch := [z, TI, TO, i1, i2, i3]) (fun q o hb r => hk q o (fun q' => hb (by simp [q'])) (fun q' => hb (by simp [q'])) (fun q' => hb (by simp [q'])) (fun q' => hb (by simp [q'])) (fun q' => hb (by simp [q'])) r) hf⟩
  self := fun A i s Q E st h => wpAny_pyIter_zip st.1 h
def iZip3 (K : PySem.W.Frag) (ta : TA) : TI := fun σ H R => ta σ H fun vs H1 => ∃ a b c xs ys zs, vs = [.ref a, .ref b, .ref c] ∧ SqT K H1 a xs ∧ SqT K H1 b ys ∧ SqT K H1 c zs ∧ R (Itz3 K a b c) H1
theorem pi_zip3 {X : Cx} {K : PySem.W.Frag} {e e2 e3 : Expr} {ta : TA} {p pos tpos : Pos} {elts : List Expr} {kk : Nat} (hg : Gl X "zip") (hm : X.mg "zip" = none) (ha : PA X [e, e2, e3] ta)
    (hs : starEach [e, e2, e3] X.env = (false, eval e X.env) :: starEach [e2, e3] X.env := by rfl) (hpl : (backTo pos (starEach [e2, e3] X.env)).any (·.1) = false := by rfl) (hK : X.K = K := by rfl) :
    PI X (.Tuple elts kk tpos) (.Call (.Name "zip" p) [e, e2, e3] [] pos) (iZip3 K ta) := by
  subst hK
  refine ⟨fun pins s σ H R I h => ?_⟩
  refine Call_ (ld_blt I hg hm PyProof.Rows.boot_zip (PyProof.Rows.callWith_type1 (thn (ha.run pos pins s σ H _ I h) fun us s1 ⟨vs, H1, I1, r1, q1⟩ => ?_) hs hpl))
  obtain ⟨a, b, c, xs, ys, zs, ex, hqx, hqy, hqz, q⟩ := q1
  subst ex
  cases r1 with
  | cons r rr =>
    cases rr with
    | cons r' rr =>
      cases rr with
      | cons r'' rr =>
        cases rr
        cases r
        cases r'
        cases r''
        obtain ⟨its, rv, p1, _⟩ := I1.tuple hqx
        obtain ⟨its2, rv2, p2, _⟩ := I1.tuple hqy
        obtain ⟨its3, rv3, p3, _⟩ := I1.tuple hqz
        have la : a < s1.heap.objs.size := by obtain ⟨_, e1, _⟩ := p1; exact Heap.lt_size e1
        have lb : b < s1.heap.objs.size := by obtain ⟨_, e1, _⟩ := p2; exact Heap.lt_size e1
        have lc : c < s1.heap.objs.size := by obtain ⟨_, e1, _⟩ := p3; exact Heap.lt_size e1
        refine zip_begins3 (begins_tuple a its.toArray) (begins_tuple b its2.toArray) (begins_tuple c its3.toArray) p1 p2 p3 fun h' hz hTI hTO h1 h2 h3 hsz hk => wpAny_pyIter_zip hz ?_
        have I2 : Inv X pins σ H1 { s1 with heap := h' } := I1.kept (t' := s1.toks) hk
        have S : ZipSep3 (s1.heap.objs.size + 5) (s1.heap.objs.size + 3) (s1.heap.objs.size + 4) s1.heap.objs.size (s1.heap.objs.size + 1) (s1.heap.objs.size + 2) [s1.heap.objs.size, a] [s1.heap.objs.size + 1, b] [s1.heap.objs.size + 2, c] :=
          zip_sep3 (N := s1.heap.objs.size) (fp1 := [a]) (fp2 := [b]) (fp3 := [c]) (fun q hq => by rw [List.mem_singleton.mp hq]; exact la) (fun q hq => by rw [List.mem_singleton.mp hq]; exact lb) (fun q hq => by rw [List.mem_singleton.mp hq]; exact lc)
        refine ⟨s1.heap.objs.size + 5, [s1.heap.objs.size + 5, s1.heap.objs.size + 3, s1.heap.objs.size + 4, s1.heap.objs.size, s1.heap.objs.size + 1, s1.heap.objs.size + 2], _, _, H1, rfl, I2, turn_zip3 S, ⟨hz, hTI, ⟨_, _, _, hTO⟩, ⟨_, h1, rfl, rfl⟩, ⟨_, h2, rfl, rfl⟩, ⟨_, h3, rfl, rfl⟩⟩, fun q hcm => ?_, q⟩
        have e' : q = s1.heap.objs.size + 5 ∨ q = s1.heap.objs.size + 3 ∨ q = s1.heap.objs.size + 4 ∨ q = s1.heap.objs.size ∨ q = s1.heap.objs.size + 1 ∨ q = s1.heap.objs.size + 2 := by simpa using hcm
        have hle : s1.heap.objs.size ≤ q := by
          rcases e' with z | z | z | z | z | z
          · rw [z]; exact Nat.le_add_right _ _
          · rw [z]; exact Nat.le_add_right _ _
          · rw [z]; exact Nat.le_add_right _ _
          · rw [z]; exact Nat.le_refl _
          · rw [z]; exact Nat.le_add_right _ _
          · rw [z]; exact Nat.le_add_right _ _
        exact I1.fpOk hle (I1.hok.fresh hle)
/-- for x, y, z in zip(a, b, c), three tuples of n items -/
theorem fj_zip3 {K : PySem.W.Frag} {g : TG} {tb : TS} {D : Ends} {σ : St} {H : Hp} {a b c : Addr} {xs ys zs : List V} (Pv : Nat → St → Hp → Prop) (h0 : Pv 0 σ H) (hl : ∀ i σ H, i ≤ xs.length → Pv i σ H → SqT K H a xs ∧ SqT K H b ys ∧ SqT K H c zs) (l12 : xs.length = ys.length) (l23 : ys.length = zs.length)
    (hs : ∀ (i : Nat) x y z (T : Addr) σ H, xs[i]? = some x → ys[i]? = some y → zs[i]? = some z → Pv i σ H → H T = none → g (.ref T) σ (upd H T (.tup [x, y, z])) fun σ2 H2 => tb { D with nx := At Pv (i + 1), ct := At Pv (i + 1), bk := D.nx } σ2 H2)
    (hd : ∀ σ H, Pv xs.length σ H → D.nx σ H) : ForJ (Itz3 K a b c) g tb D σ H := by
  refine ⟨fun i m σ H => m = xs.length - i ∧ i ≤ xs.length ∧ Pv i σ H, ⟨xs.length, by simp, Nat.zero_le _, h0⟩, ?_⟩
  rintro i m σ H ⟨rfl, hi, p⟩
  obtain ⟨q1, q2, q3⟩ := hl i σ H hi p
  by_cases hlt : i < xs.length
  · have h2 : i < ys.length := by omega
    have h3 : i < zs.length := by omega
    refine .inr ⟨⟨xs, ys, zs, xs[i], ys[i], zs[i], q1, q2, q3, by simp [hlt], by simp [h2], by simp [h3], l12, l23⟩, Pv (i + 1), fun σ' H' p' => ⟨xs.length - (i + 1), by omega, rfl, hlt, p'⟩, fun v H' y => ?_⟩
    obtain ⟨T, x, y, z, rfl, hT, rfl, e1, e2, e3⟩ := y
    exact hs i x y z T σ H (e1 xs q1) (e2 ys q2) (e3 zs q3) p hT
  · have e : i = xs.length := by omega
    subst e
    exact .inl ⟨⟨xs, ys, zs, q1, q2, q3, rfl, l12, l23⟩, hd σ H p⟩
end L2.KL
set_option Elab.async false
set_option linter.all false
set_option maxRecDepth 100000
set_option maxHeartbeats 4000000
namespace L2.KL
open PySem PySem.Spec PyProof.Rows PySem.W
local macro_rules | `(tactic| walk_at "hp") => `(tactic| first
  | assumption
  | (apply Same.get; (· assumption); (· walk_at "hp")))
local macro_rules | `(tactic| walk_at "cl") => `(tactic| first
  | (with_reducible rfl)
  | assumption
  | (with_reducible exact nk_cyc (by decide +kernel))
  | (apply SqT.of; walk_at "hp")
  | (apply Or.inr; apply SqT.of; walk_at "hp")
  | exact rfl)
local macro_rules | `(tactic| walk_at "r1") => `(tactic| first
  | (with_reducible refine rd_seq ?_)
  | ((with_reducible apply rd_var); (· exact rfl))
  | (with_reducible refine rd_c ?_)
  | (with_reducible refine rd_op ?_)
  | (with_reducible refine rd_fld ?_)
  | (with_reducible refine rd_cb ?_)
  | (with_reducible refine rd_cons ?_)
  | (with_reducible refine rd_nil ?_)
  | (with_reducible refine rd_call ?_)
  | (with_reducible refine rd_meth ?_)
  | (with_reducible refine rd_asg ?_)
  | (with_reducible refine rd_name ?_)
  | (with_reducible refine rd_ret ?_)
  | (with_reducible refine rd_if ?_)
  | (with_reducible refine rd_test ?_)
  | (with_reducible refine rd_not ?_)
  | (with_reducible refine rd_next ?_)
  | (with_reducible refine rd_for ?_)
  | (with_reducible refine rd_gtup ?_)
  | (with_reducible refine rd_gcons ?_)
  | (with_reducible refine rd_gnil ?_)
  | (with_reducible refine iteNT ?_)
  | (with_reducible apply Exists.intro)
  | ((with_reducible refine And.intro ?_ ?_); (· walk_at "cl")))
local macro_rules | `(tactic| walk_at "at") => `(tactic| fail)
local macro_rules | `(tactic| walk_at "rd") => `(tactic| ((repeat walk_at "r1"); (try dsimp only [List.set])))
local macro_rules | `(tactic| walk_at "cl") => `(tactic| first
  | (with_reducible exact lk_group)
  | (with_reducible exact lk_row)
  | (with_reducible exact lk_known))
theorem rd_iZip3 {K : PySem.W.Frag} {ta : TA} {σ : St} {H : Hp} {R : It → Hp → Prop} (h : ta σ H fun vs H1 => ∃ a b c xs ys zs, vs = [.ref a, .ref b, .ref c] ∧ SqT K H1 a xs ∧ SqT K H1 b ys ∧ SqT K H1 c zs ∧ R (Itz3 K a b c) H1) : iZip3 K ta σ H R := h
local macro_rules | `(tactic| walk_at "r1") => `(tactic| (with_reducible refine rd_iZip3 ?_))
theorem cls_is {M : Tab} {c : List Nat} (h : c ∈ clsM M) : ∃ x, c = clsOf M x := by
  unfold clsM at h
  obtain ⟨k, hk, rfl⟩ := List.mem_map.mp h
  have hk' := (List.mergeSort_perm _ _).mem_iff.mp hk
  obtain ⟨x, _, e⟩ := keys_mem hk'
  exact ⟨x, by rw [e]⟩
/-! the inner product's mirror -/
def innT (a b : Cyc) (n : Nat) : Cyc := scaledM (mulM a (mirM b)) n
def innSum (kn : Tab) (as bs : List Cyc) (n : Nat) : Cyc := (List.range n).foldl (fun t i => addM t (innT (as.getD i ⟨1, [], 1⟩) (bs.getD i ⟨1, [], 1⟩) (kn.getD i []).length)) (ofIntM 0)
def innM (M : Tab) (as bs : List Cyc) : Cyc := overM (innSum (clsM M) as bs (clsM M).length) M.length
theorem innSum_succ (kn : Tab) (as bs : List Cyc) (n : Nat) : innSum kn as bs (n + 1) = addM (innSum kn as bs n) (innT (as.getD n ⟨1, [], 1⟩) (bs.getD n ⟨1, [], 1⟩) (kn.getD n []).length) := by
  unfold innSum
  rw [List.range_succ, List.foldl_append]
  rfl
theorem innSum_eq (kn : Tab) (as bs : List Cyc) (n : Nat) : innSum kn as bs n = sumC ((List.range n).map fun i => innT (as.getD i ⟨1, [], 1⟩) (bs.getD i ⟨1, [], 1⟩) (kn.getD i []).length) := by
  unfold innSum sumC
  rw [List.foldl_map]
theorem innT_sz {a b : Cyc} {n l m k : Nat} (A : Sz n l a) (B : Sz m k b) {x : Nat} (hx : x ≤ 60) : Sz (n + m + 38) (l + k) (innT a b x) :=
  ((A.mul B.mir).scaled (s := 6) (by omega)).mono (by omega) (Nat.le_refl _)
/-- the inner product's sum keeps within what the operations carry -/
theorem innSum_sz {M : Tab} (G : IsGrp M) (hM24 : M.length ≤ 24) {as bs : List Cyc} {n l m k : Nat} (hA : ∀ c ∈ as, Sz n l c) (hB : ∀ c ∈ bs, Sz m k c) (la : as.length = (clsM M).length) (lb : bs.length = (clsM M).length) {j : Nat} (hj : j ≤ (clsM M).length) :
    Sz (3 + j * ((n + m + 38) + (j * (l + k) + 1) + (l + k) + 8)) (j * (l + k) + 1) (innSum (clsM M) as bs j) ∧ ∀ i, i < (clsM M).length → Sz n l (as.getD i ⟨1, [], 1⟩) ∧ Sz m k (bs.getD i ⟨1, [], 1⟩) ∧ ((clsM M).getD i []).length ≤ 60 := by
  have hi : ∀ i, i < (clsM M).length → Sz n l (as.getD i ⟨1, [], 1⟩) ∧ Sz m k (bs.getD i ⟨1, [], 1⟩) ∧ ((clsM M).getD i []).length ≤ 60 := fun i hi => by
    refine ⟨?_, ?_, ?_⟩
    · rw [List.getD_eq_getElem?_getD, List.getElem?_eq_getElem (by omega)]
      exact hA _ (List.getElem_mem _)
    · rw [List.getD_eq_getElem?_getD, List.getElem?_eq_getElem (by omega)]
      exact hB _ (List.getElem_mem _)
    · rw [List.getD_eq_getElem?_getD, List.getElem?_eq_getElem hi]
      have hm : (clsM M)[i] ∈ clsM M := List.getElem_mem _
      obtain ⟨x, hx⟩ := cls_is hm
      show ((clsM M)[i]).length ≤ 60
      rw [hx]
      exact Nat.le_trans (nodup_le (clsOf_nodup M x) fun y hy => (clsOf_mem.mp hy).1) G.le
  refine ⟨?_, hi⟩
  rw [innSum_eq]
  refine sumC_sz j _ (by rw [List.length_map, List.length_range]) fun c hc => ?_
  obtain ⟨i, hir, rfl⟩ := List.mem_map.mp hc
  have := hi i (by have := List.mem_range.mp hir; omega)
  exact innT_sz this.1 this.2.1 this.2.2
section
variable {P : Program} {w : World} {K : PySem.W.Frag} {mg : Str → Option Value} {base : Heap}
def spInner (K : PySem.W.Frag) : Sp := fun vs H Q _ => ∃ (p q : Addr) (M : Tab) (as bs : List Cyc) (n l m k : Nat), vs = [.ref p, .ref q] ∧ CFAt K H p M as ∧ CFAt K H q M bs ∧ IsGrp M ∧ M.length ≤ 24 ∧ (∀ c ∈ as, Sz n l c) ∧ (∀ c ∈ bs, Sz m k c) ∧ 0 < n ∧ 0 < m ∧ n + m ≤ 20000 ∧ l + k ≤ 160 ∧
  ∀ r H', Same H H' → CycAt (CY K) H' r (innM M as bs) → Q (.ref r) H'
theorem sc_ClassFunction_inner : FnScope ["self", "other", "total", "found", "a", "b"] ["self", "other"] HD.dClassFunction_inner.scope := ⟨rfl, rfl, rfl, by decide +kernel, rfl, by decide +kernel, by decide +kernel⟩
theorem ok_inner (T : Tx K mg) : Ok P w K mg base CX0 10 HD.dClassFunction_inner ["self", "other"] (spInner K) := by
  have c1 := T.c_ClassFunction
  have c2 := T.c_Cyclo
  have n1 := T.na_ClassFunction_group
  have n2 := T.na_ClassFunction_row
  have n3 := T.na_ClassFunction_known
  have G_Group_eq : Ok P w K mg base CX0 _ _ _ _ := ok_eqG T
  have G_Group_len : Ok P w K mg base CX0 1 _ _ _ := ok_lenG T
  have G_of_integer : Ok P w K mg base CX0 8 _ _ _ := ok_ofInt T
  have G_Cyclo_add : Ok P w K mg base CX0 8 _ _ _ := ok_addC T
  have G_Cyclo_mul : Ok P w K mg base CX0 8 _ _ _ := ok_mulC T
  have G_Cyclo_mirrored : Ok P w K mg base CX0 9 _ _ _ := ok_mirrored T
  have G_Cyclo_scaled : Ok P w K mg base CX0 8 _ _ _ := ok_scaled T
  have G_Cyclo_over : Ok P w K mg base CX0 8 _ _ _ := ok_over T
  have nd := sc_ClassFunction_inner.nd
  refine Ok.mk0 T fn_ClassFunction_inner rfl sc_ClassFunction_inner (fun vs H Q E h => ?_) (fun _ _ _ _ _ _ us hl => match us, hl with | [_, _], _ => rfl) (fun cdv A outer s H vs Q E hr h => ?_)
  · obtain ⟨p, q, M, as, bs, n, l, m, kk, rfl, _⟩ := h
    rfl
  · obtain ⟨p, q, M, as, bs, n, l, m, kk, rfl, ⟨dx, g, t, u, rs, h1, h2, h3, h4, h5, h6⟩, ⟨dx', g', t', u', rs', h1', h2', h3', h4', h5', h6'⟩, G, hM24, hA, hB, h0, h00, hn, hl, k⟩ := h
    have hl24 : (clsM M).length ≤ 24 := Nat.le_trans (cls_len M) hM24
    have hM1 := G.pos
    obtain ⟨us, hu1, hu2, hu3⟩ := id h5
    refine ⟨_, pss_cons
          -- if not self.group == other.group:
          (ps_if (pt_not (pt_cmpR (op_eqK G_Group_eq T.me_Group_eq (hr.mono (by decide)) pass0) (pe_fldK (K := K) (pv 0) rfl) (pe_fldK (K := K) (pv 1) rfl) (nomark _))) (pss_one
            -- raise Malformed('group')
            (ps_never)) (pss_nil))
         (pss_cons
          -- total = of_integer(0)
          (ps_set (i := 2) nd rfl (.inl rfl) (pe_f (G_of_integer) (hr.mono (by decide)) T.g_of_integer pass0 (pa_cons pe_int pa_nil)))
         (pss_cons
          -- for found, a, b in zip(self.known, self.row, other.row):
          (ps_for PassesOwn.never rfl (pi_zip3 (by rfl) T.b_zip (pa_cons (pe_fldK (K := K) (pv 0) rfl) (pa_cons (pe_fldK (K := K) (pv 0) rfl) (pa_cons (pe_fldK (K := K) (pv 1) rfl) pa_nil)))) (pg_tup rfl (pgs_cons (pg_name (i := 3) nd rfl (.inl rfl)) (pgs_cons (pg_name (i := 4) nd rfl (.inl rfl)) (pgs_cons (pg_name (i := 5) nd rfl (.inl rfl)) pgs_nil)))) (pss_one
            -- total = total + (a * b.mirrored()).scaled(len(found))
            (ps_set (i := 2) nd rfl (.inl rfl) (pe_op (op_binK G_Cyclo_add T.me_Cyclo_add rfl T.sf_Cyclo (hr.mono (by decide)) pass0) (pv 2) (pe_m (pe_op (op_binK G_Cyclo_mul T.me_Cyclo_mul rfl T.sf_Cyclo (hr.mono (by decide)) pass0) (pv 4) (pe_m0 (pv 5) T.c_Cyclo (G_Cyclo_mirrored) T.me_Cyclo_mirrored (hr.mono (by decide)) pass0)) T.c_Cyclo (G_Cyclo_scaled) T.me_Cyclo_scaled (hr.mono (by decide)) pass0 (pa_cons (pe_callB call_len_seq (by rfl) T.b_len (by decide +kernel) (pa_cons (pv 3) pa_nil)) pa_nil))))))
         (pss_one
          -- return total.over(len(self.group))
          (ps_ret (pe_m (pv 2) T.c_Cyclo (G_Cyclo_over) T.me_Cyclo_over (hr.mono (by decide)) pass0 (pa_cons (pe_callB (call_lenK G_Group_len T.me_Group_len (hr.mono (by decide)) pass0) (by rfl) T.b_len (by decide +kernel) (pa_cons (pe_fldK (K := K) (pv 0) rfl) pa_nil)) pa_nil)))))), ?_⟩
    try dsimp only [cxOf, Cx.wish]
    walk_at "rd"
    refine rd_eqG h2 h2' fun H2 s2 => ?_
    rw [decide_eq_true rfl]
    have k1 := s2 _ _ h1
    have k1' := s2 _ _ h1'
    walk_at "rd"
    refine ⟨0, rfl, fun t0 H3 s3 ht0 => ?_⟩
    have s03 := s2.trans s3
    have k3 := s3 _ _ k1
    have k3' := s3 _ _ k1'
    walk_at "rd"
    have m1 := s03 _ _ hu1
    have m2 := s03 _ _ h3
    have m3 := s03 _ _ h3'
    refine fj_zip3 (fun i σ H' => ∃ r v3 v4 v5, σ = [some (.ref p), some (.ref q), some (.ref r), v3, v4, v5] ∧ Same H H' ∧ CycAt (CY K) H' r (innSum (clsM M) as bs i)) ⟨t0, _, _, _, rfl, s03, ht0⟩
      (fun i σ H' _ z => by obtain ⟨_, _, _, _, _, s, _⟩ := z; exact ⟨SqT.of (s _ _ hu1), SqT.of (s _ _ h3), SqT.of (s _ _ h3')⟩)
      (by rw [List.length_map, List.length_map, hu2, h4.1, h6]) (by rw [List.length_map, List.length_map, h4.1, h4'.1, h6, h6']) ?_ ?_
    · rintro i x y z T σ H4 hx hy hz ⟨r, v3, v4, v5, rfl, s4, hr⟩ hT
      have hi : i < (clsM M).length := by
        have := (List.getElem?_eq_some_iff.mp hx).1
        rw [List.length_map] at this
        omega
      obtain ⟨row, hrow⟩ : ∃ r, (clsM M)[i]? = some r := ⟨_, List.getElem?_eq_getElem hi⟩
      obtain ⟨a, hca⟩ : ∃ r, as[i]? = some r := ⟨_, List.getElem?_eq_getElem (by omega)⟩
      obtain ⟨b, hcb⟩ : ∃ r, bs[i]? = some r := ⟨_, List.getElem?_eq_getElem (by omega)⟩
      obtain ⟨tu, htu⟩ : ∃ r, us[i]? = some r := ⟨_, List.getElem?_eq_getElem (by omega)⟩
      obtain ⟨ra, hra, hRa⟩ := h4.get hca
      obtain ⟨rb, hrb, hRb⟩ := h4'.get hcb
      rw [List.getElem?_map, htu] at hx
      rw [List.getElem?_map, hra] at hy
      rw [List.getElem?_map, hrb] at hz
      obtain rfl : V.ref tu = x := by simpa using hx
      obtain rfl : V.ref ra = y := by simpa using hy
      obtain rfl : V.ref rb = z := by simpa using hz
      have hrowt := hu3 i tu row htu hrow
      obtain ⟨hs1, hs2⟩ := innSum_sz G hM24 hA hB h6 h6' (Nat.le_of_lt hi)
      obtain ⟨za, zb, zl⟩ := hs2 i hi
      rw [List.getD_eq_getElem?_getD, hca] at za
      rw [List.getD_eq_getElem?_getD, hcb] at zb
      rw [List.getD_eq_getElem?_getD, hrow] at zl
      have za : Sz n l a := za
      have zb : Sz m kk b := zb
      have zl : row.length ≤ 60 := zl
      have eI : innT a b row.length = innT (as.getD i ⟨1, [], 1⟩) (bs.getD i ⟨1, [], 1⟩) ((clsM M).getD i []).length := by
        rw [List.getD_eq_getElem?_getD, hca, List.getD_eq_getElem?_getD, hcb, List.getD_eq_getElem?_getD, hrow]
        rfl
      have hT4 : upd H4 T (.tup [.ref tu, .ref ra, .ref rb]) T = some (.tup [.ref tu, .ref ra, .ref rb]) := upd_same
      have s5 : Same H (upd H4 T (.tup [.ref tu, .ref ra, .ref rb])) := s4.trans (Same.new hT)
      have hr5 := CycAt.fz (Fz.of (Same.new (o := .tup [.ref tu, .ref ra, .ref rb]) hT)) hr
      generalize upd H4 T (.tup [.ref tu, .ref ra, .ref rb]) = H5 at hT4 s5 hr5 ⊢
      have hRa5 : CycAt (CY K) H5 ra a := CycAt.fz (Fz.of s5) hRa
      have hRb5 : CycAt (CY K) H5 rb b := CycAt.fz (Fz.of s5) hRb
      have hw5 := s5 _ _ hrowt
      obtain ⟨db, tb, ib, itb⟩ := id hRb5
      walk_at "rd"
      refine ⟨rb, b, rfl, hRb5, zb.cn.good, zb.lw.mono (by omega), fun rm H6 s6 hrm => ?_⟩
      walk_at "rd"
      have zm := zb.mir
      refine rd_mulC (CycAt.fz (Fz.of s6) hRa5) hrm (za.fit zm (by omega) (by omega) h0 (by omega) (by omega)) fun rp H7 s7 hrp => ?_
      have zp := za.mul zm
      obtain ⟨dp, tp, ipp, itp⟩ := id hrp
      have hw7 := s7 _ _ (s6 _ _ hw5)
      have s57 := s6.trans s7
      walk_at "rd"
      have elen : (natsV row).length = row.length := List.length_map _
      rw [elen]
      refine ⟨rp, mulM a (mirM b), row.length, _, rfl, hrp, zp.cn.good, zp.lw.mono (by omega), (lb_small (by omega)).mono (by omega), zp.pb, by omega, by omega, fun rq H8 s8 hrq => ?_⟩
      have zq : Sz (n + m + 38) (l + kk) (innT a b row.length) := innT_sz za zb zl
      have s58 := s57.trans s8
      have hi24 : i ≤ 24 := by omega
      have b1 : i * (l + kk) ≤ 24 * 160 := Nat.mul_le_mul hi24 hl
      have b2 : i * ((n + m + 38) + (i * (l + kk) + 1) + (l + kk) + 8) ≤ 24 * ((20000 + 38) + (24 * 160 + 1) + 160 + 8) := Nat.mul_le_mul hi24 (by omega)
      walk_at "rd"
      refine rd_addC (CycAt.fz (Fz.of s58) hr5) hrq (hs1.fit zq (by omega) (by omega) (by omega) (by omega) (by omega)) fun r9 H9 s9 hr9 => ?_
      walk_at "rd"
      refine at_i ⟨r9, _, _, _, rfl, (s5.trans s58).trans s9, ?_⟩
      rw [innSum_succ, ← eI]
      exact hr9
    · rintro σ H4 ⟨r, v3, v4, v5, rfl, s4, hr⟩
      have e9 : (refsV us).length = (clsM M).length := by rw [List.length_map, hu2]
      rw [e9] at hr
      obtain ⟨hs1, _⟩ := innSum_sz G hM24 hA hB h6 h6' (Nat.le_refl _)
      obtain ⟨dr, tr, ir, itr⟩ := id hr
      have k4 := s4 _ _ h1
      have b1 : (clsM M).length * (l + kk) ≤ 24 * 160 := Nat.mul_le_mul hl24 hl
      walk_at "rd"
      refine rd_lenG (h2.fz (Fz.of s4)) (by omega) fun H5 s5 => ?_
      walk_at "rd"
      refine ⟨r, _, M.length, rfl, CycAt.fz (Fz.of s5) hr, hs1.cn.good, by omega, hs1.lw.mono (by omega), (lb_small (by omega)).mono (by omega), fun q6 H6 s6 h6 => ?_⟩
      walk_at "rd"
      exact k q6 H6 ((s4.trans s5).trans s6) h6
end
end L2.KL
set_option Elab.async false
set_option linter.all false
set_option maxRecDepth 100000
set_option maxHeartbeats 4000000
namespace L2.KL
open PySem PySem.Spec PyProof.Rows PySem.W
local macro_rules | `(tactic| walk_at "hp") => `(tactic| first
  | assumption)
local macro_rules | `(tactic| walk_at "cl") => `(tactic| first
  | (with_reducible rfl)
  | (apply exT; walk_at "hp")
  | exact rfl)
local macro_rules | `(tactic| walk_at "r1") => `(tactic| first
  | (with_reducible refine rd_seq ?_)
  | ((with_reducible apply rd_var); (· exact rfl))
  | (with_reducible refine rd_cons ?_)
  | (with_reducible refine rd_nil ?_)
  | (with_reducible refine rd_call ?_)
  | (with_reducible refine rd_asg ?_)
  | (with_reducible refine rd_name ?_)
  | (with_reducible refine rd_ret ?_)
  | (with_reducible refine rd_iTup ?_)
  | (with_reducible refine rd_lc ?_)
  | (with_reducible apply Exists.intro)
  | ((with_reducible refine And.intro ?_ ?_); (· walk_at "cl")))
local macro_rules | `(tactic| walk_at "at") => `(tactic| fail)
local macro_rules | `(tactic| walk_at "rd") => `(tactic| ((repeat walk_at "r1"); (try dsimp only [List.set])))
theorem rd_makeK {C : Addr} {n m : Nat} {sp : Sp} {gV : List V → List V → List V} {E : XK} {t tk : TA} {σ : St} {H : Hp} {Q : VK} (h : t σ H fun vs H1 => tk σ H1 fun zs H2 => vs.length = n ∧ zs.length = m ∧ ∀ x dx, H2 x = none → H2 dx = none → dx ≠ x →
    sp (gV (.ref x :: vs) zs) (upd (upd H2 dx (.own x)) x (.ins C dx [])) (fun v H3 => v = .non ∧ Q (.ref x) H3) E) : tMakeK C n m sp gV E t tk σ H Q := h
local macro_rules | `(tactic| walk_at "r1") => `(tactic| (with_reducible refine rd_makeK ?_))
theorem mkF_use {K : PySem.W.Frag} {H1 : Hp} {Q : VK} {E : XK} {vs : List V} (g a : Addr) (kn : V) (M : Tab) (rs : List Addr) (cs : List Cyc) (hv : vs = [.ref g, .ref a, kn]) (hg : GrpAt (CG K) H1 g M) (G : IsGrp M) (ha : H1 a = some (.lst (refsV rs)))
    (hA : AllAt (CycR (CY K)) H1 rs cs) (hl : cs.length = (clsM M).length) (hk : kn = .non ∨ ∃ u, kn = .ref u ∧ TabAt H1 u (clsM M)) (k : ∀ q H', Same H1 H' → CFAt K H' q M cs → Q (.ref q) H') :
    ∀ x dx, H1 x = none → H1 dx = none → dx ≠ x → spCFInit K (.ref x :: vs) (upd (upd H1 dx (.own x)) x (.ins (CF K) dx [])) (fun v H2 => v = .non ∧ Q (.ref x) H2) E := by
  intro x dx hx hdx hn
  subst hv
  have s : Same H1 (upd (upd H1 dx (.own x)) x (.ins (CF K) dx [])) := Same.mut (Same.new hdx) hx
  have hg2 := hg.fz (Fz.of s)
  have hA2 := hA.fz (cycR_fm _) (Fz.of s)
  have hxx : upd (upd H1 dx (.own x)) x (.ins (CF K) dx []) x = some (.ins (CF K) dx []) := upd_same
  refine ⟨x, g, a, dx, kn, M, rs, cs, rfl, upd_same, hg2, G, s _ _ ha, hA2, hl, ?_, fun t u H' sx h1 h2 h3 => ⟨rfl, k x H' (SameX.made hx hdx sx) ⟨dx, g, t, u, rs, h1, hg2.sx sx hxx, h2, ⟨hA2.1, fun i r c e1 e2 => CycAt.sx (hA2.2 i r c e1 e2) sx hxx⟩, h3, hl⟩⟩⟩
  rcases hk with h | ⟨u, e, h⟩
  · exact .inl h
  · exact .inr ⟨u, e, h.fz (Fz.of s)⟩
section
variable {P : Program} {w : World} {K : PySem.W.Frag} {mg : Str → Option Value} {base : Heap}
def spEvery (K : PySem.W.Frag) : Sp := fun vs H Q _ => ∃ (g p : Addr) (M : Tab) (c : Cyc), vs = [.ref g, .ref p] ∧ GrpAt (CG K) H g M ∧ IsGrp M ∧ CycAt (CY K) H p c ∧ ∀ q H', Same H H' → CFAt K H' q M (List.replicate (clsM M).length c) → Q (.ref q) H'
theorem sc_everywhere : FnScope ["group", "c", "known", "_"] ["group", "c"] HD.d_everywhere.scope := ⟨rfl, rfl, rfl, by decide +kernel, rfl, by decide +kernel, by decide +kernel⟩
theorem ok_every (T : Tx K mg) : Ok P w K mg base CX0 6 HD.d_everywhere ["group", "c"] (spEvery K) := by
  have c1 := T.c_ClassFunction
  have G_classes : Ok P w K mg base CX0 3 _ _ _ := ok_classes T
  have G_ClassFunction_init : OkK P w K mg base CX0 4 _ _ _ 3 _ _ := ok_cfinit T
  have nd := sc_everywhere.nd
  refine Ok.mk0 T fn__everywhere rfl sc_everywhere (fun vs H Q E h => ?_) (fun _ _ _ _ _ _ us hl => match us, hl with | [_, _], _ => rfl) (fun cdv A outer s H vs Q E hr h => ?_)
  · obtain ⟨g, p, M, c, rfl, _⟩ := h
    rfl
  · obtain ⟨g, p, M, c, rfl, hg, G, hc, k⟩ := h
    refine ⟨_, pss_cons
          -- known = classes(group)
          (ps_set (i := 2) nd rfl (.inl rfl) (pe_f (G_classes) (hr.mono (by decide)) T.g_classes pass0 (pa_cons (pv 0) pa_nil)))
         (pss_one
          -- return ClassFunction(group, [c for _ in known], known=known)
          (ps_ret (pe_mkK G_ClassFunction_init (hr.mono (by decide)) T.mk_ClassFunction T.g_ClassFunction pass0 (pa_cons (pv 0) (pa_cons (pe_lc (own := [("_", 3)]) (g := gName 3) (tt := tYes) (by rfl) nd (pi_tupK (K := K) (pv 2)) (blkOk_by (own := [("_", 3)]) (N := ["group", "c", "known", "_"]) (sc := HD.d_everywhere.scope) (by decide +kernel)) (fun _ _ _ _ _ => (pg_name (i := 3) nd rfl (.inl rfl))) (fun _ _ _ _ _ => pts_nil) (fun _ _ _ _ _ => (pv 1))) pa_nil)) (pk_cons (pv 2) pk_nil)))), ?_⟩
    try dsimp only [cxOf, Cx.wish]
    walk_at "rd"
    refine ⟨g, M, rfl, hg, G, fun u H2 s2 hT => ?_⟩
    obtain ⟨us, hu1, hu2, hu3⟩ := id hT
    have hl60 : (clsM M).length ≤ 60 := Nat.le_trans (cls_len M) G.le
    walk_at "rd"
    refine lcj_tup (xs := refsV us) (fun i v H => v = V.ref p) (fun i v => fm_eq _ _) (SqT.of hu1) (by rw [List.length_map]; omega) (fun x => rfl) (fun i x H3 hx s3 Q' q => ?_) (fun D H3 ys hD s3 hl3 hyl hR => ?_)
    · walk_at "rd"
      exact q _ H3 (Same.refl _) rfl
    · have hys : ys = refsV (List.replicate (clsM M).length p) := by
        show ys = (List.replicate (clsM M).length p).map V.ref
        rw [List.map_replicate]
        refine List.eq_replicate_iff.mpr ⟨by rw [hyl, List.length_map, hu2], fun v hv => ?_⟩
        obtain ⟨i, hi, e⟩ := List.mem_iff_getElem.mp hv
        exact hR i v (by rw [List.getElem?_eq_getElem hi, e])
      rw [hys] at hl3
      have s23 := s2.trans s3
      walk_at "rd"
      refine mkF_use (vs := [.ref g, .ref D, .ref u]) g D (.ref u) M _ (List.replicate (clsM M).length c) rfl (hg.fz (Fz.of s23)) G hl3 ⟨by rw [List.length_replicate, List.length_replicate], fun i r c' e1 e2 => ?_⟩ (by rw [List.length_replicate]) (.inr ⟨u, rfl, hT.fz (Fz.of s3)⟩) fun q H4 s4 h4 => k q H4 (s23.trans s4) h4
      have m1 := List.mem_of_getElem? e1
      have m2 := List.mem_of_getElem? e2
      rw [List.eq_of_mem_replicate m1, List.eq_of_mem_replicate m2]
      exact CycAt.fz (Fz.of s23) hc
end
end L2.KL
set_option Elab.async false
set_option linter.all false
set_option maxRecDepth 100000
set_option maxHeartbeats 4000000
namespace L2.KL
/-! ### a subgroup as a group of its own -/
theorem idxN_get {S : List Nat} (nd : S.Nodup) {i : Nat} (hi : i < S.length) : S.idxOf (S.getD i 0) = i := by
  have hm : S.getD i 0 ∈ S := getD_lt hi
  have h := List.idxOf_lt_length_of_mem hm
  refine getD_inj nd h hi ?_
  rw [List.getD_eq_getElem?_getD, List.getElem?_eq_getElem h, List.getElem_idxOf]
  rfl
theorem getD_idxN {S : List Nat} {x : Nat} (h : x ∈ S) : S.getD (S.idxOf x) 0 = x := by
  rw [List.getD_eq_getElem?_getD, List.getElem?_eq_getElem (List.idxOf_lt_length_of_mem h), List.getElem_idxOf]
  rfl
def subTab (M : Tab) (S : List Nat) : Tab := S.map fun x => S.map fun y => S.idxOf (tm M x y)
theorem subTab_len (M : Tab) (S : List Nat) : (subTab M S).length = S.length := List.length_map _
theorem subTab_row {M : Tab} {S : List Nat} {i : Nat} (hi : i < S.length) : (subTab M S).getD i [] = S.map fun y => S.idxOf (tm M (S.getD i 0) y) := by
  unfold subTab
  rw [List.getD_eq_getElem?_getD, List.getElem?_map, List.getD_eq_getElem?_getD, List.getElem?_eq_getElem hi]
  rfl
theorem subTab_tm {M : Tab} {S : List Nat} {i j : Nat} (hi : i < S.length) (hj : j < S.length) : tm (subTab M S) i j = S.idxOf (tm M (S.getD i 0) (S.getD j 0)) := by
  show ((subTab M S).getD i []).getD j 0 = _
  rw [subTab_row hi, List.getD_eq_getElem?_getD, List.getElem?_map, List.getD_eq_getElem?_getD (l := S) (i := j), List.getElem?_eq_getElem hj]
  rfl
section
variable {M : Tab} {S : List Nat}
theorem SubOk.get (h : SubOk M S) {i : Nat} (hi : i < S.length) : S.getD i 0 ∈ S := getD_lt hi
theorem SubOk.glt (h : SubOk M S) {i : Nat} (hi : i < S.length) : S.getD i 0 < M.length := h.lt _ (h.get hi)
theorem SubOk.g0 (h : SubOk M S) : S.getD 0 0 = 0 := by
  obtain ⟨R, e⟩ := h.z
  rw [e]
  rfl
theorem SubOk.i0 (h : SubOk M S) : S.idxOf 0 = 0 := by
  obtain ⟨R, e⟩ := h.z
  rw [e]
  simp
theorem SubOk.tml (h : SubOk M S) {i j : Nat} (hi : i < S.length) (hj : j < S.length) : tm (subTab M S) i j < S.length := by
  rw [subTab_tm hi hj]
  exact List.idxOf_lt_length_of_mem (h.cl _ (h.get hi) _ (h.get hj))
theorem SubOk.tmg (h : SubOk M S) {i j : Nat} (hi : i < S.length) (hj : j < S.length) : S.getD (tm (subTab M S) i j) 0 = tm M (S.getD i 0) (S.getD j 0) := by
  rw [subTab_tm hi hj]
  exact getD_idxN (h.cl _ (h.get hi) _ (h.get hj))
theorem subTab_grp (G : IsGrp M) (h : SubOk M S) : IsGrp (subTab M S) := by
  have h1 := h.pos
  have l : (subTab M S).length = S.length := subTab_len M S
  refine ⟨⟨fun x hx => ?_, fun x y hx hy => ?_⟩, by rw [l]; exact h1, by rw [l]; exact Nat.le_trans h.le G.le, fun x hx => ?_, fun x hx => ?_, fun x y z hx hy hz => ?_, fun x hx => ?_⟩
  · rw [l] at hx ⊢
    rw [subTab_row hx, List.length_map]
  · rw [l] at hx hy ⊢
    exact h.tml hx hy
  · rw [l] at hx
    rw [subTab_tm h1 hx, h.g0, G.l0 _ (h.glt hx), idxN_get h.nd hx]
  · rw [l] at hx
    rw [subTab_tm hx h1, h.g0, G.r0 _ (h.glt hx), idxN_get h.nd hx]
  · rw [l] at hx hy hz
    have a := h.tml hx hy
    have b := h.tml hy hz
    rw [subTab_tm a hz, subTab_tm hx b, h.tmg hx hy, h.tmg hy hz, G.as_ _ _ _ (h.glt hx) (h.glt hy) (h.glt hz)]
  · rw [l] at hx
    have gx := h.glt hx
    have z0 : (0 : Nat) ∈ S := by
      obtain ⟨R, e⟩ := h.z
      rw [e]
      exact .head _
    obtain ⟨y, hy, e⟩ := nodup_surj h.nd (f := fun y => tm M (S.getD x 0) y) (fun y hy => h.cl _ (h.get hx) y hy) (fun y hy z hz e => tm_cancel G gx (h.lt y hy) (h.lt z hz) e) z0
    rw [subTab_row hx]
    refine List.mem_map.mpr ⟨y, hy, ?_⟩
    have e' : tm M (S.getD x 0) y = 0 := e
    rw [e']
    exact h.i0
theorem SubOk.invg (G : IsGrp M) (h : SubOk M S) {i : Nat} (hi : i < S.length) : S.getD (inv (subTab M S) i) 0 = inv M (S.getD i 0) := by
  have G' := subTab_grp G h
  have hi' : i < (subTab M S).length := by rw [subTab_len]; exact hi
  have a := inv_lt G' hi'
  rw [subTab_len] at a
  have e := tm_inv G' hi'
  have e2 := h.tmg hi a
  rw [e, h.g0] at e2
  exact tm_cancel G (h.glt hi) (h.glt a) (inv_lt G (h.glt hi)) (by rw [← e2, tm_inv G (h.glt hi)])
theorem SubOk.conjg (G : IsGrp M) (h : SubOk M S) {i g : Nat} (hi : i < S.length) (hg : g < S.length) : S.getD (conj (subTab M S) i g) 0 = conj M (S.getD i 0) (S.getD g 0) := by
  have G' := subTab_grp G h
  have a := inv_lt G' (x := g) (by rw [subTab_len]; exact hg)
  rw [subTab_len] at a
  unfold conj
  rw [h.tmg a (h.tml hi hg), h.tmg hi hg, h.invg G hg]
end
/-! ### conjugation -/
section
variable {M : Tab}
theorem inv_zero (G : IsGrp M) : inv M 0 = 0 := by
  have h0 : 0 < M.length := G.pos
  have e := tm_inv G h0
  rw [G.l0 _ (inv_lt G h0)] at e
  exact e
theorem conj_zero (G : IsGrp M) {x : Nat} (hx : x < M.length) : conj M x 0 = x := by
  unfold conj
  rw [inv_zero G, G.r0 _ hx, G.l0 _ hx]
theorem inv_tm2 (G : IsGrp M) {a b : Nat} (ha : a < M.length) (hb : b < M.length) : inv M (tm M a b) = tm M (inv M b) (inv M a) := by
  have ia := inv_lt G ha
  have ib := inv_lt G hb
  have ab := G.sq.lt _ _ ha hb
  refine tm_cancel G ab (inv_lt G ab) (G.sq.lt _ _ ib ia) ?_
  rw [tm_inv G ab, G.as_ _ _ _ ha hb (G.sq.lt _ _ ib ia), ← G.as_ b _ _ hb ib ia, tm_inv G hb, G.l0 _ ia, tm_inv G ha]
theorem conj_conj (G : IsGrp M) {x g k : Nat} (hx : x < M.length) (hg : g < M.length) (hk : k < M.length) : conj M (conj M x g) k = conj M x (tm M g k) := by
  have ig := inv_lt G hg
  have ik := inv_lt G hk
  have xg := G.sq.lt _ _ hx hg
  unfold conj
  rw [inv_tm2 G hg hk, G.as_ _ _ _ ig xg hk, G.as_ x g k hx hg hk, ← G.as_ (inv M k) (inv M g) _ ik ig (G.sq.lt _ _ hx (G.sq.lt _ _ hg hk))]
theorem conj_inv (G : IsGrp M) {x g : Nat} (hx : x < M.length) (hg : g < M.length) : conj M (conj M x g) (inv M g) = x := by
  rw [conj_conj G hx hg (inv_lt G hg), tm_inv G hg, conj_zero G hx]
theorem conj_inj (G : IsGrp M) {x y g : Nat} (hx : x < M.length) (hy : y < M.length) (hg : g < M.length) (e : conj M x g = conj M y g) : x = y := by
  rw [← conj_inv G hx hg, e, conj_inv G hy hg]
theorem cls_self (G : IsGrp M) {x : Nat} (hx : x < M.length) : x ∈ clsOf M x := clsOf_mem.mpr ⟨hx, 0, G.pos, conj_zero G hx⟩
theorem cls_conj (G : IsGrp M) {x g : Nat} (hx : x < M.length) (hg : g < M.length) : conj M x g ∈ clsOf M x := clsOf_mem.mpr ⟨conj_lt G hx hg, g, hg, rfl⟩
theorem cls_trans (G : IsGrp M) {x y z : Nat} (hx : x < M.length) (h1 : y ∈ clsOf M x) (h2 : z ∈ clsOf M y) : z ∈ clsOf M x := by
  obtain ⟨hy, g, hg, rfl⟩ := clsOf_mem.mp h1
  obtain ⟨hz, k, hk, rfl⟩ := clsOf_mem.mp h2
  rw [conj_conj G hx hg hk]
  exact cls_conj G hx (G.sq.lt _ _ hg hk)
theorem cls_symm (G : IsGrp M) {x y : Nat} (hx : x < M.length) (h : y ∈ clsOf M x) : x ∈ clsOf M y := by
  obtain ⟨hy, g, hg, rfl⟩ := clsOf_mem.mp h
  have := cls_conj G hy (inv_lt G hg)
  rw [conj_inv G hx hg] at this
  exact this
/-! ### the classes part the elements -/
theorem keys_cover (G : IsGrp M) : ∀ {m : Nat}, m ≤ M.length → ∀ x, x < m → ∃ k ∈ keysGo M m, x ∈ k.2.2
  | 0, _, x, h => by omega
  | m + 1, hm, x, h => by
    unfold keysGo
    split
    · rename_i ha
      by_cases e : x = m
      · subst e
        obtain ⟨k, hk, hx⟩ := List.any_eq_true.mp ha
        exact ⟨k, hk, of_decide_eq_true hx⟩
      · exact keys_cover G (by omega) x (by omega)
    · by_cases e : x = m
      · subst e
        exact ⟨_, List.mem_append_right _ (.head _), cls_self G (by omega)⟩
      · obtain ⟨k, hk, hx⟩ := keys_cover G (m := m) (by omega) x (by omega)
        exact ⟨k, List.mem_append_left _ hk, hx⟩
def Apart (a b : List Nat) : Prop := ∀ y, y ∈ a → y ∉ b
theorem keys_apart (G : IsGrp M) : ∀ {m : Nat}, m ≤ M.length → (keysGo M m).Pairwise fun a b => Apart a.2.2 b.2.2
  | 0, _ => List.Pairwise.nil
  | m + 1, hm => by
    have ih := keys_apart G (m := m) (by omega)
    unfold keysGo
    split
    · exact ih
    · rename_i ha
      refine List.pairwise_append.mpr ⟨ih, List.pairwise_singleton _ _, fun k hk b hb y hy hy2 => ?_⟩
      obtain ⟨x, hx, e⟩ := keys_mem hk
      have hb' : b = (ordF M m, (clsOf M m).length, clsOf M m) := by simpa using hb
      rw [hb'] at hy2
      have hy' : y ∈ clsOf M x := by rw [e] at hy; exact hy
      have hm2 : m ∈ clsOf M y := cls_symm G (by omega) hy2
      have hm3 : m ∈ clsOf M x := cls_trans G (by omega) hy' hm2
      refine ha (List.any_eq_true.mpr ⟨k, hk, decide_eq_true ?_⟩)
      rw [e]
      exact hm3
theorem clsM_perm (M : Tab) : (clsM M).Perm ((keysGo M M.length).map fun k => k.2.2) := (List.mergeSort_perm _ _).map _
theorem clsM_apart (G : IsGrp M) : (clsM M).Pairwise Apart := by
  refine ((clsM_perm M).pairwise_iff (fun {a b} h => fun y hy hy2 => h y hy2 hy)).mpr ?_
  rw [List.pairwise_map]
  exact keys_apart G (Nat.le_refl _)
theorem clsM_cover (G : IsGrp M) {x : Nat} (hx : x < M.length) : ∃ c ∈ clsM M, x ∈ c := by
  obtain ⟨k, hk, h⟩ := keys_cover G (Nat.le_refl _) x hx
  exact ⟨k.2.2, (clsM_perm M).mem_iff.mpr (List.mem_map.mpr ⟨k, hk, rfl⟩), h⟩
theorem clsM_is {c : List Nat} (h : c ∈ clsM M) : ∃ x, x < M.length ∧ c = clsOf M x := by
  obtain ⟨k, hk, rfl⟩ := List.mem_map.mp ((clsM_perm M).mem_iff.mp h)
  obtain ⟨x, hx, e⟩ := keys_mem hk
  exact ⟨x, hx, by rw [e]⟩
theorem clsM_lt {c : List Nat} (h : c ∈ clsM M) {y : Nat} (hy : y ∈ c) : y < M.length := by
  obtain ⟨x, _, rfl⟩ := clsM_is h
  exact (clsOf_mem.mp hy).1
theorem clsM_nodup {c : List Nat} (h : c ∈ clsM M) : c.Nodup := by
  obtain ⟨x, _, rfl⟩ := clsM_is h
  exact clsOf_nodup M x
theorem clsM_flat (G : IsGrp M) : (clsM M).flatten.Perm (List.range M.length) := by
  refine (List.perm_ext_iff_of_nodup ?_ List.nodup_range).mpr fun x => ?_
  · refine List.pairwise_flatten.mpr ⟨fun c hc => clsM_nodup hc, (clsM_apart G).imp fun h => ?_⟩
    intro y hy z hz e
    exact h y hy (by rw [e]; exact hz)
  · rw [List.mem_flatten, List.mem_range]
    exact ⟨fun ⟨c, hc, hx⟩ => clsM_lt hc hx, fun hx => clsM_cover G hx⟩
theorem cIdx_lt (G : IsGrp M) {x : Nat} (hx : x < M.length) : cIdx M x < (clsM M).length := by
  obtain ⟨c, hc, hxc⟩ := clsM_cover G hx
  exact List.findIdx_lt_length_of_exists ⟨c, hc, decide_eq_true hxc⟩
theorem cIdx_mem (G : IsGrp M) {x : Nat} (hx : x < M.length) : x ∈ (clsM M).getD (cIdx M x) [] := by
  have h := cIdx_lt G hx
  have q := List.findIdx_getElem (xs := clsM M) (p := fun c => decide (x ∈ c)) (w := h)
  rw [List.getD_eq_getElem?_getD, List.getElem?_eq_getElem h]
  exact of_decide_eq_true q
theorem cIdx_eq (G : IsGrp M) {x i : Nat} (hi : i < (clsM M).length) (hx : x ∈ (clsM M).getD i []) : cIdx M x = i := by
  have ex : (clsM M).getD i [] = (clsM M)[i] := by rw [List.getD_eq_getElem?_getD, List.getElem?_eq_getElem hi]; rfl
  rw [ex] at hx
  have hxl : x < M.length := clsM_lt (List.getElem_mem hi) hx
  have hl := cIdx_lt G hxl
  have hm := cIdx_mem G hxl
  have ex2 : (clsM M).getD (cIdx M x) [] = (clsM M)[cIdx M x] := by rw [List.getD_eq_getElem?_getD, List.getElem?_eq_getElem hl]; rfl
  rw [ex2] at hm
  rcases Nat.lt_trichotomy (cIdx M x) i with h | h | h
  · exact absurd hx (List.pairwise_iff_getElem.mp (clsM_apart G) _ _ hl hi h x hm)
  · exact h
  · exact absurd hm (List.pairwise_iff_getElem.mp (clsM_apart G) _ _ hi hl h x hx)
theorem cIdx_conj (G : IsGrp M) {x g : Nat} (hx : x < M.length) (hg : g < M.length) : cIdx M (conj M x g) = cIdx M x := by
  refine cIdx_eq G (cIdx_lt G hx) ?_
  have hm := cIdx_mem G hx
  have hl := cIdx_lt G hx
  have ex : (clsM M).getD (cIdx M x) [] = (clsM M)[cIdx M x] := by rw [List.getD_eq_getElem?_getD, List.getElem?_eq_getElem hl]; rfl
  rw [ex] at hm ⊢
  obtain ⟨z, hz, e⟩ := clsM_is (List.getElem_mem hl)
  rw [e] at hm ⊢
  exact cls_trans G hz hm (cls_conj G hx hg)
/-- a class's first element -/
def rep (M : Tab) (i : Nat) : Nat := ((clsM M).getD i []).getD 0 0
theorem rep_mem (G : IsGrp M) {i : Nat} (hi : i < (clsM M).length) : 0 < ((clsM M).getD i []).length ∧ rep M i ∈ (clsM M).getD i [] ∧ rep M i < M.length ∧ cIdx M (rep M i) = i := by
  have ex : (clsM M).getD i [] = (clsM M)[i] := by rw [List.getD_eq_getElem?_getD, List.getElem?_eq_getElem hi]; rfl
  obtain ⟨z, hz, e⟩ := clsM_is (List.getElem_mem hi)
  have hzc : z ∈ (clsM M).getD i [] := by
    rw [ex, e]
    exact cls_self G hz
  have h0 : 0 < ((clsM M).getD i []).length := List.length_pos_of_mem hzc
  have hm : rep M i ∈ (clsM M).getD i [] := getD_lt h0
  refine ⟨h0, hm, ?_, cIdx_eq G hi hm⟩
  rw [ex] at hm
  exact clsM_lt (List.getElem_mem hi) hm
theorem same_conj (G : IsGrp M) {x y : Nat} (hx : x < M.length) (hy : y < M.length) (h : cIdx M x = cIdx M y) : ∃ g, g < M.length ∧ conj M x g = y := by
  have hl := cIdx_lt G hx
  have m1 := cIdx_mem G hx
  have m2 := cIdx_mem G hy
  rw [← h] at m2
  have ex : (clsM M).getD (cIdx M x) [] = (clsM M)[cIdx M x] := by rw [List.getD_eq_getElem?_getD, List.getElem?_eq_getElem hl]; rfl
  rw [ex] at m1 m2
  obtain ⟨z, hz, e⟩ := clsM_is (List.getElem_mem hl)
  rw [e] at m1 m2
  have q := cls_trans G hx (cls_symm G hz m1) m2
  exact (clsOf_mem.mp q).2
theorem cVal_conj (G : IsGrp M) (cs : List Cyc) {x g : Nat} (hx : x < M.length) (hg : g < M.length) : cVal M cs (conj M x g) = cVal M cs x := by
  unfold cVal
  rw [cIdx_conj G hx hg]
theorem cVal_rep (G : IsGrp M) (cs : List Cyc) {i : Nat} (hi : i < (clsM M).length) : cVal M cs (rep M i) = cs.getD i ⟨1, [], 1⟩ := by
  unfold cVal
  rw [(rep_mem G hi).2.2.2]
theorem cVal_at (G : IsGrp M) (cs : List Cyc) {x i : Nat} (hi : i < (clsM M).length) (hx : x ∈ (clsM M).getD i []) : cVal M cs x = cs.getD i ⟨1, [], 1⟩ := by
  unfold cVal
  rw [cIdx_eq G hi hx]
end
end L2.KL
set_option Elab.async false
set_option linter.all false
set_option maxRecDepth 100000
set_option maxHeartbeats 4000000
namespace L2.KL
/-! ### sums of rationals along lists -/
def lsum {α : Type} : List α → (α → Rat) → Rat
  | [], _ => 0
  | x :: r, F => F x + lsum r F
section
variable {α β : Type}
theorem lsum_congr {F K : α → Rat} : ∀ {l : List α}, (∀ x ∈ l, F x = K x) → lsum l F = lsum l K
  | [], _ => rfl
  | x :: r, h => by
    show F x + lsum r F = K x + lsum r K
    rw [h x (.head _), lsum_congr (l := r) fun y hy => h y (.tail _ hy)]
theorem lsum_append (F : α → Rat) : ∀ l m : List α, lsum (l ++ m) F = lsum l F + lsum m F
  | [], m => (Rat.zero_add _).symm
  | x :: r, m => by
    show F x + lsum (r ++ m) F = F x + lsum r F + lsum m F
    rw [lsum_append F r m, Rat.add_assoc]
theorem lsum_map (f : β → α) (F : α → Rat) : ∀ l : List β, lsum (l.map f) F = lsum l fun x => F (f x)
  | [] => rfl
  | x :: r => by
    show F (f x) + lsum (r.map f) F = _
    rw [lsum_map f F r]
    rfl
theorem lsum_perm {F : α → Rat} {l m : List α} (h : l.Perm m) : lsum l F = lsum m F := by
  induction h with
  | nil => rfl
  | cons x _ ih =>
    show F x + _ = F x + _
    rw [ih]
  | swap x y l =>
    show F y + (F x + lsum l F) = F x + (F y + lsum l F)
    rw [← Rat.add_assoc, ← Rat.add_assoc, Rat.add_comm (F y)]
  | trans _ _ a b => exact a.trans b
theorem lsum_mul (c : Rat) (F : α → Rat) : ∀ l : List α, lsum l (fun x => c * F x) = c * lsum l F
  | [] => (Rat.mul_zero c).symm
  | x :: r => by
    show c * F x + lsum r (fun x => c * F x) = c * (F x + lsum r F)
    rw [lsum_mul c F r, Rat.mul_add]
theorem lsum_add (F K : α → Rat) : ∀ l : List α, lsum l (fun x => F x + K x) = lsum l F + lsum l K
  | [] => (Rat.zero_add 0).symm
  | x :: r => by
    show F x + K x + lsum r (fun x => F x + K x) = F x + lsum r F + (K x + lsum r K)
    rw [lsum_add F K r]
    grind
theorem lsum_zero : ∀ l : List α, lsum l (fun _ => 0) = 0
  | [] => rfl
  | x :: r => by
    show 0 + lsum r (fun _ => 0) = 0
    rw [lsum_zero r, Rat.zero_add]
theorem lsum_swap (F : α → β → Rat) (m : List β) : ∀ l : List α, lsum l (fun x => lsum m fun y => F x y) = lsum m fun y => lsum l fun x => F x y
  | [] => (lsum_zero m).symm
  | x :: r => by
    show lsum m (F x) + lsum r (fun x => lsum m fun y => F x y) = lsum m fun y => F x y + lsum r fun x => F x y
    rw [lsum_swap F m r, lsum_add]
theorem lsum_flat (F : α → Rat) : ∀ L : List (List α), lsum L.flatten F = lsum L fun c => lsum c F
  | [] => rfl
  | c :: r => by
    rw [List.flatten_cons, lsum_append, lsum_flat F r]
    rfl
theorem lsum_const {F : α → Rat} {c : Rat} : ∀ {l : List α}, (∀ x ∈ l, F x = c) → lsum l F = ((l.length : Int) : Rat) * c
  | [], _ => by
    show (0 : Rat) = ((0 : Int) : Rat) * c
    exact (Rat.zero_mul c).symm
  | x :: r, h => by
    show F x + lsum r F = (((r.length + 1 : Nat) : Int) : Rat) * c
    rw [lsum_const (l := r) (fun y hy => h y (.tail _ hy)), h x (.head _)]
    have e : (((r.length + 1 : Nat) : Int) : Rat) = ((r.length : Int) : Rat) + 1 := by
      rw [show ((r.length + 1 : Nat) : Int) = (r.length : Int) + 1 from rfl, Rat.intCast_add]
      rfl
    rw [e]
    grind
theorem lsum_filter (p : α → Bool) (F : α → Rat) : ∀ l : List α, lsum (l.filter p) F = lsum l fun x => if p x = true then F x else 0
  | [] => rfl
  | x :: r => by
    rw [List.filter_cons]
    show _ = (if p x = true then F x else 0) + lsum r fun x => if p x = true then F x else 0
    rw [← lsum_filter p F r]
    split
    · rfl
    · rw [Rat.zero_add]
theorem rsum_go : ∀ (xs : List Rat) (a : Rat), xs.foldl (· + ·) a = a + lsum xs id
  | [], a => (Rat.add_zero a).symm
  | x :: r, a => by
    show r.foldl (· + ·) (a + x) = a + (x + lsum r id)
    rw [rsum_go r (a + x), Rat.add_assoc]
theorem rsum_map (f : α → Rat) (l : List α) : rsum (l.map f) = lsum l f := by
  unfold rsum
  rw [rsum_go, Rat.zero_add, lsum_map]
  rfl
theorem getD_range (l : List α) (d : α) : (List.range l.length).map (fun i => l.getD i d) = l := by
  apply List.ext_getElem?
  intro i
  rw [List.getElem?_map]
  by_cases hi : i < l.length
  · rw [List.getElem?_range hi, List.getElem?_eq_getElem hi]
    show some (l.getD i d) = _
    rw [List.getD_eq_getElem?_getD, List.getElem?_eq_getElem hi]
    rfl
  · rw [List.getElem?_eq_none (by rw [List.length_range]; omega), List.getElem?_eq_none (by omega)]
    rfl
theorem lsum_index (F : α → Rat) (l : List α) (d : α) : lsum (List.range l.length) (fun i => F (l.getD i d)) = lsum l F := by
  rw [← lsum_map (fun i => l.getD i d) F, getD_range]
end
theorem perm_inj {n : Nat} {f : Nat → Nat} (hl : ∀ x, x < n → f x < n) (hi : ∀ x y, x < n → y < n → f x = f y → x = y) : ((List.range n).map f).Perm (List.range n) := by
  have nd : ((List.range n).map f).Nodup := nodup_map_on (fun x hx y hy e => hi x y (List.mem_range.mp hx) (List.mem_range.mp hy) e) List.nodup_range
  have lt : ∀ y ∈ (List.range n).map f, y < n := fun y hy => by
    obtain ⟨x, hx, rfl⟩ := List.mem_map.mp hy
    exact hl x (List.mem_range.mp hx)
  refine (List.perm_ext_iff_of_nodup nd List.nodup_range).mpr fun y => ⟨fun hy => List.mem_range.mpr (lt y hy), fun hy => ?_⟩
  exact nodup_full nd lt (by rw [List.length_map, List.length_range]) (List.mem_range.mp hy)
theorem Op_lsum {α : Type} (b : Cyc) (i : Nat) (v : α → Nat → Rat) : ∀ l : List α, Op b (fun t => lsum l fun x => v x t) i = lsum l fun x => Op b (v x) i
  | [] => Op_zero b i
  | x :: r => by
    show Op b (fun t => v x t + lsum r fun x => v x t) i = Op b (v x) i + lsum r fun x => Op b (v x) i
    rw [Op_add, Op_lsum b i v r]
/-! ### the inner product's value -/
section
variable {M : Tab}
theorem cVal_canon (G : IsGrp M) {cs : List Cyc} (h : ∀ c ∈ cs, Canon c) (l : cs.length = (clsM M).length) {x : Nat} (hx : x < M.length) : Canon (cVal M cs x) := by
  have hi : cIdx M x < cs.length := by
    rw [l]
    exact cIdx_lt G hx
  unfold cVal
  rw [List.getD_eq_getElem?_getD, List.getElem?_eq_getElem hi]
  exact h _ (List.getElem_mem hi)
theorem getD_canon {cs : List Cyc} (h : ∀ c ∈ cs, Canon c) {i : Nat} (hi : i < cs.length) : Canon (cs.getD i ⟨1, [], 1⟩) := by
  rw [List.getD_eq_getElem?_getD, List.getElem?_eq_getElem hi]
  exact h _ (List.getElem_mem hi)
theorem innT_canon {a b : Cyc} {n : Nat} (A : Canon a) (B : Canon b) : Canon (innT a b n) := scaled_canon (mul_canon A (mir_canon B))
theorem inn_list {as bs : List Cyc} (ha : ∀ c ∈ as, Canon c) (hb : ∀ c ∈ bs, Canon c) (la : as.length = (clsM M).length) (lb : bs.length = (clsM M).length) :
    ∀ c ∈ (List.range (clsM M).length).map fun i => innT (as.getD i ⟨1, [], 1⟩) (bs.getD i ⟨1, [], 1⟩) ((clsM M).getD i []).length, Canon c := fun c hc => by
  obtain ⟨i, hi, rfl⟩ := List.mem_map.mp hc
  have hi' := List.mem_range.mp hi
  exact innT_canon (getD_canon ha (by omega)) (getD_canon hb (by omega))
theorem inn_canon (G : IsGrp M) {as bs : List Cyc} (ha : ∀ c ∈ as, Canon c) (hb : ∀ c ∈ bs, Canon c) (la : as.length = (clsM M).length) (lb : bs.length = (clsM M).length) : Canon (innM M as bs) := by
  unfold innM
  rw [innSum_eq]
  exact over_canon (sumC_canon _ (inn_list ha hb la lb)) G.pos
theorem inn_val (G : IsGrp M) {as bs : List Cyc} (ha : ∀ c ∈ as, Canon c) (hb : ∀ c ∈ bs, Canon c) (la : as.length = (clsM M).length) (lb : bs.length = (clsM M).length) {t : Nat} (ht : t < 16) :
    val (innM M as bs) t = lsum (List.range M.length) (fun x => Op (mirM (cVal M bs x)) (val (cVal M as x)) t) / (((M.length : Nat) : Int) : Rat) := by
  have hc := inn_list ha hb la lb
  unfold innM
  rw [innSum_eq, val_over (sumC_canon _ hc) G.pos, sumC_val t _ _ rfl hc, List.map_map, rsum_map]
  congr 1
  rw [← lsum_perm (clsM_flat G), lsum_flat, ← lsum_index (fun c => lsum c fun x => Op (mirM (cVal M bs x)) (val (cVal M as x)) t) (clsM M) []]
  refine lsum_congr fun i hi => ?_
  have hi' := List.mem_range.mp hi
  have ca := getD_canon ha (i := i) (by omega)
  have cb := getD_canon hb (i := i) (by omega)
  show val (innT (as.getD i ⟨1, [], 1⟩) (bs.getD i ⟨1, [], 1⟩) ((clsM M).getD i []).length) t = _
  unfold innT
  rw [val_scaled (mul_canon ca (mir_canon cb)), val_mul ca (mir_canon cb) ht]
  refine (lsum_const fun x hx => ?_).symm
  rw [cVal_at G bs hi' hx, cVal_at G as hi' hx]
end
/-! ### restriction and induction -/
def indL (M M' : Tab) (S : List Nat) (fs : List Cyc) (x : Nat) : List Cyc := ((List.range M.length).filter fun g => decide (conj M x g ∈ S)).map fun g => cVal M' fs (S.idxOf (conj M x g))
def indV (M M' : Tab) (S : List Nat) (fs : List Cyc) (x : Nat) : Cyc := overM (sumC (indL M M' S fs x)) S.length
def indM (M : Tab) (S : List Nat) (fs : List Cyc) : List Cyc := (clsM M).map fun c => indV M (subTab M S) S fs (c.getD 0 0)
def resM (M : Tab) (S : List Nat) (gs : List Cyc) : List Cyc := (clsM (subTab M S)).map fun c => cVal M gs (S.getD (c.getD 0 0) 0)
theorem indM_len (M : Tab) (S : List Nat) (fs : List Cyc) : (indM M S fs).length = (clsM M).length := List.length_map _
theorem resM_len (M : Tab) (S : List Nat) (gs : List Cyc) : (resM M S gs).length = (clsM (subTab M S)).length := List.length_map _
theorem getD_mapC {α β : Type} {f : α → β} {l : List α} {i : Nat} {d : β} {e : α} (h : i < l.length) : (l.map f).getD i d = f (l.getD i e) := by
  rw [List.getD_eq_getElem?_getD, List.getElem?_map, List.getD_eq_getElem?_getD, List.getElem?_eq_getElem h]
  rfl
section
variable {M : Tab} {S : List Nat} {fs gs : List Cyc}
theorem indL_canon (G : IsGrp M) (h : SubOk M S) (hf : ∀ c ∈ fs, Canon c) (lf : fs.length = (clsM (subTab M S)).length) (x : Nat) : ∀ c ∈ indL M (subTab M S) S fs x, Canon c := fun c hc => by
  obtain ⟨g, hg, rfl⟩ := List.mem_map.mp hc
  have hm := of_decide_eq_true (List.mem_filter.mp hg).2
  exact cVal_canon (subTab_grp G h) hf lf (by rw [subTab_len]; exact List.idxOf_lt_length_of_mem hm)
theorem indV_canon (G : IsGrp M) (h : SubOk M S) (hf : ∀ c ∈ fs, Canon c) (lf : fs.length = (clsM (subTab M S)).length) (x : Nat) : Canon (indV M (subTab M S) S fs x) := over_canon (sumC_canon _ (indL_canon G h hf lf x)) h.pos
theorem indM_canon (G : IsGrp M) (h : SubOk M S) (hf : ∀ c ∈ fs, Canon c) (lf : fs.length = (clsM (subTab M S)).length) : ∀ c ∈ indM M S fs, Canon c := fun c hc => by
  obtain ⟨k, _, rfl⟩ := List.mem_map.mp hc
  exact indV_canon G h hf lf _
theorem ind_val (G : IsGrp M) (h : SubOk M S) (hf : ∀ c ∈ fs, Canon c) (lf : fs.length = (clsM (subTab M S)).length) (x t : Nat) :
    val (indV M (subTab M S) S fs x) t = lsum (List.range M.length) (fun g => if decide (conj M x g ∈ S) = true then val (cVal (subTab M S) fs (S.idxOf (conj M x g))) t else 0) / (((S.length : Nat) : Int) : Rat) := by
  unfold indV
  rw [val_over (sumC_canon _ (indL_canon G h hf lf x)) h.pos, sumC_val t _ _ rfl (indL_canon G h hf lf x)]
  congr 1
  unfold indL
  rw [List.map_map, rsum_map, lsum_filter]
  rfl
theorem tml_perm (G : IsGrp M) {h : Nat} (hh : h < M.length) : ((List.range M.length).map fun g => tm M h g).Perm (List.range M.length) := perm_inj (fun x hx => G.sq.lt _ _ hh hx) fun x y hx hy e => tm_cancel G hh hx hy e
theorem conj_perm (G : IsGrp M) {g : Nat} (hg : g < M.length) : ((List.range M.length).map fun x => conj M x g).Perm (List.range M.length) := perm_inj (fun x hx => conj_lt G hx hg) fun x y hx hy e => conj_inj G hx hy hg e
theorem ind_conj (G : IsGrp M) (hS : SubOk M S) (hf : ∀ c ∈ fs, Canon c) (lf : fs.length = (clsM (subTab M S)).length) {x k : Nat} (hx : x < M.length) (hk : k < M.length) (t : Nat) :
    val (indV M (subTab M S) S fs (conj M x k)) t = val (indV M (subTab M S) S fs x) t := by
  rw [ind_val G hS hf lf, ind_val G hS hf lf]
  congr 1
  obtain ⟨Φ, hΦ⟩ : ∃ Φ : Nat → Rat, Φ = fun y => if decide (y ∈ S) = true then val (cVal (subTab M S) fs (S.idxOf y)) t else 0 := ⟨_, rfl⟩
  have e : (fun g => if decide (conj M x g ∈ S) = true then val (cVal (subTab M S) fs (S.idxOf (conj M x g))) t else 0) = fun g => Φ (conj M x g) := by rw [hΦ]
  have e2 : (fun g => if decide (conj M (conj M x k) g ∈ S) = true then val (cVal (subTab M S) fs (S.idxOf (conj M (conj M x k) g))) t else 0) = fun g => Φ (conj M (conj M x k) g) := by rw [hΦ]
  rw [e, e2]
  refine Eq.trans (lsum_congr fun g hg => ?_) ((lsum_map (fun g => tm M k g) (fun g => Φ (conj M x g)) (List.range M.length)).symm.trans (lsum_perm (tml_perm G hk)))
  rw [conj_conj G hx hk (List.mem_range.mp hg)]
theorem ind_cls (G : IsGrp M) (hS : SubOk M S) (hf : ∀ c ∈ fs, Canon c) (lf : fs.length = (clsM (subTab M S)).length) {x : Nat} (hx : x < M.length) (t : Nat) :
    val (cVal M (indM M S fs) x) t = val (indV M (subTab M S) S fs x) t := by
  have hl := cIdx_lt G hx
  obtain ⟨_, _, r3, r4⟩ := rep_mem G hl
  obtain ⟨k, hk, e⟩ := same_conj G r3 hx r4
  unfold cVal
  unfold indM
  rw [getD_mapC (e := []) hl]
  show val (indV M (subTab M S) S fs (rep M (cIdx M x))) t = _
  rw [← ind_conj G hS hf lf r3 hk t, e]
theorem res_cls (G : IsGrp M) (hS : SubOk M S) {j : Nat} (hj : j < S.length) : cVal (subTab M S) (resM M S gs) j = cVal M gs (S.getD j 0) := by
  have G' := subTab_grp G hS
  have hj' : j < (subTab M S).length := by rw [subTab_len]; exact hj
  have hl := cIdx_lt G' hj'
  obtain ⟨_, _, r3, r4⟩ := rep_mem G' hl
  obtain ⟨k, hk, e⟩ := same_conj G' hj' r3 r4.symm
  have e1 : cVal (subTab M S) (resM M S gs) j = cVal M gs (S.getD (rep (subTab M S) (cIdx (subTab M S) j)) 0) := by
    unfold cVal
    unfold resM
    rw [getD_mapC (e := []) hl]
    rfl
  rw [subTab_len] at hk
  rw [e1, ← e, hS.conjg G hj hk, cVal_conj G gs (hS.glt hj) (hS.glt hk)]
theorem resM_canon (G : IsGrp M) (hS : SubOk M S) (hg : ∀ c ∈ gs, Canon c) (lg : gs.length = (clsM M).length) : ∀ c ∈ resM M S gs, Canon c := fun c hc => by
  obtain ⟨k, hk, rfl⟩ := List.mem_map.mp hc
  have G' := subTab_grp G hS
  obtain ⟨i, hi, e⟩ := List.mem_iff_getElem.mp hk
  have r := rep_mem G' hi
  have er : k.getD 0 0 = rep (subTab M S) i := by
    unfold rep
    rw [List.getD_eq_getElem?_getD (l := clsM (subTab M S)), List.getElem?_eq_getElem hi]
    show k.getD 0 0 = ((clsM (subTab M S))[i]).getD 0 0
    rw [e]
  rw [er]
  have r3 := r.2.2.1
  rw [subTab_len] at r3
  exact cVal_canon G hg lg (hS.glt r3)
theorem filter_sub (hS : SubOk M S) : ((List.range M.length).filter fun y => decide (y ∈ S)).Perm S :=
  (List.perm_ext_iff_of_nodup (List.Pairwise.filter _ List.nodup_range) hS.nd).mpr fun y => by
    rw [List.mem_filter, List.mem_range]
    exact ⟨fun h => of_decide_eq_true h.2, fun h => ⟨hS.lt y h, decide_eq_true h⟩⟩
theorem Op_if (b : Cyc) (p : Prop) [Decidable p] (v : Nat → Rat) (i : Nat) : Op b (fun t => if p then v t else 0) i = if p then Op b v i else 0 := by
  by_cases h : p
  · simp only [if_pos h]
  · simp only [if_neg h]
    exact Op_zero b i
/-- Frobenius: the inner products in both groups agree -/
theorem frob_val (G : IsGrp M) (hS : SubOk M S) (hf : ∀ c ∈ fs, Canon c) (lf : fs.length = (clsM (subTab M S)).length) (hg : ∀ c ∈ gs, Canon c) (lg : gs.length = (clsM M).length) {t : Nat} (ht : t < 16) :
    val (innM M (indM M S fs) gs) t = val (innM (subTab M S) fs (resM M S gs)) t := by
  have G' := subTab_grp G hS
  rw [inn_val G (indM_canon G hS hf lf) hg (indM_len M S fs) lg ht, inn_val G' hf (resM_canon G hS hg lg) lf (resM_len M S gs) ht]
  obtain ⟨ψ, hψ⟩ : ∃ ψ : Nat → Rat, ψ = fun y => if decide (y ∈ S) = true then Op (mirM (cVal M gs y)) (val (cVal (subTab M S) fs (S.idxOf y))) t else 0 := ⟨_, rfl⟩
  have n0 : (((M.length : Nat) : Int) : Rat) ≠ 0 := low_ne G.pos
  have s0 : (((S.length : Nat) : Int) : Rat) ≠ 0 := low_ne hS.pos
  have e1 : lsum (List.range M.length) (fun x => Op (mirM (cVal M gs x)) (val (cVal M (indM M S fs) x)) t) = lsum (List.range M.length) (fun x => (((S.length : Nat) : Int) : Rat)⁻¹ * lsum (List.range M.length) fun g => ψ (conj M x g)) := by
    refine lsum_congr fun x hx => ?_
    have hx' := List.mem_range.mp hx
    rw [Op_congr (w := fun s => (((S.length : Nat) : Int) : Rat)⁻¹ * lsum (List.range M.length) fun g => if decide (conj M x g ∈ S) = true then val (cVal (subTab M S) fs (S.idxOf (conj M x g))) s else 0) _ (fun s _ => by
      rw [ind_cls G hS hf lf hx' s, ind_val G hS hf lf, Rat.div_def, Rat.mul_comm]), Op_mul, Op_lsum]
    congr 1
    refine lsum_congr fun g hg' => ?_
    rw [hψ, Op_if]
    show _ = if decide (conj M x g ∈ S) = true then Op (mirM (cVal M gs (conj M x g))) _ t else 0
    rw [cVal_conj G gs hx' (List.mem_range.mp hg')]
  have e2 : lsum (List.range M.length) (fun x => lsum (List.range M.length) fun g => ψ (conj M x g)) = (((M.length : Nat) : Int) : Rat) * lsum (List.range M.length) ψ := by
    rw [lsum_swap, lsum_const (c := lsum (List.range M.length) ψ) (fun g hg' => ?_), List.length_range]
    exact (lsum_map (fun x => conj M x g) ψ (List.range M.length)).symm.trans (lsum_perm (conj_perm G (List.mem_range.mp hg')))
  have e3 : lsum (List.range M.length) ψ = lsum (List.range (subTab M S).length) (fun j => Op (mirM (cVal (subTab M S) (resM M S gs) j)) (val (cVal (subTab M S) fs j)) t) := by
    rw [hψ, ← lsum_filter, lsum_perm (filter_sub hS), subTab_len, ← lsum_index _ S 0]
    refine lsum_congr fun j hj => ?_
    have hj' := List.mem_range.mp hj
    rw [res_cls G hS hj', idxN_get hS.nd hj']
  rw [e1, lsum_mul, e2, ← e3, subTab_len]
  generalize lsum (List.range M.length) ψ = L
  generalize (((M.length : Nat) : Int) : Rat) = a at n0 ⊢
  generalize (((S.length : Nat) : Int) : Rat) = b at s0 ⊢
  grind
theorem frob (G : IsGrp M) (hS : SubOk M S) (hf : ∀ c ∈ fs, Canon c) (lf : fs.length = (clsM (subTab M S)).length) (hg : ∀ c ∈ gs, Canon c) (lg : gs.length = (clsM M).length) :
    innM M (indM M S fs) gs = innM (subTab M S) fs (resM M S gs) :=
  val_uniq (inn_canon G (indM_canon G hS hf lf) hg (indM_len M S fs) lg) (inn_canon (subTab_grp G hS) hf (resM_canon G hS hg lg) lf (resM_len M S gs)) fun t ht => frob_val G hS hf lf hg lg ht
end
theorem scaled_over {c : Cyc} {n : Nat} (C : Canon c) (hn : 0 < n) : scaledM (overM c n) n = c := by
  refine val_uniq (scaled_canon (over_canon C hn)) C fun t _ => ?_
  rw [val_scaled (over_canon C hn), val_over C hn]
  have n0 : (((n : Nat) : Int) : Rat) ≠ 0 := low_ne hn
  generalize (((n : Nat) : Int) : Rat) = a at n0 ⊢
  grind
end L2.KL
set_option Elab.async false
set_option linter.all false
set_option maxRecDepth 100000
set_option maxHeartbeats 4000000
namespace L2.KL
open PySem PySem.Spec PyProof.Rows PySem.W
local macro_rules | `(tactic| walk_at "hp") => `(tactic| first
  | assumption)
local macro_rules | `(tactic| walk_at "cl") => `(tactic| first
  | (with_reducible rfl)
  | (apply exL; walk_at "hp")
  | (apply sz_nat; simp only [List.length_map, List.length_append, List.length_cons, List.length_nil]; omega))
local macro_rules | `(tactic| walk_at "r1") => `(tactic| first
  | (with_reducible refine rd_seq ?_)
  | ((with_reducible apply rd_var); (· exact rfl))
  | (with_reducible refine rd_c ?_)
  | (with_reducible refine rd_op ?_)
  | (with_reducible refine rd_cb ?_)
  | (with_reducible refine rd_cons ?_)
  | (with_reducible refine rd_nil ?_)
  | (with_reducible refine rd_lst ?_)
  | (with_reducible refine rd_asg ?_)
  | (with_reducible refine rd_name ?_)
  | (with_reducible refine rd_ret ?_)
  | (with_reducible refine rd_if ?_)
  | (with_reducible refine rd_test ?_)
  | (with_reducible refine rd_next ?_)
  | (with_reducible refine rd_I0 ?_)
  | ((with_reducible apply rd_I); (· first | assumption | (dsimp only; omega) | omega | (unfold CMul; omega) | (unfold CDiv; omega)))
  | ((with_reducible apply rd_ixL); (· walk_at "hp"); (· walk_at "at"))
  | (with_reducible refine rd_for ?_)
  | (with_reducible refine rd_iList ?_)
  | (with_reducible refine rd_gsub ?_)
  | (with_reducible refine rd_slice ?_)
  | (with_reducible refine rd_part ?_)
  | (with_reducible refine rd_nopart ?_)
  | (with_reducible refine Or.inl ⟨_, rfl, ?_⟩)
  | (with_reducible apply Exists.intro)
  | ((with_reducible refine And.intro ?_ ?_); (· walk_at "cl")))
local macro_rules | `(tactic| walk_at "at") => `(tactic| first
  | exact rfl)
local macro_rules | `(tactic| walk_at "rd") => `(tactic| ((repeat walk_at "r1"); (try dsimp only [List.set])))
def CMulX (i j : Int) : Prop := i.natAbs.log2 + j.natAbs.log2 < 100000000
theorem CMulX.ok {i j : Int} (h : CMulX i j) : IntMulOk i j := by
  have b : ∀ x : Int, Builtin.Int.intBits x ≤ x.natAbs.log2 + 1 := fun x => by
    unfold Builtin.Int.intBits
    split <;> omega
  have h1 := b i
  have h2 := b j
  have h3 : i.natAbs.log2 + j.natAbs.log2 < 100000000 := h
  have e : bitsLine = 134217728 := by decide
  unfold IntMulOk
  intro z
  rw [Bool.and_eq_true] at z
  have z2 := z.2
  unfold Builtin.Int.intTooBig at z2
  have z3 := of_decide_eq_true z2
  rw [e] at z3
  omega
theorem op_mulX {X : Cx} : OpR X (binaryOp .Mult) (rI CMulX fun i j => .int (i * j)) := opI fun _ _ _ _ _ _ _ hc q => mul_int q hc.ok
theorem cmx {a b : Nat} {i j : Int} (h : Lb a i.natAbs) (g : Lb b j.natAbs) (h0 : 0 < a) (h1 : 0 < b) (h9 : a + b ≤ 100000000) : CMulX i j := by
  have x := PySem.Flt.log2_lt_of h0 h
  have y := PySem.Flt.log2_lt_of h1 g
  unfold CMulX
  omega
theorem seed_next {s n a : Nat} (hs : s < 2 ^ a) (hn : n < 2 ^ (a + 20)) : s * 1000003 + n < 2 ^ (a + 22) := by
  rw [Nat.pow_add] at hn ⊢
  have e1 : 2 ^ 20 = 1048576 := rfl
  have e2 : 2 ^ 22 = 4194304 := rfl
  rw [e1] at hn
  rw [e2]
  generalize 2 ^ a = X at hs hn ⊢
  omega
theorem seed_cast (s : Nat) (n : Int) : ((s : Nat) : Int) * 1000003 + (if n < 0 then -n else n) = ((s * 1000003 + n.natAbs : Nat) : Int) := by
  rw [Int.natCast_add, Int.natCast_mul]
  split <;> omega
/-! the script's state: a seed and a running number -/
def StAt (H : Hp) (a : Addr) : Prop := ∃ s t : Nat, H a = some (.lst (natsV [s, t])) ∧ Lb 4000000 s ∧ t < 2147483647
section
variable {P : Program} {w : World} {K : PySem.W.Frag} {mg : Str → Option Value} {base : Heap}
def spTake : Sp := fun vs H Q _ => ∃ (a : Addr) (m : Nat), vs = [.ref a, nV m] ∧ StAt H a ∧ 0 < m ∧ m ≤ 1000 ∧ ∀ v H', v < m → SameX a H H' → StAt H' a → Q (nV v) H'
theorem sc_law_take : FnScope ["_law_state_here", "_law_m", "_law_value"] ["_law_state_here", "_law_m"] HD.d_law_take.scope := ⟨rfl, rfl, rfl, by decide +kernel, rfl, by decide +kernel, by decide +kernel⟩
theorem ok_take (T : Tx K mg) : Ok P w K mg base CX0 1 HD.d_law_take ["_law_state_here", "_law_m"] spTake := by
  have nd := sc_law_take.nd
  refine Ok.mk0 T fn__law_take rfl sc_law_take (fun vs H Q E h => ?_) (fun _ _ _ _ _ _ us hl => match us, hl with | [_, _], _ => rfl) (fun cdv A outer s H vs Q E hr h => ?_)
  · obtain ⟨a, m, rfl, _⟩ := h
    rfl
  · obtain ⟨a, m, rfl, ⟨s0, t, ha, hs, ht⟩, hm, hm9, k⟩ := h
    have lm : Lb 10 m := lb_small hm9
    refine ⟨_, pss_cons
          -- if _law_state_here[0] > 0:
          (ps_if (pt_cmpR op_gt (pe_ix (r := rIxL K) ix_list (pv 0) pe_int (fun _ _ => rfl)) pe_int (nomark _)) (pss_cons
            -- _law_value = int(_law_state_here[0]) % _law_m
            (ps_set (i := 2) nd rfl (.inl rfl) (pe_op op_mod (pe_callTy call_int1 (by rfl) T.b_int (by decide +kernel) (pa_cons (pe_ix (r := rIxL K) ix_list (pv 0) pe_int (fun _ _ => rfl)) pa_nil)) (pv 1)))
           (pss_cons
            -- _law_state_here[0] = _law_state_here[0] // _law_m
            (ps_asg (pe_op op_fdivW (pe_ix (r := rIxL K) ix_list (pv 0) pe_int (fun _ _ => rfl)) (pv 1)) (pg_sub (pv 0) pe_int set_list))
           (pss_one
            -- return _law_value
            (ps_ret (pv 2))))) (pss_nil))
         (pss_cons
          -- _law_state_here[1] = int(_law_state_here[1] * 48271 + 11) % 2147483647
          (ps_asg (pe_op op_mod (pe_callTy call_int1 (by rfl) T.b_int (by decide +kernel) (pa_cons (pe_op op_add (pe_op op_mulX (pe_ix (r := rIxL K) ix_list (pv 0) pe_int (fun _ _ => rfl)) pe_int) pe_int) pa_nil)) pe_int) (pg_sub (pv 0) pe_int set_list))
         (pss_one
          -- return int(_law_state_here[1] // 7) % _law_m
          (ps_ret (pe_op op_mod (pe_callTy call_int1 (by rfl) T.b_int (by decide +kernel) (pa_cons (pe_op op_fdivW (pe_ix (r := rIxL K) ix_list (pv 0) pe_int (fun _ _ => rfl)) pe_int) pa_nil)) (pv 1))))), ?_⟩
    try dsimp only [cxOf, Cx.wish]
    walk_at "rd"
    have hm0 : (0 : Int) < (m : Int) := by omega
    have eM : (2147483647 : Int) = ((2147483647 : Nat) : Int) := rfl
    refine if_d (fun hp => ?_) (fun hp => ?_)
    · have cd : CDivW ((s0 : Nat) : Int) ((m : Nat) : Int) := wide_div hm0 (by rw [Int.natAbs_natCast]; exact lm) (by omega) (by omega)
      walk_at "rd"
      refine rd_set 0 ha rfl (by simp) ?_
      walk_at "rd"
      have e1 : ((s0 : Nat) : Int) % ((m : Nat) : Int) = ((s0 % m : Nat) : Int) := rfl
      have e2 : ((s0 : Nat) : Int) / ((m : Nat) : Int) = ((s0 / m : Nat) : Int) := rfl
      show Q (.int (((s0 : Nat) : Int) % ((m : Nat) : Int))) _
      rw [e1]
      refine k (s0 % m) _ (Nat.mod_lt _ hm) SameX.upd ⟨s0 / m, t, ?_, ?_, ht⟩
      · rw [upd_same]
        rfl
      · exact hs.le (Nat.div_le_self _ _)
    · have cm : CMulX ((t : Nat) : Int) 48271 := cmx (a := 31) (b := 16) (by rw [Int.natAbs_natCast]; show t < 2 ^ 31; omega) (by show 48271 < 2 ^ 16; decide) (by omega) (by omega) (by omega)
      walk_at "rd"
      have e1 : (((t : Nat) : Int) * 48271 + 11) % 2147483647 = (((t * 48271 + 11) % 2147483647 : Nat) : Int) := rfl
      rw [e1]
      have hlt : (t * 48271 + 11) % 2147483647 < 2147483647 := Nat.mod_lt _ (by omega)
      generalize (t * 48271 + 11) % 2147483647 = t' at hlt ⊢
      refine rd_set 1 ha rfl (by simp) ?_
      have ha2 : upd H a (.lst ((natsV [s0, t]).set 1 (.int ((t' : Nat) : Int)))) a = some (.lst (natsV [s0, t'])) := by
        rw [upd_same]
        rfl
      have sX : SameX a H (upd H a (.lst ((natsV [s0, t]).set 1 (.int ((t' : Nat) : Int))))) := SameX.upd
      generalize upd H a (.lst ((natsV [s0, t]).set 1 (.int ((t' : Nat) : Int)))) = H2 at ha2 sX ⊢
      have cd : CDivW ((t' : Nat) : Int) 7 := wide_div (b := 3) (by omega) (by decide) (by omega) (by omega)
      walk_at "rd"
      have e3 : ((t' : Nat) : Int) / 7 % ((m : Nat) : Int) = ((t' / 7 % m : Nat) : Int) := rfl
      show Q (.int (((t' : Nat) : Int) / 7 % ((m : Nat) : Int))) _
      rw [e3]
      exact k (t' / 7 % m) _ (Nat.mod_lt _ hm) sX ⟨s0, t', ha2, hs, hlt⟩
/-- the state made of a script -/
def spState (K : PySem.W.Frag) : Sp := fun vs H Q _ => ∃ (a : Addr) (ns : List Int), vs = [.ref a] ∧ SqL K H a (intsV ns) ∧ ns.length ≤ 63 ∧ (∀ n ∈ ns, Lb 1048576 n.natAbs) ∧ ∀ p H', H p = none → Same H H' → StAt H' p → Q (.ref p) H'
theorem sc_law_state : FnScope ["_law_script", "_law_seed", "_law_total", "_law_cell"] ["_law_script"] HD.d_law_state.scope := ⟨rfl, rfl, rfl, by decide +kernel, rfl, by decide +kernel, by decide +kernel⟩
theorem ok_state (T : Tx K mg) : Ok P w K mg base CX0 1 HD.d_law_state ["_law_script"] (spState K) := by
  have nd := sc_law_state.nd
  refine Ok.mk0 T fn__law_state rfl sc_law_state (fun vs H Q E h => ?_) (fun _ _ _ _ _ _ us hl => match us, hl with | [_], _ => rfl) (fun cdv A outer s H vs Q E hr h => ?_)
  · obtain ⟨a, ns, rfl, _⟩ := h
    rfl
  · obtain ⟨a, ns, rfl, ha, h63, hb, k⟩ := h
    refine ⟨_, pss_cons
          -- _law_seed = 0
          (ps_set (i := 1) nd rfl (.inl rfl) pe_int)
         (pss_cons
          -- _law_total = 1
          (ps_set (i := 2) nd rfl (.inl rfl) pe_int)
         (pss_cons
          -- for _law_cell in _law_script[:63]:
          (ps_for PassesOwn.never rfl (pi_list (pe_slice (r := rSlL K) sl_list (pv 0) po_none (po_some pe_int))) (pg_name (i := 3) nd rfl (.inl rfl)) (pss_cons
            -- _law_seed = _law_seed * 1000003 + abs(_law_cell)
            (ps_set (i := 1) nd rfl (.inl rfl) (pe_op op_add (pe_op op_mulX (pv 1) pe_int) (pe_callB call_abs (by rfl) T.b_abs (by decide +kernel) (pa_cons (pv 3) pa_nil))))
           (pss_one
            -- _law_total = int(_law_total * 48271 + _law_cell) % 2147483647
            (ps_set (i := 2) nd rfl (.inl rfl) (pe_op op_mod (pe_callTy call_int1 (by rfl) T.b_int (by decide +kernel) (pa_cons (pe_op op_add (pe_op op_mulX (pv 2) pe_int) (pv 3)) pa_nil)) pe_int)))))
         (pss_one
          -- return [_law_seed, _law_total]
          (ps_ret (pe_lst (pa_cons (pv 1) (pa_cons (pv 2) pa_nil))))))), ?_⟩
    try dsimp only [cxOf, Cx.wish]
    walk_at "rd"
    refine ⟨a, _, rfl, ha, fun b hb0 => ?_⟩
    have hcut : cutV (intsV ns) none (some 63) = intsV ns := by
      show cutV (intsV ns) none (some ((63 : Nat) : Int)) = _
      rw [cut_take, List.take_of_length_le h63]
    rw [hcut]
    have hbl : upd H b (.lst (intsV ns)) b = some (.lst (intsV ns)) := upd_same
    have s1 : Same H (upd H b (.lst (intsV ns))) := Same.new hb0
    generalize upd H b (.lst (intsV ns)) = H1 at hbl s1 ⊢
    walk_at "rd"
    refine fj_list (xs := intsV ns) (fun i σ H' => ∃ (s t : Nat) (v3 : Option V), σ = [some (.ref a), some (nV s), some (nV t), v3] ∧ Same H1 H' ∧ Lb (1048577 + 22 * i) s ∧ t < 2147483647) ⟨0, 1, _, rfl, Same.refl _, Nat.pow_pos (by omega), by omega⟩
      (fun i σ H' _ z => by obtain ⟨_, _, _, _, s, _⟩ := z; exact SqL.of (s _ _ hbl)) ?_ ?_
    · rintro i x σ H2 hx ⟨s0, t, v3, rfl, s2, hs, ht⟩
      obtain ⟨n, rfl, hn⟩ := ints_get hx
      have hnb := hb n (List.mem_of_getElem? hn)
      have hi63 : i < 63 := by
        have := (List.getElem?_eq_some_iff.mp hn).1
        omega
      have c1 : CMulX ((s0 : Nat) : Int) 1000003 := cmx (a := 1048577 + 22 * i) (b := 20) (by rw [Int.natAbs_natCast]; exact hs) (by show 1000003 < 2 ^ 20; decide) (by omega) (by omega) (by omega)
      have c2 : CMulX ((t : Nat) : Int) 48271 := cmx (a := 31) (b := 16) (by rw [Int.natAbs_natCast]; show t < 2 ^ 31; omega) (by show 48271 < 2 ^ 16; decide) (by omega) (by omega) (by omega)
      walk_at "rd"
      have e1 := seed_cast s0 n
      have hr0 : 0 ≤ (((t : Nat) : Int) * 48271 + n) % 2147483647 := Int.emod_nonneg _ (by omega)
      have hr1 : (((t : Nat) : Int) * 48271 + n) % 2147483647 < 2147483647 := Int.emod_lt_of_pos _ (by omega)
      obtain ⟨t', ht'⟩ : ∃ t' : Nat, (((t : Nat) : Int) * 48271 + n) % 2147483647 = ((t' : Nat) : Int) := ⟨_, (Int.toNat_of_nonneg hr0).symm⟩
      rw [ht'] at hr1
      refine at_i ⟨s0 * 1000003 + n.natAbs, t', some (.int n), ?_, s2, ?_, by omega⟩
      · rw [e1, ht']
      · have q := seed_next (a := 1048577 + 22 * i) hs (Lb.mono hnb (by omega))
        have e : 1048577 + 22 * i + 22 = 1048577 + 22 * (i + 1) := by omega
        rw [e] at q
        exact q
    · rintro σ H2 ⟨s0, t, v3, rfl, s2, hs, ht⟩
      walk_at "rd"
      intro p hp
      rw [List.length_map] at hs
      refine k p _ (none_of (s1.trans s2) hp) ((s1.trans s2).trans (Same.new hp)) ⟨s0, t, upd_same, hs.mono (by omega), ht⟩
end
end L2.KL
set_option Elab.async false
set_option linter.all false
set_option maxRecDepth 100000
set_option maxHeartbeats 4000000
namespace L2.KL
open PySem PySem.Spec PyProof.Rows PySem.W
local macro_rules | `(tactic| walk_at "hp") => `(tactic| first
  | assumption
  | (with_reducible exact upd_same)
  | (apply upd_old; (· assumption); (· walk_at "hp")))
local macro_rules | `(tactic| walk_at "cl") => `(tactic| first
  | (with_reducible rfl)
  | ((with_reducible show (_ : Int) < _); first | omega | (simp only [List.length_map]; omega))
  | ((with_reducible show (_ : Int) ≤ _); first | omega | (simp only [List.length_map]; omega))
  | (apply tyL; walk_at "hp")
  | (apply Or.inl; apply SqL.of; walk_at "hp")
  | (apply Or.inr; apply SqT.of; walk_at "hp")
  | (apply exL; walk_at "hp")
  | (apply sz_nat; simp only [List.length_map, List.length_append, List.length_cons, List.length_nil]; omega))
local macro_rules | `(tactic| walk_at "r1") => `(tactic| first
  | (with_reducible refine rd_seq ?_)
  | ((with_reducible apply rd_var); (· exact rfl))
  | (with_reducible refine rd_c ?_)
  | (with_reducible refine rd_op ?_)
  | (with_reducible refine rd_cb ?_)
  | (with_reducible refine rd_cons ?_)
  | (with_reducible refine rd_nil ?_)
  | (with_reducible refine rd_call ?_)
  | (with_reducible refine rd_tup ?_)
  | (with_reducible refine rd_lst ?_)
  | (with_reducible refine rd_asg ?_)
  | (with_reducible refine rd_name ?_)
  | (with_reducible refine rd_ret ?_)
  | (with_reducible refine rd_drop ?_)
  | (with_reducible refine rd_if ?_)
  | (with_reducible refine rd_test ?_)
  | (with_reducible refine rd_bm ?_)
  | (with_reducible refine rd_next ?_)
  | (with_reducible refine rd_I0 ?_)
  | ((with_reducible apply rd_ixT); (· walk_at "hp"); (· walk_at "at"))
  | ((with_reducible apply rd_ne); (· exact rfl))
  | (with_reducible refine rd_for ?_)
  | (with_reducible refine rd_iList ?_)
  | (with_reducible refine rd_iRng1 ?_)
  | ((with_reducible apply rd_append); (· walk_at "hp"); (· simp only [List.length_map, List.length_append, List.length_cons, List.length_nil]; omega))
  | (with_reducible refine rd_lc ?_)
  | ((with_reducible apply rd_ninL); (· walk_at "hp"))
  | ((with_reducible apply rd_cat); (· walk_at "hp"); (· walk_at "hp"); (· simp only [List.length_map, List.length_append, List.length_cons, List.length_nil]; omega))
  | (with_reducible refine rd_par ?_)
  | ((with_reducible apply or_tl); (· walk_at "hp"))
  | (with_reducible apply Exists.intro)
  | ((with_reducible refine And.intro ?_ ?_); (· walk_at "cl")))
local macro_rules | `(tactic| walk_at "at") => `(tactic| first
  | (apply at_nats; first | assumption | omega)
  | (apply at_refs; assumption)
  | exact rfl)
local macro_rules | `(tactic| walk_at "rd") => `(tactic| ((repeat walk_at "r1"); (try dsimp only [List.set])))
section
variable {P : Program} {w : World} {K : PySem.W.Frag} {mg : Str → Option Value} {base : Heap}
def spLInv : Sp := fun vs H Q _ => ∃ (t : Addr) (M : Tab) (x : Nat), vs = [.ref t, nV x] ∧ TabAt H t M ∧ x < M.length ∧ 0 ∈ M.getD x [] ∧ ∀ H', Same H H' → Q (nV (inv M x)) H'
theorem sc_law_inverse : FnScope ["_law_table", "_law_x"] ["_law_table", "_law_x"] HD.d_law_inverse.scope := ⟨rfl, rfl, rfl, by decide +kernel, rfl, by decide +kernel, by decide +kernel⟩
theorem ok_linv (T : Tx K mg) : Ok P w K mg base CX0 1 HD.d_law_inverse ["_law_table", "_law_x"] spLInv := by
  have nd := sc_law_inverse.nd
  refine Ok.mk0 T fn__law_inverse rfl sc_law_inverse (fun vs H Q E h => ?_) (fun _ _ _ _ _ _ us hl => match us, hl with | [_, _], _ => rfl) (fun cdv A outer s H vs Q E hr h => ?_)
  · obtain ⟨t, M, x, rfl, _⟩ := h
    rfl
  · obtain ⟨t, M, x, rfl, ht, hx, hz, k⟩ := h
    obtain ⟨rs, r, h1, h2, h3⟩ := ht.row hx
    refine ⟨_, pss_one
          -- return list(_law_table[_law_x]).index(0)
          (ps_ret (pe_bm PySem.F.plainAttrs_list PySem.F.slot_list_index PySem.F.type_list_index mt_index (pe_callTy call_list_of (by rfl) T.b_list (by decide +kernel) (pa_cons (pe_ix (r := rIxT K) ix_tup (pv 0) (pv 1) (fun _ _ => rfl)) pa_nil)) (pa_cons pe_int pa_nil))), ?_⟩
    try dsimp only [cxOf, Cx.wish]
    walk_at "rd"
    intro l hl
    walk_at "rd"
    exact rd_index upd_same rfl (flat_nats _) (idx_nats hz) rfl (fun m z' h e => idx_first m z' h e) (k _ (Same.new hl))
def spLOrd : Sp := fun vs H Q _ => ∃ (t : Addr) (M : Tab) (x n : Nat), vs = [.ref t, nV x] ∧ TabAt H t M ∧ Sq M ∧ x < M.length ∧ OrdIs M x n ∧ ∀ H', Same H H' → Q (nV n) H'
theorem sc_law_order : FnScope ["_law_table", "_law_x", "_law_total", "_law_k"] ["_law_table", "_law_x"] HD.d_law_order.scope := ⟨rfl, rfl, rfl, by decide +kernel, rfl, by decide +kernel, by decide +kernel⟩
theorem ok_lord (T : Tx K mg) : Ok P w K mg base CX0 1 HD.d_law_order ["_law_table", "_law_x"] spLOrd := by
  have nd := sc_law_order.nd
  refine Ok.mk0 T fn__law_order rfl sc_law_order (fun vs H Q E h => ?_) (fun _ _ _ _ _ _ us hl => match us, hl with | [_, _], _ => rfl) (fun cdv A outer s H vs Q E hr h => ?_)
  · obtain ⟨t, M, x, n, rfl, _⟩ := h
    rfl
  · obtain ⟨t, M, x, n, rfl, ht, S, hx, ho, k⟩ := h
    refine ⟨_, pss_cons
          -- _law_total, _law_k = (_law_x, 1)
          (ps_par (i := 2) (j := 3) (by rfl) nd rfl rfl (by decide) rfl rfl (pa_cons (pv 1) (pa_cons pe_int pa_nil)) (by rfl))
         (pss_cons
          -- while _law_total != 0:
          (ps_while PassesOwn.never (pt_cmpR op_ne (pv 2) pe_int (nomark _)) (pss_cons
            -- _law_total = _law_table[_law_total][_law_x]
            (ps_set (i := 2) nd rfl (.inl rfl) (pe_ix (r := rIxT K) ix_tup (pe_ix (r := rIxT K) ix_tup (pv 0) (pv 2) (fun _ _ => rfl)) (pv 1) (fun _ _ => rfl)))
           (pss_one
            -- _law_k = _law_k + 1
            (ps_set (i := 3) nd rfl (.inl rfl) (pe_op op_add (pv 3) pe_int)))))
         (pss_one
          -- return _law_k
          (ps_ret (pv 3)))), ?_⟩
    try dsimp only [cxOf, Cx.wish]
    walk_at "rd"
    have h1 := ho.one
    refine wh (fun m σ H' => ∃ j : Nat, m = n - 1 - j ∧ σ = [some (.ref t), some (nV x), some (nV (pw M x j)), some (nV (j + 1))] ∧ H' = H ∧ j ≤ n - 1) (n - 1) ⟨0, rfl, rfl, rfl, Nat.zero_le _⟩ ?_
    rintro m σ H' ⟨j, rfl, rfl, rfl, hj⟩
    walk_at "rd"
    refine if_ne (fun hne => ?_) (fun he => ?_)
    · have hj2 : j < n - 1 := by
        rcases Nat.lt_or_ge j (n - 1) with z | z
        · exact z
        · have e : j = n - 1 := by omega
          rw [e, ho.zero] at hne
          exact absurd rfl hne
      refine wstep ?_
      have hy := pw_lt S hx j
      obtain ⟨rs, r, g1, g2, g3⟩ := ht.row hy
      have hl := S.row _ hy
      walk_at "rd"
      refine wn (n - 1 - (j + 1)) (by omega) ⟨j + 1, rfl, rfl, rfl, by omega⟩
    · walk_at "rd"
      have e : j = n - 1 := by
        rcases Nat.lt_or_ge j (n - 1) with z | z
        · exact absurd (by omega) (ho.least j z)
        · omega
      have e2 : j + 1 = n := by omega
      rw [e2]
      exact k _ (Same.refl _)
theorem rd_sortC {K : PySem.W.Frag} {H : Hp} {a : Addr} {Q : VK} {M : Tab} {L : List Nat} {x : Nat} (G : IsGrp M) (hx : x < M.length) (h : H a = some (.lst (natsV L))) (hL : L.Perm (clsOf M x)) (hn : L.length < 64) (k : ∀ p, H p = none → Q (.ref p) (upd H p (.lst (natsV (clsOf M x))))) : rSorted K [.ref a] H Q := by
  rw [nats_ints] at h
  refine ⟨a, _, rfl, SqL.of h, by rw [List.length_map]; exact hn, fun ns' p h1 h2 hp0 => ?_⟩
  rw [sorted_cls G hx hL h1 h2]
  have := k p hp0
  rw [nats_ints] at this
  exact this
/-! the law's own table of classes -/
def spLCls : Sp := fun vs H Q _ => ∃ (t : Addr) (M : Tab), vs = [.ref t] ∧ TabAt H t M ∧ IsGrp M ∧ ∀ (l : Addr) (us : List Addr) (H' : Hp), H l = none → Same H H' → H' l = some (.lst (refsV us)) → us.length = (clsM M).length → (∀ (i : Nat) (u : Addr) (row : List Nat), us[i]? = some u → (clsM M)[i]? = some row → H' u = some (.tup (natsV row))) → Q (.ref l) H'
theorem sc_law_classes : FnScope ["_law_table", "_law_seen", "_law_keys", "_law_x", "_law_found", "_law_g", "_law_y", "_law_key"] ["_law_table"] HD.d_law_classes.scope := ⟨rfl, rfl, rfl, by decide +kernel, rfl, by decide +kernel, by decide +kernel⟩
theorem ok_lcls (T : Tx K mg) : Ok P w K mg base CX0 2 HD.d_law_classes ["_law_table"] spLCls := by
  have G_law_inverse : Ok P w K mg base CX0 1 _ _ _ := ok_linv T
  have G_law_order : Ok P w K mg base CX0 1 _ _ _ := ok_lord T
  have nd := sc_law_classes.nd
  refine Ok.mk0 T fn__law_classes rfl sc_law_classes (fun vs H Q E h => ?_) (fun _ _ _ _ _ _ us hl => match us, hl with | [_], _ => rfl) (fun cdv A outer s H vs Q E hr h => ?_)
  · obtain ⟨t, M, rfl, _⟩ := h
    rfl
  · obtain ⟨t, M, rfl, ht, G, k⟩ := h
    have hM := G.le
    have hM1 := G.pos
    obtain ⟨rs, h1, h2, h3⟩ := id ht
    refine ⟨_, pss_cons
          -- _law_seen = []
          (ps_set (i := 1) nd rfl (.inl rfl) (pe_lst pa_nil))
         (pss_cons
          -- _law_keys = []
          (ps_set (i := 2) nd rfl (.inl rfl) (pe_lst pa_nil))
         (pss_cons
          -- for _law_x in range(len(_law_table)):
          (ps_for PassesOwn.never rfl (pi_range1 (by rfl) T.b_range (pa_cons (pe_callB call_len_seq (by rfl) T.b_len (by decide +kernel) (pa_cons (pv 0) pa_nil)) pa_nil)) (pg_name (i := 3) nd rfl (.inl rfl)) (pss_one
            -- if _law_x not in _law_seen:
            (ps_if (pt_cmpR (r := rIn K true) op_notIn_seq (pv 3) (pv 1) (by rfl)) (pss_cons
              -- _law_found = []
              (ps_set (i := 4) nd rfl (.inl rfl) (pe_lst pa_nil))
             (pss_cons
              -- for _law_g in range(len(_law_table)):
              (ps_for PassesOwn.never rfl (pi_range1 (by rfl) T.b_range (pa_cons (pe_callB call_len_seq (by rfl) T.b_len (by decide +kernel) (pa_cons (pv 0) pa_nil)) pa_nil)) (pg_name (i := 5) nd rfl (.inl rfl)) (pss_cons
                -- _law_y = _law_table[_law_table[_law_inverse(_law_table, _law_g)][_law_x]][_law_g]
                (ps_set (i := 6) nd rfl (.inl rfl) (pe_ix (r := rIxT K) ix_tup (pe_ix (r := rIxT K) ix_tup (pv 0) (pe_ix (r := rIxT K) ix_tup (pe_ix (r := rIxT K) ix_tup (pv 0) (pe_f (G_law_inverse) (hr.mono (by decide)) T.g_law_inverse pass0 (pa_cons (pv 0) (pa_cons (pv 5) pa_nil))) (fun _ _ => rfl)) (pv 3) (fun _ _ => rfl)) (fun _ _ => rfl)) (pv 5) (fun _ _ => rfl)))
               (pss_one
                -- if _law_y not in _law_found:
                (ps_if (pt_cmpR (r := rIn K true) op_notIn_seq (pv 6) (pv 4) (by rfl)) (pss_one
                  -- _law_found.append(_law_y)
                  (ps_expr (pe_bm PySem.F.plainAttrs_list PySem.F.slot_list_append PySem.F.type_list_append mt_append (pv 4) (pa_cons (pv 6) pa_nil)))) (pss_nil)))))
             (pss_cons
              -- _law_seen = _law_seen + _law_found
              (ps_set (i := 1) nd rfl (.inl rfl) (pe_op op_cat (pv 1) (pv 4)))
             (pss_one
              -- _law_keys.append((_law_order(_law_table, _law_x), len(_law_found), tuple(sorted(_law_found))))
              (ps_expr (pe_bm PySem.F.plainAttrs_list PySem.F.slot_list_append PySem.F.type_list_append mt_append (pv 2) (pa_cons (pe_tup (pa_cons (pe_f (G_law_order) (hr.mono (by decide)) T.g_law_order pass0 (pa_cons (pv 0) (pa_cons (pv 3) pa_nil))) (pa_cons (pe_callB call_len_seq (by rfl) T.b_len (by decide +kernel) (pa_cons (pv 4) pa_nil)) (pa_cons (pe_callTy call_tuple_of (by rfl) T.b_tuple (by decide +kernel) (pa_cons (pe_callB cr_sorted (by rfl) T.b_sorted (by decide +kernel) (pa_cons (pv 4) pa_nil)) pa_nil)) pa_nil)))) pa_nil))))))) (pss_nil))))
         (pss_one
          -- return [_law_key[2] for _law_key in sorted(_law_keys)]
          (ps_ret (pe_lc (own := [("_law_key", 7)]) (g := gName 7) (tt := tYes) (by rfl) nd (pi_listK (K := K) (pe_callB (cr_sortedDL hr.units) (by rfl) T.b_sorted (by decide +kernel) (pa_cons (pv 2) pa_nil))) (blkOk_by (own := [("_law_key", 7)]) (N := ["_law_table", "_law_seen", "_law_keys", "_law_x", "_law_found", "_law_g", "_law_y", "_law_key"]) (sc := HD.d_law_classes.scope) (by decide +kernel)) (fun _ _ _ _ _ => (pg_name (i := 7) nd rfl (.inl rfl))) (fun _ _ _ _ _ => pts_nil) (fun _ _ _ _ _ => (pe_ix (r := rIxT K) ix_tup (pv 7) pe_int (fun _ _ => rfl)))))))), ?_⟩
    try dsimp only [cxOf, Cx.wish]
    walk_at "rd"
    intro d hd
    walk_at "rd"
    intro l hl
    walk_at "rd"
    have hdl : d ≠ l := by
      rintro rfl
      rw [upd_same] at hl
      cases hl
    have hl0 : H l = none := none_of (Same.new hd) hl
    have s1 : Same H (upd (upd H d (.lst [])) l (.lst [])) := (Same.new hd).trans (Same.new hl)
    have hd1 : upd (upd H d (.lst [])) l (.lst []) d = some (.lst (natsV [])) := upd_old hl upd_same
    have hl1 : upd (upd H d (.lst [])) l (.lst []) l = some (.lst (refsV [])) := upd_same
    generalize upd (upd H d (.lst [])) l (.lst []) = H1 at s1 hd1 hl1 ⊢
    have ht1 := s1 _ _ h1
    walk_at "rd"
    rw [List.length_map, h2]
    refine fj_range M.length (fun x σ H' => ∃ (sd : Addr) (seen : List Nat) (ts : List Addr) (v3 v4 v5 v6 : Option V), σ = [some (.ref t), some (.ref sd), some (.ref l), v3, v4, v5, v6, none] ∧ Same H H' ∧ sd ≠ l ∧ H' sd = some (.lst (natsV seen)) ∧ H' l = some (.lst (refsV ts)) ∧
      AllAt KeyR H' ts (keysGo M x) ∧ seen.length ≤ 60 * x ∧ ∀ y, y ∈ seen ↔ ∃ k ∈ keysGo M x, y ∈ k.2.2)
      ⟨d, [], [], none, none, none, none, rfl, s1, hdl, hd1, hl1, AllAt.nil, Nat.zero_le _, fun y => ⟨fun h => absurd h List.not_mem_nil, fun ⟨k, h, _⟩ => absurd h List.not_mem_nil⟩⟩ ?_ ?_
    · rintro x σ H3 hx ⟨sd, seen, ts, v3, v4, v5, v6, rfl, s3, hsl, hd3, hl3, hA, hsn, hsm⟩
      have htl := hA.1
      have hkl := keys_len M x
      walk_at "rd"
      by_cases hm : x ∈ seen
      · rw [decide_eq_true hm]
        refine if_bF (by simp) ?_
        walk_at "rd"
        have ek : keysGo M (x + 1) = keysGo M x := by
          show (if _ then _ else _) = _
          rw [if_pos (any_mem.mpr ((hsm x).mp hm))]
        refine at_i ⟨sd, seen, ts, _, _, _, _, rfl, s3, hsl, hd3, hl3, ?_, by omega, ?_⟩
        · rw [ek]
          exact hA
        · rw [ek]
          exact hsm
      · rw [decide_eq_false hm]
        refine if_bT (by simp) ?_
        have ek : keysGo M (x + 1) = keysGo M x ++ [(ordF M x, (clsOf M x).length, clsOf M x)] := by
          show (if _ then _ else _) = _
          rw [if_neg (fun z => hm ((hsm x).mpr (any_mem.mp z)))]
        walk_at "rd"
        intro f hf
        have hf0 : H f = none := none_of s3 hf
        have ht4 : upd H3 f (.lst []) t = some (.tup (refsV rs)) := upd_old hf (s3 _ _ h1)
        have sX4 : SameX f H3 (upd H3 f (.lst [])) := SameX.upd
        have hf4 : upd H3 f (.lst []) f = some (.lst (natsV [])) := upd_same
        have sfd : sd ≠ f := by
          rintro rfl
          rw [hf] at hd3
          cases hd3
        have sfl : l ≠ f := by
          rintro rfl
          rw [hf] at hl3
          cases hl3
        have sft : t ≠ f := by
          rintro rfl
          rw [hf0] at h1
          cases h1
        have sfr : ∀ (i : Nat) (r : Addr), rs[i]? = some r → r ≠ f := by
          rintro i r hr rfl
          have hi : i < M.length := by
            have := (List.getElem?_eq_some_iff.mp hr).1
            omega
          obtain ⟨r', e1, e2⟩ := row_of h2 h3 hi
          rw [hr] at e1
          rw [Option.some.inj e1, ] at hf0
          rw [hf0] at e2
          cases e2
        generalize upd H3 f (.lst []) = H4 at ht4 sX4 hf4 ⊢
        walk_at "rd"
        rw [List.length_map, h2]
        refine fj_range M.length (fun g σ H' => ∃ (v5 v6 : Option V), σ = [some (.ref t), some (.ref sd), some (.ref l), some (nV x), some (.ref f), v5, v6, none] ∧ SameX f H3 H' ∧ H' f = some (.lst (natsV (orbL M x g)))) ⟨_, _, rfl, sX4, hf4⟩ ?_ ?_
        · rintro g σ H5 hg ⟨v5, v6, rfl, s5, hf5⟩
          have ht5 : H5 t = some (.tup (refsV rs)) := s5 _ _ sft (s3 _ _ h1)
          have hrow : ∀ i, i < M.length → ∃ r : Addr, rs[i]? = some r ∧ H5 r = some (.tup (natsV (M.getD i []))) := fun i hi => by
            obtain ⟨r, e1, e2⟩ := row_of h2 h3 hi
            exact ⟨r, e1, s5 _ _ (sfr i r e1) (s3 _ _ e2)⟩
          have hT5 : TabAt H5 t M := ⟨rs, ht5, h2, fun i r row a b => s5 _ _ (sfr i r a) (s3 _ _ (h3 i r row a b))⟩
          have hig := inv_lt G hg
          have hax : tm M (inv M g) x < M.length := G.sq.lt _ _ hig hx
          obtain ⟨r1, ea1, ea2⟩ := hrow _ hig
          obtain ⟨r2, eb1, eb2⟩ := hrow _ hax
          have l1 := G.sq.row _ hig
          have l2 := G.sq.row _ hax
          walk_at "rd"
          refine ⟨t, M, g, rfl, hT5, hg, G.iv g hg, fun H6 s6 => ?_⟩
          have ht6 := s6 _ _ ht5
          have ea6 := s6 _ _ ea2
          have eb6 := s6 _ _ eb2
          have hf6 := s6 _ _ hf5
          walk_at "rd"
          have ey : (List.getD M (tm M (inv M g) x) []).getD g 0 = conj M x g := G.as_ (inv M g) x g hig hx hg
          rw [ey]
          have hol : (orbL M x g).length ≤ 60 := Nat.le_trans (nodup_le (orbL_nodup M x g) fun y hy => by
            obtain ⟨k, hk, e⟩ := orbL_mem.mp hy
            rw [← e]
            exact conj_lt G hx (by omega)) hM
          by_cases hc : conj M x g ∈ orbL M x g
          · rw [decide_eq_true hc]
            refine if_bF (by simp) ?_
            walk_at "rd"
            refine at_i ⟨_, _, rfl, s5.trans (SameX.of s6), ?_⟩
            rw [orbL_succ]
            unfold addK
            rw [if_pos hc]
            exact hf6
          · rw [decide_eq_false hc]
            refine if_bT (by simp) ?_
            walk_at "rd"
            refine at_i ⟨_, _, rfl, (s5.trans (SameX.of s6)).trans SameX.upd, ?_⟩
            rw [orbL_succ]
            unfold addK
            rw [if_neg hc, upd_same, snoc_nats]
        · rintro σ H5 ⟨v5, v6, rfl, s5, hf5⟩
          have ht5 : H5 t = some (.tup (refsV rs)) := s5 _ _ sft (s3 _ _ h1)
          have hsd5 : H5 sd = some (.lst (natsV seen)) := s5 _ _ sfd hd3
          have hl5 : H5 l = some (.lst (refsV ts)) := s5 _ _ sfl hl3
          have hol := nodup_le (orbL_nodup M x M.length) (orbL_lt G hx)
          walk_at "rd"
          intro sp hsp
          have cml : (clsOf M x).length ≤ M.length := nodup_le (clsOf_nodup M x) fun y hy => (clsOf_mem.mp hy).1
          have cat : natsV seen ++ natsV (orbL M x M.length) = natsV (seen ++ orbL M x M.length) := (List.map_append ..).symm
          rw [cat]
          have s56 : Same H5 (upd H5 sp (.lst (natsV (seen ++ orbL M x M.length)))) := Same.new hsp
          have hsp6 : upd H5 sp (.lst (natsV (seen ++ orbL M x M.length))) sp = some (.lst (natsV (seen ++ orbL M x M.length))) := upd_same
          have hspl : sp ≠ l := by
            rintro rfl
            rw [hsp] at hl5
            cases hl5
          have hT5 : TabAt H5 t M := ⟨rs, ht5, h2, fun i r row a b => s5 _ _ (sfr i r a) (s3 _ _ (h3 i r row a b))⟩
          generalize upd H5 sp (.lst (natsV (seen ++ orbL M x M.length))) = H6 at s56 hsp6 ⊢
          have hl6 := s56 _ _ hl5
          have hf6 := s56 _ _ hf5
          walk_at "rd"
          refine ⟨t, M, x, ordF M x, rfl, hT5.fz (Fz.of s56), G.sq, hx, ordF_is G hx, fun H7 s7 => ?_⟩
          have hl7 := s7 _ _ hl6
          have hf7 := s7 _ _ hf6
          walk_at "rd"
          refine rd_sortC G hx hf7 (orb_perm G hx).symm (by omega) fun p2 hp2 => ?_
          have hl8 := upd_old (u := .lst (natsV (clsOf M x))) hp2 hl7
          have hsp8 := upd_old (u := .lst (natsV (clsOf M x))) hp2 (s7 _ _ hsp6)
          have hp28 : upd H7 p2 (.lst (natsV (clsOf M x))) p2 = some (.lst (natsV (clsOf M x))) := upd_same
          have s78 : Same H7 (upd H7 p2 (.lst (natsV (clsOf M x)))) := Same.new hp2
          generalize upd H7 p2 (.lst (natsV (clsOf M x))) = H8 at hl8 hsp8 hp28 s78 ⊢
          walk_at "rd"
          intro tc htc
          walk_at "rd"
          intro t3 ht3
          have hl9 := upd_old (u := .tup [nV (ordF M x), nV (natsV (orbL M x M.length)).length, .ref tc]) ht3 (upd_old (u := .tup (natsV (clsOf M x))) htc hl8)
          have hsp9 := upd_old (u := .tup [nV (ordF M x), nV (natsV (orbL M x M.length)).length, .ref tc]) ht3 (upd_old (u := .tup (natsV (clsOf M x))) htc hsp8)
          walk_at "rd"
          rw [snoc_refs]
          have s35 : Same H3 H5 := fun p o hp => s5 p o (ne_of_none hp hf) hp
          have eol : (natsV (orbL M x M.length)).length = (clsOf M x).length := by rw [List.length_map, (orb_perm G hx).length_eq]
          rw [eol] at hl9 hsp9 ⊢
          have s59 : Same H5 (upd (upd H8 tc (.tup (natsV (clsOf M x)))) t3 (.tup [nV (ordF M x), nV (clsOf M x).length, .ref tc])) := ((s56.trans s7).trans s78).trans ((Same.new htc).trans (Same.new ht3))
          have f10 : Fz (upd (upd H8 tc (.tup (natsV (clsOf M x)))) t3 (.tup [nV (ordF M x), nV (clsOf M x).length, .ref tc])) (upd (upd (upd H8 tc (.tup (natsV (clsOf M x)))) t3 (.tup [nV (ordF M x), nV (clsOf M x).length, .ref tc])) l (.lst (refsV (ts ++ [t3])))) := Fz.upd hl9 rfl
          have fA := (Fz.of (s35.trans s59)).trans f10
          refine at_i ⟨sp, seen ++ orbL M x M.length, ts ++ [t3], _, _, _, _, rfl, Same.mut ((s3.trans s35).trans s59) hl0, hspl, ?_, upd_same, ?_, ?_, fun y => ?_⟩
          · rw [upd_ne hspl]
            exact hsp9
          · rw [ek]
            exact (hA.fz keyR_fm fA).snoc ⟨tc, f10 t3 _ upd_same rfl, f10 _ _ (upd_old ht3 upd_same) rfl⟩
          · rw [List.length_append]
            omega
          · rw [List.mem_append, hsm, ek, ← (orb_perm G hx).mem_iff]
            constructor
            · rintro (⟨k, hk, hy⟩ | hy)
              · exact ⟨k, List.mem_append_left _ hk, hy⟩
              · exact ⟨_, List.mem_append_right _ (.head _), hy⟩
            · rintro ⟨k, hk, hy⟩
              rcases List.mem_append.mp hk with hk | hk
              · exact .inl ⟨k, hk, hy⟩
              · have e : k = (ordF M x, (clsOf M x).length, clsOf M x) := by simpa using hk
                rw [e] at hy
                exact .inr hy
    · rintro σ H3 ⟨sd, seen, ts, v3, v4, v5, v6, rfl, s3, hsl, hd3, hl3, hA, hsn, hsm⟩
      have hkl := keys_len M M.length
      walk_at "rd"
      refine rd_sortK hl3 hA (by omega) fun o rs2 ho hrs => ?_
      walk_at "rd"
      have so : Same H3 (upd H3 o (.lst (refsV rs2))) := Same.new ho
      have ho1 : upd H3 o (.lst (refsV rs2)) o = some (.lst (refsV rs2)) := upd_same
      have hrs1 := hrs.fz keyR_fm (Fz.of so)
      generalize upd H3 o (.lst (refsV rs2)) = H4 at so ho1 hrs1 ⊢
      obtain ⟨ks, hks⟩ : ∃ ks, ks = (keysGo M M.length).mergeSort (dataLe false dCK) := ⟨_, rfl⟩
      rw [← hks] at hrs1
      have hksl : ks.length = (keysGo M M.length).length := by rw [hks]; exact List.length_mergeSort _
      have eM : clsM M = ks.map fun k => k.2.2 := by rw [hks]; rfl
      have hrl := hrs1.1
      refine lcj_list (xs := refsV rs2) (fun i v H => ∃ u, v = V.ref u ∧ H u = some (.tup (natsV ((clsM M).getD i [])))) (fun i v H H' fz h => let ⟨u, e, hu⟩ := h; ⟨u, e, fz _ _ hu rfl⟩) (SqL.of ho1) (by rw [List.length_map]; omega) (fun x => rfl) (fun i x H5 hx s5 Q' q => ?_) (fun D H5 ys hD s5 hl5 hyl hR => ?_)
      · have hil : i < ks.length := by
          have := (List.getElem?_eq_some_iff.mp hx).1
          rw [List.length_map] at this
          omega
        obtain ⟨r, hr⟩ : ∃ r, ks[i]? = some r := ⟨_, List.getElem?_eq_getElem hil⟩
        obtain ⟨rt, hrt, u, hu1, hu2⟩ := hrs1.get hr
        rw [List.getElem?_map, hrt] at hx
        have hx' : V.ref rt = x := by simpa using hx
        subst hx'
        have hu5 := s5 _ _ hu1
        walk_at "rd"
        refine q _ H5 (Same.refl _) ⟨u, rfl, ?_⟩
        have e : (clsM M).getD i [] = r.2.2 := by
          rw [eM, List.getD_eq_getElem?_getD, List.getElem?_map, hr]
          rfl
        rw [e]
        exact s5 _ _ hu2
      · obtain ⟨us, rfl, hul, hU⟩ := refs_of hR
        have hlen : us.length = (clsM M).length := by
          rw [hul, hyl, List.length_map, eM, List.length_map]
          exact hrl
        walk_at "rd"
        refine k D us H5 (none_of (s3.trans so) hD) ((s3.trans so).trans s5) hl5 hlen fun i u row e1 e2 => ?_
        have := hU i u e1
        rw [List.getD_eq_getElem?_getD, e2] at this
        exact this
end
end L2.KL
set_option Elab.async false
set_option linter.all false
set_option maxRecDepth 100000
set_option maxHeartbeats 4000000
namespace L2.KL
open PySem PySem.Spec PyProof.Rows PySem.W
local macro_rules | `(tactic| walk_at "hp") => `(tactic| first
  | assumption)
local macro_rules | `(tactic| walk_at "cl") => `(tactic| first
  | (with_reducible rfl)
  | ((with_reducible show (_ : Int) < _); first | omega | (simp only [List.length_map]; omega))
  | ((with_reducible show (_ : Int) ≤ _); first | omega | (simp only [List.length_map]; omega))
  | (apply tyL; walk_at "hp")
  | (apply Or.inl; apply SqL.of; walk_at "hp")
  | (apply sz_nat; simp only [List.length_map, List.length_append, List.length_cons, List.length_nil]; omega)
  | ((with_reducible show RgOk _ _); unfold RgOk; first | omega | (simp only [List.length_map]; omega)))
local macro_rules | `(tactic| walk_at "r1") => `(tactic| first
  | (with_reducible refine rd_seq ?_)
  | ((with_reducible apply rd_var); (· exact rfl))
  | (with_reducible refine rd_cb ?_)
  | (with_reducible refine rd_cons ?_)
  | (with_reducible refine rd_nil ?_)
  | (with_reducible refine rd_call ?_)
  | (with_reducible refine rd_lst ?_)
  | (with_reducible refine rd_asg ?_)
  | (with_reducible refine rd_name ?_)
  | (with_reducible refine rd_ret ?_)
  | (with_reducible refine rd_drop ?_)
  | (with_reducible refine rd_bm ?_)
  | (with_reducible refine rd_for ?_)
  | (with_reducible refine rd_iRng1 ?_)
  | ((with_reducible apply rd_append); (· walk_at "hp"); (· simp only [List.length_map, List.length_append, List.length_cons, List.length_nil]; omega))
  | (with_reducible refine rd_listRg ?_)
  | (with_reducible apply Exists.intro)
  | ((with_reducible refine And.intro ?_ ?_); (· walk_at "cl")))
local macro_rules | `(tactic| walk_at "at") => `(tactic| fail)
local macro_rules | `(tactic| walk_at "rd") => `(tactic| ((repeat walk_at "r1"); (try dsimp only [List.set])))
theorem seqIx_nat {n v : Nat} (h : v < n) : seqIndex? ((v : Nat) : Int) n = some v := by
  unfold seqIndex?
  simp
  omega
theorem perm_erase : ∀ {rs : List Nat} {v y : Nat}, rs[v]? = some y → ([y] ++ rs.eraseIdx v).Perm rs
  | [], v, y, h => by simp at h
  | x :: xs, 0, y, h => by
    have e : x = y := by simpa using h
    subst e
    exact List.Perm.refl _
  | x :: xs, v + 1, y, h => by
    have h' : xs[v]? = some y := by simpa using h
    show (y :: x :: xs.eraseIdx v).Perm (x :: xs)
    exact (List.Perm.swap x y _).trans ((perm_erase h').cons x)
theorem map_erase : ∀ (xs : List Nat) (v : Nat), (natsV xs).eraseIdx v = natsV (xs.eraseIdx v)
  | [], _ => rfl
  | x :: xs, 0 => rfl
  | x :: xs, v + 1 => congrArg (nV x :: ·) (map_erase xs v)
section
variable {P : Program} {w : World} {K : PySem.W.Frag} {mg : Str → Option Value} {base : Heap}
def spImgs : Sp := fun vs H Q _ => ∃ (a : Addr) (m : Nat), vs = [.ref a, nV m] ∧ StAt H a ∧ 1 ≤ m ∧ m ≤ 12 ∧ ∀ (l : Addr) (xs : List Nat) (H' : Hp), H l = none → SameX a H H' → StAt H' a → H' l = some (.lst (natsV xs)) → IsP m xs → Q (.ref l) H'
theorem sc_law_images : FnScope ["_law_state_here", "_law_m", "_law_rest", "_law_images_here", "_law_k"] ["_law_state_here", "_law_m"] HD.d_law_images.scope := ⟨rfl, rfl, rfl, by decide +kernel, rfl, by decide +kernel, by decide +kernel⟩
theorem ok_imgs (T : Tx K mg) : Ok P w K mg base CX0 2 HD.d_law_images ["_law_state_here", "_law_m"] spImgs := by
  have G_law_take : Ok P w K mg base CX0 1 _ _ _ := ok_take T
  have nd := sc_law_images.nd
  refine Ok.mk0 T fn__law_images rfl sc_law_images (fun vs H Q E h => ?_) (fun _ _ _ _ _ _ us hl => match us, hl with | [_, _], _ => rfl) (fun cdv A outer s H vs Q E hr h => ?_)
  · obtain ⟨a, m, rfl, _⟩ := h
    rfl
  · obtain ⟨a, m, rfl, hst, h1, h12, k⟩ := h
    refine ⟨_, pss_cons
          -- _law_rest = list(range(_law_m))
          (ps_set (i := 2) nd rfl (.inl rfl) (pe_listRg rfl (by rfl) T.b_list (prg_1 (by rfl) T.b_range (pv 1))))
         (pss_cons
          -- _law_images_here = []
          (ps_set (i := 3) nd rfl (.inl rfl) (pe_lst pa_nil))
         (pss_cons
          -- for _law_k in range(_law_m):
          (ps_for PassesOwn.never rfl (pi_range1 (by rfl) T.b_range (pa_cons (pv 1) pa_nil)) (pg_name (i := 4) nd rfl (.inl rfl)) (pss_one
            -- _law_images_here.append(_law_rest.pop(_law_take(_law_state_here, len(_law_rest))))
            (ps_expr (pe_bm PySem.F.plainAttrs_list PySem.F.slot_list_append PySem.F.type_list_append mt_append (pv 3) (pa_cons (pe_bm PySem.F.plainAttrs_list PySem.F.slot_list_pop PySem.F.type_list_pop mt_popAt (pv 2) (pa_cons (pe_f (G_law_take) (hr.mono (by decide)) T.g_law_take pass0 (pa_cons (pv 0) (pa_cons (pe_callB call_len_seq (by rfl) T.b_len (by decide +kernel) (pa_cons (pv 2) pa_nil)) pa_nil))) pa_nil)) pa_nil)))))
         (pss_one
          -- return _law_images_here
          (ps_ret (pv 3))))), ?_⟩
    try dsimp only [cxOf, Cx.wish]
    walk_at "rd"
    intro r hr
    walk_at "rd"
    intro l hl
    walk_at "rd"
    rw [rgV_nat] at hl ⊢
    obtain ⟨s0, t0, ha, hs0, ht0⟩ := id hst
    have hrl : r ≠ l := by
      rintro rfl
      rw [upd_same] at hl
      cases hl
    have har : a ≠ r := by
      rintro rfl
      rw [hr] at ha
      cases ha
    have hl0 : H l = none := none_of (Same.new hr) hl
    have hal : a ≠ l := by
      rintro rfl
      rw [hl0] at ha
      cases ha
    have ha1 : StAt (upd (upd H r (.lst (natsV (List.range m)))) l (.lst [])) a := ⟨s0, t0, upd_old hl (upd_old hr ha), hs0, ht0⟩
    have hr1 : upd (upd H r (.lst (natsV (List.range m)))) l (.lst []) r = some (.lst (natsV (List.range m))) := upd_old hl upd_same
    have hl1 : upd (upd H r (.lst (natsV (List.range m)))) l (.lst []) l = some (.lst (natsV [])) := upd_same
    have sX : SameX a H (upd (upd H r (.lst (natsV (List.range m)))) l (.lst [])) := SameX.of ((Same.new hr).trans (Same.new hl))
    generalize upd (upd H r (.lst (natsV (List.range m)))) l (.lst []) = H1 at ha1 hr1 hl1 sX ⊢
    refine fj_range m (fun i σ H' => ∃ (rs is : List Nat) (v4 : Option V), σ = [some (.ref a), some (nV m), some (.ref r), some (.ref l), v4] ∧ SameX a H H' ∧ StAt H' a ∧ H' r = some (.lst (natsV rs)) ∧ H' l = some (.lst (natsV is)) ∧ (is ++ rs).Perm (List.range m) ∧ is.length = i)
      ⟨List.range m, [], _, rfl, sX, ha1, hr1, hl1, List.Perm.refl _, rfl⟩ ?_ ?_
    · rintro i σ H2 hi ⟨rs, is, v4, rfl, s2, ha2, hr2, hl2, hp, hil⟩
      have hlen : is.length + rs.length = m := by
        rw [← List.length_append, hp.length_eq, List.length_range]
      walk_at "rd"
      rw [List.length_map]
      refine ⟨a, rs.length, rfl, ha2, by omega, by omega, fun v H3 hv s3 ha3 => ?_⟩
      have hr3 := s3 _ _ (Ne.symm har) hr2
      have hl3 := s3 _ _ (Ne.symm hal) hl2
      obtain ⟨y, hy⟩ : ∃ y, rs[v]? = some y := ⟨_, List.getElem?_eq_getElem hv⟩
      walk_at "rd"
      refine ⟨r, natsV rs, (v : Int), v, nV y, rfl, rfl, hr3, by omega, by omega, ?_, ?_, ?_⟩
      · rw [List.length_map]
        exact seqIx_nat hv
      · rw [List.getElem?_map, hy]
        rfl
      rw [map_erase]
      have hl4 : upd H3 r (.lst (natsV (rs.eraseIdx v))) l = some (.lst (natsV is)) := by
        rw [upd_ne (Ne.symm hrl)]
        exact hl3
      have hr4 : upd H3 r (.lst (natsV (rs.eraseIdx v))) r = some (.lst (natsV (rs.eraseIdx v))) := upd_same
      have ha4 : StAt (upd H3 r (.lst (natsV (rs.eraseIdx v)))) a := by
        obtain ⟨s9, t9, q1, q2, q3⟩ := ha3
        exact ⟨s9, t9, by rw [upd_ne har]; exact q1, q2, q3⟩
      have s4 : SameX a H (upd H3 r (.lst (natsV (rs.eraseIdx v)))) := fun p o n hp => by
        rw [upd_ne (ne_of_none hp hr)]
        exact s3 _ _ n (s2 _ _ n hp)
      generalize upd H3 r (.lst (natsV (rs.eraseIdx v))) = H4 at hl4 hr4 ha4 s4 ⊢
      walk_at "rd"
      rw [snoc_nats]
      refine at_i ⟨rs.eraseIdx v, is ++ [y], _, rfl, fun p o n hp => ?_, ?_, ?_, upd_same, ?_, by rw [List.length_append, hil]; rfl⟩
      · rw [upd_ne (ne_of_none hp hl0)]
        exact s4 _ _ n hp
      · obtain ⟨s9, t9, q1, q2, q3⟩ := ha4
        exact ⟨s9, t9, by rw [upd_ne hal]; exact q1, q2, q3⟩
      · rw [upd_ne hrl]
        exact hr4
      · refine List.Perm.trans ?_ hp
        rw [List.append_assoc]
        refine List.Perm.append_left is ?_
        exact perm_erase hy
    · rintro σ H2 ⟨rs, is, v4, rfl, s2, ha2, hr2, hl2, hp, hil⟩
      have hlen : is.length + rs.length = m := by
        rw [← List.length_append, hp.length_eq, List.length_range]
      have e : rs = [] := List.eq_nil_of_length_eq_zero (by omega)
      rw [e, List.append_nil] at hp
      walk_at "rd"
      exact k l is H2 hl0 s2 ha2 hl2 (IsP.of_perm hp)
end
end L2.KL
set_option Elab.async false
set_option linter.all false
set_option maxRecDepth 100000
set_option maxHeartbeats 4000000
namespace L2.KL
open PySem PySem.Spec PyProof.Rows PySem.W
local macro_rules | `(tactic| walk_at "hp") => `(tactic| first
  | assumption)
local macro_rules | `(tactic| walk_at "cl") => `(tactic| first
  | (with_reducible rfl)
  | ((with_reducible show (_ : Int) < _); first | omega | (simp only [List.length_map]; omega))
  | ((with_reducible show (_ : Int) ≤ _); first | omega | (simp only [List.length_map]; omega))
  | assumption
  | (apply sz_nat; simp only [List.length_map, List.length_append, List.length_cons, List.length_nil]; omega))
local macro_rules | `(tactic| walk_at "r1") => `(tactic| first
  | (with_reducible refine rd_seq ?_)
  | ((with_reducible apply rd_var); (· exact rfl))
  | (with_reducible refine rd_c ?_)
  | (with_reducible refine rd_op ?_)
  | (with_reducible refine rd_cb ?_)
  | (with_reducible refine rd_cons ?_)
  | (with_reducible refine rd_nil ?_)
  | (with_reducible refine rd_call ?_)
  | (with_reducible refine rd_lst ?_)
  | (with_reducible refine rd_asg ?_)
  | (with_reducible refine rd_name ?_)
  | (with_reducible refine rd_ret ?_)
  | (with_reducible refine rd_I0 ?_)
  | ((with_reducible apply rd_ixL); (· walk_at "hp"); (· walk_at "at"))
  | ((with_reducible apply rd_eq); (· exact rfl))
  | (with_reducible refine rd_iRng1 ?_)
  | (with_reducible refine rd_lc ?_)
  | (with_reducible refine rd_make ?_)
  | (with_reducible refine Or.inr ⟨_, rfl, ?_⟩)
  | (with_reducible apply Exists.intro)
  | ((with_reducible refine And.intro ?_ ?_); (· walk_at "cl")))
local macro_rules | `(tactic| walk_at "at") => `(tactic| first
  | (apply at_nats; first | assumption | omega))
local macro_rules | `(tactic| walk_at "rd") => `(tactic| ((repeat walk_at "r1"); (try dsimp only [List.set])))
theorem StAt.same {H H' : Hp} {a : Addr} (h : StAt H a) (s : Same H H') : StAt H' a := by
  obtain ⟨s0, t0, h1, h2, h3⟩ := h
  exact ⟨s0, t0, s _ _ h1, h2, h3⟩
theorem StAt.ne {H : Hp} {a p : Addr} (h : StAt H a) (hp : H p = none) : p ≠ a := by
  rintro rfl
  obtain ⟨s0, t0, h1, _⟩ := h
  rw [hp] at h1
  cases h1
theorem mkY_use {C : Addr} {H1 : Hp} {Q : VK} {E : XK} {vs : List V} (e low : Nat) (a : Addr) (items : List Int) (hv : vs = [nV e, .ref a, nV low]) (he : e ∈ divs60) (ha : H1 a = some (.lst (intsV items))) (hl : items.length ≤ 50000) (h0 : 0 < low) (h9 : low < 2 ^ 9000)
    (k : ∀ q H', H1 q = none → Same H1 H' → CycAt C H' q (mkCyc e items low) → Q (.ref q) H') : ∀ x dx, H1 x = none → H1 dx = none → dx ≠ x → spCyInit C (.ref x :: vs) (upd (upd H1 dx (.own x)) x (.ins C dx [])) (fun v H2 => v = .non ∧ Q (.ref x) H2) E := by
  intro x dx hx hdx hn
  subst hv
  have s : Same H1 (upd (upd H1 dx (.own x)) x (.ins C dx [])) := Same.mut (Same.new hdx) hx
  exact ⟨x, a, dx, e, items, low, rfl, upd_same, he, .inl (s _ _ ha), hl, h0, h9, fun b H' sx h1 h2 => ⟨rfl, k x H' hx (SameX.made hx hdx sx) ⟨dx, b, h1, h2⟩⟩⟩
theorem small_sz {e low : Nat} {xs : List Int} (he : e ∈ divs60) (h0 : 0 < low) (h2 : low ≤ 2) (hl : xs.length ≤ 2) (hx : ∀ x ∈ xs, x.natAbs ≤ 2) : Sz 8 2 (mkCyc e xs low) := by
  refine ⟨(mkCyc_ok xs he h0).1, mkCyc_pb (B := 4) xs he h0 (fun i hi => ?_) (by decide), Lb.le (n := 2) (show 2 < 2 ^ 2 by decide) (Nat.le_trans (mkCyc_low _) h2)⟩
  have hk : ∀ k, (xs.getD k 0).natAbs ≤ 2 := fun k => by
    by_cases h : k < xs.length
    · rw [List.getD_eq_getElem?_getD, List.getElem?_eq_getElem h]
      exact hx _ (List.getElem_mem h)
    · rw [List.getD_eq_getElem?_getD, List.getElem?_eq_none (by omega)]
      exact Nat.zero_le _
  have := ws_abs (xs := xs) (w := fun k => Z (0 + k * (60 / e)) i) (B := 2) hk fun k => Z_le _ _
  have e2 : vec e xs i = ws xs fun k => Z (0 + k * (60 / e)) i := rfl
  rw [e2]
  omega
section
variable {P : Program} {w : World} {K : PySem.W.Frag} {mg : Str → Option Value} {base : Heap}
def spNum (C : Addr) : Sp := fun vs H Q _ => ∃ (a : Addr), vs = [.ref a] ∧ StAt H a ∧ ∀ (q : Addr) (c : Cyc) (H' : Hp), H q = none → SameX a H H' → StAt H' a → CycAt C H' q c → Sz 8 2 c → Q (.ref q) H'
theorem sc_law_number : FnScope ["_law_state_here", "_law_e", "_law_k"] ["_law_state_here"] HD.d_law_number.scope := ⟨rfl, rfl, rfl, by decide +kernel, rfl, by decide +kernel, by decide +kernel⟩
theorem ok_num (T : Tx K mg) : Ok P w K mg base CX0 8 HD.d_law_number ["_law_state_here"] (spNum (CY K)) := by
  have G_law_take : Ok P w K mg base CX0 1 _ _ _ := ok_take T
  have G_Cyclo_init : Ok P w K mg base CX0 6 _ _ _ := (ok_cyinit T).ok
  have nd := sc_law_number.nd
  refine Ok.mk0 T fn__law_number rfl sc_law_number (fun vs H Q E h => ?_) (fun _ _ _ _ _ _ us hl => match us, hl with | [_], _ => rfl) (fun cdv A outer s H vs Q E hr h => ?_)
  · obtain ⟨a, rfl, _⟩ := h
    rfl
  · obtain ⟨a, rfl, hst, k⟩ := h
    refine ⟨_, pss_cons
          -- _law_e = [1, 1, 3, 4, 5][_law_take(_law_state_here, 5)]
          (ps_set (i := 1) nd rfl (.inl rfl) (pe_ix (r := rIxL K) ix_list (pe_lst (pa_cons pe_int (pa_cons pe_int (pa_cons pe_int (pa_cons pe_int (pa_cons pe_int pa_nil)))))) (pe_f (G_law_take) (hr.mono (by decide)) T.g_law_take pass0 (pa_cons (pv 0) (pa_cons pe_int pa_nil))) (fun _ _ => rfl)))
         (pss_one
          -- return Cyclo(_law_e, [_law_take(_law_state_here, 5) - 2 for _law_k in range(min(_law_e, 2))], 1 + int(_law_take(_law_state_here, 4) == 0))
          (ps_ret (pe_mk G_Cyclo_init (hr.mono (by decide)) T.mk_Cyclo T.g_Cyclo pass0 (pa_cons (pv 1) (pa_cons (pe_lc (own := [("_law_k", 2)]) (g := gName 2) (tt := tYes) (by rfl) nd (pi_range1 (by rfl) T.b_range (pa_cons (pe_callB (call_min2 rfl) (by rfl) T.b_min (by decide +kernel) (pa_cons (pv 1) (pa_cons pe_int pa_nil))) pa_nil)) (blkOk_by (own := [("_law_k", 2)]) (N := ["_law_state_here", "_law_e", "_law_k"]) (sc := HD.d_law_number.scope) (by decide +kernel)) (fun _ _ _ _ _ => (pg_name (i := 2) nd rfl (.inl rfl))) (fun _ _ _ _ _ => pts_nil) (fun _ _ _ _ _ => (pe_op op_sub (pe_f (G_law_take) (hr.mono (by decide)) T.g_law_take pass0 (pa_cons (pv 0) (pa_cons pe_int pa_nil))) pe_int))) (pa_cons (pe_op op_add pe_int (pe_callTy call_int1 (by rfl) T.b_int (by decide +kernel) (pa_cons (pe_cmpR op_eq (pe_f (G_law_take) (hr.mono (by decide)) T.g_law_take pass0 (pa_cons (pv 0) (pa_cons pe_int pa_nil))) pe_int (nomark _)) pa_nil))) pa_nil)))))), ?_⟩
    try dsimp only [cxOf, Cx.wish]
    walk_at "rd"
    intro p hp
    have hpa := hst.ne hp
    walk_at "rd"
    refine ⟨a, 5, rfl, hst.same (Same.new hp), by omega, by omega, fun v H1 hv s1 hst1 => ?_⟩
    have hp1 : H1 p = some (.lst (natsV [1, 1, 3, 4, 5])) := s1 _ _ hpa upd_same
    have sX1 : SameX a H H1 := (SameX.of (Same.new hp)).trans s1
    have hv5 : v < ([1, 1, 3, 4, 5] : List Nat).length := hv
    walk_at "rd"
    obtain ⟨e, he⟩ : ∃ e, e = ([1, 1, 3, 4, 5] : List Nat).getD v 0 := ⟨_, rfl⟩
    rw [← he]
    have he2 : e = 1 ∨ e = 3 ∨ e = 4 ∨ e = 5 := by
      have : v = 0 ∨ v = 1 ∨ v = 2 ∨ v = 3 ∨ v = 4 := by omega
      rcases this with rfl | rfl | rfl | rfl | rfl <;> rw [he] <;> simp
    clear he hp1
    walk_at "rd"
    obtain ⟨n, hn, hn1, hn2⟩ : ∃ n : Nat, (if (2 : Int) < ((e : Nat) : Int) then 2 else ((e : Nat) : Int)) = ((n : Nat) : Int) ∧ 1 ≤ n ∧ n ≤ 2 := by
      rcases he2 with rfl | rfl | rfl | rfl
      · exact ⟨1, by decide, by omega, by omega⟩
      · exact ⟨2, by decide, by omega, by omega⟩
      · exact ⟨2, by decide, by omega, by omega⟩
      · exact ⟨2, by decide, by omega, by omega⟩
    rw [hn]
    have w1 : Walk (Itr 0 ((n : Nat) : Int).toNat) n (fun _ => True) (YFn nV) := walk_range.mono (fun _ _ => trivial) fun i H x H' _ _ y => ⟨y.1, by rw [y.2]; show V.int ((0 : Int) + (i : Int)) = V.int (i : Int); rw [Int.zero_add]⟩
    refine lcj_it (n := n) w1 (fun D i H' => D ≠ a ∧ SameX a H1 H' ∧ StAt H' a ∧ ∃ xs : List Int, H' D = some (.lst (intsV xs)) ∧ xs.length = i ∧ i ≤ 2 ∧ ∀ x ∈ xs, x.natAbs ≤ 2) (fun D hD => ⟨hst1.ne hD, SameX.of (Same.new hD), hst1.same (Same.new hD), [], upd_same, rfl, by omega, fun x h => by cases h⟩) (fun _ _ _ _ _ => trivial) ?_ ?_
    · rintro D i x H2 H3 hD hi ⟨hDa, s2, hst2, xs, hD2, hxl, hi2, hxs⟩ ⟨rfl, rfl⟩
      refine ⟨rfl, tyes ?_⟩
      walk_at "rd"
      refine ⟨a, 5, rfl, hst2, by omega, by omega, fun u H4 hu s4 hst4 => ?_⟩
      have hD4 := s4 _ _ hDa hD2
      walk_at "rd"
      refine ⟨?_, ?_, xs ++ [(u : Int) - 2], ?_, ?_, ?_, ?_⟩
      · exact fun p o n hp => by
          rw [upd_ne (ne_of_none hp hD)]
          exact s4 _ _ n (s2 _ _ n hp)
      · obtain ⟨s9, t9, q1, q2, q3⟩ := hst4
        exact ⟨s9, t9, by rw [upd_ne (Ne.symm hDa)]; exact q1, q2, q3⟩
      · rw [upd_same]
        show some (HO.lst (xs.map V.int ++ [V.int ((u : Int) - 2)])) = some (HO.lst ((xs ++ [(u : Int) - 2]).map V.int))
        rw [List.map_append]
        rfl
      · rw [List.length_append, hxl]
        rfl
      · omega
      · intro x hx
        rcases List.mem_append.mp hx with hx | hx
        · exact hxs x hx
        · rw [List.mem_singleton.mp hx]
          omega
    · rintro D H2 hD ⟨hDa, s2, hst2, xs, hD2, hxl, _, hxs⟩
      walk_at "rd"
      refine ⟨a, 4, rfl, hst2, by omega, by omega, fun u H3 hu s3 hst3 => ?_⟩
      have hD3 := s3 _ _ hDa hD2
      have s12 : SameX a H1 H3 := s2.trans s3
      walk_at "rd"
      obtain ⟨low, hlow, h1, h2⟩ : ∃ low : Nat, (1 + if decide (nV u = V.int 0) = true then (1 : Int) else 0) = ((low : Nat) : Int) ∧ 0 < low ∧ low ≤ 2 := by
        by_cases hz : nV u = V.int 0
        · rw [if_pos (decide_eq_true hz)]
          exact ⟨2, rfl, by omega, by omega⟩
        · rw [if_neg (by simp [hz])]
          exact ⟨1, rfl, by omega, by omega⟩
      rw [hlow]
      have he60 : e ∈ divs60 := by rcases he2 with rfl | rfl | rfl | rfl <;> decide
      refine mkY_use e low D xs rfl he60 hD3 (by omega) h1 (Nat.lt_of_le_of_lt h2 (Nat.lt_of_lt_of_le (show 2 < 2 ^ 2 by decide) (Nat.pow_le_pow_right (by decide) (by decide)))) (fun q H4 hq s4 hq4 => ?_)
      have sAll : SameX a H H4 := (sX1.trans s12).trans (SameX.of s4)
      have hqH : H q = none := by
        cases z : H q with
        | none => rfl
        | some o =>
          by_cases hqa : q = a
          · subst hqa
            obtain ⟨_, _, z1, _⟩ := hst3
            rw [hq] at z1
            cases z1
          · have := (sX1.trans s12) q o hqa z
            rw [hq] at this
            cases this
      exact k q _ H4 hqH sAll (hst3.same s4) hq4 (small_sz he60 h1 h2 (by omega) hxs)
end
end L2.KL
set_option Elab.async false
set_option linter.all false
set_option maxRecDepth 100000
set_option maxHeartbeats 4000000
namespace L2.KL
open PySem PySem.Spec PyProof.Rows PySem.W
local macro_rules | `(tactic| walk_at "hp") => `(tactic| fail)
local macro_rules | `(tactic| walk_at "cl") => `(tactic| first
  | (with_reducible rfl)
  | ((with_reducible show (_ : Int) < _); first | omega | (simp only [List.length_map]; omega))
  | ((with_reducible show (_ : Int) ≤ _); first | omega | (simp only [List.length_map]; omega)))
local macro_rules | `(tactic| walk_at "r1") => `(tactic| first
  | ((with_reducible apply rd_var); (· exact rfl))
  | (with_reducible refine rd_cons ?_)
  | (with_reducible refine rd_nil ?_)
  | (with_reducible refine rd_call ?_)
  | (with_reducible refine rd_ret ?_)
  | (with_reducible refine rd_iRng1 ?_)
  | (with_reducible refine rd_lc ?_)
  | (with_reducible refine rd_make ?_)
  | (with_reducible apply Exists.intro)
  | ((with_reducible refine And.intro ?_ ?_); (· walk_at "cl")))
local macro_rules | `(tactic| walk_at "at") => `(tactic| fail)
local macro_rules | `(tactic| walk_at "rd") => `(tactic| ((repeat walk_at "r1"); (try dsimp only [List.set])))
theorem rd_iRng1T {ta : TA} {σ : St} {H : Hp} {R : It → Hp → Prop} (h : ta σ H fun vs H1 => ∃ j : Int, vs = [.int j] ∧ -(2 ^ 62) ≤ j ∧ j < 2 ^ 62 ∧ R (Itr 0 j.toNat) H1) : iRng1 ta σ H R := h
local macro_rules | `(tactic| walk_at "r1") => `(tactic| (with_reducible refine rd_makeK ?_))
/-- what changes a list alone keeps the rest -/
theorem SameX.fzl {a : Addr} {H H' : Hp} {xs : List V} (s : SameX a H H') (h : H a = some (.lst xs)) : Fz H H' := fun b o e f => by
  by_cases hb : b = a
  · subst hb
    rw [h] at e
    cases e
    cases f
  · exact s b o hb e
theorem StAt.fz {a : Addr} {H H' : Hp} (h : StAt H a) (s : SameX a H H') : Fz H H' := by
  obtain ⟨_, _, h1, _⟩ := h
  exact s.fzl h1
theorem walk_rg (n : Nat) : Walk (Itr 0 ((n : Nat) : Int).toNat) n (fun _ => True) (YFn nV) := walk_range.mono (fun _ _ => trivial) fun i H x H' _ _ y => ⟨y.1, by rw [y.2]; show V.int ((0 : Int) + (i : Int)) = V.int (i : Int); rw [Int.zero_add]⟩
theorem SameX.none_ {a p : Addr} {H H' : Hp} (s : SameX a H H') (h : H' p = none) (ha : ∃ o, H' a = some o) : H p = none := by
  cases z : H p with
  | none => rfl
  | some o =>
    by_cases hp : p = a
    · subst hp
      obtain ⟨o', e⟩ := ha
      rw [h] at e
      cases e
    · have := s p o hp z
      rw [h] at this
      cases this
theorem StAt.ex {a : Addr} {H : Hp} (h : StAt H a) : ∃ o, H a = some o := by
  obtain ⟨_, _, h1, _⟩ := h
  exact ⟨_, h1⟩
section
variable {P : Program} {w : World} {K : PySem.W.Frag} {mg : Str → Option Value} {base : Heap}
def spFun (K : PySem.W.Frag) : Sp := fun vs H Q _ => ∃ (a p : Addr) (M : Tab), vs = [.ref a, .ref p, nV (clsM M).length] ∧ StAt H a ∧ GrpAt (CG K) H p M ∧ IsGrp M ∧
  ∀ (q : Addr) (cs : List Cyc) (H' : Hp), SameX a H H' → StAt H' a → CFAt K H' q M cs → (∀ c ∈ cs, Sz 8 2 c) → Q (.ref q) H'
theorem sc_law_function : FnScope ["_law_state_here", "_law_group_here", "_law_many", "_law_k"] ["_law_state_here", "_law_group_here", "_law_many"] HD.d_law_function.scope := ⟨rfl, rfl, rfl, by decide +kernel, rfl, by decide +kernel, by decide +kernel⟩
theorem ok_fun (T : Tx K mg) : Ok P w K mg base CX0 9 HD.d_law_function ["_law_state_here", "_law_group_here", "_law_many"] (spFun K) := by
  have c1 := T.c_ClassFunction
  have G_law_number : Ok P w K mg base CX0 8 _ _ _ := ok_num T
  have G_ClassFunction_init : OkK P w K mg base CX0 4 _ _ _ 3 _ _ := ok_cfinit T
  have nd := sc_law_function.nd
  refine Ok.mk0 T fn__law_function rfl sc_law_function (fun vs H Q E h => ?_) (fun _ _ _ _ _ _ us hl => match us, hl with | [_, _, _], _ => rfl) (fun cdv A outer s H vs Q E hr h => ?_)
  · obtain ⟨a, p, M, rfl, _⟩ := h
    rfl
  · obtain ⟨a, p, M, rfl, hst, hg, G, k⟩ := h
    have hl60 : (clsM M).length ≤ 60 := Nat.le_trans (cls_len M) G.le
    refine ⟨_, pss_one
          -- return ClassFunction(_law_group_here, [_law_number(_law_state_here) for _law_k in range(_law_many)])
          (ps_ret (pe_mkN G_ClassFunction_init (hr.mono (by decide)) T.mk_ClassFunction T.g_ClassFunction pass0 (pa_cons (pv 1) (pa_cons (pe_lc (own := [("_law_k", 3)]) (g := gName 3) (tt := tYes) (by rfl) nd (pi_range1 (by rfl) T.b_range (pa_cons (pv 2) pa_nil)) (blkOk_by (own := [("_law_k", 3)]) (N := ["_law_state_here", "_law_group_here", "_law_many", "_law_k"]) (sc := HD.d_law_function.scope) (by decide +kernel)) (fun _ _ _ _ _ => (pg_name (i := 3) nd rfl (.inl rfl))) (fun _ _ _ _ _ => pts_nil) (fun _ _ _ _ _ => (pe_f (G_law_number) (hr.mono (by decide)) T.g_law_number pass0 (pa_cons (pv 0) pa_nil)))) pa_nil)))), ?_⟩
    try dsimp only [cxOf, Cx.wish]
    walk_at "rd"
    refine lcj_it (n := (clsM M).length) (walk_rg _) (fun D i H' => D ≠ a ∧ SameX a H H' ∧ StAt H' a ∧ ∃ (rs : List Addr) (cs : List Cyc), H' D = some (.lst (refsV rs)) ∧ AllAt (CycR (CY K)) H' rs cs ∧ cs.length = i ∧ ∀ c ∈ cs, Sz 8 2 c) (fun D hD => ⟨hst.ne hD, SameX.of (Same.new hD), hst.same (Same.new hD), [], [], upd_same, AllAt.nil, rfl, fun x h => by cases h⟩) (fun _ _ _ _ _ => trivial) ?_ ?_
    · rintro D i x H2 H3 hD hi ⟨hDa, s2, hst2, rs, cs, hD2, hA, hcl, hcs⟩ ⟨rfl, rfl⟩
      have hrl := hA.1
      refine ⟨rfl, tyes ?_⟩
      walk_at "rd"
      refine ⟨a, rfl, hst2, fun q c H4 hq s4 hst4 hc hz => ?_⟩
      have hD4 := s4 _ _ hDa hD2
      refine ⟨refsV rs, hD4, ?_, hDa, ?_, ?_, rs ++ [q], cs ++ [c], ?_, ?_, ?_, ?_⟩
      · rw [List.length_map, sizeLine_eq]
        omega
      · exact fun p o n hp => by
          rw [upd_ne (ne_of_none hp hD)]
          exact s4 _ _ n (s2 _ _ n hp)
      · obtain ⟨s9, t9, q1, q2, q3⟩ := hst4
        exact ⟨s9, t9, by rw [upd_ne (Ne.symm hDa)]; exact q1, q2, q3⟩
      · rw [upd_same, snoc_refs]
      · have f4 : Fz H4 (upd H4 D (.lst (refsV rs ++ [V.ref q]))) := Fz.upd hD4 rfl
        exact ((hA.fz (cycR_fm _) (hst2.fz s4)).fz (cycR_fm _) f4).snoc (CycAt.fz f4 hc)
      · rw [List.length_append, hcl]
        rfl
      · intro x hx
        rcases List.mem_append.mp hx with hx | hx
        · exact hcs x hx
        · rw [List.mem_singleton.mp hx]
          exact hz
    · rintro D H2 hD ⟨hDa, s2, hst2, rs, cs, hD2, hA, hcl, hcs⟩
      walk_at "rd"
      exact mkF_use p D .non M rs cs rfl (hg.fz (hst.fz s2)) G hD2 hA hcl (.inl rfl) (fun q H3 s3 h3 => k q cs H3 (s2.trans (SameX.of s3)) (hst2.same s3) h3 hcs)
end
end L2.KL
set_option Elab.async false
set_option linter.all false
set_option maxRecDepth 100000
set_option maxHeartbeats 4000000
namespace L2.KL
open PySem PySem.Spec PyProof.Rows PySem.W
local macro_rules | `(tactic| walk_at "hp") => `(tactic| first
  | assumption
  | (with_reducible exact upd_same)
  | (apply upd_old; (· assumption); (· walk_at "hp")))
local macro_rules | `(tactic| walk_at "cl") => `(tactic| first
  | (with_reducible rfl)
  | ((with_reducible show (_ : Int) < _); first | omega | (simp only [List.length_map]; omega))
  | ((with_reducible show (_ : Int) ≤ _); first | omega | (simp only [List.length_map]; omega))
  | assumption
  | (apply tyL; walk_at "hp")
  | (apply Or.inl; apply SqL.of; walk_at "hp")
  | (apply Or.inr; apply SqT.of; walk_at "hp")
  | (apply exL; walk_at "hp")
  | (apply sz_nat; simp only [List.length_map, List.length_append, List.length_cons, List.length_nil]; omega))
local macro_rules | `(tactic| walk_at "r1") => `(tactic| first
  | (with_reducible refine rd_seq ?_)
  | ((with_reducible apply rd_var); (· exact rfl))
  | (with_reducible refine rd_c ?_)
  | (with_reducible refine rd_op ?_)
  | (with_reducible refine rd_fld ?_)
  | (with_reducible refine rd_cb ?_)
  | (with_reducible refine rd_cons ?_)
  | (with_reducible refine rd_nil ?_)
  | (with_reducible refine rd_call ?_)
  | (with_reducible refine rd_lst ?_)
  | (with_reducible refine rd_asg ?_)
  | (with_reducible refine rd_name ?_)
  | (with_reducible refine rd_ret ?_)
  | (with_reducible refine rd_drop ?_)
  | (with_reducible refine rd_if ?_)
  | (with_reducible refine rd_test ?_)
  | (with_reducible refine rd_bm ?_)
  | (with_reducible refine rd_next ?_)
  | (with_reducible refine rd_I0 ?_)
  | ((with_reducible apply rd_ixT); (· walk_at "hp"); (· walk_at "at"))
  | ((with_reducible apply rd_ixL); (· walk_at "hp"); (· walk_at "at"))
  | (with_reducible refine rd_for ?_)
  | (with_reducible refine rd_iList ?_)
  | (with_reducible refine rd_iRng1 ?_)
  | ((with_reducible apply rd_append); (· walk_at "hp"); (· simp only [List.length_map, List.length_append, List.length_cons, List.length_nil]; omega))
  | ((with_reducible apply rd_ninL); (· walk_at "hp"))
  | ((with_reducible apply rd_inT); (· walk_at "hp"))
  | ((with_reducible apply rd_cat); (· walk_at "hp"); (· walk_at "hp"); (· simp only [List.length_map, List.length_append, List.length_cons, List.length_nil]; omega))
  | (with_reducible apply Exists.intro)
  | ((with_reducible refine And.intro ?_ ?_); (· walk_at "cl")))
local macro_rules | `(tactic| walk_at "at") => `(tactic| first
  | (apply at_nats; first | assumption | omega)
  | (apply at_refs; assumption))
local macro_rules | `(tactic| walk_at "rd") => `(tactic| ((repeat walk_at "r1"); (try dsimp only [List.set])))
local macro_rules | `(tactic| walk_at "cl") => `(tactic| fail)
local macro_rules | `(tactic| walk_at "r1") => `(tactic| fail)
local macro_rules | `(tactic| walk_at "cl") => `(tactic| first
  | (with_reducible exact lk_row))
/-- a list of the classes as tuples -/
def LCl (H : Hp) (l : Addr) (M : Tab) : Prop := ∃ us : List Addr, H l = some (.lst (refsV us)) ∧ us.length = (clsM M).length ∧ ∀ (i : Nat) (u : Addr) (row : List Nat), us[i]? = some u → (clsM M)[i]? = some row → H u = some (.tup (natsV row))
theorem LCl.same {H H' : Hp} {l : Addr} {M : Tab} (h : LCl H l M) (s : Same H H') : LCl H' l M := by
  obtain ⟨us, h1, h2, h3⟩ := h
  exact ⟨us, s _ _ h1, h2, fun i u row a b => s _ _ (h3 i u row a b)⟩
theorem LCl.sx {a : Addr} {H H' : Hp} {l : Addr} {M : Tab} (h : LCl H l M) (s : SameX a H H') (hst : StAt H a) (hne : l ≠ a) : LCl H' l M := by
  obtain ⟨us, h1, h2, h3⟩ := h
  exact ⟨us, s _ _ hne h1, h2, fun i u row e1 e2 => hst.fz s _ _ (h3 i u row e1 e2) rfl⟩
section
variable {P : Program} {w : World} {K : PySem.W.Frag} {mg : Str → Option Value} {base : Heap}
def spAt (K : PySem.W.Frag) : Sp := fun vs H Q _ => ∃ (p l : Addr) (M : Tab) (cs : List Cyc) (x : Nat), vs = [.ref p, .ref l, nV x] ∧ CFAt K H p M cs ∧ LCl H l M ∧ IsGrp M ∧ x < M.length ∧ ∀ r H', Same H H' → CycAt (CY K) H' r (cVal M cs x) → Q (.ref r) H'
theorem sc_law_at : FnScope ["_law_f", "_law_classes_here", "_law_x", "_law_k"] ["_law_f", "_law_classes_here", "_law_x"] HD.d_law_at.scope := ⟨rfl, rfl, rfl, by decide +kernel, rfl, by decide +kernel, by decide +kernel⟩
theorem ok_lat (T : Tx K mg) : Ok P w K mg base CX0 1 HD.d_law_at ["_law_f", "_law_classes_here", "_law_x"] (spAt K) := by
  have c1 := T.c_ClassFunction
  have n2 := T.na_ClassFunction_row
  have nd := sc_law_at.nd
  refine Ok.mk0 T fn__law_at rfl sc_law_at (fun vs H Q E h => ?_) (fun _ _ _ _ _ _ us hl => match us, hl with | [_, _, _], _ => rfl) (fun cdv A outer s H vs Q E hr h => ?_)
  · obtain ⟨p, l, M, cs, x, rfl, _⟩ := h
    rfl
  · obtain ⟨p, l, M, cs, x, rfl, ⟨dx, g, t, u, rs, h1, h2, h3, h4, h5, h6⟩, ⟨us, hu1, hu2, hu3⟩, G, hxM, k⟩ := h
    have hx := cIdx_lt G hxM
    have hl60 : (clsM M).length ≤ 60 := Nat.le_trans (cls_len M) G.le
    refine ⟨_, pss_cons
          -- for _law_k in range(len(_law_classes_here)):
          (ps_for PassesOwn.never rfl (pi_range1 (by rfl) T.b_range (pa_cons (pe_callB call_len_seq (by rfl) T.b_len (by decide +kernel) (pa_cons (pv 1) pa_nil)) pa_nil)) (pg_name (i := 3) nd rfl (.inl rfl)) (pss_one
            -- if _law_x in _law_classes_here[_law_k]:
            (ps_if (pt_cmpR (r := rIn K false) op_in_seq (pv 2) (pe_ix (r := rIxL K) ix_list (pv 1) (pv 3) (fun _ _ => rfl)) (by rfl)) (pss_one
              -- return _law_f.row[_law_k]
              (ps_ret (pe_ix (r := rIxT K) ix_tup (pe_fldK (K := K) (pv 0) rfl) (pv 3) (fun _ _ => rfl)))) (pss_nil))))
         (pss_one
          -- return None
          (ps_ret pe_non)), ?_⟩
    try dsimp only [cxOf, Cx.wish]
    walk_at "rd"
    have hul : (refsV us).length = (clsM M).length := by rw [List.length_map, hu2]
    rw [hul]
    refine fj_range (clsM M).length (fun i σ H' => Same H H' ∧ i ≤ cIdx M x ∧ ∃ v2, σ = [some (.ref p), some (.ref l), some (nV x), v2]) ⟨Same.refl _, Nat.zero_le _, _, rfl⟩ ?_ ?_
    · rintro i σ H2 hi ⟨s2, hi2, v2, rfl⟩
      obtain ⟨row, hrow⟩ : ∃ r, (clsM M)[i]? = some r := ⟨_, List.getElem?_eq_getElem hi⟩
      have hiu : i < us.length := by omega
      obtain ⟨tu, htu⟩ : ∃ r, us[i]? = some r := ⟨_, List.getElem?_eq_getElem hiu⟩
      have htr := s2 _ _ (hu3 i tu row htu hrow)
      have hir : i < cs.length := by omega
      obtain ⟨c, hc⟩ : ∃ c, cs[i]? = some c := ⟨_, List.getElem?_eq_getElem hir⟩
      obtain ⟨rt, hrt, hR⟩ := h4.get hc
      have k1 := s2 _ _ h1
      have k3 := s2 _ _ h3
      have ku := s2 _ _ hu1
      walk_at "rd"
      by_cases hm : x ∈ row
      · rw [decide_eq_true hm]
        refine if_bT rfl ?_
        walk_at "rd"
        refine k rt H2 s2 ?_
        have e : cIdx M x = i := by
          refine cIdx_eq G hi ?_
          rw [List.getD_eq_getElem?_getD, hrow]
          exact hm
        have e2 : cVal M cs x = c := by
          unfold cVal
          rw [e, List.getD_eq_getElem?_getD, hc]
          rfl
        rw [e2]
        exact CycAt.fz (Fz.of s2) hR
      · rw [decide_eq_false hm]
        refine if_bF (by simp) ?_
        walk_at "rd"
        refine at_i ⟨s2, ?_, _, rfl⟩
        rcases Nat.lt_or_eq_of_le hi2 with z | z
        · exact z
        · have q := cIdx_mem G hxM
          rw [← z, List.getD_eq_getElem?_getD, hrow] at q
          exact absurd q hm
    · rintro σ H2 ⟨s2, hi2, _⟩
      omega
/-! the subgroup that drawn elements generate -/
theorem reach_cl {M : Tab} (G : IsGrp M) {ch R : List Nat} (h : Reach M ch R) : ∀ x ∈ R, ∀ y ∈ R, tm M x y ∈ R := fun x hx y hy => by
  refine h.mn (fun y => tm M x y ∈ R) ?_ (fun r g hr hS hg => ?_) y hy
  · show tm M x 0 ∈ R
    rw [G.r0 x (h.lt x hx)]
    exact hx
  · show tm M x (tm M r g) ∈ R
    by_cases hgM : g < M.length
    · rw [← G.as_ x r g (h.lt x hx) hr hgM]
      exact h.cl _ hS g hg
    · have hrow : (M.getD r []).length = M.length := G.sq.row r hr
      have e0 : tm M r g = 0 := by
        unfold tm
        rw [List.getD_eq_getElem?_getD (l := M.getD r []), List.getElem?_eq_none (by omega)]
        rfl
      rw [e0, G.r0 x (h.lt x hx)]
      exact hx
def sortS (M : Tab) (R : List Nat) : List Nat := (List.range M.length).filter fun x => decide (x ∈ R)
theorem sortS_mem {M : Tab} {R : List Nat} (h : ∀ x ∈ R, x < M.length) {x : Nat} : x ∈ sortS M R ↔ x ∈ R := by
  unfold sortS
  rw [List.mem_filter, List.mem_range]
  exact ⟨fun z => of_decide_eq_true z.2, fun z => ⟨h x z, decide_eq_true z⟩⟩
theorem sortS_so (M : Tab) (R : List Nat) : (sortS M R).Pairwise (· < ·) := List.Pairwise.filter _ List.pairwise_lt_range
theorem sortS_perm {M : Tab} {R : List Nat} (nd : R.Nodup) (h : ∀ x ∈ R, x < M.length) : R.Perm (sortS M R) :=
  (List.perm_ext_iff_of_nodup nd ((sortS_so M R).imp fun h => Nat.ne_of_lt h)).mpr fun x => (sortS_mem h).symm
theorem head_zero {S : List Nat} (so : S.Pairwise (· < ·)) (h : 0 ∈ S) : ∃ R, S = 0 :: R := by
  cases S with
  | nil => cases h
  | cons a r =>
    rcases List.mem_cons.mp h with z | z
    · exact ⟨r, by rw [← z]⟩
    · exact absurd ((List.pairwise_cons.mp so).1 0 z) (by omega)
theorem reach_sub {M : Tab} (G : IsGrp M) {ch R : List Nat} (h : Reach M ch R) : SubOk M (sortS M R) :=
  ⟨sortS_so M R, fun x hx => h.lt x ((sortS_mem h.lt).mp hx), head_zero (sortS_so M R) ((sortS_mem h.lt).mpr h.z), fun x hx y hy => (sortS_mem h.lt).mpr (reach_cl G h x ((sortS_mem h.lt).mp hx) y ((sortS_mem h.lt).mp hy))⟩
theorem reach0 {M : Tab} (h : 1 ≤ M.length) : Reach M [] [0] :=
  ⟨by simp, fun x hx => by rw [List.mem_singleton.mp hx]; omega, by simp, fun r _ g hg => (by cases hg), fun S h0 _ r hr => by rw [List.mem_singleton.mp hr]; exact h0⟩
theorem rd_sortP {K : PySem.W.Frag} {H : Hp} {a : Addr} {Q : VK} {R S : List Nat} (h : H a = some (.lst (natsV R))) (hp : R.Perm S) (so : S.Pairwise (· < ·)) (hn : R.length < 64) (k : ∀ p, H p = none → Q (.ref p) (upd H p (.lst (natsV S)))) : rSorted K [.ref a] H Q := by
  rw [nats_ints] at h
  refine ⟨a, _, rfl, SqL.of h, by rw [List.length_map]; exact hn, fun ns' p h1 h2 hp0 => ?_⟩
  rw [sorted_sub so (h1.trans (hp.map _)) h2]
  have := k p hp0
  rw [nats_ints] at this
  exact this
theorem cat_nats (xs ys : List Nat) : natsV xs ++ natsV ys = natsV (xs ++ ys) := (List.map_append ..).symm
/-- tuple(list): a new tuple, its object known -/
def rTupF (K : PySem.W.Frag) : List V → Hp → VK → Prop := fun xs H Q => ∃ p ys, xs = [V.ref p] ∧ SqL K H p ys ∧ ∀ (l : Addr) (o : Obj), H l = none → o.dict = none → Q (.ref l) (upd H l (.frz o (.tup ys)))
theorem call_tuple_frz {X : Cx} : CallR X (.type "tuple") (rTupF X.K) := by
  intro pins s σ H xs us Q I r h
  obtain ⟨p, ys, rfl, hs, q⟩ := h
  obtain ⟨u, rfl, ru⟩ := vals1 r
  cases ru
  obtain ⟨its, rv, pl, hz⟩ := I.list hs
  refine call_tuple_list pl.isList (fun h' hk => ?_) (by rw [List.size_toArray, ← rv.length]; exact hz)
  have I1 : Inv X pins σ H { s with heap := h' } := I.kept (t' := s.toks) hk
  have I2 : Inv X pins σ (upd H h'.objs.size (.frz { cls := .type "tuple", data := .seq its.toArray } (.tup ys))) { s with heap := h'.push { cls := .type "tuple", data := .seq its.toArray } } :=
    I1.laid (t' := s.toks) (fun b o e => Heap.get?_push_of_some _ e) (Nat.le_refl _) (show ObjOk X.prog X.w _ _ _ (.frz _ (.tup ys)) from ⟨Heap.get?_push_size h' rfl, hz, its, rv, IsTup.new _ _⟩)
  exact ⟨.ref h'.objs.size, _, I2, rfl, q _ _ (I1.hok.fresh (Nat.le_refl _)) rfl⟩
theorem rd_tupF {K : PySem.W.Frag} {H : Hp} {Q : VK} {p : Addr} {ys : List V} (hs : H p = some (.lst ys)) (k : ∀ (l : Addr) (o : Obj), H l = none → o.dict = none → Q (.ref l) (upd H l (.frz o (.tup ys)))) : rTupF K [.ref p] H Q := ⟨p, ys, rfl, SqL.of hs, k⟩
/-- a tuple whose object is known to have no dict -/
def TupF (H : Hp) (a : Addr) (S : List Nat) : Prop := ∃ o : Obj, H a = some (.frz o (.tup (natsV S))) ∧ o.dict = none
theorem TupF.n {H : Hp} {a : Addr} {S : List Nat} (h : TupF H a S) : TupN H a S := let ⟨o, h, _⟩ := h; .inr ⟨o, h⟩
theorem TupF.same {H H' : Hp} {a : Addr} {S : List Nat} (h : TupF H a S) (s : Same H H') : TupF H' a S := let ⟨o, h, d⟩ := h; ⟨o, s _ _ h, d⟩
def spSub : Sp := fun vs H Q _ => ∃ (a t : Addr) (M : Tab), vs = [.ref a, .ref t] ∧ StAt H a ∧ TabAt H t M ∧ IsGrp M ∧ ∀ (q : Addr) (S : List Nat) (H' : Hp), SameX a H H' → StAt H' a → TupF H' q S → q ≠ a → SubOk M S → Q (.ref q) H'
theorem sc_law_subgroup : FnScope ["_law_state_here", "_law_table", "_law_found", "_law_turn", "_law_g", "_law_waiting", "_law_at_here", "_law_y", "_law_z"] ["_law_state_here", "_law_table"] HD.d_law_subgroup.scope := ⟨rfl, rfl, rfl, by decide +kernel, rfl, by decide +kernel, by decide +kernel⟩
theorem ok_lsub (T : Tx K mg) : Ok P w K mg base CX0 2 HD.d_law_subgroup ["_law_state_here", "_law_table"] spSub := by
  have G_law_take : Ok P w K mg base CX0 1 _ _ _ := ok_take T
  have nd := sc_law_subgroup.nd
  refine Ok.mk0 T fn__law_subgroup rfl sc_law_subgroup (fun vs H Q E h => ?_) (fun _ _ _ _ _ _ us hl => match us, hl with | [_, _], _ => rfl) (fun cdv A outer s H vs Q E hr h => ?_)
  · obtain ⟨a, t, M, rfl, _⟩ := h
    rfl
  · obtain ⟨a, t, M, rfl, hst, hT, G, k⟩ := h
    have hM := G.le
    have hM1 := G.pos
    obtain ⟨rs, ht1, ht2, ht3⟩ := id hT
    refine ⟨_, pss_cons
          -- _law_found = [0]
          (ps_set (i := 2) nd rfl (.inl rfl) (pe_lst (pa_cons pe_int pa_nil)))
         (pss_cons
          -- for _law_turn in range(1 + _law_take(_law_state_here, 2)):
          (ps_for PassesOwn.never rfl (pi_range1 (by rfl) T.b_range (pa_cons (pe_op op_add pe_int (pe_f (G_law_take) (hr.mono (by decide)) T.g_law_take pass0 (pa_cons (pv 0) (pa_cons pe_int pa_nil)))) pa_nil)) (pg_name (i := 3) nd rfl (.inl rfl)) (pss_cons
            -- _law_g = _law_take(_law_state_here, len(_law_table))
            (ps_set (i := 4) nd rfl (.inl rfl) (pe_f (G_law_take) (hr.mono (by decide)) T.g_law_take pass0 (pa_cons (pv 0) (pa_cons (pe_callB call_len_seq (by rfl) T.b_len (by decide +kernel) (pa_cons (pv 1) pa_nil)) pa_nil))))
           (pss_cons
            -- _law_waiting = [0] + _law_found + [_law_g]
            (ps_set (i := 5) nd rfl (.inl rfl) (pe_op op_cat (pe_op op_cat (pe_lst (pa_cons pe_int pa_nil)) (pv 2)) (pe_lst (pa_cons (pv 4) pa_nil))))
           (pss_cons
            -- _law_found = [0]
            (ps_set (i := 2) nd rfl (.inl rfl) (pe_lst (pa_cons pe_int pa_nil)))
           (pss_cons
            -- _law_at_here = 0
            (ps_set (i := 6) nd rfl (.inl rfl) pe_int)
           (pss_one
            -- while _law_at_here < len(_law_found):
            (ps_while PassesOwn.never (pt_cmpR op_lt (pv 6) (pe_callB call_len_seq (by rfl) T.b_len (by decide +kernel) (pa_cons (pv 2) pa_nil)) (nomark _)) (pss_cons
              -- for _law_y in _law_waiting:
              (ps_for PassesOwn.never rfl (pi_listK (K := K) (pv 5)) (pg_name (i := 7) nd rfl (.inl rfl)) (pss_cons
                -- _law_z = _law_table[_law_found[_law_at_here]][_law_y]
                (ps_set (i := 8) nd rfl (.inl rfl) (pe_ix (r := rIxT K) ix_tup (pe_ix (r := rIxT K) ix_tup (pv 1) (pe_ix (r := rIxL K) ix_list (pv 2) (pv 6) (fun _ _ => rfl)) (fun _ _ => rfl)) (pv 7) (fun _ _ => rfl)))
               (pss_one
                -- if _law_z not in _law_found:
                (ps_if (pt_cmpR (r := rIn K true) op_notIn_seq (pv 8) (pv 2) (by rfl)) (pss_one
                  -- _law_found.append(_law_z)
                  (ps_expr (pe_bm PySem.F.plainAttrs_list PySem.F.slot_list_append PySem.F.type_list_append mt_append (pv 2) (pa_cons (pv 8) pa_nil)))) (pss_nil)))))
             (pss_one
              -- _law_at_here = _law_at_here + 1
              (ps_set (i := 6) nd rfl (.inl rfl) (pe_op op_add (pv 6) pe_int)))))))))))
         (pss_one
          -- return tuple(sorted(_law_found))
          (ps_ret (pe_callTy call_tuple_frz (by rfl) T.b_tuple (by decide +kernel) (pa_cons (pe_callB cr_sorted (by rfl) T.b_sorted (by decide +kernel) (pa_cons (pv 2) pa_nil)) pa_nil))))), ?_⟩
    try dsimp only [cxOf, Cx.wish]
    walk_at "rd"
    intro f0 hf0
    have hf0a : f0 ≠ a := by
      obtain ⟨_, _, z, _⟩ := id hst
      exact Ne.symm (ne_of_none z hf0)
    have sX0 : SameX a H (upd H f0 (.lst (natsV [0]))) := SameX.of (Same.new hf0)
    have hst0 : StAt (upd H f0 (.lst (natsV [0]))) a := hst.same (Same.new hf0)
    have hF0 : upd H f0 (.lst (natsV [0])) f0 = some (.lst (natsV [0])) := upd_same
    show gName 2 (V.ref f0) _ (upd H f0 (.lst (natsV [0]))) _
    generalize upd H f0 (.lst (natsV [0])) = H1 at sX0 hst0 hF0 ⊢
    walk_at "rd"
    refine ⟨a, 2, rfl, hst0, by omega, by omega, fun v H2 hv s2 hst2 => ?_⟩
    have sX2 := sX0.trans s2
    have hF2 := s2 _ _ hf0a hF0
    walk_at "rd"
    have e1v : (1 : Int) + ((v : Nat) : Int) = ((1 + v : Nat) : Int) := by omega
    rw [e1v]
    have hta : t ≠ a := by
      rintro rfl
      obtain ⟨_, _, z, _⟩ := id hst
      rw [ht1] at z
      cases z
    refine fj_range (1 + v) (fun i σ H' => ∃ (f : Addr) (ch R : List Nat) (v3 v4 v5 v6 v7 v8 : Option V), σ = [some (.ref a), some (.ref t), some (.ref f), v3, v4, v5, v6, v7, v8] ∧ SameX a H H' ∧ StAt H' a ∧ H' f = some (.lst (natsV R)) ∧ f ≠ a ∧ H f = none ∧ Reach M ch R)
      ⟨f0, [], [0], none, none, none, none, none, none, rfl, sX2, hst2, hF2, hf0a, hf0, reach0 hM1⟩ ?_ ?_
    · rintro i σ H3 hi ⟨f, ch0, R, v3, v4, v5, v6, v7, v8, rfl, s3, hst3, hF3, hfa, hfH, hR⟩
      have hRl := hR.le
      have ht3' := s3 _ _ hta ht1
      walk_at "rd"
      rw [List.length_map, ht2]
      refine ⟨a, M.length, rfl, hst3, hM1, by omega, fun g H4 hg s4 hst4 => ?_⟩
      have hF4 := s4 _ _ hfa hF3
      have sX4 := s3.trans s4
      walk_at "rd"
      intro p1 hp1
      walk_at "rd"
      intro p2 hp2
      walk_at "rd"
      intro p3 hp3
      walk_at "rd"
      intro wt hwt
      walk_at "rd"
      intro f2 hf2
      walk_at "rd"
      obtain ⟨ch, hch⟩ : ∃ ch, ch = 0 :: (R ++ [g]) := ⟨_, rfl⟩
      have ec : ([V.int 0] ++ natsV R) ++ [nV g] = natsV ch := by
        rw [hch]
        show V.int 0 :: (natsV R ++ natsV [g]) = _
        rw [cat_nats]
        rfl
      rw [ec] at hf2 ⊢
      have hchl : ch.length ≤ 1000 := by
        rw [hch, List.length_cons, List.length_append]
        show R.length + 1 + 1 ≤ 1000
        omega
      have hchM : ∀ x ∈ ch, x < M.length := by
        intro x hx
        rw [hch] at hx
        rcases List.mem_cons.mp hx with z | z
        · omega
        · rcases List.mem_append.mp z with z | z
          · exact hR.lt x z
          · rw [List.mem_singleton.mp z]
            exact hg
      have hwf : wt ≠ f2 := by
        rintro rfl
        rw [upd_same] at hf2
        cases hf2
      generalize hH5 : upd (upd (upd (upd (upd H4 p1 _) p2 _) p3 _) wt _) f2 _ = H5
      have s45 : Same H4 H5 := by
        rw [← hH5]
        exact ((((Same.new hp1).trans (Same.new hp2)).trans (Same.new hp3)).trans (Same.new hwt)).trans (Same.new hf2)
      have hf20 : H4 f2 = none := none_of ((((Same.new hp1).trans (Same.new hp2)).trans (Same.new hp3)).trans (Same.new hwt)) hf2
      have hF5 : H5 f2 = some (.lst (natsV [0])) := by
        rw [← hH5]
        exact upd_same
      have hW5 : H5 wt = some (.lst (natsV ch)) := by
        rw [← hH5, upd_ne hwf]
        exact upd_same
      clear hH5
      have hst5 := hst4.same s45
      have sX5 := sX4.trans (SameX.of s45)
      have hf2H : H f2 = none := by
        refine sX4.none_ hf20 hst4.ex
      have hf2a : f2 ≠ a := hst4.ne hf20
      have ht5 := sX5 _ _ hta ht1
      have htf : t ≠ f2 := fun z => by
        rw [z, hf2H] at ht1
        cases ht1
      have hrow5 : ∀ r, r < M.length → ∃ q : Addr, rs[r]? = some q ∧ H5 q = some (.tup (natsV (M.getD r []))) ∧ q ≠ f2 := fun r hr => by
        obtain ⟨q, e2, e3⟩ := row_of ht2 ht3 hr
        refine ⟨q, e2, hst.fz sX5 _ _ e3 rfl, fun z => ?_⟩
        rw [z, hf2H] at e3
        cases e3
      refine wh (fun m σ H' => ∃ (n : Nat) (O : List Nat) (v7 v8 : Option V), m = M.length - n ∧ σ = [some (.ref a), some (.ref t), some (.ref f2), some (nV i), some (nV g), some (.ref wt), some (nV n), v7, v8] ∧ RInv M ch n O ∧ SameX f2 H5 H' ∧ H' f2 = some (.lst (natsV O)))
        (M.length - 0) ⟨0, [0], _, _, rfl, rfl, RInv.start hM1, fun p o _ h => h, hF5⟩ ?_
      rintro m σ H' ⟨n, O, v7, v8, rfl, rfl, I, s6, hO⟩
      have hOM := I.le
      walk_at "rd"
      rw [List.length_map]
      refine if_d (fun hlt => ?_) (fun hge => ?_)
      · have hlt' : n < O.length := by omega
        refine wstep ?_
        have hW6 := s6 _ _ hwf hW5
        walk_at "rd"
        obtain ⟨r, hr⟩ : ∃ r, O[n]? = some r := ⟨_, List.getElem?_eq_getElem hlt'⟩
        have hrM := I.lt r (List.mem_of_getElem? hr)
        obtain ⟨q, e2, e3, e4⟩ := hrow5 r hrM
        have hrow := G.sq.row r hrM
        refine fj_list (xs := natsV ch) (fun j σ H' => ∃ (O' : List Nat) (v7 v8 : Option V), σ = [some (.ref a), some (.ref t), some (.ref f2), some (nV i), some (nV g), some (.ref wt), some (nV n), v7, v8] ∧ RInv M ch n O' ∧ O'[n]? = some r ∧ (∀ i g, i < j → ch[i]? = some g → tm M r g ∈ O') ∧ SameX f2 H5 H' ∧ H' f2 = some (.lst (natsV O')))
          ⟨O, _, _, rfl, I, hr, fun i g hi => by omega, s6, hO⟩ (fun i σ H' _ z => SqL.of (by obtain ⟨_, _, _, _, _, _, _, z, _⟩ := z; exact z _ _ hwf hW5)) ?_ ?_
        · rintro j x σ H7 hx ⟨O', v7, v8, rfl, I', hr', hj, s7, hO'⟩
          obtain ⟨y, rfl, hy⟩ := nats_get hx
          have hym := List.mem_of_getElem? hy
          have hyM := hchM y hym
          have ht7 := s7 _ _ htf ht5
          have e37 := s7 _ _ e4 e3
          have hO'M := I'.le
          have hnl := (List.getElem?_eq_some_iff.mp hr').1
          have hget : O'.getD n 0 = r := by
            rw [List.getD_eq_getElem?_getD, hr']
            rfl
          walk_at "rd"
          rw [hget]
          walk_at "rd"
          have hin : tm M r y = (M.getD r []).getD y 0 := rfl
          rw [← hin]
          by_cases hm : tm M r y ∈ O'
          · rw [decide_eq_true hm]
            refine if_bF (by simp) ?_
            walk_at "rd"
            refine at_i ⟨O', _, _, rfl, I', hr', fun i g' hi hg' => ?_, s7, hO'⟩
            by_cases z : i = j
            · subst z
              rw [hy] at hg'
              cases hg'
              exact hm
            · exact hj i g' (by omega) hg'
          · rw [decide_eq_false hm]
            refine if_bT (by simp) ?_
            walk_at "rd"
            have ea : addK O' (tm M r y) = O' ++ [tm M r y] := by unfold addK; rw [if_neg hm]
            refine at_i ⟨addK O' (tm M r y), _, _, rfl, I'.add G.sq hnl (List.mem_of_getElem? hr') hym hyM, addK_get hr', fun i g' hi hg' => ?_, s7.trans SameX.upd, ?_⟩
            · by_cases z : i = j
              · subst z
                rw [hy] at hg'
                cases hg'
                exact addK_mem.mpr (.inr rfl)
              · exact addK_mem.mpr (.inl (hj i g' (by omega) hg'))
            · rw [upd_same, snoc_nats, ea]
        · rintro σ H7 ⟨O', v7, v8, rfl, I', hr', hj, s7, hO'⟩
          rw [List.length_map] at hj
          walk_at "rd"
          refine wn (M.length - (n + 1)) (by omega) ⟨n + 1, O', _, _, rfl, rfl, I'.next hr' (fun y hy => ?_), s7, hO'⟩
          obtain ⟨j, hjl, e⟩ := List.mem_iff_getElem.mp hy
          exact hj j y hjl (by rw [List.getElem?_eq_getElem hjl, e])
      · walk_at "rd"
        refine at_i ⟨f2, ch, O, _, _, _, _, _, _, rfl, fun p o hp e => ?_, ?_, hO, hf2a, hf2H, I.done (by omega)⟩
        · have hpf : p ≠ f2 := fun z => by
            rw [z, hf2H] at e
            cases e
          exact s6 _ _ hpf (sX5 _ _ hp e)
        · obtain ⟨s9, t9, q1, q2, q3⟩ := hst5
          exact ⟨s9, t9, s6 _ _ (Ne.symm hf2a) q1, q2, q3⟩
    · rintro σ H3 ⟨f, ch, R, v3, v4, v5, v6, v7, v8, rfl, s3, hst3, hF3, hfa, hfH, hR⟩
      have hRl := hR.le
      walk_at "rd"
      refine rd_sortP hF3 (sortS_perm hR.nd hR.lt) (sortS_so M R) (by omega) (fun p1 hp1 => ?_)
      refine rd_tupF upd_same fun p2 o hp2 ho => ?_
      have sF := (Same.new (o := .lst (natsV (sortS M R))) hp1).trans (Same.new (o := .frz o (.tup (natsV (sortS M R)))) hp2)
      refine k p2 (sortS M R) _ (s3.trans (SameX.of sF)) (hst3.same sF) ⟨o, upd_same, ho⟩ (fun z => ?_) (reach_sub G hR)
      subst z
      obtain ⟨_, _, z1, _⟩ := hst3.same (Same.new (o := .lst (natsV (sortS M R))) hp1)
      rw [hp2] at z1
      cases z1
end
end L2.KL
set_option Elab.async false
set_option linter.all false
set_option maxRecDepth 100000
set_option maxHeartbeats 4000000
namespace L2.KL
open PySem PySem.Spec PyProof.Rows PySem.W
local macro_rules | `(tactic| walk_at "hp") => `(tactic| first
  | assumption)
local macro_rules | `(tactic| walk_at "cl") => `(tactic| first
  | (with_reducible rfl)
  | ((with_reducible show (_ : Int) < _); first | omega | (simp only [List.length_map]; omega))
  | ((with_reducible show (_ : Int) ≤ _); first | omega | (simp only [List.length_map]; omega)))
local macro_rules | `(tactic| walk_at "r1") => `(tactic| first
  | (with_reducible refine rd_seq ?_)
  | ((with_reducible apply rd_var); (· exact rfl))
  | (with_reducible refine rd_c ?_)
  | (with_reducible refine rd_op ?_)
  | (with_reducible refine rd_cb ?_)
  | (with_reducible refine rd_cons ?_)
  | (with_reducible refine rd_nil ?_)
  | (with_reducible refine rd_call ?_)
  | (with_reducible refine rd_asg ?_)
  | (with_reducible refine rd_name ?_)
  | (with_reducible refine rd_ret ?_)
  | (with_reducible refine rd_if ?_)
  | (with_reducible refine rd_test ?_)
  | (with_reducible refine rd_next ?_)
  | (with_reducible refine rd_I0 ?_)
  | ((with_reducible apply rd_ixT); (· walk_at "hp"); (· walk_at "at"))
  | ((with_reducible apply rd_eq); (· exact rfl))
  | (with_reducible refine rd_iRng1 ?_)
  | (with_reducible refine rd_lc ?_)
  | (with_reducible refine rd_make ?_)
  | ((with_reducible apply or_tl); (· walk_at "hp"))
  | (with_reducible apply Exists.intro)
  | ((with_reducible refine And.intro ?_ ?_); (· walk_at "cl")))
local macro_rules | `(tactic| walk_at "at") => `(tactic| first
  | exact rfl)
local macro_rules | `(tactic| walk_at "rd") => `(tactic| ((repeat walk_at "r1"); (try dsimp only [List.set])))
local macro_rules | `(tactic| walk_at "cl") => `(tactic| fail)
local macro_rules | `(tactic| walk_at "r1") => `(tactic| fail)
theorem PGrp.le24 {n : Nat} {L : List (List Nat)} (hn : n = 3 ∨ n = 4) (h : PGrp n L) : L.length ≤ 24 := by
  exact Nat.le_trans (nodup_sub L (allP n) h.nd fun p hp => allP_mem (h.isP p hp)) (allP_len hn)
section
variable {P : Program} {w : World} {K : PySem.W.Frag} {mg : Str → Option Value} {base : Heap}
def spGrp (K : PySem.W.Frag) : Sp := fun vs H Q _ => ∃ (a : Addr), vs = [.ref a] ∧ StAt H a ∧ ∀ (q : Addr) (M : Tab) (H' : Hp), SameX a H H' → StAt H' a → GrpAt (CG K) H' q M → IsGrp M → M.length ≤ 24 → Q (.ref q) H'
theorem sc_law_group : FnScope ["_law_state_here", "_law_pick", "_law_points", "_law_many", "_law_k"] ["_law_state_here"] HD.d_law_group.scope := ⟨rfl, rfl, rfl, by decide +kernel, rfl, by decide +kernel, by decide +kernel⟩
theorem ok_lgrp (T : Tx K mg) : Ok P w K mg base CX0 8 HD.d_law_group ["_law_state_here"] (spGrp K) := by
  have G_law_take : Ok P w K mg base CX0 1 _ _ _ := ok_take T
  have G_law_images : Ok P w K mg base CX0 2 _ _ _ := ok_imgs T
  have G_cyclic : Ok P w K mg base CX0 6 _ _ _ := ok_cyclic T
  have G_direct : Ok P w K mg base CX0 6 _ _ _ := ok_direct T
  have G_from_permutations : Ok P w K mg base CX0 7 _ _ _ := ok_from T
  have G_Permutation_init : Ok P w K mg base CX0 2 _ _ _ := ok_pinit T
  have nd := sc_law_group.nd
  refine Ok.mk0 T fn__law_group rfl sc_law_group (fun vs H Q E h => ?_) (fun _ _ _ _ _ _ us hl => match us, hl with | [_], _ => rfl) (fun cdv A outer s H vs Q E hr h => ?_)
  · obtain ⟨a, rfl, _⟩ := h
    rfl
  · obtain ⟨a, rfl, hst, k⟩ := h
    refine ⟨_, pss_cons
          -- _law_pick = _law_take(_law_state_here, 8)
          (ps_set (i := 1) nd rfl (.inl rfl) (pe_f (G_law_take) (hr.mono (by decide)) T.g_law_take pass0 (pa_cons (pv 0) (pa_cons pe_int pa_nil))))
         (pss_cons
          -- if _law_pick < 2:
          (ps_if (pt_cmpR op_lt (pv 1) pe_int (nomark _)) (pss_one
            -- return cyclic(1 + _law_take(_law_state_here, 6))
            (ps_ret (pe_f (G_cyclic) (hr.mono (by decide)) T.g_cyclic pass0 (pa_cons (pe_op op_add pe_int (pe_f (G_law_take) (hr.mono (by decide)) T.g_law_take pass0 (pa_cons (pv 0) (pa_cons pe_int pa_nil)))) pa_nil)))) (pss_nil))
         (pss_cons
          -- if _law_pick == 2:
          (ps_if (pt_cmpR op_eq (pv 1) pe_int (nomark _)) (pss_one
            -- return direct(cyclic(2), cyclic(2 + _law_take(_law_state_here, 2)))
            (ps_ret (pe_f (G_direct) (hr.mono (by decide)) T.g_direct pass0 (pa_cons (pe_f (G_cyclic) (hr.mono (by decide)) T.g_cyclic pass0 (pa_cons pe_int pa_nil)) (pa_cons (pe_f (G_cyclic) (hr.mono (by decide)) T.g_cyclic pass0 (pa_cons (pe_op op_add pe_int (pe_f (G_law_take) (hr.mono (by decide)) T.g_law_take pass0 (pa_cons (pv 0) (pa_cons pe_int pa_nil)))) pa_nil)) pa_nil))))) (pss_nil))
         (pss_cons
          -- _law_points = 3
          (ps_set (i := 2) nd rfl (.inr rfl) pe_int)
         (pss_cons
          -- if _law_pick == 7:
          (ps_if (pt_cmpR op_eq (pv 1) pe_int (nomark _)) (pss_one
            -- _law_points = 4
            (ps_set (i := 2) nd rfl (.inr rfl) pe_int)) (pss_nil))
         (pss_cons
          -- _law_many = 1 + _law_take(_law_state_here, 2)
          (ps_set (i := 3) nd rfl (.inl rfl) (pe_op op_add pe_int (pe_f (G_law_take) (hr.mono (by decide)) T.g_law_take pass0 (pa_cons (pv 0) (pa_cons pe_int pa_nil)))))
         (pss_one
          -- return from_permutations(tuple([Permutation(_law_images(_law_state_here, _law_points)) for _law_k in range(_law_many)]))[0]
          (ps_ret (pe_ix (r := rIxT K) ix_tup (pe_f (G_from_permutations) (hr.mono (by decide)) T.g_from_permutations pass0 (pa_cons (pe_callTy call_tuple_of (by rfl) T.b_tuple (by decide +kernel) (pa_cons (pe_lc (own := [("_law_k", 4)]) (g := gName 4) (tt := tYes) (by rfl) nd (pi_range1 (by rfl) T.b_range (pa_cons (pv 3) pa_nil)) (blkOk_by (own := [("_law_k", 4)]) (N := ["_law_state_here", "_law_pick", "_law_points", "_law_many", "_law_k"]) (sc := HD.d_law_group.scope) (by decide +kernel)) (fun _ _ _ _ _ => (pg_name (i := 4) nd rfl (.inl rfl))) (fun _ _ _ _ _ => pts_nil) (fun _ _ _ _ _ => (pe_mk G_Permutation_init (hr.mono (by decide)) T.mk_Permutation T.g_Permutation pass0 (pa_cons (pe_f (G_law_images) (hr.mono (by decide)) T.g_law_images pass0 (pa_cons (pv 0) (pa_cons (pv 2) pa_nil))) pa_nil)))) pa_nil)) pa_nil)) pe_int (fun _ _ => rfl))))))))), ?_⟩
    try dsimp only [cxOf, Cx.wish]
    walk_at "rd"
    refine ⟨a, 8, rfl, hst, by omega, by omega, fun v H1 hv s1 hst1 => ?_⟩
    walk_at "rd"
    refine if_d (fun hlt => ?_) (fun hge => ?_)
    · walk_at "rd"
      refine ⟨a, 6, rfl, hst1, by omega, by omega, fun u H2 hu s2 hst2 => ?_⟩
      walk_at "rd"
      have e1v : (1 : Int) + ((u : Nat) : Int) = ((1 + u : Nat) : Int) := by omega
      rw [e1v]
      exact ⟨1 + u, rfl, by omega, by omega, fun q H3 s3 h3 => k q _ H3 ((s1.trans s2).trans (SameX.of s3)) (hst2.same s3) h3 (cyc_grp (by omega) (by omega)) (by rw [cycT_len]; omega)⟩
    · walk_at "rd"
      refine if_eq (fun he => ?_) (fun hne => ?_)
      · walk_at "rd"
        refine ⟨2, rfl, by omega, by omega, fun q1 H2 s2 h2 => ?_⟩
        walk_at "rd"
        refine ⟨a, 2, rfl, hst1.same s2, by omega, by omega, fun u H3 hu s3 hst3 => ?_⟩
        walk_at "rd"
        have e1v : (2 : Int) + ((u : Nat) : Int) = ((2 + u : Nat) : Int) := by omega
        rw [e1v]
        refine ⟨2 + u, rfl, by omega, by omega, fun q2 H4 s4 h4 => ?_⟩
        walk_at "rd"
        have G2 : IsGrp (cycT 2) := cyc_grp (by omega) (by omega)
        have Gu : IsGrp (cycT (2 + u)) := cyc_grp (by omega) (by omega)
        have sX3 := (s1.trans (SameX.of s2)).trans s3
        have hst4 := hst3.same s4
        have h2' := (h2.fz ((hst1.same s2).fz s3)).fz (Fz.of s4)
        refine ⟨q1, q2, cycT 2, cycT (2 + u), rfl, h2', h4, G2.sq, Gu.sq, Gu.pos, G2.le, Gu.le, by rw [cycT_len, cycT_len]; omega, dir_grp (by omega), fun q H5 s5 h5 => ?_⟩
        have l : (dirT (cycT 2) (cycT (2 + u))).length = 2 * (2 + u) := by unfold dirT; rw [List.length_map, List.length_range, cycT_len, cycT_len]
        exact k q _ H5 ((sX3.trans (SameX.of s4)).trans (SameX.of s5)) (hst4.same s5) h5 (dir_grp (by omega)) (by rw [l]; omega)
      · walk_at "rd"
        refine if_eq (fun he => ?_) (fun hne => ?_)
        · skip
          walk_at "rd"
          refine ⟨a, 2, rfl, hst1, by omega, by omega, fun u H2 hu s2 hst2 => ?_⟩
          have sX2 := s1.trans s2
          walk_at "rd"
          have e1v : (1 : Int) + ((u : Nat) : Int) = ((1 + u : Nat) : Int) := by omega
          rw [e1v]
          refine lcj_it (n := 1 + u) (walk_rg _) (fun D i H' => D ≠ a ∧ SameX a H2 H' ∧ StAt H' a ∧ ∃ (ps : List Addr) (gl : List (List Nat)), H' D = some (.lst (refsV ps)) ∧ AllAt (PermR (CP K)) H' ps gl ∧ gl.length = i ∧ ∀ g ∈ gl, IsP 4 g) (fun D hD => ⟨hst2.ne hD, SameX.of (Same.new hD), hst2.same (Same.new hD), [], [], upd_same, AllAt.nil, rfl, fun x h => by cases h⟩) (fun _ _ _ _ _ => trivial) ?_ ?_
          · rintro D i x H3 H4 hD hi ⟨hDa, s3, hst3, ps, gl, hD3, hA, hgl, hgP⟩ ⟨rfl, rfl⟩
            have hrl := hA.1
            refine ⟨rfl, tyes ?_⟩
            walk_at "rd"
            refine ⟨a, 4, rfl, hst3, by omega, by omega, fun l xs H5 hl s5 hst5 hl5 hxs => ?_⟩
            walk_at "rd"
            refine mkP_use (C := CP K) (Q := fun y H4 => ∃ acc, H4 D = some (.lst acc) ∧ acc.length < sizeLine ∧ (D ≠ a ∧ SameX a H2 (upd H4 D (.lst (acc ++ [y]))) ∧ StAt (upd H4 D (.lst (acc ++ [y]))) a ∧ ∃ (ps : List Addr) (gl : List (List Nat)), upd H4 D (.lst (acc ++ [y])) D = some (.lst (refsV ps)) ∧ AllAt (PermR (CP K)) (upd H4 D (.lst (acc ++ [y]))) ps gl ∧ gl.length = i + 1 ∧ ∀ g ∈ gl, IsP 4 g)) l 4 xs rfl (.inl hl5) hxs (by omega) (by omega) (fun q H6 s6 hq => ?_)
            have hD5 := s6 _ _ (s5 _ _ hDa hD3)
            have s35 : SameX a _ H6 := s5.trans (SameX.of s6)
            have hst6 := hst5.same s6
            refine ⟨refsV ps, hD5, ?_, hDa, ?_, ?_, ps ++ [q], gl ++ [xs], ?_, ?_, ?_, ?_⟩
            · rw [List.length_map, sizeLine_eq]
              omega
            · exact fun p o n hp => by
                rw [upd_ne (ne_of_none hp hD)]
                exact s35 _ _ n (s3 _ _ n hp)
            · obtain ⟨s9, t9, q1, q2, q3⟩ := hst6
              exact ⟨s9, t9, by rw [upd_ne (Ne.symm hDa)]; exact q1, q2, q3⟩
            · rw [upd_same, snoc_refs]
            · have f4 : Fz H6 (upd H6 D (.lst (refsV ps ++ [V.ref q]))) := Fz.upd hD5 rfl
              exact ((hA.fz (permRfm (CP K)) (hst3.fz s35)).fz (permRfm (CP K)) f4).snoc (PermAt.fz f4 hq)
            · rw [List.length_append, hgl]
              rfl
            · intro x hx
              rcases List.mem_append.mp hx with hx | hx
              · exact hgP x hx
              · rw [List.mem_singleton.mp hx]
                exact hxs
          · rintro D H3 hD ⟨hDa, s3, hst3, ps, gl, hD3, hA, hgl, hgP⟩
            walk_at "rd"
            intro tp htp
            walk_at "rd"
            refine ⟨tp, ps, gl, 4, rfl, upd_same, hA.fz (permRfm (CP K)) (Fz.of (Same.new htp)), hgP, by omega, by omega, by omega, fun L t g p H5 hL s5 ht5 hg5 => ?_⟩
            walk_at "rd"
            have s35 := (Same.new htp).trans s5
            exact k g (tabP L) H5 ((sX2.trans s3).trans (SameX.of s35)) (hst3.same s35) hg5 (tabP_grp hL) (by rw [tabP_len]; exact PGrp.le24 (by omega) hL)
        · skip
          walk_at "rd"
          refine ⟨a, 2, rfl, hst1, by omega, by omega, fun u H2 hu s2 hst2 => ?_⟩
          have sX2 := s1.trans s2
          walk_at "rd"
          have e1v : (1 : Int) + ((u : Nat) : Int) = ((1 + u : Nat) : Int) := by omega
          rw [e1v]
          refine lcj_it (n := 1 + u) (walk_rg _) (fun D i H' => D ≠ a ∧ SameX a H2 H' ∧ StAt H' a ∧ ∃ (ps : List Addr) (gl : List (List Nat)), H' D = some (.lst (refsV ps)) ∧ AllAt (PermR (CP K)) H' ps gl ∧ gl.length = i ∧ ∀ g ∈ gl, IsP 3 g) (fun D hD => ⟨hst2.ne hD, SameX.of (Same.new hD), hst2.same (Same.new hD), [], [], upd_same, AllAt.nil, rfl, fun x h => by cases h⟩) (fun _ _ _ _ _ => trivial) ?_ ?_
          · rintro D i x H3 H4 hD hi ⟨hDa, s3, hst3, ps, gl, hD3, hA, hgl, hgP⟩ ⟨rfl, rfl⟩
            have hrl := hA.1
            refine ⟨rfl, tyes ?_⟩
            walk_at "rd"
            refine ⟨a, 3, rfl, hst3, by omega, by omega, fun l xs H5 hl s5 hst5 hl5 hxs => ?_⟩
            walk_at "rd"
            refine mkP_use (C := CP K) (Q := fun y H4 => ∃ acc, H4 D = some (.lst acc) ∧ acc.length < sizeLine ∧ (D ≠ a ∧ SameX a H2 (upd H4 D (.lst (acc ++ [y]))) ∧ StAt (upd H4 D (.lst (acc ++ [y]))) a ∧ ∃ (ps : List Addr) (gl : List (List Nat)), upd H4 D (.lst (acc ++ [y])) D = some (.lst (refsV ps)) ∧ AllAt (PermR (CP K)) (upd H4 D (.lst (acc ++ [y]))) ps gl ∧ gl.length = i + 1 ∧ ∀ g ∈ gl, IsP 3 g)) l 3 xs rfl (.inl hl5) hxs (by omega) (by omega) (fun q H6 s6 hq => ?_)
            have hD5 := s6 _ _ (s5 _ _ hDa hD3)
            have s35 : SameX a _ H6 := s5.trans (SameX.of s6)
            have hst6 := hst5.same s6
            refine ⟨refsV ps, hD5, ?_, hDa, ?_, ?_, ps ++ [q], gl ++ [xs], ?_, ?_, ?_, ?_⟩
            · rw [List.length_map, sizeLine_eq]
              omega
            · exact fun p o n hp => by
                rw [upd_ne (ne_of_none hp hD)]
                exact s35 _ _ n (s3 _ _ n hp)
            · obtain ⟨s9, t9, q1, q2, q3⟩ := hst6
              exact ⟨s9, t9, by rw [upd_ne (Ne.symm hDa)]; exact q1, q2, q3⟩
            · rw [upd_same, snoc_refs]
            · have f4 : Fz H6 (upd H6 D (.lst (refsV ps ++ [V.ref q]))) := Fz.upd hD5 rfl
              exact ((hA.fz (permRfm (CP K)) (hst3.fz s35)).fz (permRfm (CP K)) f4).snoc (PermAt.fz f4 hq)
            · rw [List.length_append, hgl]
              rfl
            · intro x hx
              rcases List.mem_append.mp hx with hx | hx
              · exact hgP x hx
              · rw [List.mem_singleton.mp hx]
                exact hxs
          · rintro D H3 hD ⟨hDa, s3, hst3, ps, gl, hD3, hA, hgl, hgP⟩
            walk_at "rd"
            intro tp htp
            walk_at "rd"
            refine ⟨tp, ps, gl, 3, rfl, upd_same, hA.fz (permRfm (CP K)) (Fz.of (Same.new htp)), hgP, by omega, by omega, by omega, fun L t g p H5 hL s5 ht5 hg5 => ?_⟩
            walk_at "rd"
            have s35 := (Same.new htp).trans s5
            exact k g (tabP L) H5 ((sX2.trans s3).trans (SameX.of s35)) (hst3.same s35) hg5 (tabP_grp hL) (by rw [tabP_len]; exact PGrp.le24 (by omega) hL)
end
end L2.KL
set_option Elab.async false
set_option linter.all false
set_option maxRecDepth 100000
set_option maxHeartbeats 4000000
namespace L2.KL
open PySem PySem.Spec PyProof.Rows PySem.W
local macro_rules | `(tactic| walk_at "hp") => `(tactic| fail)
local macro_rules | `(tactic| walk_at "cl") => `(tactic| first
  | (with_reducible rfl)
  | assumption
  | (with_reducible exact nk_group (by decide +kernel)))
local macro_rules | `(tactic| walk_at "r1") => `(tactic| first
  | (with_reducible refine rd_seq ?_)
  | ((with_reducible apply rd_var); (· exact rfl))
  | (with_reducible refine rd_c ?_)
  | (with_reducible refine rd_cons ?_)
  | (with_reducible refine rd_nil ?_)
  | (with_reducible refine rd_call ?_)
  | (with_reducible refine rd_meth ?_)
  | (with_reducible refine rd_asg ?_)
  | (with_reducible refine rd_name ?_)
  | (with_reducible refine rd_ret ?_)
  | (with_reducible refine rd_if ?_)
  | (with_reducible refine rd_B ?_)
  | (with_reducible refine rd_not ?_)
  | (with_reducible refine rd_next ?_)
  | (with_reducible refine rd_iTup ?_)
  | (with_reducible refine rd_lc ?_)
  | (with_reducible refine rd_dc ?_)
  | (with_reducible refine rd_make ?_)
  | (with_reducible refine rd_dget ?_)
  | (with_reducible refine iteNT ?_)
  | (with_reducible refine iteNF ?_)
  | (with_reducible apply Exists.intro)
  | ((with_reducible refine And.intro ?_ ?_); (· walk_at "cl")))
local macro_rules | `(tactic| walk_at "at") => `(tactic| fail)
local macro_rules | `(tactic| walk_at "rd") => `(tactic| ((repeat walk_at "r1"); (try dsimp only [List.set])))
local macro_rules | `(tactic| walk_at "cl") => `(tactic| first
  | (exact TupN.sq (by assumption))
  | (exact ⟨_, TupN.sq (by assumption)⟩))
local macro_rules | `(tactic| walk_at "r1") => `(tactic| fail)
/-! a dict that tells the places of numbers -/
def kvI : Nat → List Nat → List (Key × V)
  | _, [] => []
  | i, p :: r => (.inl ((p : Nat) : Int), nV i) :: kvI (i + 1) r
theorem kvI_len : ∀ (i : Nat) (L : List Nat), (kvI i L).length = L.length
  | _, [] => rfl
  | i, _ :: r => congrArg Nat.succ (kvI_len (i + 1) r)
theorem valV_I (x : Nat) : ∀ (i : Nat) (L : List Nat), valV (kvI i L) (.inl ((x : Nat) : Int)) = if x ∈ L then some (nV (i + L.idxOf x)) else none
  | _, [] => rfl
  | i, p :: r => by
    show valV ((.inl ((p : Nat) : Int), nV i) :: kvI (i + 1) r) _ = _
    by_cases h : p = x
    · subst h
      rw [valV_pos rfl, if_pos (.head _), List.idxOf_cons_self]
      rfl
    · rw [valV_neg (fun z => h (by have := Sum.inl.inj z; omega)), valV_I x (i + 1) r]
      by_cases hm : x ∈ r
      · have e : (p :: r).idxOf x = r.idxOf x + 1 := by
          rw [List.idxOf_cons]
          have : (p == x) = false := beq_eq_false_iff_ne.mpr h
          rw [this]
          rfl
        rw [if_pos hm, if_pos (.tail _ hm), e, show i + 1 + r.idxOf x = i + (r.idxOf x + 1) by omega]
      · rw [if_neg hm, if_neg (fun z => by rcases List.mem_cons.mp z with y | y; exact h y.symm; exact hm y)]
theorem kvI_snoc (p : Nat) : ∀ (i : Nat) (L : List Nat), kvI i (L ++ [p]) = kvI i L ++ [(.inl ((p : Nat) : Int), nV (i + L.length))]
  | i, [] => rfl
  | i, q :: r => by
    show (Sum.inl ((q : Nat) : Int), nV i) :: kvI (i + 1) (r ++ [p]) = (Sum.inl ((q : Nat) : Int), nV i) :: (kvI (i + 1) r ++ _)
    rw [kvI_snoc p (i + 1) r]
    rw [show i + 1 + r.length = i + (q :: r).length by show _ = i + (r.length + 1); omega]
theorem putK_I {L : List Nat} {p : Nat} (h : p ∉ L) : putK (kvI 0 L) (.inl ((p : Nat) : Int)) (nV L.length) = kvI 0 (L ++ [p]) := by
  unfold putK
  rw [valV_any, valV_I, if_neg h, if_neg (by simp), kvI_snoc, Nat.zero_add]
theorem dg_numI {H : Hp} {a : Addr} {L : List Nat} {x : Nat} (h : H a = some (.dK (kvI 0 L))) (hx : x ∈ L) : DGet H a (nV x) (some (nV (L.idxOf x))) := by
  have e : valV (kvI 0 L) (.inl ((x : Nat) : Int)) = some (nV (L.idxOf x)) := by rw [valV_I, if_pos hx, Nat.zero_add]
  rw [← e]
  exact DGet.k (k := .inl ((x : Nat) : Int)) h
theorem dg_isI {H : Hp} {a : Addr} {L : List Nat} {x : Nat} (h : H a = some (.dK (kvI 0 L))) : DGet H a (nV x) (if x ∈ L then some (nV (L.idxOf x)) else none) := by
  have e := valV_I x 0 L
  rw [Nat.zero_add] at e
  rw [← e]
  exact DGet.k (k := .inl ((x : Nat) : Int)) h
theorem not_take {S : List Nat} (nd : S.Nodup) {i x : Nat} (hx : S[i]? = some x) : x ∉ S.take i := by
  intro hm
  obtain ⟨j, hj, ej⟩ := List.mem_iff_getElem.mp hm
  rw [List.length_take] at hj
  rw [List.getElem_take] at ej
  obtain ⟨hi, e9⟩ := List.getElem?_eq_some_iff.mp hx
  have := nodup_inj nd (i := j) (j := i) (by omega) hi (by rw [ej, e9])
  omega
theorem subTab_range (M : Tab) (S : List Nat) : subTab M S = (List.range S.length).map fun x => S.map fun y => S.idxOf (tm M (S.getD x 0) y) := by
  unfold subTab
  apply List.ext_getElem?
  intro i
  rw [List.getElem?_map, List.getElem?_map]
  by_cases hi : i < S.length
  · rw [List.getElem?_range hi, List.getElem?_eq_getElem hi]
    show some _ = some (S.map fun y => S.idxOf (tm M (S.getD i 0) y))
    rw [List.getD_eq_getElem?_getD, List.getElem?_eq_getElem hi]
    rfl
  · rw [List.getElem?_eq_none (by omega), List.getElem?_eq_none (by rw [List.length_range]; omega)]
    rfl
def BadSub (M : Tab) (H : Hp) (a : Addr) : Prop := H a = some (.tup (natsV [])) ∨ H a = some (.tup (natsV [0, M.length])) ∨ H a = some (.lst (natsV [0]))
theorem BadSub.same {M : Tab} {H H' : Hp} {a : Addr} (h : BadSub M H a) (s : Same H H') : BadSub M H' a := by
  rcases h with h | h | h
  · exact .inl (s _ _ h)
  · exact .inr (.inl (s _ _ h))
  · exact .inr (.inr (s _ _ h))
/-- where Refused("subgroup") leaves -/
def RefE (K : PySem.W.Frag) (H : Hp) (E : XK) : Prop := ∀ d H', Same H H' → H' d = some (.xd [(("reason" : Str), V.str "subgroup")]) → E (.ref (CR K)) (some d) H'
section
variable {P : Program} {w : World} {K : PySem.W.Frag} {mg : Str → Option Value} {base : Heap}
def spAsG (K : PySem.W.Frag) : Sp := fun vs H Q E => ∃ (p a : Addr) (M : Tab), vs = [.ref p, .ref a] ∧ GrpAt (CG K) H p M ∧ IsGrp M ∧
  ((∃ S, TupN H a S ∧ SubOk M S ∧ ∀ q H', Same H H' → GrpAt (CG K) H' q (subTab M S) → Q (.ref q) H') ∨ (BadSub M H a ∧ RefE K H E))
theorem sc_as_group : FnScope ["group", "subgroup", "number", "at", "x", "y"] ["group", "subgroup"] HD.d_as_group.scope := ⟨rfl, rfl, rfl, by decide +kernel, rfl, by decide +kernel, by decide +kernel⟩
theorem ok_asg (T : Tx K mg) (TR : RefTxt P K (CR K) (FI K)) : Ok P w K mg base (L2.CX P w) 6 HD.d_as_group ["group", "subgroup"] (spAsG K) := by
  have c1 := T.c_Group
  have G_is_subgroup : Ok P w K mg base CX0 3 _ _ _ := ok_issub T
  have G_Group_product : Ok P w K mg base CX0 1 _ _ _ := ok_prod T
  have G_Group_init : Ok P w K mg base CX0 4 _ _ _ := ok_ginit T
  have nd := sc_as_group.nd
  refine Ok.mkX T fn__as_group rfl sc_as_group (fun vs H Q E h => ?_) (fun _ _ _ _ _ _ us hl => match us, hl with | [_, _], _ => rfl) (fun cdv A outer s H vs Q E hr h => ?_)
  · obtain ⟨p, a, M, rfl, _⟩ := h
    rfl
  · obtain ⟨p, a, M, rfl, hg, G, h⟩ := h
    refine ⟨_, pss_cons (ps_if (PT.nox (pt_not (pt_val (pe_f (G_is_subgroup) (hr.mono (by decide)) T.g_is_subgroup pass0 (pa_cons (pv 0) (pa_cons (pv 1) pa_nil)))))) (pss_one
            -- raise Refused('subgroup')
            (ps_raise rfl (takes_of rfl rfl rfl rfl) (pmk_ref (k := 1) TR T.g_Refused T.b_super (hr.mono (by decide)) (pa_cons pe_str pa_nil)))) (pss_nil)) ((PSs.nox (pss_cons
          -- number = {x: at for at, x in enumerate(subgroup)}
          (ps_set (i := 2) nd rfl (.inr rfl) (pe_dc (own := [("at", 3), ("x", 4)]) (g := gTup K 2 (gCons (gName 3) (gCons (gName 4) gNil))) (tt := tYes) (by rfl) nd (pi_enumT (by rfl) T.b_enumerate (pa_cons (pv 1) pa_nil)) (blkOk_by (own := [("at", 3), ("x", 4)]) (N := ["group", "subgroup", "number", "at", "x", "y"]) (sc := HD.d_as_group.scope) (by decide +kernel)) (fun _ _ _ _ _ => (pg_tup rfl (pgs_cons (pg_name (i := 3) nd rfl (.inl rfl)) (pgs_cons (pg_name (i := 4) nd rfl (.inl rfl)) pgs_nil)))) (fun _ _ _ _ _ => pts_nil) (fun _ _ _ _ _ => (pv 4)) (fun _ _ _ _ _ => (pv 3))))
         (pss_one
          -- return Group([[number[group.product(x, y)] for y in subgroup] for x in subgroup])
          (ps_ret (pe_mk G_Group_init (hr.mono (by decide)) T.mk_Group T.g_Group pass0 (pa_cons (pe_lc (own := [("x", 4)]) (g := gName 4) (tt := tYes) (by rfl) nd (pi_tupK (K := K) (pv 1)) (blkOk_by (own := [("x", 4)]) (N := ["group", "subgroup", "number", "at", "x", "y"]) (sc := HD.d_as_group.scope) (by decide +kernel)) (fun _ _ _ _ _ => (pg_name (i := 4) nd rfl (.inr rfl))) (fun _ _ _ _ _ => pts_nil) (fun _ _ _ _ _ => (pe_lc (own := [("y", 5)]) (g := gName 5) (tt := tYes) (by rfl) nd (pi_tupK (K := K) (pv 1)) (blkOk_by (own := [("y", 5)]) (N := ["group", "subgroup", "number", "at", "x", "y"]) (sc := (relS ({ kind := ScopeKind.function, names := [(Str.ofString ".0", NameKind.local), (Str.ofString "x", NameKind.cell), (Str.ofString "group", NameKind.free), (Str.ofString "number", NameKind.free), (Str.ofString "subgroup", NameKind.free)], isGenerator := false, isCoroutine := false } : Scope) HD.d_as_group.scope)) (by decide +kernel)) (fun _ _ _ _ _ => (pg_name (i := 5) nd rfl (.inl rfl))) (fun _ _ _ _ _ => pts_nil) (fun _ _ _ _ _ => (pe_dget (hu_of hr) (pv 2) (pe_m (pv 0) T.c_Group (G_Group_product) T.me_Group_product (hr.mono (by decide)) pass0 (pa_cons (pv 4) (pa_cons (pv 5) pa_nil))) (fun _ _ => rfl)))))) pa_nil))))))), ?_⟩
    try dsimp only [cxOf, Cx.wish]
    walk_at "rd"
    rcases h with ⟨S, ha, hS, k⟩ | ⟨hb, k⟩
    · have hSl := hS.le
      have hS1 := hS.pos
      have hM := G.le
      refine ⟨p, a, M, rfl, hg, G, .inl ⟨S, ha, hS, fun H1 s1 => ?_⟩⟩
      have ha1 := ha.same s1
      walk_at "rd"
      have rd_iEnumT : ∀ {ta : TA} {σ : St} {H : Hp} {R : It → Hp → Prop}, (ta σ H fun vs H1 => ∃ a xs, vs = [.ref a] ∧ SqT K H1 a xs ∧ R (IteT K a) H1) → iEnumT K ta σ H R := fun h => h
      refine rd_iEnumT ?_
      walk_at "rd"
      have wE : Walk (IteT K a) S.length (fun H => SqT K H a (natsV S)) (YPair (fun i => some (.int (i : Nat))) (fun i => (natsV S)[i]?)) := by
        have e : S.length = (natsV S).length := (List.length_map _).symm
        rw [e]
        exact walk_enumT
      refine dcj_it wE (fun D i H' => Same H1 H' ∧ H' D = some (.dK (kvI 0 (S.take i)))) (fun D hD => ⟨Same.new hD, by rw [List.take_zero]; exact upd_same⟩) (fun D i H' _ z => (ha1.same z.1).sq) ?_ ?_
      · rintro D i x H6 H7 hD hi ⟨s6, hd6⟩ ⟨t, u, v, rfl, ht, rfl, hu, hv⟩
        have hu' : V.int (i : Nat) = u := by simpa using hu
        subst hu'
        obtain ⟨m, rfl, hm⟩ := nats_get hv
        have hlt : (S.take i).length = i := by rw [List.length_take]; omega
        refine ⟨t, [nV i, nV m], rfl, SqT.of upd_same, rfl, _, _, rfl, _, _, rfl, rfl, ?_⟩
        refine ⟨rfl, tyes ?_⟩
        refine ⟨_, rfl, _, rfl, _, .inl ((m : Nat) : Int), rfl, upd_old ht hd6, by rw [kvI_len, hlt, sizeLine_eq]; omega, Same.mut (s6.trans (Same.new ht)) hD, ?_⟩
        rw [upd_same]
        have e8 := putK_I (not_take hS.nd hm)
        rw [hlt] at e8
        rw [e8, take_snoc hm]
      · rintro D H6 hD ⟨s6, hd6⟩
        rw [List.take_length] at hd6
        have ha6 := ha1.same s6
        walk_at "rd"
        have wT : Walk (Itt K a) S.length (fun H => SqT K H a (natsV S)) (YFn fun i => nV (S.getD i 0)) := by
          have e : S.length = (natsV S).length := (List.length_map _).symm
          rw [e]
          refine (walk_tup (K := K) (a := a) (xs := natsV S)).mono (fun _ h => h) fun i H x H' hi _ y => ⟨y.1, ?_⟩
          obtain ⟨m, rfl, hm⟩ := nats_get y.2
          show nV m = nV (S.getD i 0)
          rw [List.getD_eq_getElem?_getD, hm]
          rfl
        refine lcj_lists (n := S.length) (f := fun x => natsV (S.map fun y => S.idxOf (tm M (S.getD x 0) y))) (xv := fun i => nV (S.getD i 0)) (by omega) (fun x => rfl) wT (fun H' s => (ha6.same s).sq) (fun x H7 hx s7 Q' q => ?_) (fun D3 H7 bs hD3 s7 hl7 hbl hL7 => ?_)
        · have hxS := hS.get hx
          have hxM := hS.glt hx
          have ha7 := ha6.same s7
          walk_at "rd"
          refine lcj_tup (xs := natsV S) (fun i v H => v = nV (S.idxOf (tm M (S.getD x 0) (S.getD i 0)))) (fun i v => fm_eq _ _) ha7.sq (by rw [List.length_map]; omega) (fun x => rfl) (fun i y H8 hy s8 Q2 q2 => ?_) (fun D4 H8 ys hD4 s8 hl8 hyl hR => ?_)
          · obtain ⟨m, rfl, hm⟩ := nats_get hy
            have em : S.getD i 0 = m := by rw [List.getD_eq_getElem?_getD, hm]; rfl
            have hmS := List.mem_of_getElem? hm
            have hmM := hS.lt m hmS
            have hrow : m < (M.getD (S.getD x 0) []).length := by rw [G.sq.row _ hxM]; exact hmM
            have s18 := (s6.trans s7).trans s8
            have hd8 := (s7.trans s8) _ _ hd6
            obtain ⟨dxg, tg, ig, itg⟩ := hg.fz (Fz.of (s1.trans s18))
            walk_at "rd"
            refine ⟨p, M, S.getD x 0, m, rfl, ⟨dxg, tg, ig, itg⟩, hxM, hrow, fun H9 s9 => ?_⟩
            have hd9 := s9 _ _ hd8
            walk_at "rd"
            refine ⟨dg_numI hd9 (hS.cl _ hxS m hmS), ?_⟩
            refine q2 _ H9 s9 ?_
            rw [em]
          · have hys : ys = natsV (S.map fun y => S.idxOf (tm M (S.getD x 0) y)) := by
              rw [list_eq_map (by rw [hyl, List.length_map]) hR]
              show _ = (S.map _).map nV
              rw [List.map_map]
              apply List.ext_getElem?
              intro i
              rw [List.getElem?_map, List.getElem?_map]
              by_cases hi : i < S.length
              · rw [List.getElem?_range (by omega), List.getElem?_eq_getElem hi]
                show some (nV (S.idxOf (tm M (S.getD x 0) (S.getD i 0)))) = _
                rw [List.getD_eq_getElem?_getD (l := S) (i := i), List.getElem?_eq_getElem hi]
                rfl
              · rw [List.getElem?_eq_none (by rw [List.length_range]; omega), List.getElem?_eq_none (by omega)]
                rfl
            rw [hys] at hl8
            exact q D4 H8 hD4 s8 hl8
        · walk_at "rd"
          have hLL : LLAt H7 D3 (subTab M S) := by
            rw [subTab_range]
            exact LstsAt.ll hl7 hbl hL7
          exact mkG_use D3 (subTab M S) rfl hLL (subTab_grp G hS) (fun q H8 s8 hg8 => k q H8 (((s1.trans s6).trans s7).trans s8) hg8)
    · refine ⟨p, a, M, rfl, hg, G, .inr ⟨hb, fun H1 s1 => ?_⟩⟩
      have rd_mkRef : ∀ {ta : TA} {σ : St} {H : Hp} {Q : XK}, (ta σ H fun vs H1 => ∃ v, vs = [v] ∧ ∀ d, H1 d = none → Q (.ref (CR K)) (some d) (upd H1 d (.xd [(("reason" : Str), v)]))) → tMkRef (CR K) ta σ H Q := fun h => h
      walk_at "rd"
      refine rd_mkRef ?_
      walk_at "rd"
      exact fun d hd => k d _ (s1.trans (Same.new hd)) upd_same
end
end L2.KL
set_option Elab.async false
set_option linter.all false
set_option maxRecDepth 100000
set_option maxHeartbeats 4000000
namespace L2.KL
open PySem PySem.Spec PyProof.Rows PySem.W
local macro_rules | `(tactic| walk_at "hp") => `(tactic| first
  | assumption)
local macro_rules | `(tactic| walk_at "cl") => `(tactic| first
  | (with_reducible rfl)
  | assumption
  | (apply exT; walk_at "hp")
  | exact rfl)
local macro_rules | `(tactic| walk_at "r1") => `(tactic| first
  | (with_reducible refine rd_seq ?_)
  | ((with_reducible apply rd_var); (· exact rfl))
  | (with_reducible refine rd_c ?_)
  | (with_reducible refine rd_op ?_)
  | (with_reducible refine rd_fld ?_)
  | (with_reducible refine rd_cons ?_)
  | (with_reducible refine rd_nil ?_)
  | (with_reducible refine rd_call ?_)
  | (with_reducible refine rd_meth ?_)
  | (with_reducible refine rd_asg ?_)
  | (with_reducible refine rd_name ?_)
  | (with_reducible refine rd_ret ?_)
  | ((with_reducible apply rd_ixT); (· walk_at "hp"); (· walk_at "at"))
  | (with_reducible refine rd_iTup ?_)
  | (with_reducible refine rd_lc ?_)
  | (with_reducible apply Exists.intro)
  | ((with_reducible refine And.intro ?_ ?_); (· walk_at "cl")))
local macro_rules | `(tactic| walk_at "at") => `(tactic| first
  | (apply at_nats; first | assumption | omega))
local macro_rules | `(tactic| walk_at "rd") => `(tactic| ((repeat walk_at "r1"); (try dsimp only [List.set])))
local macro_rules | `(tactic| walk_at "cl") => `(tactic| fail)
local macro_rules | `(tactic| walk_at "r1") => `(tactic| first
  | ((with_reducible apply rd_ixTR); (· assumption); (· walk_at "at")))
local macro_rules | `(tactic| walk_at "r1") => `(tactic| (with_reducible refine rd_makeK ?_))
local macro_rules | `(tactic| walk_at "cl") => `(tactic| first
  | (with_reducible exact lk_group)
  | (with_reducible exact nk_cf (by decide +kernel)))
section
variable {P : Program} {w : World} {K : PySem.W.Frag} {mg : Str → Option Value} {base : Heap}
def spRes (K : PySem.W.Frag) : Sp := fun vs H Q E => ∃ (p a : Addr) (M : Tab) (cs : List Cyc), vs = [.ref p, .ref a] ∧ CFAt K H p M cs ∧ IsGrp M ∧
  ((∃ S, TupN H a S ∧ SubOk M S ∧ ∀ q H', Same H H' → CFAt K H' q (subTab M S) (resM M S cs) → Q (.ref q) H') ∨ (BadSub M H a ∧ RefE K H E))
theorem sc_restricted : FnScope ["f", "subgroup", "small", "known", "found"] ["f", "subgroup"] HD.d_restricted.scope := ⟨rfl, rfl, rfl, by decide +kernel, rfl, by decide +kernel, by decide +kernel⟩
theorem ok_res (T : Tx K mg) (TR : RefTxt P K (CR K) (FI K)) : Ok P w K mg base (L2.CX P w) 7 HD.d_restricted ["f", "subgroup"] (spRes K) := by
  have c1 := T.c_ClassFunction
  have n1 := T.na_ClassFunction_group
  have n2 := T.na_ClassFunction_row
  have n3 := T.na_ClassFunction_known
  have G_as_group : Ok P w K mg base (L2.CX P w) 6 _ _ _ := ok_asg T TR
  have G_classes : Ok P w K mg base CX0 3 _ _ _ := ok_classes T
  have G_ClassFunction_value_at : Ok P w K mg base CX0 1 _ _ _ := ok_valat T
  have G_ClassFunction_init : OkK P w K mg base CX0 4 _ _ _ 3 _ _ := ok_cfinit T
  have nd := sc_restricted.nd
  refine Ok.mkX T fn__restricted rfl sc_restricted (fun vs H Q E h => ?_) (fun _ _ _ _ _ _ us hl => match us, hl with | [_, _], _ => rfl) (fun cdv A outer s H vs Q E hr h => ?_)
  · obtain ⟨p, a, M, cs, rfl, _⟩ := h
    rfl
  · obtain ⟨p, a, M, cs, rfl, hF, G, h⟩ := h
    obtain ⟨dx, g, t, u, rs, h1, h2, h3, h4, h5, h6⟩ := id hF
    refine ⟨_, pss_cons (ps_set (i := 2) nd rfl (.inl rfl) (pe_f (G_as_group) (hr.mono (by decide)) T.g_as_group (passes_call (takes_of rfl rfl rfl rfl) (fun _ _ _ _ h => h)) (pa_cons (pe_fldK (K := K) (pv 0) rfl) (pa_cons (pv 1) pa_nil)))) ((PSs.nox (pss_cons
          -- known = classes(small)
          (ps_set (i := 3) nd rfl (.inl rfl) (pe_f (G_classes) (hr.mono (by decide)) T.g_classes pass0 (pa_cons (pv 2) pa_nil)))
         (pss_one
          -- return ClassFunction(small, [f.value_at(subgroup[found[0]]) for found in known], known=known)
          (ps_ret (pe_mkK G_ClassFunction_init (hr.mono (by decide)) T.mk_ClassFunction T.g_ClassFunction pass0 (pa_cons (pv 2) (pa_cons (pe_lc (own := [("found", 4)]) (g := gName 4) (tt := tYes) (by rfl) nd (pi_tupK (K := K) (pv 3)) (blkOk_by (own := [("found", 4)]) (N := ["f", "subgroup", "small", "known", "found"]) (sc := HD.d_restricted.scope) (by decide +kernel)) (fun _ _ _ _ _ => (pg_name (i := 4) nd rfl (.inl rfl))) (fun _ _ _ _ _ => pts_nil) (fun _ _ _ _ _ => (pe_m (pv 0) T.c_ClassFunction (G_ClassFunction_value_at) T.me_ClassFunction_value_at (hr.mono (by decide)) pass0 (pa_cons (pe_ix (r := rIxT K) ix_tup (pv 1) (pe_ix (r := rIxT K) ix_tup (pv 4) pe_int (fun _ _ => rfl)) (fun _ _ => rfl)) pa_nil)))) pa_nil)) (pk_cons (pv 3) pk_nil))))))), ?_⟩
    try dsimp only [cxOf, Cx.wish]
    walk_at "rd"
    rcases h with ⟨S, ha, hS, k⟩ | ⟨hb, k⟩
    · refine ⟨g, a, M, rfl, h2, G, .inl ⟨S, ha, hS, fun q H1 s1 hq => ?_⟩⟩
      have G' := subTab_grp G hS
      walk_at "rd"
      refine ⟨q, subTab M S, rfl, hq, G', fun ut H2 s2 hT => ?_⟩
      obtain ⟨us, hu1, hu2, hu3⟩ := id hT
      have hl60 : (clsM (subTab M S)).length ≤ 60 := Nat.le_trans (cls_len _) G'.le
      have s02 := s1.trans s2
      walk_at "rd"
      refine lcj_tup (xs := refsV us) (fun i v H => ∃ r, v = V.ref r ∧ CycAt (CY K) H r ((resM M S cs).getD i ⟨1, [], 1⟩)) (fun i v H H' fz h => let ⟨r, e, hr⟩ := h; ⟨r, e, CycAt.fz fz hr⟩) (SqT.of hu1) (by rw [List.length_map]; omega) (fun x => rfl) (fun i x H3 hx s3 Q' q' => ?_) (fun D H3 ys hD s3 hl3 hyl hR => ?_)
      · have hil : i < (clsM (subTab M S)).length := by
          have := (List.getElem?_eq_some_iff.mp hx).1
          rw [List.length_map] at this
          omega
        obtain ⟨row, hrow⟩ : ∃ r, (clsM (subTab M S))[i]? = some r := ⟨_, List.getElem?_eq_getElem hil⟩
        obtain ⟨tu, htu⟩ : ∃ r, us[i]? = some r := ⟨_, List.getElem?_eq_getElem (by omega)⟩
        rw [List.getElem?_map, htu] at hx
        obtain rfl : V.ref tu = x := by simpa using hx
        have htr := s3 _ _ (hu3 i tu row htu hrow)
        have hrp := rep_mem G' hil
        have erow : (clsM (subTab M S)).getD i [] = row := by rw [List.getD_eq_getElem?_getD, hrow]; rfl
        have erep : rep (subTab M S) i = row.getD 0 0 := by
          unfold rep
          rw [erow]
        have h0 : 0 < row.length := by
          have := hrp.1
          rw [erow] at this
          exact this
        have hrl : row.getD 0 0 < S.length := by
          have := hrp.2.2.1
          rw [erep, subTab_len] at this
          exact this
        have hxM := hS.glt hrl
        have s03 := s02.trans s3
        have ha3 := ha.same s03
        have k3 := s03 _ _ h1
        walk_at "rd"
        refine ⟨p, M, cs, S.getD (row.getD 0 0) 0, rfl, hF.fz (Fz.of s03), G, cIdx_lt G hxM, fun r H4 s4 hr => ?_⟩
        refine q' _ H4 s4 ⟨r, rfl, ?_⟩
        have e : (resM M S cs).getD i ⟨1, [], 1⟩ = cVal M cs (S.getD (row.getD 0 0) 0) := by
          unfold resM
          rw [getD_mapC (e := []) hil, erow]
        rw [e]
        exact hr
      · obtain ⟨qs, rfl, hql, hQ⟩ := refs_of hR
        rw [hyl, List.length_map] at hql
        have hA : AllAt (CycR (CY K)) H3 qs (resM M S cs) := ⟨by rw [resM_len]; omega, fun i t x e1 e2 => by
          have := hQ i t e1
          rw [List.getD_eq_getElem?_getD, e2] at this
          exact this⟩
        walk_at "rd"
        exact mkF_use q D (.ref ut) (subTab M S) qs (resM M S cs) rfl (hq.fz (Fz.of (s2.trans s3))) G' hl3 hA (resM_len M S cs) (.inr ⟨ut, rfl, hT.fz (Fz.of s3)⟩) (fun q4 H4 s4 h4 => k q4 H4 ((s02.trans s3).trans s4) h4)
    · exact ⟨g, a, M, rfl, h2, G, .inr ⟨hb, k⟩⟩
end
end L2.KL
set_option Elab.async false
set_option linter.all false
set_option maxRecDepth 100000
set_option maxHeartbeats 4000000
namespace L2.KL
open PySem PySem.Spec PyProof.Rows PySem.W
local macro_rules | `(tactic| walk_at "hp") => `(tactic| first
  | assumption)
local macro_rules | `(tactic| walk_at "cl") => `(tactic| first
  | (with_reducible rfl)
  | ((with_reducible show (_ : Int) < _); first | omega | (simp only [List.length_map]; omega))
  | ((with_reducible show (_ : Int) ≤ _); first | omega | (simp only [List.length_map]; omega))
  | assumption
  | (with_reducible exact nk_group (by decide +kernel))
  | (with_reducible exact nk_cyc (by decide +kernel))
  | (apply tyL; walk_at "hp")
  | (apply exT; walk_at "hp")
  | (apply sz_nat; simp only [List.length_map, List.length_append, List.length_cons, List.length_nil]; omega)
  | exact rfl)
local macro_rules | `(tactic| walk_at "r1") => `(tactic| first
  | (with_reducible refine rd_seq ?_)
  | ((with_reducible apply rd_var); (· exact rfl))
  | (with_reducible refine rd_c ?_)
  | (with_reducible refine rd_op ?_)
  | (with_reducible refine rd_fld ?_)
  | (with_reducible refine rd_cb ?_)
  | (with_reducible refine rd_cons ?_)
  | (with_reducible refine rd_nil ?_)
  | (with_reducible refine rd_call ?_)
  | (with_reducible refine rd_meth ?_)
  | (with_reducible refine rd_lst ?_)
  | (with_reducible refine rd_asg ?_)
  | (with_reducible refine rd_name ?_)
  | (with_reducible refine rd_ret ?_)
  | (with_reducible refine rd_drop ?_)
  | (with_reducible refine rd_if ?_)
  | (with_reducible refine rd_test ?_)
  | (with_reducible refine rd_B ?_)
  | (with_reducible refine rd_not ?_)
  | (with_reducible refine rd_bm ?_)
  | (with_reducible refine rd_next ?_)
  | ((with_reducible apply rd_ixT); (· walk_at "hp"); (· walk_at "at"))
  | (with_reducible refine rd_for ?_)
  | (with_reducible refine rd_iTup ?_)
  | (with_reducible refine rd_iRng1 ?_)
  | ((with_reducible apply rd_append); (· walk_at "hp"); (· simp only [List.length_map, List.length_append, List.length_cons, List.length_nil]; omega))
  | (with_reducible refine rd_din ?_)
  | (with_reducible refine rd_dput ?_)
  | (with_reducible refine rd_dget ?_)
  | (with_reducible refine rd_dnewK ?_)
  | (with_reducible apply Exists.intro)
  | ((with_reducible refine And.intro ?_ ?_); (· walk_at "cl")))
local macro_rules | `(tactic| walk_at "at") => `(tactic| first
  | (apply at_nats; first | assumption | omega))
local macro_rules | `(tactic| walk_at "rd") => `(tactic| ((repeat walk_at "r1"); (try dsimp only [List.set])))
local macro_rules | `(tactic| walk_at "cl") => `(tactic| first
  | (exact Or.inr (TupN.sq (by assumption))))
local macro_rules | `(tactic| walk_at "r1") => `(tactic| first
  | ((with_reducible apply rd_ixTR); (· assumption); (· walk_at "at")))
local macro_rules | `(tactic| walk_at "r1") => `(tactic| (with_reducible refine rd_makeK ?_))
local macro_rules | `(tactic| walk_at "cl") => `(tactic| first
  | (with_reducible exact lk_group)
  | (with_reducible exact nk_cf (by decide +kernel)))
/-! the list of the values, up to the element n -/
def indN (M M' : Tab) (S : List Nat) (fs : List Cyc) (x n : Nat) : List Cyc := ((List.range n).filter fun g => decide (conj M x g ∈ S)).map fun g => cVal M' fs (S.idxOf (conj M x g))
theorem indN_all (M M' : Tab) (S : List Nat) (fs : List Cyc) (x : Nat) : indN M M' S fs x M.length = indL M M' S fs x := rfl
theorem indN_succ (M M' : Tab) (S : List Nat) (fs : List Cyc) (x n : Nat) : indN M M' S fs x (n + 1) = if conj M x n ∈ S then indN M M' S fs x n ++ [cVal M' fs (S.idxOf (conj M x n))] else indN M M' S fs x n := by
  unfold indN
  rw [List.range_succ, List.filter_append, List.filter_cons]
  by_cases h : conj M x n ∈ S
  · rw [if_pos (decide_eq_true h), if_pos h, List.map_append]
    rfl
  · rw [if_neg (by simp [h]), if_neg h, List.filter_nil, List.append_nil]
theorem indN_len (M M' : Tab) (S : List Nat) (fs : List Cyc) (x n : Nat) : (indN M M' S fs x n).length ≤ n := by
  unfold indN
  rw [List.length_map]
  exact Nat.le_trans (List.length_filter_le _ _) (by rw [List.length_range]; exact Nat.le_refl _)
theorem cVal_sz {M : Tab} {n l : Nat} (G : IsGrp M) {cs : List Cyc} (h : ∀ c ∈ cs, Sz n l c) (e : cs.length = (clsM M).length) {x : Nat} (hx : x < M.length) : Sz n l (cVal M cs x) := by
  have hi : cIdx M x < cs.length := by
    rw [e]
    exact cIdx_lt G hx
  unfold cVal
  rw [List.getD_eq_getElem?_getD, List.getElem?_eq_getElem hi]
  exact h _ (List.getElem_mem hi)
theorem indN_sz {M : Tab} {S : List Nat} {fs : List Cyc} (G : IsGrp M) (hS : SubOk M S) (hf : ∀ c ∈ fs, Sz 8 2 c) (lf : fs.length = (clsM (subTab M S)).length) (x n : Nat) : ∀ c ∈ indN M (subTab M S) S fs x n, Sz 8 2 c := fun c hc => by
  obtain ⟨g, hg, rfl⟩ := List.mem_map.mp hc
  have hm := of_decide_eq_true (List.mem_filter.mp hg).2
  exact cVal_sz (subTab_grp G hS) hf lf (by rw [subTab_len]; exact List.idxOf_lt_length_of_mem hm)
theorem indS_sz {M : Tab} {S : List Nat} {fs : List Cyc} (G : IsGrp M) (hS : SubOk M S) (hf : ∀ c ∈ fs, Sz 8 2 c) (lf : fs.length = (clsM (subTab M S)).length) (h24 : M.length ≤ 24) {x n : Nat} (hn : n ≤ M.length) : Sz 1700 60 (sumC (indN M (subTab M S) S fs x n)) := by
  have a := sumC_sz _ _ rfl (indN_sz G hS hf lf x n)
  have hl := indN_len M (subTab M S) S fs x n
  obtain ⟨m, hm⟩ : ∃ m, m = (indN M (subTab M S) S fs x n).length := ⟨_, rfl⟩
  rw [← hm] at a hl
  have e2 : m * (8 + (m * 2 + 1) + 2 + 8) ≤ 24 * (8 + (24 * 2 + 1) + 2 + 8) := Nat.mul_le_mul (by omega) (by omega)
  exact a.mono (by omega) (by omega)
theorem Sz.canon {n l : Nat} {cs : List Cyc} (h : ∀ c ∈ cs, Sz n l c) : ∀ c ∈ cs, Canon c := fun c hc => (h c hc).cn
theorem dp_I {H : Hp} {a : Addr} {L : List Nat} {x : Nat} (h : H a = some (.dK (kvI 0 L))) (hx : x ∉ L) (hl : L.length ≤ 100000) : DPut H a (nV x) (nV L.length) (upd H a (.dK (kvI 0 (L ++ [x])))) := by
  rw [← putK_I hx]
  refine DPut.k (k := .inl ((x : Nat) : Int)) h ?_
  rw [kvI_len, sizeLine_eq]
  omega
/-- where Malformed leaves -/
def MalE (K : PySem.W.Frag) (H : Hp) (E : XK) : Prop := ∀ H', Same H H' → E (.ref (CM K)) none H'
section
variable {P : Program} {w : World} {K : PySem.W.Frag} {mg : Str → Option Value} {base : Heap}
def spInd (K : PySem.W.Frag) : Sp := fun vs H Q E => ∃ (p a f : Addr) (M N : Tab) (fs : List Cyc), vs = [.ref p, .ref a, .ref f] ∧ GrpAt (CG K) H p M ∧ IsGrp M ∧ CFAt K H f N fs ∧
  ((∃ S, TupN H a S ∧ SubOk M S ∧ ((N = subTab M S ∧ M.length ≤ 24 ∧ (∀ c ∈ fs, Sz 8 2 c) ∧ ∀ q H', Same H H' → CFAt K H' q M (indM M S fs) → Q (.ref q) H') ∨ (N ≠ subTab M S ∧ MalE K H E))) ∨ (BadSub M H a ∧ RefE K H E))
theorem sc_induced : FnScope ["group", "subgroup", "f", "places", "k", "known", "values", "found", "total", "g", "y"] ["group", "subgroup", "f"] HD.d_induced.scope := ⟨rfl, rfl, rfl, by decide +kernel, rfl, by decide +kernel, by decide +kernel⟩
theorem ok_ind (T : Tx K mg) (TR : RefTxt P K (CR K) (FI K)) (TM : MalOk K) : Ok P w K mg base (L2.CX P w) 9 HD.d_induced ["group", "subgroup", "f"] (spInd K) := by
  have c1 := T.c_ClassFunction
  have c2 := T.c_Group
  have c3 := T.c_Cyclo
  have n1 := T.na_ClassFunction_group
  have n2 := T.na_ClassFunction_row
  have n3 := T.na_ClassFunction_known
  have G_as_group : Ok P w K mg base (L2.CX P w) 6 _ _ _ := ok_asg T TR
  have G_Group_eq : Ok P w K mg base CX0 _ _ _ _ := ok_eqG T
  have G_Group_len : Ok P w K mg base CX0 1 _ _ _ := ok_lenG T
  have G_Group_conjugated : Ok P w K mg base CX0 2 _ _ _ := ok_conj T
  have G_classes : Ok P w K mg base CX0 3 _ _ _ := ok_classes T
  have G_of_integer : Ok P w K mg base CX0 8 _ _ _ := ok_ofInt T
  have G_Cyclo_add : Ok P w K mg base CX0 8 _ _ _ := ok_addC T
  have G_Cyclo_over : Ok P w K mg base CX0 8 _ _ _ := ok_over T
  have G_ClassFunction_value_at : Ok P w K mg base CX0 1 _ _ _ := ok_valat T
  have G_ClassFunction_init : OkK P w K mg base CX0 4 _ _ _ 3 _ _ := ok_cfinit T
  have nd := sc_induced.nd
  refine Ok.mkX T fn__induced rfl sc_induced (fun vs H Q E h => ?_) (fun _ _ _ _ _ _ us hl => match us, hl with | [_, _, _], _ => rfl) (fun cdv A outer s H vs Q E hr h => ?_)
  · obtain ⟨p, a, f, M, N, fs, rfl, _⟩ := h
    rfl
  · obtain ⟨p, a, f, M, N, fs, rfl, hg, G, hF, h⟩ := h
    obtain ⟨dx, g, t, u, rs, h1, h2, h3, h4, h5, h6⟩ := id hF
    refine ⟨_, pss_cons (ps_if (pt_not (pt_cmpR (op_eqK G_Group_eq T.me_Group_eq (hr.mono (by decide)) pass0) (pe_f (G_as_group) (hr.mono (by decide)) T.g_as_group (passes_call (takes_of rfl rfl rfl rfl) (fun _ _ _ _ h => h)) (pa_cons (pv 0) (pa_cons (pv 1) pa_nil))) (pe_fldK (K := K) (pv 2) rfl) (nomark _))) (pss_one
            -- raise Malformed('group')
            (ps_raise rfl (takes_of rfl rfl rfl rfl) (pmk_own F.excBase_ValueError TM.1 T.g_Malformed TM.2.1 (raises_own TM.2.2.1 TM.2.2.2) rfl))) (pss_nil)) ((PSs.nox (pss_cons
          -- places = {}
          (ps_set (i := 3) nd rfl (.inl rfl) pe_dnewK)
         (pss_cons
          -- for k in range(len(subgroup)):
          (ps_for PassesOwn.never rfl (pi_range1 (by rfl) T.b_range (pa_cons (pe_callB call_len_seq (by rfl) T.b_len (by decide +kernel) (pa_cons (pv 1) pa_nil)) pa_nil)) (pg_name (i := 4) nd rfl (.inl rfl)) (pss_one
            -- places[subgroup[k]] = k
            (ps_dput (hu_of hr) (pv 3) (pe_ix (r := rIxT K) ix_tup (pv 1) (pv 4) (fun _ _ => rfl)) (pv 4) rfl)))
         (pss_cons
          -- known = classes(group)
          (ps_set (i := 5) nd rfl (.inl rfl) (pe_f (G_classes) (hr.mono (by decide)) T.g_classes pass0 (pa_cons (pv 0) pa_nil)))
         (pss_cons
          -- values = []
          (ps_set (i := 6) nd rfl (.inl rfl) (pe_lst pa_nil))
         (pss_cons
          -- for found in known:
          (ps_for PassesOwn.never rfl (pi_tupK (K := K) (pv 5)) (pg_name (i := 7) nd rfl (.inl rfl)) (pss_cons
            -- total = of_integer(0)
            (ps_set (i := 8) nd rfl (.inl rfl) (pe_f (G_of_integer) (hr.mono (by decide)) T.g_of_integer pass0 (pa_cons pe_int pa_nil)))
           (pss_cons
            -- for g in range(len(group)):
            (ps_for PassesOwn.never rfl (pi_range1 (by rfl) T.b_range (pa_cons (pe_callB (call_lenK G_Group_len T.me_Group_len (hr.mono (by decide)) pass0) (by rfl) T.b_len (by decide +kernel) (pa_cons (pv 0) pa_nil)) pa_nil)) (pg_name (i := 9) nd rfl (.inl rfl)) (pss_cons
              -- y = group.conjugated(found[0], g)
              (ps_set (i := 10) nd rfl (.inl rfl) (pe_m (pv 0) T.c_Group (G_Group_conjugated) T.me_Group_conjugated (hr.mono (by decide)) pass0 (pa_cons (pe_ix (r := rIxT K) ix_tup (pv 7) pe_int (fun _ _ => rfl)) (pa_cons (pv 9) pa_nil))))
             (pss_one
              -- if y in places:
              (ps_if (pt_cmp (pc_din (hu_of hr) (pv 10) (pv 3))) (pss_one
                -- total = total + f.value_at(places[y])
                (ps_set (i := 8) nd rfl (.inl rfl) (pe_op (op_binK G_Cyclo_add T.me_Cyclo_add rfl T.sf_Cyclo (hr.mono (by decide)) pass0) (pv 8) (pe_m (pv 2) T.c_ClassFunction (G_ClassFunction_value_at) T.me_ClassFunction_value_at (hr.mono (by decide)) pass0 (pa_cons (pe_dget (hu_of hr) (pv 3) (pv 10) (fun _ _ => rfl)) pa_nil))))) (pss_nil)))))
           (pss_one
            -- values.append(total.over(len(subgroup)))
            (ps_expr (pe_bm PySem.F.plainAttrs_list PySem.F.slot_list_append PySem.F.type_list_append mt_append (pv 6) (pa_cons (pe_m (pv 8) T.c_Cyclo (G_Cyclo_over) T.me_Cyclo_over (hr.mono (by decide)) pass0 (pa_cons (pe_callB call_len_seq (by rfl) T.b_len (by decide +kernel) (pa_cons (pv 1) pa_nil)) pa_nil)) pa_nil)))))))
         (pss_one
          -- return ClassFunction(group, values, known=known)
          (ps_ret (pe_mkK G_ClassFunction_init (hr.mono (by decide)) T.mk_ClassFunction T.g_ClassFunction pass0 (pa_cons (pv 0) (pa_cons (pv 6) pa_nil)) (pk_cons (pv 5) pk_nil))))))))))), ?_⟩
    try dsimp only [cxOf, Cx.wish]
    walk_at "rd"
    rcases h with ⟨S, ha, hS, h⟩ | ⟨hb, k⟩
    · refine ⟨p, a, M, rfl, hg, G, .inl ⟨S, ha, hS, fun q H1 s1 hq => ?_⟩⟩
      have hf1 := s1 _ _ h1
      walk_at "rd"
      refine rd_eqG hq (h2.fz (Fz.of s1)) fun H2 s2 => ?_
      have s02 := s1.trans s2
      walk_at "rd"
      rcases h with ⟨hN, h24, hz, k⟩ | ⟨hN, k⟩
      · rw [decide_eq_true hN.symm]
        refine if_bF (by simp) ?_
        subst hN
        have G' := subTab_grp G hS
        have hSl := hS.le
        have hS1 := hS.pos
        have ha2 := ha.same s02
        walk_at "rd"
        intro d hd
        have s23 : Same H2 (upd H2 d (.dK [])) := Same.new hd
        have ha3 := ha2.same s23
        have hd3 : upd H2 d (.dK []) d = some (.dK (kvI 0 (S.take 0))) := upd_same
        generalize upd H2 d (.dK []) = H3 at s23 ha3 hd3 ⊢
        walk_at "rd"
        rw [List.length_map]
        refine fj_range S.length (fun i σ H' => ∃ (v4 : Option V), σ = [some (.ref p), some (.ref a), some (.ref f), some (.ref d), v4, none, none, none, none, none, none] ∧ Same H2 H' ∧ H' d = some (.dK (kvI 0 (S.take i)))) ⟨_, rfl, s23, hd3⟩ ?_ ?_
        · rintro i σ H4 hi ⟨v4, rfl, s4, hd4⟩
          have ha4 := ha2.same s4
          obtain ⟨m, hm⟩ : ∃ m, S[i]? = some m := ⟨_, List.getElem?_eq_getElem hi⟩
          have em : S.getD i 0 = m := by rw [List.getD_eq_getElem?_getD, hm]; rfl
          have hlt : (S.take i).length = i := by rw [List.length_take]; omega
          have hdp := dp_I hd4 (not_take hS.nd hm) (by omega)
          rw [hlt] at hdp
          walk_at "rd"
          rw [em]
          refine ⟨hdp, at_i ⟨_, rfl, Same.mut s4 hd, ?_⟩⟩
          rw [upd_same, take_snoc hm]
        · rintro σ H4 ⟨v4, rfl, s4, hd4⟩
          rw [List.take_length] at hd4
          have s04 := s02.trans s4
          walk_at "rd"
          refine ⟨p, M, rfl, hg.fz (Fz.of s04), G, fun uT H5 s5 hT => ?_⟩
          obtain ⟨us, hu1, hu2, hu3⟩ := id hT
          have hl24 : (clsM M).length ≤ 24 := Nat.le_trans (cls_len M) h24
          have s05 := s04.trans s5
          have hd5 := s5 _ _ hd4
          walk_at "rd"
          intro l hl
          have s56 : Same H5 (upd H5 l (.lst (refsV []))) := Same.new hl
          have hl6 : upd H5 l (.lst (refsV [])) l = some (.lst (refsV [])) := upd_same
          show gName 6 (V.ref l) _ (upd H5 l (.lst (refsV []))) _
          generalize upd H5 l (.lst (refsV [])) = H6 at s56 hl6 ⊢
          have hu6 := s56 _ _ hu1
          walk_at "rd"
          refine fj_tup (xs := refsV us) (fun i σ H' => ∃ (qs : List Addr) (v7 v8 v9 v10 : Option V), σ = [some (.ref p), some (.ref a), some (.ref f), some (.ref d), v4, some (.ref uT), some (.ref l), v7, v8, v9, v10] ∧ Same H5 H' ∧ H' l = some (.lst (refsV qs)) ∧ AllAt (CycR (CY K)) H' qs ((indM M S fs).take i))
            ⟨[], _, _, _, _, rfl, s56, hl6, by rw [List.take_zero]; exact AllAt.nil⟩ (fun i σ H' _ z => SqT.of (by obtain ⟨_, _, _, _, _, _, s, _⟩ := z; exact s _ _ hu1)) ?_ ?_
          · rintro i x σ H7 hx ⟨qs, v7, v8, v9, v10, rfl, s7, hl7, hA⟩
            have hil : i < (clsM M).length := by
              have := (List.getElem?_eq_some_iff.mp hx).1
              rw [List.length_map] at this
              omega
            obtain ⟨row, hrow⟩ : ∃ r, (clsM M)[i]? = some r := ⟨_, List.getElem?_eq_getElem hil⟩
            obtain ⟨tu, htu⟩ : ∃ r, us[i]? = some r := ⟨_, List.getElem?_eq_getElem (by omega)⟩
            rw [List.getElem?_map, htu] at hx
            obtain rfl : V.ref tu = x := by simpa using hx
            have hrp := rep_mem G hil
            have erow : (clsM M).getD i [] = row := by rw [List.getD_eq_getElem?_getD, hrow]; rfl
            have erep : rep M i = row.getD 0 0 := by
              unfold rep
              rw [erow]
            have h0 : 0 < row.length := by
              have := hrp.1
              rw [erow] at this
              exact this
            obtain ⟨x0, hx0⟩ : ∃ x0, x0 = row.getD 0 0 := ⟨_, rfl⟩
            have hxM : x0 < M.length := by
              have := hrp.2.2.1
              rw [erep, ← hx0] at this
              exact this
            have hA1 := hA.1
            rw [List.length_take, indM_len] at hA1
            walk_at "rd"
            refine ⟨0, rfl, fun t0 H8 s8 ht0 => ?_⟩
            walk_at "rd"
            refine rd_lenG (hg.fz (Fz.of ((s05.trans s7).trans s8))) (by omega) fun H9 s9 => ?_
            have s79 := s8.trans s9
            walk_at "rd"
            refine fj_range M.length (fun g σ H' => ∃ (r : Addr) (v9 v10 : Option V), σ = [some (.ref p), some (.ref a), some (.ref f), some (.ref d), v4, some (.ref uT), some (.ref l), some (.ref tu), some (.ref r), v9, v10] ∧ Same H7 H' ∧ CycAt (CY K) H' r (sumC (indN M (subTab M S) S fs x0 g)))
              ⟨t0, _, _, rfl, s79, CycAt.fz (Fz.of s9) ht0⟩ ?_ ?_
            · rintro j σ H10 hj ⟨r, v9, v10, rfl, s10, hr⟩
              have s010 := (s05.trans s7).trans s10
              have htr := (s7.trans s10) _ _ (hu3 i tu row htu hrow)
              obtain ⟨dxg, tg, ig, itg⟩ := hg.fz (Fz.of s010)
              have cM := conj_lt G hxM hj
              walk_at "rd"
              rw [← hx0]
              refine ⟨p, M, x0, j, rfl, ⟨dxg, tg, ig, itg⟩, G.inv0, hxM, hj, fun H11 s11 => ?_⟩
              have s711 := s10.trans s11
              have hd11 := (s7.trans s711) _ _ hd5
              have hf11 := (s010.trans s11) _ _ h1
              walk_at "rd"
              refine ⟨dg_isI hd11, ?_⟩
              by_cases hm : conj M x0 j ∈ S
              · rw [if_pos hm]
                refine ⟨true, rfl, if_bT rfl ?_⟩
                walk_at "rd"
                refine ⟨dg_numI hd11 hm, ?_⟩
                have hix : S.idxOf (conj M x0 j) < (subTab M S).length := by
                  rw [subTab_len]
                  exact List.idxOf_lt_length_of_mem hm
                walk_at "rd"
                refine ⟨f, subTab M S, fs, S.idxOf (conj M x0 j), rfl, hF.fz (Fz.of (s010.trans s11)), G', cIdx_lt G' hix, fun rv H12 s12 hrv => ?_⟩
                have zs := indS_sz G hS hz h6 h24 (x := x0) (n := j) (by omega)
                have zv := cVal_sz G' hz h6 hix
                walk_at "rd"
                refine rd_addC (CycAt.fz (Fz.of (s11.trans s12)) hr) hrv (zs.fit zv (by omega) (by omega) (by omega) (by omega) (by omega)) fun r2 H13 s13 hr2 => ?_
                walk_at "rd"
                refine at_i ⟨r2, _, _, rfl, (s711.trans s12).trans s13, ?_⟩
                rw [indN_succ, if_pos hm, sumC_snoc]
                exact hr2
              · rw [if_neg hm]
                refine ⟨false, rfl, if_bF (by simp) ?_⟩
                walk_at "rd"
                refine at_i ⟨r, _, _, rfl, s711, ?_⟩
                rw [indN_succ, if_neg hm]
                exact CycAt.fz (Fz.of s11) hr
            · rintro σ H10 ⟨r, v9, v10, rfl, s10, hr⟩
              have zs := indS_sz G hS hz h6 h24 (x := x0) (n := M.length) (Nat.le_refl _)
              have ha10 := ha.same ((s05.trans s7).trans s10)
              have hl10 := s10 _ _ hl7
              obtain ⟨dr, tr, ir, itr⟩ := id hr
              walk_at "rd"
              rw [List.length_map]
              refine ⟨r, _, S.length, rfl, hr, zs.cn.good, hS1, zs.lw.mono (by omega), (lb_small (by omega)).mono (by omega), fun q9 H11 s11 hq9 => ?_⟩
              have hl11 := s11 _ _ hl10
              walk_at "rd"
              rw [snoc_refs]
              have f12 : Fz H11 (upd H11 l (.lst (refsV (qs ++ [q9])))) := Fz.upd hl11 rfl
              have hi2 : (indM M S fs)[i]? = some (indV M (subTab M S) S fs x0) := by
                unfold indM
                rw [List.getElem?_map, hrow, hx0]
                rfl
              refine at_i ⟨qs ++ [q9], _, _, _, _, rfl, Same.mut ((s7.trans s10).trans s11) hl, upd_same, ?_⟩
              rw [take_snoc hi2]
              exact ((hA.fz (cycR_fm _) (Fz.of (s10.trans s11))).fz (cycR_fm _) f12).snoc (CycAt.fz f12 hq9)
          · rintro σ H7 ⟨qs, v7, v8, v9, v10, rfl, s7, hl7, hA⟩
            have e9 : (indM M S fs).take (refsV us).length = indM M S fs := by rw [List.length_map, hu2, ← indM_len M S fs]; exact List.take_length
            rw [e9] at hA
            walk_at "rd"
            exact mkF_use p l (.ref uT) M qs (indM M S fs) rfl (hg.fz (Fz.of (s05.trans s7))) G hl7 hA (indM_len M S fs) (.inr ⟨uT, rfl, hT.fz (Fz.of s7)⟩) (fun q4 H8 s8 h8 => k q4 H8 ((s05.trans s7).trans s8) h8)
      · rw [decide_eq_false (fun z => hN z.symm)]
        refine if_bT (by simp) ?_
        walk_at "rd"
        exact k _ s02
    · exact ⟨p, a, M, rfl, hg, G, .inr ⟨hb, k⟩⟩
end
end L2.KL
set_option Elab.async false
set_option linter.all false
set_option maxRecDepth 100000
set_option maxHeartbeats 4000000
namespace L2.KL
open PySem PySem.Spec PyProof.Rows PySem.W
local macro_rules | `(tactic| walk_at "hp") => `(tactic| fail)
local macro_rules | `(tactic| walk_at "cl") => `(tactic| fail)
local macro_rules | `(tactic| walk_at "r1") => `(tactic| first
  | ((with_reducible apply rd_var); (· exact rfl))
  | (with_reducible refine rd_c ?_)
  | (with_reducible refine rd_cons ?_)
  | (with_reducible refine rd_nil ?_)
  | (with_reducible refine rd_call ?_)
  | (with_reducible refine rd_ret ?_))
local macro_rules | `(tactic| walk_at "at") => `(tactic| fail)
local macro_rules | `(tactic| walk_at "rd") => `(tactic| ((repeat walk_at "r1"); (try dsimp only [List.set])))
local macro_rules | `(tactic| walk_at "cl") => `(tactic| fail)
local macro_rules | `(tactic| walk_at "r1") => `(tactic| fail)
def oneF (M : Tab) : List Cyc := List.replicate (clsM M).length (ofIntM 1)
theorem oneF_sz (M : Tab) : ∀ c ∈ oneF M, Sz 8 2 c := fun c hc => by
  rw [List.eq_of_mem_replicate hc]
  exact (ofInt_sz (by decide)).mono (by omega) (by omega)
section
variable {P : Program} {w : World} {K : PySem.W.Frag} {mg : Str → Option Value} {base : Heap}
def spCos (K : PySem.W.Frag) : Sp := fun vs H Q E => ∃ (p a : Addr) (M : Tab), vs = [.ref p, .ref a] ∧ GrpAt (CG K) H p M ∧ IsGrp M ∧
  ((∃ S, TupN H a S ∧ SubOk M S ∧ M.length ≤ 24 ∧ ∀ q H', Same H H' → CFAt K H' q M (indM M S (oneF (subTab M S))) → Q (.ref q) H') ∨ (BadSub M H a ∧ RefE K H E))
theorem sc_coset_function : FnScope ["group", "subgroup"] ["group", "subgroup"] HD.d_coset_function.scope := ⟨rfl, rfl, rfl, by decide +kernel, rfl, by decide +kernel, by decide +kernel⟩
theorem ok_cos (T : Tx K mg) (TR : RefTxt P K (CR K) (FI K)) (TM : MalOk K) : Ok P w K mg base (L2.CX P w) 10 HD.d_coset_function ["group", "subgroup"] (spCos K) := by
  have G_as_group : Ok P w K mg base (L2.CX P w) 6 _ _ _ := ok_asg T TR
  have G_induced : Ok P w K mg base (L2.CX P w) 9 _ _ _ := ok_ind T TR TM
  have G_everywhere : Ok P w K mg base CX0 6 _ _ _ := ok_every T
  have G_of_integer : Ok P w K mg base CX0 8 _ _ _ := ok_ofInt T
  have nd := sc_coset_function.nd
  refine Ok.mkX T fn__coset_function rfl sc_coset_function (fun vs H Q E h => ?_) (fun _ _ _ _ _ _ us hl => match us, hl with | [_, _], _ => rfl) (fun cdv A outer s H vs Q E hr h => ?_)
  · obtain ⟨p, a, M, rfl, _⟩ := h
    rfl
  · obtain ⟨p, a, M, rfl, hg, G, h⟩ := h
    refine ⟨_, pss_one (ps_ret (pe_f (G_induced) (hr.mono (by decide)) T.g_induced (passes_call (takes_of rfl rfl rfl rfl) (fun _ _ _ _ h => h)) (pa_cons (pv 0) (pa_cons (pv 1) (pa_cons (pe_f (G_everywhere) (hr.mono (by decide)) T.g_everywhere pass0 (pa_cons (pe_f (G_as_group) (hr.mono (by decide)) T.g_as_group (passes_call (takes_of rfl rfl rfl rfl) (fun _ _ _ _ h => h)) (pa_cons (pv 0) (pa_cons (pv 1) pa_nil))) (pa_cons (pe_f (G_of_integer) (hr.mono (by decide)) T.g_of_integer pass0 (pa_cons pe_int pa_nil)) pa_nil))) pa_nil))))), ?_⟩
    try dsimp only [cxOf, Cx.wish]
    walk_at "rd"
    rcases h with ⟨S, ha, hS, h24, k⟩ | ⟨hb, k⟩
    · refine ⟨p, a, M, rfl, hg, G, .inl ⟨S, ha, hS, fun q H1 s1 hq => ?_⟩⟩
      have G' := subTab_grp G hS
      walk_at "rd"
      refine ⟨1, rfl, fun q2 H2 s2 hc => ?_⟩
      walk_at "rd"
      refine ⟨q, q2, subTab M S, _, rfl, hq.fz (Fz.of s2), G', hc, fun q3 H3 s3 hf => ?_⟩
      have s03 := (s1.trans s2).trans s3
      walk_at "rd"
      exact ⟨p, a, q3, M, subTab M S, oneF (subTab M S), rfl, hg.fz (Fz.of s03), G, hf, .inl ⟨S, ha.same s03, hS, .inl ⟨rfl, h24, oneF_sz _, fun q4 H4 s4 h4 => k q4 H4 (s03.trans s4) h4⟩⟩⟩
    · exact ⟨p, a, M, rfl, hg, G, .inr ⟨hb, k⟩⟩
end
end L2.KL
set_option Elab.async false
set_option linter.all false
set_option maxRecDepth 100000
set_option maxHeartbeats 4000000
namespace L2.KL
open PySem PySem.Spec PyProof.Rows PySem.W
local macro_rules | `(tactic| walk_at "hp") => `(tactic| fail)
local macro_rules | `(tactic| walk_at "cl") => `(tactic| first
  | (with_reducible rfl)
  | ((with_reducible show (_ : Int) < _); first | omega | (simp only [List.length_map]; omega))
  | ((with_reducible show (_ : Int) ≤ _); first | omega | (simp only [List.length_map]; omega))
  | assumption
  | (apply sz_nat; simp only [List.length_map, List.length_append, List.length_cons, List.length_nil]; omega)
  | exact rfl)
local macro_rules | `(tactic| walk_at "r1") => `(tactic| first
  | (with_reducible refine rd_seq ?_)
  | ((with_reducible apply rd_var); (· exact rfl))
  | (with_reducible refine rd_c ?_)
  | (with_reducible refine rd_op ?_)
  | (with_reducible refine rd_cb ?_)
  | (with_reducible refine rd_cons ?_)
  | (with_reducible refine rd_nil ?_)
  | (with_reducible refine rd_call ?_)
  | (with_reducible refine rd_tup ?_)
  | (with_reducible refine rd_lst ?_)
  | (with_reducible refine rd_asg ?_)
  | (with_reducible refine rd_name ?_)
  | (with_reducible refine rd_ret ?_)
  | (with_reducible refine rd_drop ?_)
  | (with_reducible refine rd_if ?_)
  | (with_reducible refine rd_test ?_)
  | (with_reducible refine rd_next ?_)
  | (with_reducible refine rd_I0 ?_)
  | ((with_reducible apply rd_eq); (· exact rfl))
  | (with_reducible refine rd_for ?_)
  | (with_reducible refine rd_iRng1 ?_)
  | (with_reducible apply Exists.intro)
  | ((with_reducible refine And.intro ?_ ?_); (· walk_at "cl")))
local macro_rules | `(tactic| walk_at "at") => `(tactic| fail)
local macro_rules | `(tactic| walk_at "rd") => `(tactic| ((repeat walk_at "r1"); (try dsimp only [List.set])))
local macro_rules | `(tactic| walk_at "cl") => `(tactic| fail)
local macro_rules | `(tactic| walk_at "r1") => `(tactic| fail)
theorem rd_callS {sp : Sp} {E : St → XK} {t : TA} {σ : St} {H : Hp} {Q : VK} (h : t σ H fun vs H1 => sp vs H1 Q (E σ)) : tCallS sp E t σ H Q := h
theorem rd_xf {a C : Addr} {cls : Value} {d : Option Addr} {f : Str} {te : TE} {σ : St} {H : Hp} {Q : VK} (h : te σ H fun x H1 => x = .ref a ∧ cls = .ref C ∧ ∃ (dd : Addr) (fs : List (Str × V)) (v : V), d = some dd ∧ H1 dd = some (.xd fs) ∧ fs.lookup f = some v ∧ Q v H1) : tXf a cls d C f te σ H Q := h
local macro_rules | `(tactic| walk_at "r1") => `(tactic| first
  | (with_reducible refine rd_callS ?_)
  | (with_reducible refine rd_xf ?_))
theorem if_eqV {A B : Prop} {v : V} (h : A) : if decide (v = v) = true then A else B := by
  rw [if_pos (decide_eq_true rfl)]
  exact h
section
variable {P : Program} {w : World} {K : PySem.W.Frag} {mg : Str → Option Value} {base : Heap}
def spRfs (K : PySem.W.Frag) : Sp := fun vs H Q _ => ∃ (p f : Addr) (M : Tab) (cs : List Cyc), vs = [.ref p, .ref f] ∧ GrpAt (CG K) H p M ∧ CFAt K H f M cs ∧ IsGrp M ∧ ∀ H', Same H H' → Q (.bl true) H'
theorem sc_law_refused : FnScope ["_law_group_here", "_law_f", "_law_count", "_law_turn", "bad"] ["_law_group_here", "_law_f"] HD.d_law_refused.scope := ⟨rfl, rfl, rfl, by decide +kernel, rfl, by decide +kernel, by decide +kernel⟩
theorem ok_rfs (T : Tx K mg) (TR : RefTxt P K (CR K) (FI K)) (TM : MalOk K) (XR : XfC K (CR K)) : Ok P w K mg base CX0 11 HD.d_law_refused ["_law_group_here", "_law_f"] (spRfs K) := by
  have c1 := T.c_Group
  have G_restricted : Ok P w K mg base (L2.CX P w) 7 _ _ _ := ok_res T TR
  have G_induced : Ok P w K mg base (L2.CX P w) 9 _ _ _ := ok_ind T TR TM
  have G_coset_function : Ok P w K mg base (L2.CX P w) 10 _ _ _ := ok_cos T TR TM
  have G_Group_len : Ok P w K mg base CX0 1 _ _ _ := ok_lenG T
  have G_everywhere : Ok P w K mg base CX0 6 _ _ _ := ok_every T
  have G_of_integer : Ok P w K mg base CX0 8 _ _ _ := ok_ofInt T
  have G_cyclic : Ok P w K mg base CX0 6 _ _ _ := ok_cyclic T
  have xR : exmOne K (.ref (CR K)) (.ref (CR K)) = some true := He.exm_ok (T.c.fact 111)
  have xM : exmOne K (.ref (CM K)) (.ref (CM K)) = some true := He.exm_ok (T.c.fact 112)
  have nd := sc_law_refused.nd
  refine Ok.mk0 T fn__law_refused rfl sc_law_refused (fun vs H Q E h => ?_) (fun _ _ _ _ _ _ us hl => match us, hl with | [_, _], _ => rfl) (fun cdv A outer s H vs Q E hr h => ?_)
  · obtain ⟨p, f, M, cs, rfl, _⟩ := h
    rfl
  · obtain ⟨p, f, M, cs, rfl, hg, hF, G, k⟩ := h
    refine ⟨_, pss_cons
          -- _law_count = 0
          (ps_set (i := 2) nd rfl (.inl rfl) pe_int)
         (pss_cons
          -- for _law_turn in range(3):
          (ps_for PassesOwn.never rfl (pi_range1 (by rfl) T.b_range (pa_cons pe_int pa_nil)) (pg_name (i := 3) nd rfl (.inl rfl)) (pss_one
            -- try:
            (ps_try_as (i := 4) (tb := _) (ts := _) (Wout := fun _ _ _ _ => False) rfl rfl nd rfl rfl ⟨rfl, by decide, Or.inl T.g_Refused⟩ takes0 (fun W pn xe tk _ => pss_cons
                -- if _law_turn == 0:
                (ps_if (pt_cmpR op_eq (pv 3) pe_int (nomark _)) (pss_one
                  -- restricted(_law_f, (0, len(_law_group_here)))
                  (ps_expr (pe_fS (G_restricted) (hr.mono (by decide)) T.g_restricted (fun σ => passAt tk σ) (pa_cons (pv 1) (pa_cons (pe_tup (pa_cons pe_int (pa_cons (pe_callB (call_lenK G_Group_len T.me_Group_len (hr.mono (by decide)) pass0) (by rfl) T.b_len (by decide +kernel) (pa_cons (pv 0) pa_nil)) pa_nil))) pa_nil))))) (pss_nil))
               (pss_cons
                -- if _law_turn == 1:
                (ps_if (pt_cmpR op_eq (pv 3) pe_int (nomark _)) (pss_one
                  -- induced(_law_group_here, (), _law_f)
                  (ps_expr (pe_fS (G_induced) (hr.mono (by decide)) T.g_induced (fun σ => passAt tk σ) (pa_cons (pv 0) (pa_cons (pe_tup pa_nil) (pa_cons (pv 1) pa_nil)))))) (pss_nil))
               (pss_one
                -- if _law_turn == 2:
                (ps_if (pt_cmpR op_eq (pv 3) pe_int (nomark _)) (pss_one
                  -- coset_function(_law_group_here, [0])
                  (ps_expr (pe_fS (G_coset_function) (hr.mono (by decide)) T.g_coset_function (fun σ => passAt tk σ) (pa_cons (pv 0) (pa_cons (pe_lst (pa_cons pe_int pa_nil)) pa_nil))))) (pss_nil))))) (fun a oe cls d pn hz hf => pss_one
                -- if bad.reason == 'subgroup':
                (ps_if (pt_cmpR op_eq (pe_xf XR TR.noN hz hf (pv 4)) pe_str (nomark _)) (pss_one
                  -- _law_count = _law_count + 1
                  (ps_set (i := 2) nd rfl (.inl rfl) (pe_op op_add (pv 2) pe_int))) (pss_nil))))))
         (pss_cons
          -- try:
          (ps_try_many (tb := _) (Wout := fun _ _ _ _ => False) rfl rfl takes0 (fun W pn xe tk _ => pss_one
              -- induced(_law_group_here, (0,), everywhere(cyclic(7), of_integer(1)))
              (ps_expr (pe_fS (G_induced) (hr.mono (by decide)) T.g_induced (fun σ => passAt tk σ) (pa_cons (pv 0) (pa_cons (pe_tup (pa_cons pe_int pa_nil)) (pa_cons (pe_f (G_everywhere) (hr.mono (by decide)) T.g_everywhere pass0 (pa_cons (pe_f (G_cyclic) (hr.mono (by decide)) T.g_cyclic pass0 (pa_cons pe_int pa_nil)) (pa_cons (pe_f (G_of_integer) (hr.mono (by decide)) T.g_of_integer pass0 (pa_cons pe_int pa_nil)) pa_nil))) pa_nil)))))) (.cons ⟨rfl, by decide, Or.inl T.g_Malformed⟩ (fun a oe cls d pn hz hf => pss_one
              -- _law_count = _law_count + 1
              (ps_set (i := 2) nd rfl (.inl rfl) (pe_op op_add (pv 2) pe_int))) .nil))
         (pss_one
          -- return _law_count == 4
          (ps_ret (pe_cmpR op_eq (pv 2) pe_int (nomark _)))))), ?_⟩
    try dsimp only [cxOf, Cx.wish]
    walk_at "rd"
    have hM := G.le
    refine fj_rangeE 3 rfl (fun i σ H' => i ≤ 3 ∧ ∃ v3, σ = [some (.ref p), some (.ref f), some (nV i), v3, none] ∧ Same H H') ⟨by omega, _, rfl, Same.refl _⟩ ?_ ?_
    · rintro i σ H2 hi ⟨_, v3, rfl, s2⟩
      have h012 : i = 0 ∨ i = 1 ∨ i = 2 := by omega
      have hg2 := hg.fz (Fz.of s2)
      have hF2 := hF.fz (Fz.of s2)
      rcases h012 with rfl | rfl | rfl
      · walk_at "rd"
        refine if_eq (i := ((0 : Nat) : Int)) (fun _ => ?_) (fun z => absurd rfl z)
        walk_at "rd"
        refine rd_lenG hg2 (by omega) fun H3 s3 => ?_
        walk_at "rd"
        intro tp htp
        walk_at "rd"
        have s23 := s3.trans (Same.new (o := .tup [V.int 0, nV M.length]) htp)
        refine ⟨f, tp, M, cs, rfl, hF2.fz (Fz.of s23), G, .inr ⟨.inr (.inl upd_same), fun d H5 s5 hd => ?_⟩⟩
        refine ⟨true, xR, fun _ a' ha' => ?_, fun z => (by cases z)⟩
        walk_at "rd"
        refine if_eqV ?_
        walk_at "rd"
        exact at_i ⟨by omega, _, rfl, (s2.trans s23).trans s5⟩
      · walk_at "rd"
        refine if_eq (i := ((1 : Nat) : Int)) (fun z => absurd z (by omega)) (fun _ => ?_)
        walk_at "rd"
        refine if_eq (i := ((1 : Nat) : Int)) (fun _ => ?_) (fun z => absurd rfl z)
        walk_at "rd"
        intro tp htp
        walk_at "rd"
        have s23 : Same H2 (upd H2 tp (.tup [])) := Same.new htp
        refine ⟨p, tp, f, M, M, cs, rfl, hg2.fz (Fz.of s23), G, hF2.fz (Fz.of s23), .inr ⟨.inl upd_same, fun d H5 s5 hd => ?_⟩⟩
        refine ⟨true, xR, fun _ a' ha' => ?_, fun z => (by cases z)⟩
        walk_at "rd"
        refine if_eqV ?_
        walk_at "rd"
        exact at_i ⟨by omega, _, rfl, (s2.trans s23).trans s5⟩
      · walk_at "rd"
        refine if_eq (i := ((2 : Nat) : Int)) (fun z => absurd z (by omega)) (fun _ => ?_)
        walk_at "rd"
        refine if_eq (i := ((2 : Nat) : Int)) (fun z => absurd z (by omega)) (fun _ => ?_)
        walk_at "rd"
        refine if_eq (i := ((2 : Nat) : Int)) (fun _ => ?_) (fun z => absurd rfl z)
        walk_at "rd"
        intro tp htp
        walk_at "rd"
        have s23 : Same H2 (upd H2 tp (.lst [V.int 0])) := Same.new htp
        refine ⟨p, tp, M, rfl, hg2.fz (Fz.of s23), G, .inr ⟨.inr (.inr upd_same), fun d H5 s5 hd => ?_⟩⟩
        refine ⟨true, xR, fun _ a' ha' => ?_, fun z => (by cases z)⟩
        walk_at "rd"
        refine if_eqV ?_
        walk_at "rd"
        exact at_i ⟨by omega, _, rfl, (s2.trans s23).trans s5⟩
    · rintro σ H2 ⟨_, v3, rfl, s2⟩
      walk_at "rd"
      intro tp htp
      have htp2 : upd H2 tp (.tup (natsV [0])) tp = some (.tup (natsV [0])) := upd_same
      have s3 : Same H2 (upd H2 tp (.tup (natsV [0]))) := Same.new htp
      show tCons _ tNil _ (upd H2 tp (.tup (natsV [0]))) _
      generalize upd H2 tp (.tup (natsV [0])) = H3 at htp2 s3 ⊢
      walk_at "rd"
      refine ⟨7, rfl, by omega, by omega, fun q H4 s4 hq => ?_⟩
      walk_at "rd"
      refine ⟨1, rfl, fun q2 H5 s5 hc => ?_⟩
      walk_at "rd"
      refine ⟨q, q2, cycT 7, _, rfl, hq.fz (Fz.of s5), cyc_grp (by omega) (by omega), hc, fun q3 H6 s6 hf => ?_⟩
      have s36 := (s4.trans s5).trans s6
      have s06 := (s2.trans s3).trans s36
      walk_at "rd"
      have hS0 : SubOk M [0] := ⟨List.pairwise_singleton _ _, fun x hx => by rw [List.mem_singleton.mp hx]; exact G.pos, ⟨[], rfl⟩, fun x hx y hy => by
        rw [List.mem_singleton.mp hx, List.mem_singleton.mp hy, G.l0 0 G.pos]
        exact .head _⟩
      refine ⟨p, tp, q3, M, cycT 7, _, rfl, hg.fz (Fz.of s06), G, hf, .inl ⟨[0], TupN.of (s36 _ _ htp2), hS0, .inr ⟨fun z => ?_, fun H7 s7 => ?_⟩⟩⟩
      · have := congrArg List.length z
        rw [cycT_len, subTab_len] at this
        cases this
      · refine ⟨true, xM, fun _ a' ha' => ?_, fun z => (by cases z)⟩
        walk_at "rd"
        exact k H7 (s06.trans s7)
end
end L2.KL
set_option Elab.async false
set_option linter.all false
set_option maxRecDepth 100000
set_option maxHeartbeats 4000000
namespace L2.KL
open PySem PySem.Spec PyProof.Rows PySem.W
/-! an instance called -/
theorem pe_callK {X : Cx} {CX : CXT} {k : Nat} {C : Addr} {d : He.DefD} {ps : List Str} {sp : Sp} {E : XK} {e fe : Expr} {es : List Expr} {tf : TE} {t : TA} {pos : Pos} (hf : PE X fe tf) (c : StX.CallO X.K C (He.fAd X.K d.at_)) (G : Ok X.prog X.w X.K X.mg X.base CX k d ps sp) (hr : Room k X.A) (hx : Passes CX X E) (ha : PA X (e :: es) t)
    (ht : eval (.Call fe (e :: es) [] pos) X.env = (do callWith pos (← eval fe X.env) [] (backTo pos (starEach (e :: es) X.env)) (backToKw pos (keywordEach [] X.env))) := by rfl)
    (he : starEach (e :: es) X.env = (false, eval e X.env) :: starEach es X.env := by rfl) (hpl : (backTo pos (starEach es X.env)).any (·.1) = false := by rfl) : PE X (.Call fe (e :: es) [] pos) (StX.tCallO X C (fun vs H Q E => sp (vs ++ []) H Q E) E tf t) := by
  obtain ⟨fd, F, b⟩ := G.ex
  exact StX.pe_callO hf c (F.raw b .nil) hr hx ha ht he hpl
theorem rd_callO {X : Cx} {C : Addr} {sp : Sp} {E : XK} {tf : TE} {t : TA} {σ : St} {H : Hp} {Q : VK} (h : tf σ H fun y H1 => ∃ a, y = V.ref a ∧ t σ H1 fun vs H2 => (∃ dx fs, H2 a = some (.ins C dx fs)) ∧ sp (V.ref a :: vs) H2 Q E) (hm : ∀ Q R : VK, (∀ y H, Q y H → R y H) → ∀ σ H, tf σ H Q → tf σ H R) (hn : ∀ Q R : List V → Hp → Prop, (∀ y H, Q y H → R y H) → ∀ σ H, t σ H Q → t σ H R) : StX.tCallO X C sp E tf t σ H Q :=
  hm _ _ (fun y H1 ⟨a, e, q⟩ => ⟨a, e, hn _ _ (fun vs H2 ⟨i, q2⟩ => ⟨.inr i, q2⟩) _ _ q⟩) _ _ h
/-! tuple.index of a number -/
theorem ints_are : ∀ {ns : List Nat} {vs : List Value}, Vals (natsV ns) vs → IntsAre vs (iN ns)
  | [], _, .nil => .nil
  | n :: ns, _, .cons r t => by
    obtain ⟨k, rfl⟩ := r
    exact .cons _ k (ints_are t)
theorem idx_iN (x : Nat) : ∀ ns : List Nat, (iN ns).idxOf ((x : Nat) : Int) = ns.idxOf x
  | [] => rfl
  | n :: ns => by
    show (((n : Nat) : Int) :: iN ns).idxOf ((x : Nat) : Int) = (n :: ns).idxOf x
    rw [List.idxOf_cons, List.idxOf_cons, idx_iN x ns]
    by_cases h : n = x
    · subst h
      simp
    · have h1 : (n == x) = false := by simpa using h
      have h2 : (((n : Nat) : Int) == ((x : Nat) : Int)) = false := by
        rw [beq_eq_false_iff_ne]
        intro z
        exact h (by omega)
      rw [h1, h2]
def tTix (ta : TE) (t : TA) : TE := fun σ H Q => ta σ H fun x H1 => ∃ (p : Addr) (ys : List Nat), x = .ref p ∧ TupF H1 p ys ∧ t σ H1 fun vs H2 => ∃ n : Nat, vs = [nV n] ∧ TupF H2 p ys ∧ n ∈ ys ∧ Q (nV (ys.idxOf n)) H2
theorem pe_tix {X : Cx} {o e : Expr} {es : List Expr} {to : TE} {t : TA} {apos cpos : Pos} {pl : Sem Bool} (ho : PE X o to) (ha : PA X (e :: es) t)
    (hc : eval (.Call (.Attribute o "index" apos) (e :: es) [] cpos) X.env = (do
      let ov ← eval o X.env
      standAt apos.atName
      let (f, first) ← holding [ov] (getMethod ov "index" pl)
      callWith cpos f first (backTo cpos (starEach (e :: es) X.env)) (backToKw cpos (keywordEach [] X.env))) := by rfl)
    (hs : starEach (e :: es) X.env = (false, eval e X.env) :: starEach es X.env := by rfl) (hplain : (backTo cpos (starEach es X.env)).any (·.1) = false := by rfl) :
    PE X (.Call (.Attribute o "index" apos) (e :: es) [] cpos) (tTix to t) := by
  refine ⟨fun pins s σ H Q I h => ?_⟩
  refine methodCall_KW (thn (ho.run pins s σ H _ I h) fun u s1 ⟨x, H1, I1, r1, p, ys, ex, ⟨ob, hp, hd⟩, q1⟩ => ?_) hc
  subst ex
  obtain rfl : u = Value.ref p := r1
  have o1 := I1.hok p _ hp
  obtain ⟨g1, z1, its, rv, ⟨ob', g2, hcl, n', hdt⟩⟩ := (show ObjOk X.prog X.w H1 s1.heap p (.frz ob (.tup (natsV ys))) from o1)
  refine getMethod_builtin (T := "tuple") ⟨ob', g2, hcl⟩ PySem.F.plainAttrs_tuple PySem.F.slot_tuple_index PySem.F.type_tuple_index (fun a e => by cases e; exact ⟨ob, g1, hd⟩) ?_
  show wpAny (model X.prog X.w) X.A (callWith cpos (.builtin "tuple.index") [.ref p] (backTo cpos (starEach (e :: es) X.env)) []) _ _ s1
  have hA := ha.run cpos pins s1 σ H1 _ I1 q1
  rw [hs] at hA ⊢
  refine Calls.callWith_builtin (by show (false || (backTo cpos (starEach es X.env)).any (·.1)) = false; rw [hplain] <;> rfl) (Calls.evalArgs_plain ?_)
  refine thn hA fun us s2 ⟨vs, H2, I2, r2, n, ev, ⟨ob2, hp2, hd2⟩, hn, q2⟩ => ?_
  subst ev
  obtain ⟨u2, rfl, tk, rfl⟩ := vals1 r2
  obtain ⟨g3, z3, its3, rv3, pl3⟩ := (show ObjOk X.prog X.w H2 s2.heap p (.frz ob2 (.tup (natsV ys))) from I2.hok p _ hp2)
  refine PySem.SeqAt.tuple_index_ints (vs := its3) (ns := iN ys) (k := ((n : Nat) : Int)) pl3 (ints_are rv3) ?_ ?_
  · exact List.mem_map.mpr ⟨n, hn, rfl⟩
  · rw [idx_iN]
    exact ⟨nV (ys.idxOf n), H2, I2.tok _, ⟨_, rfl⟩, q2⟩
end L2.KL
set_option Elab.async false
set_option linter.all false
set_option maxRecDepth 100000
set_option maxHeartbeats 4000000
namespace L2.KL
open PySem PySem.Spec PyProof.Rows PySem.W
local macro_rules | `(tactic| walk_at "hp") => `(tactic| first
  | assumption)
local macro_rules | `(tactic| walk_at "cl") => `(tactic| first
  | (with_reducible rfl)
  | ((with_reducible show (_ : Int) < _); first | omega | (simp only [List.length_map]; omega))
  | ((with_reducible show (_ : Int) ≤ _); first | omega | (simp only [List.length_map]; omega))
  | assumption
  | (with_reducible exact lk_table)
  | (with_reducible exact nk_cyc (by decide +kernel))
  | (apply tyL; walk_at "hp")
  | (apply Or.inl; apply SqL.of; walk_at "hp")
  | (apply Or.inr; apply SqT.of; walk_at "hp")
  | (apply sz_nat; simp only [List.length_map, List.length_append, List.length_cons, List.length_nil]; omega))
local macro_rules | `(tactic| walk_at "r1") => `(tactic| first
  | (with_reducible refine rd_seq ?_)
  | ((with_reducible apply rd_var); (· exact rfl))
  | (with_reducible refine rd_c ?_)
  | (with_reducible refine rd_op ?_)
  | (with_reducible refine rd_fld ?_)
  | (with_reducible refine rd_cb ?_)
  | (with_reducible refine rd_cons ?_)
  | (with_reducible refine rd_nil ?_)
  | (with_reducible refine rd_call ?_)
  | (with_reducible refine rd_meth ?_)
  | (with_reducible refine rd_lst ?_)
  | (with_reducible refine rd_asg ?_)
  | (with_reducible refine rd_name ?_)
  | (with_reducible refine rd_ret ?_)
  | (with_reducible refine rd_drop ?_)
  | (with_reducible refine rd_if ?_)
  | (with_reducible refine rd_test ?_)
  | (with_reducible refine rd_or ?_)
  | (with_reducible refine rd_not ?_)
  | (with_reducible refine rd_bm ?_)
  | (with_reducible refine rd_next ?_)
  | ((with_reducible apply rd_ixT); (· walk_at "hp"); (· walk_at "at"))
  | ((with_reducible apply rd_ixL); (· walk_at "hp"); (· walk_at "at"))
  | (with_reducible refine rd_for ?_)
  | (with_reducible refine rd_iRng1 ?_)
  | ((with_reducible apply rd_append); (· walk_at "hp"); (· simp only [List.length_map, List.length_append, List.length_cons, List.length_nil]; omega))
  | (with_reducible refine rd_par ?_)
  | (with_reducible refine iteNT ?_)
  | (with_reducible apply Exists.intro)
  | ((with_reducible refine And.intro ?_ ?_); (· walk_at "cl")))
local macro_rules | `(tactic| walk_at "at") => `(tactic| first
  | (apply at_nats; first | assumption | omega)
  | (apply at_refs; assumption))
local macro_rules | `(tactic| walk_at "rd") => `(tactic| ((repeat walk_at "r1"); (try dsimp only [List.set])))
local macro_rules | `(tactic| walk_at "cl") => `(tactic| first
  | (exact Or.inr (TupN.sq (by assumption))))
local macro_rules | `(tactic| walk_at "r1") => `(tactic| first
  | ((with_reducible apply rd_ixTR); (· assumption); (· walk_at "at"))
  | ((with_reducible apply rd_inTR); (· assumption)))
local macro_rules | `(tactic| walk_at "cl") => `(tactic| first
  | (with_reducible exact lk_group)
  | (with_reducible exact lk_row)
  | (with_reducible exact nk_cf (by decide +kernel)))
theorem rd_callI {X : Cx} {C : Addr} {sp : Sp} {E : XK} {tf : TE} {t : TA} {σ : St} {H : Hp} {Q : VK} (h : tf σ H fun y H1 => ∃ a, y = V.ref a ∧ t σ H1 fun vs H2 => StX.InsC X H2 a C ∧ sp (V.ref a :: vs) H2 Q E) : StX.tCallO X C sp E tf t σ H Q := h
theorem rd_tix {ta : TE} {t : TA} {σ : St} {H : Hp} {Q : VK} (h : ta σ H fun x H1 => ∃ (p : Addr) (ys : List Nat), x = .ref p ∧ TupF H1 p ys ∧ t σ H1 fun vs H2 => ∃ n : Nat, vs = [nV n] ∧ TupF H2 p ys ∧ n ∈ ys ∧ Q (nV (ys.idxOf n)) H2) : tTix ta t σ H Q := h
local macro_rules | `(tactic| walk_at "r1") => `(tactic| first
  | (with_reducible refine rd_callI ?_)
  | (with_reducible refine rd_tix ?_))
theorem rd_eqCy {C : Addr} {H : Hp} {a b : Addr} {c : Cyc} {Q : VK} {E : XK} (h : CycAt C H a c) (g : CycAt C H b c) (k : ∀ H', Same H H' → Q (.bl true) H') : rEqO C (spEqC C) E (.ref a) (.ref b) H Q := by
  obtain ⟨dx, t, h1, h2⟩ := id h
  obtain ⟨dy, u, g1, g2⟩ := id g
  refine ⟨a, b, dx, dy, _, _, rfl, rfl, h1, g1, a, b, c, c, rfl, h, g, fun H' s => ⟨_, rfl, ?_⟩⟩
  rw [decide_eq_true ⟨rfl, rfl, rfl⟩]
  exact k H' s
theorem rd_eqCF {K : PySem.W.Frag} {H : Hp} {a b : Addr} {M : Tab} {cs : List Cyc} {Q : VK} {E : XK} (h : CFAt K H a M cs) (g : CFAt K H b M cs) (k : ∀ H', Same H H' → Q (.bl true) H') : rEqO (CF K) (spEqF K) E (.ref a) (.ref b) H Q := by
  obtain ⟨dx, g1, t1, u1, r1, h1, _⟩ := id h
  obtain ⟨dy, g2, t2, u2, r2, h2, _⟩ := id g
  exact ⟨a, b, dx, dy, _, _, rfl, rfl, h1, h2, a, b, M, cs, rfl, h, g, fun H' s => ⟨true, rfl, k H' s⟩⟩
theorem indV_sz {M : Tab} {S : List Nat} {fs : List Cyc} (G : IsGrp M) (hS : SubOk M S) (hf : ∀ c ∈ fs, Sz 8 2 c) (lf : fs.length = (clsM (subTab M S)).length) (h24 : M.length ≤ 24) (x : Nat) : Sz 1707 70 (indV M (subTab M S) S fs x) := by
  have z := indS_sz G hS hf lf h24 (x := x) (n := M.length) (Nat.le_refl _)
  have h1 := hS.le
  exact (z.over hS.pos (lb_small (by omega))).mono (by omega) (by omega)
theorem indM_sz {M : Tab} {S : List Nat} {fs : List Cyc} (G : IsGrp M) (hS : SubOk M S) (hf : ∀ c ∈ fs, Sz 8 2 c) (lf : fs.length = (clsM (subTab M S)).length) (h24 : M.length ≤ 24) : ∀ c ∈ indM M S fs, Sz 1707 70 c := fun c hc => by
  obtain ⟨k, _, rfl⟩ := List.mem_map.mp hc
  exact indV_sz G hS hf lf h24 _
theorem resM_sz {M : Tab} {S : List Nat} {gs : List Cyc} (G : IsGrp M) (hS : SubOk M S) (hg : ∀ c ∈ gs, Sz 8 2 c) (lg : gs.length = (clsM M).length) : ∀ c ∈ resM M S gs, Sz 8 2 c := fun c hc => by
  obtain ⟨k, hk, rfl⟩ := List.mem_map.mp hc
  have G' := subTab_grp G hS
  obtain ⟨i, hi, e⟩ := List.mem_iff_getElem.mp hk
  have r := (rep_mem G' hi).2.2.1
  have er : k.getD 0 0 = rep (subTab M S) i := by
    unfold rep
    rw [List.getD_eq_getElem?_getD (l := clsM (subTab M S)), List.getElem?_eq_getElem hi]
    show k.getD 0 0 = ((clsM (subTab M S))[i]).getD 0 0
    rw [e]
  rw [subTab_len] at r
  rw [er]
  exact cVal_sz G hg lg (hS.glt r)
section
variable {P : Program} {w : World} {K : PySem.W.Frag} {mg : Str → Option Value} {base : Heap}
def spLaw (K : PySem.W.Frag) : Sp := fun vs H Q _ => ∃ (a : Addr) (ns : List Int), vs = [.ref a] ∧ SqL K H a (intsV ns) ∧ ns.length ≤ 63 ∧ (∀ n ∈ ns, Lb 1048576 n.natAbs) ∧ ∀ H', Q (.bl true) H'
theorem fn_one {N ps : List Str} {k : Nat} {sp : Sp} {d : He.DefD} {fd : FuncData} (F : FunD K d.name d.qual d.params d.body d.scope (d.dvs K) (d.kws K) (He.fAd K d.at_) fd) (S : FnScope N ps d.scope) (len : ∀ vs H Q E, sp vs H Q E → vs.length = ps.length)
    (hbody : ∀ (cdv : Value) (A : Around) (outer : List Env) (s : Shared) (H : Hp) (vs : List V) (Q : VK) (E : XK), Room k (A.deeper (envOfC d.qual d.scope s.heap.objs.size (He.fAd K d.at_) cdv)) → sp vs H Q E →
      ∃ t, PSs (cxOf CX0 P w K mg base N d.qual d.scope (He.fAd K d.at_) cdv A outer s H E).nox d.body t ∧ t { nx := fun _ H' => Q .non H', rt := Q } (start N vs) H) : FnOk P w K mg base CX0 (k + 1) (He.fAd K d.at_) fd ps sp :=
  F.ok S len fun cdv A outer s H vs Q E hr h => let ⟨t, p, q⟩ := hbody cdv A outer s H vs Q E hr h; ⟨t, PSs.nox p, q⟩
theorem sc_law : FnScope ["_law_script", "_law_state_here", "_law_group_here", "_law_table", "_law_known", "_law_subgroup_here", "_law_small", "_law_places", "_law_f", "_law_g", "_law_down", "_law_up", "_law_k", "_law_i", "_law_total", "_law_y", "_law_z"] ["_law_script"] HD.d_law.scope := ⟨rfl, rfl, rfl, by decide +kernel, rfl, by decide +kernel, by decide +kernel⟩
theorem ok_law {fd : FuncData} (F : FunD K HD.d_law.name HD.d_law.qual HD.d_law.params HD.d_law.body HD.d_law.scope (HD.d_law.dvs K) (HD.d_law.kws K) (He.fAd K HD.d_law.at_) fd) (T : Tx K mg) (TR : RefTxt P K (CR K) (FI K)) (TM : MalOk K) (XR : XfC K (CR K)) (CO : StX.CallO K (CF K) (He.fAd K HD.dClassFunction_call.at_)) : FnOk P w K mg base CX0 12 (He.fAd K HD.d_law.at_) fd ["_law_script"] (spLaw K) := by
  have c1 := T.c_Group
  have c2 := T.c_ClassFunction
  have c3 := T.c_Cyclo
  have n1 := T.na_ClassFunction_group
  have n2 := T.na_ClassFunction_row
  have n3 := T.na_ClassFunction_known
  have n4 := T.na_Group_table
  have G_law_state : Ok P w K mg base CX0 1 _ _ _ := ok_state T
  have G_law_group : Ok P w K mg base CX0 8 _ _ _ := ok_lgrp T
  have G_law_classes : Ok P w K mg base CX0 2 _ _ _ := ok_lcls T
  have G_law_subgroup : Ok P w K mg base CX0 2 _ _ _ := ok_lsub T
  have G_law_function : Ok P w K mg base CX0 9 _ _ _ := ok_fun T
  have G_law_at : Ok P w K mg base CX0 1 _ _ _ := ok_lat T
  have G_law_inverse : Ok P w K mg base CX0 1 _ _ _ := ok_linv T
  have G_law_refused : Ok P w K mg base CX0 11 _ _ _ := ok_rfs T TR TM XR
  have G_as_group : Ok P w K mg base (L2.CX P w) 6 _ _ _ := ok_asg T TR
  have G_restricted : Ok P w K mg base (L2.CX P w) 7 _ _ _ := ok_res T TR
  have G_induced : Ok P w K mg base (L2.CX P w) 9 _ _ _ := ok_ind T TR TM
  have G_coset_function : Ok P w K mg base (L2.CX P w) 10 _ _ _ := ok_cos T TR TM
  have G_everywhere : Ok P w K mg base CX0 6 _ _ _ := ok_every T
  have G_of_integer : Ok P w K mg base CX0 8 _ _ _ := ok_ofInt T
  have G_added : Ok P w K mg base CX0 9 _ _ _ := ok_added T
  have G_Group_eq : Ok P w K mg base CX0 _ _ _ _ := ok_eqG T
  have G_Cyclo_eq : Ok P w K mg base CX0 2 _ _ _ := ok_eqC T
  have G_Cyclo_scaled : Ok P w K mg base CX0 8 _ _ _ := ok_scaled T
  have G_ClassFunction_eq : Ok P w K mg base CX0 4 _ _ _ := ok_cfeq T
  have G_ClassFunction_call : Ok P w K mg base CX0 2 _ _ _ := ok_cfcall T
  have G_ClassFunction_inner : Ok P w K mg base CX0 10 _ _ _ := ok_inner T
  have nd := sc_law.nd
  refine fn_one F sc_law (fun vs H Q E h => ?_) (fun cdv A outer s H vs Q E hr h => ?_)
  · obtain ⟨a, ns, rfl, _⟩ := h
    rfl
  · obtain ⟨a, ns, rfl, ha, h63, hb, k⟩ := h
    refine ⟨_, pss_cons
          -- _law_state_here = _law_state(_law_script)
          (ps_set (i := 1) nd rfl (.inl rfl) (pe_f (G_law_state) (hr.mono (by decide)) T.g_law_state pass0 (pa_cons (pv 0) pa_nil)))
         (pss_cons
          -- _law_group_here = _law_group(_law_state_here)
          (ps_set (i := 2) nd rfl (.inl rfl) (pe_f (G_law_group) (hr.mono (by decide)) T.g_law_group pass0 (pa_cons (pv 1) pa_nil)))
         (pss_cons
          -- _law_table = _law_group_here.table
          (ps_set (i := 3) nd rfl (.inl rfl) (pe_fldK (K := K) (pv 2) rfl))
         (pss_cons
          -- _law_known = _law_classes(_law_table)
          (ps_set (i := 4) nd rfl (.inl rfl) (pe_f (G_law_classes) (hr.mono (by decide)) T.g_law_classes pass0 (pa_cons (pv 3) pa_nil)))
         (pss_cons
          -- _law_subgroup_here = _law_subgroup(_law_state_here, _law_table)
          (ps_set (i := 5) nd rfl (.inl rfl) (pe_f (G_law_subgroup) (hr.mono (by decide)) T.g_law_subgroup pass0 (pa_cons (pv 1) (pa_cons (pv 3) pa_nil))))
         (pss_cons
          -- _law_small = as_group(_law_group_here, _law_subgroup_here)
          (ps_set (i := 6) nd rfl (.inl rfl) (pe_f (G_as_group) (hr.mono (by decide)) T.g_as_group passL (pa_cons (pv 2) (pa_cons (pv 5) pa_nil))))
         (pss_cons
          -- _law_places = _law_classes(_law_small.table)
          (ps_set (i := 7) nd rfl (.inl rfl) (pe_f (G_law_classes) (hr.mono (by decide)) T.g_law_classes pass0 (pa_cons (pe_fldK (K := K) (pv 6) rfl) pa_nil)))
         (pss_cons
          -- _law_f = _law_function(_law_state_here, _law_small, len(_law_places))
          (ps_set (i := 8) nd rfl (.inl rfl) (pe_f (G_law_function) (hr.mono (by decide)) T.g_law_function pass0 (pa_cons (pv 1) (pa_cons (pv 6) (pa_cons (pe_callB call_len_seq (by rfl) T.b_len (by decide +kernel) (pa_cons (pv 7) pa_nil)) pa_nil)))))
         (pss_cons
          -- _law_g = _law_function(_law_state_here, _law_group_here, len(_law_known))
          (ps_set (i := 9) nd rfl (.inl rfl) (pe_f (G_law_function) (hr.mono (by decide)) T.g_law_function pass0 (pa_cons (pv 1) (pa_cons (pv 2) (pa_cons (pe_callB call_len_seq (by rfl) T.b_len (by decide +kernel) (pa_cons (pv 4) pa_nil)) pa_nil)))))
         (pss_cons
          -- _law_down, _law_up = (restricted(_law_g, _law_subgroup_here), induced(_law_group_here, _law_subgroup_here, _law_f))
          (ps_par (i := 10) (j := 11) (by rfl) nd rfl rfl (by decide) rfl rfl (pa_cons (pe_f (G_restricted) (hr.mono (by decide)) T.g_restricted passL (pa_cons (pv 9) (pa_cons (pv 5) pa_nil))) (pa_cons (pe_f (G_induced) (hr.mono (by decide)) T.g_induced passL (pa_cons (pv 2) (pa_cons (pv 5) (pa_cons (pv 8) pa_nil)))) pa_nil)) (by rfl))
         (pss_cons
          -- if not _law_down.group == _law_small or not _law_up.group == _law_group_here:
          (ps_if (PW.pt (pw_or (pt_not (pt_cmpR (op_eqK G_Group_eq T.me_Group_eq (hr.mono (by decide)) pass0) (pe_fldK (K := K) (pv 10) rfl) (pv 6) (nomark _))) (pw_or1 (pt_not (pt_cmpR (op_eqK G_Group_eq T.me_Group_eq (hr.mono (by decide)) pass0) (pe_fldK (K := K) (pv 11) rfl) (pv 2) (nomark _)))))) (pss_one
            -- return False
            (ps_ret pe_bl)) (pss_nil))
         (pss_cons
          -- for _law_k in range(len(_law_subgroup_here)):
          (ps_for PassesOwn.never rfl (pi_range1 (by rfl) T.b_range (pa_cons (pe_callB call_len_seq (by rfl) T.b_len (by decide +kernel) (pa_cons (pv 5) pa_nil)) pa_nil)) (pg_name (i := 12) nd rfl (.inl rfl)) (pss_one
            -- if not _law_down(_law_k) == _law_at(_law_g, _law_known, _law_subgroup_here[_law_k]):
            (ps_if (pt_not (pt_cmpR (op_eqK G_Cyclo_eq T.me_Cyclo_eq (hr.mono (by decide)) pass0) (pe_callK (pv 10) CO G_ClassFunction_call (hr.mono (by decide)) pass0 (pa_cons (pv 12) pa_nil)) (pe_f (G_law_at) (hr.mono (by decide)) T.g_law_at pass0 (pa_cons (pv 9) (pa_cons (pv 4) (pa_cons (pe_ix (r := rIxT K) ix_tup (pv 5) (pv 12) (fun _ _ => rfl)) pa_nil)))) (nomark _))) (pss_one
              -- return False
              (ps_ret pe_bl)) (pss_nil))))
         (pss_cons
          -- for _law_i in range(len(_law_known)):
          (ps_for PassesOwn.never rfl (pi_range1 (by rfl) T.b_range (pa_cons (pe_callB call_len_seq (by rfl) T.b_len (by decide +kernel) (pa_cons (pv 4) pa_nil)) pa_nil)) (pg_name (i := 13) nd rfl (.inl rfl)) (pss_cons
            -- _law_total = []
            (ps_set (i := 14) nd rfl (.inl rfl) (pe_lst pa_nil))
           (pss_cons
            -- for _law_y in range(len(_law_table)):
            (ps_for PassesOwn.never rfl (pi_range1 (by rfl) T.b_range (pa_cons (pe_callB call_len_seq (by rfl) T.b_len (by decide +kernel) (pa_cons (pv 3) pa_nil)) pa_nil)) (pg_name (i := 15) nd rfl (.inl rfl)) (pss_cons
              -- _law_z = _law_table[_law_table[_law_inverse(_law_table, _law_y)][_law_known[_law_i][0]]][_law_y]
              (ps_set (i := 16) nd rfl (.inl rfl) (pe_ix (r := rIxT K) ix_tup (pe_ix (r := rIxT K) ix_tup (pv 3) (pe_ix (r := rIxT K) ix_tup (pe_ix (r := rIxT K) ix_tup (pv 3) (pe_f (G_law_inverse) (hr.mono (by decide)) T.g_law_inverse pass0 (pa_cons (pv 3) (pa_cons (pv 15) pa_nil))) (fun _ _ => rfl)) (pe_ix (r := rIxT K) ix_tup (pe_ix (r := rIxL K) ix_list (pv 4) (pv 13) (fun _ _ => rfl)) pe_int (fun _ _ => rfl)) (fun _ _ => rfl)) (fun _ _ => rfl)) (pv 15) (fun _ _ => rfl)))
             (pss_one
              -- if _law_z in _law_subgroup_here:
              (ps_if (pt_cmpR (r := rIn K false) op_in_seq (pv 16) (pv 5) (by rfl)) (pss_one
                -- _law_total.append(_law_at(_law_f, _law_places, _law_subgroup_here.index(_law_z)))
                (ps_expr (pe_bm PySem.F.plainAttrs_list PySem.F.slot_list_append PySem.F.type_list_append mt_append (pv 14) (pa_cons (pe_f (G_law_at) (hr.mono (by decide)) T.g_law_at pass0 (pa_cons (pv 8) (pa_cons (pv 7) (pa_cons (pe_tix (pv 5) (pa_cons (pv 16) pa_nil)) pa_nil)))) pa_nil)))) (pss_nil)))))
           (pss_one
            -- if not _law_up.row[_law_i].scaled(len(_law_subgroup_here)) == added(_law_total):
            (ps_if (pt_not (pt_cmpR (op_eqK G_Cyclo_eq T.me_Cyclo_eq (hr.mono (by decide)) pass0) (pe_m (pe_ix (r := rIxT K) ix_tup (pe_fldK (K := K) (pv 11) rfl) (pv 13) (fun _ _ => rfl)) T.c_Cyclo (G_Cyclo_scaled) T.me_Cyclo_scaled (hr.mono (by decide)) pass0 (pa_cons (pe_callB call_len_seq (by rfl) T.b_len (by decide +kernel) (pa_cons (pv 5) pa_nil)) pa_nil)) (pe_f (G_added) (hr.mono (by decide)) T.g_added pass0 (pa_cons (pv 14) pa_nil)) (nomark _))) (pss_one
              -- return False
              (ps_ret pe_bl)) (pss_nil))))))
         (pss_cons
          -- if not _law_up.inner(_law_g) == _law_f.inner(_law_down):
          (ps_if (pt_not (pt_cmpR (op_eqK G_Cyclo_eq T.me_Cyclo_eq (hr.mono (by decide)) pass0) (pe_m (pv 11) T.c_ClassFunction (G_ClassFunction_inner) T.me_ClassFunction_inner (hr.mono (by decide)) pass0 (pa_cons (pv 9) pa_nil)) (pe_m (pv 8) T.c_ClassFunction (G_ClassFunction_inner) T.me_ClassFunction_inner (hr.mono (by decide)) pass0 (pa_cons (pv 10) pa_nil)) (nomark _))) (pss_one
            -- return False
            (ps_ret pe_bl)) (pss_nil))
         (pss_cons
          -- if not coset_function(_law_group_here, _law_subgroup_here) == induced(_law_group_here, _law_subgroup_here, everywhere(_law_small, of_integer(1))):
          (ps_if (pt_not (pt_cmpR (op_eqK G_ClassFunction_eq T.me_ClassFunction_eq (hr.mono (by decide)) pass0) (pe_f (G_coset_function) (hr.mono (by decide)) T.g_coset_function passL (pa_cons (pv 2) (pa_cons (pv 5) pa_nil))) (pe_f (G_induced) (hr.mono (by decide)) T.g_induced passL (pa_cons (pv 2) (pa_cons (pv 5) (pa_cons (pe_f (G_everywhere) (hr.mono (by decide)) T.g_everywhere pass0 (pa_cons (pv 6) (pa_cons (pe_f (G_of_integer) (hr.mono (by decide)) T.g_of_integer pass0 (pa_cons pe_int pa_nil)) pa_nil))) pa_nil)))) (nomark _))) (pss_one
            -- return False
            (ps_ret pe_bl)) (pss_nil))
         (pss_one
          -- return _law_refused(_law_group_here, _law_g)
          (ps_ret (pe_f (G_law_refused) (hr.mono (by decide)) T.g_law_refused pass0 (pa_cons (pv 2) (pa_cons (pv 9) pa_nil))))))))))))))))))), ?_⟩
    try dsimp only [cxOf, Cx.wish]
    walk_at "rd"
    refine ⟨a, ns, rfl, ha, h63, hb, fun p H1 hp1 s1 hst1 => ?_⟩
    clear ha hb
    walk_at "rd"
    refine ⟨p, rfl, hst1, fun g M H2 s2 hst2 hg2 G h24 => ?_⟩
    obtain ⟨dxg, tg, ig2, itg2⟩ := id hg2
    walk_at "rd"
    refine ⟨tg, M, rfl, itg2, G, fun l us H3 hl3 s3 hl us_len hrows => ?_⟩
    have hL3 : LCl H3 l M := ⟨us, hl, us_len, hrows⟩
    have hst3 := hst2.same s3
    have hlp : l ≠ p := hst2.ne hl3
    clear hl us_len hrows hl3 hst1 hp1
    walk_at "rd"
    refine ⟨p, tg, M, rfl, hst3, itg2.fz (Fz.of s3), G, fun q S H4 s4 hst4 hq hqp hS => ?_⟩
    have hL4 := hL3.sx s4 hst3 hlp
    have hg4 := (hg2.fz (Fz.of s3)).fz (hst3.fz s4)
    have ht4 := (itg2.fz (Fz.of s3)).fz (hst3.fz s4)
    clear hL3 hst2 hst3 hg2 ig2 itg2
    walk_at "rd"
    refine ⟨g, q, M, rfl, hg4, G, .inl ⟨S, hq.n, hS, fun sm H5 s5 hsm => ?_⟩⟩
    have G' := subTab_grp G hS
    obtain ⟨dxs, ts, is5, its5⟩ := id hsm
    have hL5 := hL4.same s5
    have hg5 := hg4.fz (Fz.of s5)
    have ht5 := ht4.fz (Fz.of s5)
    have hq5 := hq.same s5
    have hst5 := hst4.same s5
    clear hL4 hg4 ht4 hq hst4
    walk_at "rd"
    refine ⟨ts, subTab M S, rfl, its5, G', fun l2 us2 H6 hl6 s6 hl2 us2_len hrows2 => ?_⟩
    have hP6 : LCl H6 l2 (subTab M S) := ⟨us2, hl2, us2_len, hrows2⟩
    have hl2p : l2 ≠ p := hst5.ne hl6
    have hL6 := hL5.same s6
    have hg6 := hg5.fz (Fz.of s6)
    have ht6 := ht5.fz (Fz.of s6)
    have hq6 := hq5.same s6
    have hst6 := hst5.same s6
    have hsm6 := hsm.fz (Fz.of s6)
    clear hL5 hg5 ht5 hq5 hst5 hrows2 hl6
    walk_at "rd"
    rw [List.length_map, us2_len]
    refine ⟨p, sm, subTab M S, rfl, hst6, hsm6, G', fun f fs H7 s7 hst7 hf7 hfz => ?_⟩
    have f67 := hst6.fz s7
    have hP7 := hP6.sx s7 hst6 hl2p
    have hL7 := hL6.sx s7 hst6 hlp
    have hg7 := hg6.fz f67
    have ht7 := ht6.fz f67
    have hsm7 := hsm6.fz f67
    have hq7 : TupF H7 q S := let ⟨o, e, d⟩ := hq6; ⟨o, s7 _ _ hqp e, d⟩
    clear hP6 hL6 hg6 ht6 hsm6 hq6 hst6 hl2 us2_len
    obtain ⟨us, hl, us_len, hrows⟩ := id hL7
    walk_at "rd"
    rw [List.length_map, us_len]
    refine ⟨p, g, M, rfl, hst7, hg7, G, fun gf gs H8 s8 hst8 hgf8 hgz => ?_⟩
    have f78 := hst7.fz s8
    have hP8 := hP7.sx s8 hst7 hl2p
    have hL8 := hL7.sx s8 hst7 hlp
    have hg8 := hg7.fz f78
    have ht8 := ht7.fz f78
    have hsm8 := hsm7.fz f78
    have hf8 := hf7.fz f78
    have hq8 : TupF H8 q S := let ⟨o, e, d⟩ := hq7; ⟨o, s8 _ _ hqp e, d⟩
    clear hP7 hL7 hg7 ht7 hsm7 hq7 hf7 hst7 hrows us_len hl hst8
    walk_at "rd"
    refine ⟨gf, q, M, gs, rfl, hgf8, G, .inl ⟨S, hq8.n, hS, fun dn H9 s9 hdn9 => ?_⟩⟩
    walk_at "rd"
    refine ⟨g, q, f, M, subTab M S, fs, rfl, hg8.fz (Fz.of s9), G, hf8.fz (Fz.of s9), .inl ⟨S, hq8.n.same s9, hS, .inl ⟨rfl, h24, hfz, fun up HA sA hup => ?_⟩⟩⟩
    have s8A := s9.trans sA
    have hL := hL8.same s8A
    have hP := hP8.same s8A
    have hg := hg8.fz (Fz.of s8A)
    have ht := ht8.fz (Fz.of s8A)
    have hsmA := hsm8.fz (Fz.of s8A)
    have hq := hq8.same s8A
    have hf := hf8.fz (Fz.of s8A)
    have hgf := hgf8.fz (Fz.of s8A)
    have hdn := hdn9.fz (Fz.of sA)
    clear hL8 hP8 hg8 ht8 hsm8 hq8 hf8 hgf8 hdn9 f67 f78 s7 s8 s6 s5 s4 s3 s2 s1 its5 is5 hsm
    obtain ⟨us, hlA, us_len, hrows⟩ := id hL
    obtain ⟨dxd, gd, td, ud, rd_, d1, d2, d3, d4, d5, d6⟩ := id hdn
    obtain ⟨dxu, gu, tu, uu, ru, u1, u2, u3, u4, u5, u6⟩ := id hup
    obtain ⟨dxf, gff, tf, uf, rf, f1, _⟩ := id hf
    have hSl := hS.le
    have hS1 := hS.pos
    have hM1 := G.pos
    have hqS := hq.n
    have hcl24 : (clsM M).length ≤ 24 := Nat.le_trans (cls_len M) h24
    have hul : us.length ≤ 24 := by omega
    have hfc := Sz.canon hfz
    have hgc := Sz.canon hgz
    have lf : fs.length = (clsM (subTab M S)).length := by
      obtain ⟨_, _, _, _, _, _, _, _, _, _, z⟩ := hf
      exact z
    have lg : gs.length = (clsM M).length := by
      obtain ⟨_, _, _, _, _, _, _, _, _, _, z⟩ := hgf
      exact z
    walk_at "rd"
    refine rd_eqG d2 hsmA fun HB sB => ?_
    rw [decide_eq_true rfl]
    have u1B := sB _ _ u1
    walk_at "rd"
    refine rd_eqG (u2.fz (Fz.of sB)) (hg.fz (Fz.of sB)) fun HC sC => ?_
    rw [decide_eq_true rfl]
    have sAC := sB.trans sC
    have hqC := hq.n.same sAC
    walk_at "rd"
    rw [List.length_map]
    refine fj_range S.length (fun i σ H' => ∃ v12 v13 v14 v15 v16 : Option V, σ = [some (.ref a), some (.ref p), some (.ref g), some (.ref tg), some (.ref l), some (.ref q), some (.ref sm), some (.ref l2), some (.ref f), some (.ref gf), some (.ref dn), some (.ref up), v12, v13, v14, v15, v16] ∧ Same HA H') ⟨_, _, _, _, _, rfl, sAC⟩ ?_ ?_
    · rintro j σ H2 hj ⟨v12, v13, v14, v15, v16, rfl, s2⟩
      have hj' : j < (subTab M S).length := by rw [subTab_len]; exact hj
      have hq2 := hq.n.same s2
      have d12 := s2 _ _ d1
      walk_at "rd"
      refine ⟨.inr ⟨_, _, d12⟩, dn, subTab M S, resM M S gs, j, rfl, hdn.fz (Fz.of s2), G', cIdx_lt G' hj', fun r H3 s3 hr => ?_⟩
      have hq3 := hq2.same s3
      rw [res_cls G hS hj] at hr
      walk_at "rd"
      refine ⟨gf, l, M, gs, S.getD j 0, rfl, hgf.fz (Fz.of (s2.trans s3)), hL.same (s2.trans s3), G, hS.glt hj, fun r2 H4 s4 hr2 => ?_⟩
      walk_at "rd"
      refine rd_eqCy (CycAt.fz (Fz.of s4) hr) hr2 fun H5 s5 => ?_
      walk_at "rd"
      exact at_i ⟨_, _, _, _, _, rfl, ((s2.trans s3).trans s4).trans s5⟩
    · rintro σ H2 ⟨v12, v13, v14, v15, v16, rfl, s2⟩
      have hlA2 := s2 _ _ hlA
      walk_at "rd"
      rw [List.length_map, us_len]
      refine fj_range (clsM M).length (fun i σ H' => ∃ v13 v14 v15 v16 : Option V, σ = [some (.ref a), some (.ref p), some (.ref g), some (.ref tg), some (.ref l), some (.ref q), some (.ref sm), some (.ref l2), some (.ref f), some (.ref gf), some (.ref dn), some (.ref up), v12, v13, v14, v15, v16] ∧ Same HA H') ⟨_, _, _, _, rfl, s2⟩ ?_ ?_
      · rintro i σ H3 hi ⟨v13, v14, v15, v16, rfl, s3⟩
        obtain ⟨rs, t1, t2, t3⟩ := id ht
        walk_at "rd"
        intro tl htl
        have s4 : Same H3 (upd H3 tl (.lst (refsV []))) := Same.new htl
        have htl4 : upd H3 tl (.lst (refsV [])) tl = some (.lst (refsV [])) := upd_same
        show gName 14 (V.ref tl) _ (upd H3 tl (.lst (refsV []))) _
        generalize upd H3 tl (.lst (refsV [])) = H4 at s4 htl4 ⊢
        have t14 := (s3.trans s4) _ _ t1
        have hrl : rs.length ≤ 24 := by omega
        walk_at "rd"
        rw [List.length_map, t2]
        obtain ⟨row, hrow⟩ : ∃ r, (clsM M)[i]? = some r := ⟨_, List.getElem?_eq_getElem hi⟩
        obtain ⟨tu_, htu⟩ : ∃ r, us[i]? = some r := ⟨_, List.getElem?_eq_getElem (by omega)⟩
        have hrp := rep_mem G hi
        have erow : (clsM M).getD i [] = row := by rw [List.getD_eq_getElem?_getD, hrow]; rfl
        obtain ⟨x0, hx0⟩ : ∃ x0, x0 = row.getD 0 0 := ⟨_, rfl⟩
        have erep : rep M i = x0 := by
          unfold rep
          rw [erow, hx0]
        have h0 : 0 < row.length := by
          have := hrp.1
          rw [erow] at this
          exact this
        have hxM : x0 < M.length := by
          have := hrp.2.2.1
          rw [erep] at this
          exact this
        refine fj_range M.length (fun y σ H' => ∃ (ts : List Addr) (v15 v16 : Option V), σ = [some (.ref a), some (.ref p), some (.ref g), some (.ref tg), some (.ref l), some (.ref q), some (.ref sm), some (.ref l2), some (.ref f), some (.ref gf), some (.ref dn), some (.ref up), v12, some (nV i), some (.ref tl), v15, v16] ∧ Same H3 H' ∧ H' tl = some (.lst (refsV ts)) ∧ AllAt (CycR (CY K)) H' ts (indN M (subTab M S) S fs x0 y))
          ⟨[], _, _, rfl, s4, htl4, AllAt.nil⟩ ?_ ?_
        · rintro y σ H5 hy ⟨ts, v15, v16, rfl, s5, htl5, hA⟩
          have s35 := s3.trans s5
          have iy := inv_lt G hy
          have m1 := G.sq.lt _ _ iy hxM
          have m2 := G.sq.lt _ _ m1 hy
          have hlA5 := s35 _ _ hlA
          have t15 := s35 _ _ t1
          have hrw := s35 _ _ (hrows i tu_ row htu hrow)
          have hq5 := hq.same s35
          have hq5n := hq5.n
          obtain ⟨q1, e1, e2⟩ := row_of t2 t3 iy
          obtain ⟨q2, e3, e4⟩ := row_of t2 t3 m1
          have e25 := s35 _ _ e2
          have e45 := s35 _ _ e4
          have l1 := G.sq.row _ iy
          have l2_ := G.sq.row _ m1
          have e3' : rs[(M.getD (inv M y) []).getD (row.getD 0 0) 0]? = some q2 := by
            rw [← hx0]
            exact e3
          have hxr : row.getD 0 0 < (M.getD (inv M y) []).length := by
            rw [l1, ← hx0]
            exact hxM
          walk_at "rd"
          refine ⟨tg, M, y, rfl, ⟨rs, t15, t2, fun i r row a b => s35 _ _ (t3 i r row a b)⟩, hy, G.iv y hy, fun H6 s6 => ?_⟩
          have t16 := s6 _ _ t15
          have e26 := s6 _ _ e25
          have e46 := s6 _ _ e45
          have hrw6 := s6 _ _ hrw
          have hlA6 := s6 _ _ hlA5
          have hq6 := hq5.same s6
          have hq6n := hq6.n
          walk_at "rd"
          have ez : (M.getD (tm M (inv M y) x0) []).getD y 0 = conj M x0 y := G.as_ (inv M y) x0 y iy hxM hy
          rw [ez]
          by_cases hm : conj M x0 y ∈ S
          · rw [decide_eq_true hm]
            refine if_bT rfl ?_
            have htl6 := s6 _ _ htl5
            walk_at "rd"
            have hix : S.idxOf (conj M x0 y) < (subTab M S).length := by
              rw [subTab_len]
              exact List.idxOf_lt_length_of_mem hm
            refine ⟨f, l2, subTab M S, fs, S.idxOf (conj M x0 y), rfl, hf.fz (Fz.of (s35.trans s6)), hP.same (s35.trans s6), G', hix, fun r H7 s7 hr => ?_⟩
            have htl7 := s7 _ _ htl6
            have hnl := indN_len M (subTab M S) S fs x0 y
            have hA1 := hA.1
            walk_at "rd"
            rw [snoc_refs]
            have f8 : Fz H7 (upd H7 tl (.lst (refsV (ts ++ [r])))) := Fz.upd htl7 rfl
            refine at_i ⟨ts ++ [r], _, _, rfl, Same.mut ((s5.trans s6).trans s7) htl, upd_same, ?_⟩
            rw [indN_succ, if_pos hm]
            exact ((hA.fz (cycR_fm _) (Fz.of (s6.trans s7))).fz (cycR_fm _) f8).snoc (CycAt.fz f8 hr)
          · rw [decide_eq_false hm]
            refine if_bF (by simp) ?_
            walk_at "rd"
            refine at_i ⟨ts, _, _, rfl, s5.trans s6, s6 _ _ htl5, ?_⟩
            rw [indN_succ, if_neg hm]
            exact hA.fz (cycR_fm _) (Fz.of s6)
        · rintro σ H5 ⟨ts, v15, v16, rfl, s5, htl5, hA⟩
          have s35 := s3.trans s5
          have hci : (indM M S fs)[i]? = some (indV M (subTab M S) S fs x0) := by
            unfold indM
            rw [List.getElem?_map, hrow, hx0]
            rfl
          obtain ⟨rt, hrt, hRt⟩ := u4.get hci
          have u35 := s35 _ _ u3
          have u15 := s35 _ _ u1
          have hRt5 : CycAt (CY K) H5 rt (indV M (subTab M S) S fs x0) := CycAt.fz (Fz.of s35) hRt
          obtain ⟨dxr, tr, ir, itr⟩ := id hRt5
          have hq5n := hq.n.same s35
          have zv := indV_sz G hS hfz lf h24 x0
          walk_at "rd"
          rw [List.length_map]
          refine ⟨rt, _, S.length, _, rfl, hRt5, zv.cn.good, zv.lw.mono (by omega), (lb_small (by omega)).mono (by omega), zv.pb, by omega, by omega, fun qs H6 s6 hqs => ?_⟩
          have hnl := indN_len M (subTab M S) S fs x0 M.length
          walk_at "rd"
          refine ⟨tl, ts, indN M (subTab M S) S fs x0 M.length, 8, 2, rfl, s6 _ _ htl5, hA.fz (cycR_fm _) (Fz.of s6), indN_sz G hS hfz lf x0 M.length, by omega, by omega, by omega, by omega, fun r H7 s7 hr => ?_⟩
          have eS : scaledM (indV M (subTab M S) S fs x0) S.length = sumC (indN M (subTab M S) S fs x0 M.length) := scaled_over (sumC_canon _ (indL_canon G hS hfc lf x0)) hS1
          rw [eS] at hqs
          walk_at "rd"
          refine rd_eqCy (CycAt.fz (Fz.of s7) hqs) hr fun H8 s8 => ?_
          walk_at "rd"
          exact at_i ⟨_, _, _, _, rfl, ((s35.trans s6).trans s7).trans s8⟩
      · rintro σ H3 ⟨v13, v14, v15, v16, rfl, s3⟩
        have u13 := s3 _ _ u1
        walk_at "rd"
        refine ⟨up, gf, M, indM M S fs, gs, 1707, 70, 8, 2, rfl, hup.fz (Fz.of s3), hgf.fz (Fz.of s3), G, h24, indM_sz G hS hfz lf h24, hgz, by omega, by omega, by omega, by omega, fun r1 H4 s4 hr1 => ?_⟩
        have s34 := s3.trans s4
        have f14 := s34 _ _ f1
        walk_at "rd"
        refine ⟨f, dn, subTab M S, fs, resM M S gs, 8, 2, 8, 2, rfl, hf.fz (Fz.of s34), hdn.fz (Fz.of s34), G', by rw [subTab_len]; omega, hfz, resM_sz G hS hgz lg, by omega, by omega, by omega, by omega, fun r2 H5 s5 hr2 => ?_⟩
        rw [frob G hS hfc lf hgc lg] at hr1
        walk_at "rd"
        refine rd_eqCy (CycAt.fz (Fz.of s5) hr1) hr2 fun H6 s6 => ?_
        have s36 := (s34.trans s5).trans s6
        walk_at "rd"
        refine ⟨g, q, M, rfl, hg.fz (Fz.of s36), G, .inl ⟨S, hq.n.same s36, hS, h24, fun k1 H7 s7 hk1 => ?_⟩⟩
        have s37 := s36.trans s7
        walk_at "rd"
        refine ⟨1, rfl, fun o1 H8 s8 ho1 => ?_⟩
        have s38 := s37.trans s8
        walk_at "rd"
        refine ⟨sm, o1, subTab M S, ofIntM 1, rfl, hsmA.fz (Fz.of s38), G', ho1, fun ev H9 s9 hev => ?_⟩
        have s39 := s38.trans s9
        walk_at "rd"
        refine ⟨g, q, ev, M, subTab M S, oneF (subTab M S), rfl, hg.fz (Fz.of s39), G, hev, .inl ⟨S, hq.n.same s39, hS, .inl ⟨rfl, h24, oneF_sz _, fun k2 H10 s10 hk2 => ?_⟩⟩⟩
        walk_at "rd"
        refine rd_eqCF (hk1.fz (Fz.of ((s8.trans s9).trans s10))) hk2 fun H11 s11 => ?_
        have s311 := (s39.trans s10).trans s11
        walk_at "rd"
        exact ⟨g, gf, M, gs, rfl, hg.fz (Fz.of s311), hgf.fz (Fz.of s311), G, fun H12 _ => k H12⟩
end
end L2.KL
set_option Elab.async false
set_option linter.all false
namespace L2.KL
open PySem PySem.Spec PyProof.Rows PySem.W
theorem bits_lb {n : Int} (h : Builtin.Int.intBits n ≤ 1048576) : Lb 1048576 n.natAbs := by
  unfold Builtin.Int.intBits at h
  show n.natAbs < 2 ^ 1048576
  split at h
  · rename_i hz
    have : n.natAbs = 0 := by first | simpa using hz | omega
    rw [this]
    exact Nat.pow_pos (by decide)
  · have h1 : n.natAbs < 2 ^ (n.natAbs.log2 + 1) := Nat.lt_log2_self
    exact Nat.lt_of_lt_of_le h1 (Nat.pow_le_pow_right (by decide) h)
theorem law_sp : LawSp spLaw := fun _ _ a ns hl hbits hS => ⟨a, ns, rfl, hS, hl, fun n hn => bits_lb (hbits n hn), fun _ => rfl⟩
theorem law_facts : LawDef spLaw := by
  intro w K h mg f X G hfa c e1 e2 e3
  have T : Tx K mg := ⟨⟨h, X, G⟩, c, e1⟩
  obtain ⟨TR, TM, XR, CO⟩ := exr_ok (P := prg) (K := K) prg_file prg_super e2 e3
  obtain ⟨fd, F⟩ := T.fn 42 fn__law
  have e := hfa.symm.trans T.g_law
  cases e
  have b := FunD.bindsA (ps := ["_law_script"]) F fun _ _ _ _ _ _ us hl => match us, hl with | [_], _ => rfl
  exact ⟨fd, fun s v => b s [v] rfl, fun base _ _ => ok_law F T TR TM XR CO⟩
end L2.KL
theorem PySem.Challenge.cw_classtable_k35_whole_restriction_and_ind_holds : PySem.Challenge.rw_classtable_k35_whole_restriction_and_ind.Holds := by
  exact L2.KL.end_of L2.KL.law_sp L2.KL.law_facts
