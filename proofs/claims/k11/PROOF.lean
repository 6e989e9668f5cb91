import PyProof.Rows.All
import Wide.All
import OpenK.AllK
import Wide.FinOn
import HandS.ForMost
import HandS.ForExc
import HandS.ExcIs
import HandS.Head0
import HandS.Head1
import HandS.Head2
import HandS.HeadEnd
import HandS.HeadHook1
import HandS.HeadHook2
import KE.KeyNested
import KE.KDictKeyed
import HandS.Deep
import HandS.TupAny
import HandS.TupMul
import HandS.Style
import HandS.WordsExc
import HandS.ExcOwn
import HandS.IsInst
import HandS.Conv
import HandS.SortOrd
import HandS.Defaults
import HandS.More
import KE.SortData
import KE.KDictCopyH
import KE.KDictSum
import KE.GoesMore
import KE.GoesZip
import HandS.DictComp
import HandS.ExcValue
import HandS.FStr
import HandS.RaiseMore
import HandS.Text
import PyProof.Rows.SumAny
import PySem.Challenge.RW_dealings_k11_refused
set_option Elab.async false
set_option linter.all false
set_option maxRecDepth 100000
set_option maxHeartbeats 4000000
namespace Dl
open PySem PySem.Spec PyProof.Rows L2

/-! ### the head's facts, one more check beside them -/
def obsX (fa : List He.Fa) (fn : List He.DefD) (ck : PySem.W.Frag → Bool) (K : PySem.W.Frag) : He.AlD := (((fa.all fun f => f.ok K) && fn.all fun d => d.ok K) && ck K, fn.map fun d => He.fnW K d.at_)
def obsXG (n : Nat) (fa : List He.Fa) (fn : List He.DefD) (ck : PySem.W.Frag → Bool) (g : Addr → Option Obj) : He.AlD := obsX fa fn ck (He.frG g (He.asD g n))
def hookX (n : Nat) (fa : List He.Fa) (fn : List He.DefD) (ck : PySem.W.Frag → Bool) : PySem.W.Hook where
  α := He.AlD
  obs := fun s => obsXG n fa fn ck s.heap.get?
  val := fun _ => He.valD fn
  says := fun _ h => ∃ K : PySem.W.Frag, K.In h ∧ obsX fa fn ck K = He.valD fn
  of := fun _ _ e => ⟨_, He.frG_in, e⟩
  keeps := fun _ _ _ ⟨K, hK, c⟩ k => ⟨K, PySem.W.Frag.In.keeps hK k, c⟩
section
variable {n : Nat} {fa : List He.Fa} {fn : List He.DefD} {ck : PySem.W.Frag → Bool} {K : PySem.W.Frag}
theorem obsXG_eq {g : Addr → Option Obj} {s : Shared} (h : ∀ a, g a = s.heap.get? a) : obsXG n fa fn ck g = (hookX n fa fn ck).obs s := by
  have e : g = s.heap.get? := funext h
  rw [e] <;> rfl
theorem saysX_ck (c : obsX fa fn ck K = He.valD fn) : ck K = true := (He.ba (show (((fa.all fun f => f.ok K) && fn.all fun d => d.ok K) && ck K) = true from congrArg (fun z : He.AlD => z.1) c)).2
theorem saysX_d (c : obsX fa fn ck K = He.valD fn) : He.SaysD fa fn K := by
  have h1 := (He.ba (show (((fa.all fun f => f.ok K) && fn.all fun d => d.ok K) && ck K) = true from congrArg (fun z : He.AlD => z.1) c)).1
  have h2 : fn.map (fun d => He.fnW K d.at_) = fn.map He.DefD.val := congrArg (fun z : He.AlD => z.2) c
  show (((fa.all fun f => f.ok K) && fn.all fun d => d.ok K), fn.map fun d => He.fnW K d.at_) = (true, fn.map He.DefD.val)
  rw [h1, h2]
end
def excB (K : PySem.W.Frag) (a : Addr) : Bool :=
  He.eqO (PySem.W.findIn K (.ref a) "__getattribute__") (some (some (.builtin "BaseException.__getattribute__"))) && (He.eqO (PySem.W.findIn K (.ref a) "__getattr__") (some none) &&
  (decide (PySem.W.subIn K (.ref a) (.type "BaseException") = some true) && (PySem.W.hasDictIn K a && (He.eqO (PySem.W.findIn K (.ref a) "__class__") (some (some (.builtin "object.__class__"))) &&
  (He.eqO (PySem.W.specialIn K (.builtin "object.__class__") "__get__") (some (some (.builtin "getset_descriptor.__get__"))) && (decide (PySem.W.takesIn K (.builtin "object.__class__") = some true) && decide (PySem.W.mroIn K a (.type "object") = some true)))))))
theorem excB_ok {K : PySem.W.Frag} {a : Addr} (h : excB K a = true) : ExcC K a := by
  unfold excB at h
  obtain ⟨h1, h⟩ := He.ba h
  obtain ⟨h2, h⟩ := He.ba h
  obtain ⟨h3, h⟩ := He.ba h
  obtain ⟨h4, h⟩ := He.ba h
  obtain ⟨h5, h⟩ := He.ba h
  obtain ⟨h6, h⟩ := He.ba h
  obtain ⟨h7, h8⟩ := He.ba h
  exact ⟨He.eqO_ok h1, He.eqO_ok h2, of_decide_eq_true h3, h4, He.eqO_ok h5, He.eqO_ok h6, of_decide_eq_true h7, of_decide_eq_true h8⟩
/-- of seven exception classes: the first above all -/
def excsB (nm : Nat → Str) (K : PySem.W.Frag) : Bool := (List.range 7).all fun i => excB K (He.ga K (nm i)) && (decide (PySem.W.kitOne K (.ref (He.ga K (nm i))) (.type "ValueError") = some true) &&
  ((List.range 7).all fun j => decide (PySem.W.kitOne K (.ref (He.ga K (nm i))) (.ref (He.ga K (nm j))) = some (decide (j = 0) || decide (i = j)))))
section
variable {nm : Nat → Str} {K : PySem.W.Frag}
theorem excsB_at (h : excsB nm K = true) (i : Nat) (hi : i < 7) : excB K (He.ga K (nm i)) = true ∧ (decide (PySem.W.kitOne K (.ref (He.ga K (nm i))) (.type "ValueError") = some true) &&
    ((List.range 7).all fun j => decide (PySem.W.kitOne K (.ref (He.ga K (nm i))) (.ref (He.ga K (nm j))) = some (decide (j = 0) || decide (i = j))))) = true := He.ba (List.all_eq_true.mp h i (List.mem_range.mpr hi))
theorem excsB_exc (h : excsB nm K = true) (i : Nat) (hi : i < 7) : ExcC K (He.ga K (nm i)) := excB_ok (excsB_at h i hi).1
theorem excsB_kitv (h : excsB nm K = true) (i : Nat) (hi : i < 7) : PySem.W.kitOne K (.ref (He.ga K (nm i))) (.type "ValueError") = some true := of_decide_eq_true (He.ba (excsB_at h i hi).2).1
theorem excsB_kit (h : excsB nm K = true) (j : Nat) (hj : j < 7) (i : Nat) (hi : i < 7) : PySem.W.kitOne K (.ref (He.ga K (nm i))) (.ref (He.ga K (nm j))) = some (decide (j = 0) || decide (i = j)) :=
  of_decide_eq_true (List.all_eq_true.mp (He.ba (excsB_at h i hi).2).2 j (List.mem_range.mpr hj))
end
end Dl

set_option Elab.async false
set_option linter.all false
set_option maxRecDepth 100000
set_option maxHeartbeats 0
namespace Gn
open PySem PySem.Spec PyProof.Rows L2 Dl
def top (i : Nat) : Stmt := PySem.Challenge.pw_dealings_k11_refused.main.body.getD i (.Pass ⟨0, 0, 0, 0⟩)
def clsBody : Stmt → List Stmt
  | .ClassDef (body := b) .. => b
  | _ => []
def sub (i j : Nat) : Stmt := (clsBody (top i)).getD j (.Pass ⟨0, 0, 0, 0⟩)
def exNm : Nat → Str
  | 0 => "DealError"
  | 1 => "BadHouse"
  | 2 => "BadFolk"
  | 3 => "BadEvening"
  | 4 => "BadDeal"
  | 5 => "BadText"
  | 6 => "NoneSuch"
  | 7 => "Stream"
  | 8 => "Growing"
  | _ => "DealError"
def fn0 : List He.DefD := [⟨("_law_town", none), "_law_town", "_law_town", defArgs (top 61), defBody (top 61), defScope (top 61), [], []⟩,
  ⟨("is_whole", none), "is_whole", "is_whole", defArgs (top 9), defBody (top 9), defScope (top 9), [], []⟩,
  ⟨("chosen", none), "chosen", "chosen", defArgs (top 14), defBody (top 14), defScope (top 14), [], []⟩,
  ⟨("is_house", none), "is_house", "is_house", defArgs (top 16), defBody (top 16), defScope (top 16), [], []⟩,
  ⟨("_law_kinds", none), "_law_kinds", "_law_kinds", defArgs (top 67), defBody (top 67), defScope (top 67), [], []⟩,
  ⟨("look_numbers", none), "look_numbers", "look_numbers", defArgs (top 47), defBody (top 47), defScope (top 47), [], []⟩,
  ⟨("common", none), "common", "common", defArgs (top 48), defBody (top 48), defScope (top 48), [], []⟩,
  ⟨("least_alike", none), "least_alike", "least_alike", defArgs (top 49), defBody (top 49), defScope (top 49), [], []⟩,
  ⟨("alike_house", none), "alike_house", "alike_house", defArgs (top 50), defBody (top 50), defScope (top 50), [], []⟩,
  ⟨("even_house", none), "even_house", "even_house", defArgs (top 51), defBody (top 51), defScope (top 51), [], []⟩,
  ⟨("look_house", none), "look_house", "look_house", defArgs (top 17), defBody (top 17), defScope (top 17), [], []⟩,
  ⟨("few_of", none), "few_of", "few_of", defArgs (top 15), defBody (top 15), defScope (top 15), [], []⟩,
  ⟨("lots", none), "lots", "lots", defArgs (top 21), defBody (top 21), defScope (top 21), [], []⟩,
  ⟨("counts_of", none), "counts_of", "counts_of", defArgs (top 26), defBody (top 26), defScope (top 26), [], []⟩,
  ⟨("Stream", some "down"), "down", "Stream.down", defArgs (sub 38 1), defBody (sub 38 1), defScope (sub 38 1), [], []⟩,
  ⟨("Stream", some "__init__"), "__init__", "Stream.__init__", defArgs (sub 38 0), defBody (sub 38 0), defScope (sub 38 0), [], []⟩,
  ⟨("open_places", none), "open_places", "open_places", defArgs (top 39), defBody (top 39), defScope (top 39), [], []⟩,
  ⟨("Stream", some "given"), "given", "Stream.given", defArgs (sub 38 3), defBody (sub 38 3), defScope (sub 38 3), [], []⟩,
  ⟨("Stream", some "is_broken"), "is_broken", "Stream.is_broken", defArgs (sub 38 2), defBody (sub 38 2), defScope (sub 38 2), [], []⟩,
  ⟨("Stream", some "lead"), "lead", "Stream.lead", defArgs (sub 38 4), defBody (sub 38 4), defScope (sub 38 4), [], []⟩]
def fn1 : List He.DefD := [⟨("Stream", some "fill"), "fill", "Stream.fill", defArgs (sub 38 5), defBody (sub 38 5), defScope (sub 38 5), [], []⟩,
  ⟨("Stream", some "takes"), "takes", "Stream.takes", defArgs (sub 38 6), defBody (sub 38 6), defScope (sub 38 6), [], []⟩,
  ⟨("stepped", none), "stepped", "stepped", defArgs (top 40), defBody (top 40), defScope (top 40), [], []⟩,
  ⟨("run_on", none), "run_on", "run_on", defArgs (top 42), defBody (top 42), defScope (top 42), [], []⟩,
  ⟨("empty_half", none), "empty_half", "empty_half", defArgs (top 44), defBody (top 44), defScope (top 44), [], []⟩,
  ⟨("deal_of", none), "deal_of", "deal_of", defArgs (top 45), defBody (top 45), defScope (top 45), [], []⟩,
  ⟨("is_alike", none), "is_alike", "is_alike", defArgs (top 52), defBody (top 52), defScope (top 52), [], []⟩,
  ⟨("sitting_bounds", none), "sitting_bounds", "sitting_bounds", defArgs (top 53), defBody (top 53), defScope (top 53), [], []⟩,
  ⟨("house_text", none), "house_text", "house_text", defArgs (top 57), defBody (top 57), defScope (top 57), [], []⟩,
  ⟨("look_told", none), "look_told", "look_told", defArgs (top 19), defBody (top 19), defScope (top 19), [], []⟩,
  ⟨("is_few", none), "is_few", "is_few", defArgs (top 18), defBody (top 18), defScope (top 18), [], []⟩,
  ⟨("half_fits", none), "half_fits", "half_fits", defArgs (top 23), defBody (top 23), defScope (top 23), [], []⟩,
  ⟨("look_half", none), "look_half", "look_half", defArgs (top 25), defBody (top 25), defScope (top 25), [], []⟩,
  ⟨("cut_to", none), "cut_to", "cut_to", defArgs (top 35), defBody (top 35), defScope (top 35), [], []⟩,
  ⟨("cut", none), "cut", "cut", defArgs (top 36), defBody (top 36), defScope (top 36), [], []⟩,
  ⟨("Growing", some "__init__"), "__init__", "Growing.__init__", defArgs (sub 55 0), defBody (sub 55 0), defScope (sub 55 0), [], []⟩,
  ⟨("_law_refusal", none), "_law_refusal", "_law_refusal", defArgs (top 63), defBody (top 63), defScope (top 63), [], []⟩,
  ⟨("_law_plan", none), "_law_plan", "_law_plan", defArgs (top 66), defBody (top 66), defScope (top 66), [], []⟩,
  ⟨("_law_plans", none), "_law_plans", "_law_plans", defArgs (top 68), defBody (top 68), defScope (top 68), [], []⟩,
  ⟨("is_half", none), "is_half", "is_half", defArgs (top 24), defBody (top 24), defScope (top 24), [], []⟩]
def fn2 : List He.DefD := [⟨("wrong_parts", none), "wrong_parts", "wrong_parts", defArgs (top 28), defBody (top 28), defScope (top 28), [], []⟩,
  ⟨("quotas", none), "quotas", "quotas", defArgs (top 20), defBody (top 20), defScope (top 20), [], []⟩,
  ⟨("sittings", none), "sittings", "sittings", defArgs (top 27), defBody (top 27), defScope (top 27), [], []⟩,
  ⟨("wrong_sittings", none), "wrong_sittings", "wrong_sittings", defArgs (top 29), defBody (top 29), defScope (top 29), [], []⟩,
  ⟨("wrong_rests", none), "wrong_rests", "wrong_rests", defArgs (top 30), defBody (top 30), defScope (top 30), [], []⟩,
  ⟨("bars", none), "bars", "bars", defArgs (top 31), defBody (top 31), defScope (top 31), [], []⟩,
  ⟨("runs_on", none), "runs_on", "runs_on", defArgs (top 32), defBody (top 32), defScope (top 32), [], []⟩,
  ⟨("goes_on", none), "goes_on", "goes_on", defArgs (top 33), defBody (top 33), defScope (top 33), [], []⟩,
  ⟨("look_going", none), "look_going", "look_going", defArgs (top 34), defBody (top 34), defScope (top 34), [], []⟩,
  ⟨("next_half", none), "next_half", "next_half", defArgs (top 41), defBody (top 41), defScope (top 41), [], []⟩,
  ⟨("finished", none), "finished", "finished", defArgs (top 43), defBody (top 43), defScope (top 43), [], []⟩,
  ⟨("part_text", none), "part_text", "part_text", defArgs (top 58), defBody (top 58), defScope (top 58), [], []⟩,
  ⟨("half_text", none), "half_text", "half_text", defArgs (top 59), defBody (top 59), defScope (top 59), [], []⟩,
  ⟨("_law_does", none), "_law_does", "_law_does", defArgs (top 64), defBody (top 64), defScope (top 64), [], []⟩,
  ⟨("_law_asked", none), "_law_asked", "_law_asked", defArgs (top 65), defBody (top 65), defScope (top 65), [], []⟩,
  ⟨("_law_draw", none), "_law_draw", "_law_draw", defArgs (top 62), defBody (top 62), defScope (top 62), [], []⟩,
  ⟨("law", none), "law", "law", defArgs (top 69), defBody (top 69), defScope (top 69), [], []⟩]
def fn : List He.DefD := fn0 ++ (fn1 ++ (fn2))
def fa0 : List He.Fa := [.free "isinstance",
  .free "int",
  .free "bool",
  .free "tuple",
  .free "list",
  .free "str",
  .free "len",
  .free "sum",
  .free "all",
  .free "any",
  .free "max",
  .free "min",
  .free "range",
  .free "zip",
  .free "enumerate",
  .free "sorted",
  .free "ValueError",
  .int "MOST_FOLK" 9,
  .int "MOST_LOT" 4,
  .int "MOST_EVENINGS" 126]
def fa1 : List He.Fa := [.glo "DealError",
  .exc "DealError",
  .exm "DealError" "DealError" true,
  .glo "BadHouse",
  .exc "BadHouse",
  .exm "BadHouse" "DealError" true,
  .glo "BadFolk",
  .exc "BadFolk",
  .exm "BadFolk" "DealError" true,
  .glo "BadEvening",
  .exc "BadEvening",
  .exm "BadEvening" "DealError" true,
  .glo "BadDeal",
  .exc "BadDeal",
  .exm "BadDeal" "DealError" true,
  .glo "BadText",
  .exc "BadText",
  .exm "BadText" "DealError" true,
  .glo "NoneSuch",
  .exc "NoneSuch"]
def fa2 : List He.Fa := [.exm "NoneSuch" "DealError" true,
  .glo "_law_town",
  .glo "is_whole",
  .glo "chosen",
  .glo "is_house",
  .glo "_law_kinds",
  .glo "look_numbers",
  .glo "common",
  .glo "least_alike",
  .glo "alike_house",
  .glo "even_house",
  .glo "look_house",
  .glo "few_of",
  .glo "lots",
  .glo "counts_of",
  .glo "open_places",
  .glo "stepped",
  .glo "run_on",
  .glo "empty_half",
  .glo "deal_of"]
def fa3 : List He.Fa := [.glo "is_alike",
  .glo "sitting_bounds",
  .glo "house_text",
  .glo "look_told",
  .glo "is_few",
  .glo "half_fits",
  .glo "look_half",
  .glo "cut_to",
  .glo "cut",
  .glo "_law_refusal",
  .glo "_law_plan",
  .glo "_law_plans",
  .glo "is_half",
  .glo "wrong_parts",
  .glo "quotas",
  .glo "sittings",
  .glo "wrong_sittings",
  .glo "wrong_rests",
  .glo "bars",
  .glo "runs_on"]
def fa4 : List He.Fa := [.glo "goes_on",
  .glo "look_going",
  .glo "next_half",
  .glo "finished",
  .glo "part_text",
  .glo "half_text",
  .glo "_law_does",
  .glo "_law_asked",
  .glo "_law_draw",
  .glo "law",
  .glo "Stream",
  .cls "Stream",
  .noat "Stream" "lot",
  .noat "Stream" "left",
  .noat "Stream" "kinds",
  .noat "Stream" "often",
  .noat "Stream" "more",
  .noat "Stream" "wants",
  .meth "Stream" "down",
  .mkr "Stream"]
def fa5 : List He.Fa := [.meth "Stream" "given",
  .meth "Stream" "is_broken",
  .meth "Stream" "lead",
  .meth "Stream" "fill",
  .meth "Stream" "takes",
  .glo "Growing",
  .cls "Growing",
  .noat "Growing" "house",
  .noat "Growing" "told",
  .noat "Growing" "half",
  .noat "Growing" "past",
  .mkr "Growing"]
def fa : List He.Fa := fa0 ++ (fa1 ++ (fa2 ++ (fa3 ++ (fa4 ++ (fa5)))))
def ckX (K : PySem.W.Frag) : Bool := excsB exNm K
def loose0 : List PySem.Str := ["_wall", "__name__", "DealError", "BadHouse", "BadFolk", "BadEvening", "BadDeal", "BadText", "NoneSuch", "is_whole", "MOST_FOLK", "MOST_LOT", "MOST_EVENINGS", "chosen", "few_of", "is_house", "look_house", "is_few", "look_told", "quotas", "lots", "half_fits", "is_half", "look_half", "counts_of", "sittings", "wrong_parts", "wrong_sittings", "wrong_rests", "bars"]
def loose1 : List PySem.Str := ["runs_on", "goes_on", "look_going", "cut_to", "cut", "Stream", "open_places", "stepped", "next_half", "run_on", "finished", "empty_half", "deal_of", "look_numbers", "common", "least_alike", "alike_house", "even_house", "is_alike", "sitting_bounds", "Growing", "house_text", "part_text", "half_text", "_law_town", "_law_draw", "_law_refusal", "_law_does", "_law_asked", "_law_plan"]
def loose2 : List PySem.Str := ["_law_kinds", "_law_plans"]
def loose : List PySem.Str := loose0 ++ (loose1 ++ (loose2))
abbrev R : PySem.W.OpenRow := PySem.W.OpenLaw.row PySem.Challenge.rw_dealings_k11_refused
abbrev hk : PySem.W.Hook := hookX 6 fa fn ckX
def ob (s : PySem.W.SharedT) : He.AlD := obsXG 6 fa fn ckX (HandSHeadRun.getT s)
theorem ob_eq (s : PySem.W.SharedT) : ob s = hk.obs s.abs := obsXG_eq (HandSHeadRun.getT_eq s)
theorem run (w : World) : HandSHeadRun.RunEq R (PySem.W.view R.prog [69]) hk ob 6000 loose w := by
  intro os
  kernel_rfl
end Gn

set_option Elab.async false
set_option linter.all false
set_option maxRecDepth 100000
set_option maxHeartbeats 4000000
/-! Dl: data by value over the hand layer. -/
namespace Dl
open PySem PySem.Spec PyProof.Rows L2

abbrev Key := NestedKey
abbrev Hs := L2.Hp

/-! ### dicts -/
def entRel (p : Key × Addr × V) (q : Key × Addr × Value) : Prop := p.1 = q.1 ∧ p.2.1 = q.2.1 ∧ RelV p.2.2 q.2.2
/-- the object o at a is a dict of just these entries (key, the key's own object, value) -/
def dO (P : Program) (w : World) (a : Addr) (o : Obj) (xs : List (Key × Addr × V)) : HO := .ext fun h => h.get? a = some o ∧
  (a == sysModules) = false ∧ xs.length ≤ sizeLine ∧ ∃ xv : List (Key × Addr × Value), Paired entRel xs xv ∧
    ∃ es ep, o.ExactDict ∧ o.data = .dict es ep ∧ es.toList = xv.map (entryOfKey (nestedKind P w)) ∧ (xs.map (·.1)).Nodup
/-- a caught exception of the class cv -/
def xO (cv : Value) (a : Addr) : HO := .ext fun h => ∃ (oe : Obj) (vs : Array Value), h.get? a = some oe ∧ Zc cv none oe ∧ oe.data = .fields vs

/-! ### what never changes -/
mutual
def keyOf : PyData → Option Key
  | .none => some .none
  | .int i => some (.num i)
  | .str x => some (.text x)
  | .tuple ds => (keysOf ds).map .tup
  | .bool _ => none
  | .list _ => none
  | .dict _ => none
def keysOf : List PyData → Option (List Key)
  | [] => some []
  | d :: ds => match keyOf d, keysOf ds with
    | some k, some ks => some (k :: ks)
    | _, _ => none
end
mutual
inductive Fz (F : Hs) : V → PyData → Prop
  | non : Fz F .non .none
  | bl (b : Bool) : Fz F (.bl b) (.bool b)
  | int (i : Int) : Fz F (.int i) (.int i)
  | str (x : Str) : Fz F (.str x) (.str x)
  | lst {a : Addr} {xs : List V} {ds : List PyData} : F a = some (.lst xs) → Fzs F xs ds → Fz F (.ref a) (.list ds)
  | tup {a : Addr} {xs : List V} {ds : List PyData} : F a = some (.tup xs) → Fzs F xs ds → Fz F (.ref a) (.tuple ds)
inductive Fzs (F : Hs) : List V → List PyData → Prop
  | nil : Fzs F [] []
  | cons {v : V} {vs : List V} {d : PyData} {ds : List PyData} : Fz F v d → Fzs F vs ds → Fzs F (v :: vs) (d :: ds)
end
/-- all of F is in H -/
def Le (F H : Hs) : Prop := ∀ a o, F a = some o → H a = some o
theorem Le.refl (F : Hs) : Le F F := fun _ _ h => h
theorem Le.trans {F G H : Hs} (a : Le F G) (b : Le G H) : Le F H := fun x o h => b x o (a x o h)
theorem Le.nn {F H : Hs} (l : Le F H) {a : Addr} (h : H a = none) : F a = none := by
  cases e : F a with
  | none => rfl
  | some o => rw [l a o e] at h; cases h
theorem Le.rd {F H : Hs} (l : Le F H) {a : Addr} {u : HO} (h : Rd F a u) : Rd H a u := by
  rcases h with h | ⟨o, h⟩
  · exact .inl (l _ _ h)
  · exact .inr ⟨o, l _ _ h⟩
theorem Le.sqL {K : PySem.W.Frag} {F H : Hs} (l : Le F H) {a : Addr} {xs : List V} (h : SqL K F a xs) : SqL K H a xs := by
  rcases h with h | h
  · exact .inl (l.rd h)
  · exact .inr h
theorem Le.sqT {K : PySem.W.Frag} {F H : Hs} (l : Le F H) {a : Addr} {xs : List V} (h : SqT K F a xs) : SqT K H a xs := by
  rcases h with h | h
  · exact .inl (l.rd h)
  · exact .inr h
theorem Le.new {H : Hs} {p : Addr} {o : HO} (h : H p = none) : Le H (upd H p o) := fun a u e => by
  rw [upd_ne (ne_of_none e h)]; exact e
section
variable {K : PySem.W.Frag} {F G H : Hs}
mutual
theorem Fz.mono (l : Le F G) : ∀ (d : PyData) (v : V), Fz F v d → Fz G v d
  | .none, _, h => by cases h; exact .non
  | .bool b, _, h => by cases h; exact .bl b
  | .int i, _, h => by cases h; exact .int i
  | .str x, _, h => by cases h; exact .str x
  | .list ds, _, h => by cases h with | lst hs ha => exact .lst (l _ _ hs) (Fzs.mono l ds _ ha)
  | .tuple ds, _, h => by cases h with | tup hs ha => exact .tup (l _ _ hs) (Fzs.mono l ds _ ha)
  | .dict _, _, h => by cases h
theorem Fzs.mono (l : Le F G) : ∀ (ds : List PyData) (vs : List V), Fzs F vs ds → Fzs G vs ds
  | [], _, h => by cases h; exact .nil
  | d :: ds, _, h => by cases h with | cons h1 h2 => exact .cons (Fz.mono l d _ h1) (Fzs.mono l ds _ h2)
end
theorem Fz.to {v : V} {d : PyData} (h : Fz F v d) (l : Le F G) : Fz G v d := Fz.mono l _ _ h
theorem Fzs.to {vs : List V} {ds : List PyData} (h : Fzs F vs ds) (l : Le F G) : Fzs G vs ds := Fzs.mono l _ _ h
mutual
theorem Fz.dp (l : Le F H) : ∀ (d : PyData) (v : V), Fz F v d → Dp K H v d
  | .none, _, h => by cases h; exact .non
  | .bool b, _, h => by cases h; exact .bl b
  | .int i, _, h => by cases h; exact .int i
  | .str x, _, h => by cases h; exact .str x
  | .list ds, _, h => by cases h with | lst hs ha => exact .lst (SqL.of (l _ _ hs)) (Fzs.dp l ds _ ha)
  | .tuple ds, _, h => by cases h with | tup hs ha => exact .tup (SqT.of (l _ _ hs)) (Fzs.dp l ds _ ha)
  | .dict _, _, h => by cases h
theorem Fzs.dp (l : Le F H) : ∀ (ds : List PyData) (vs : List V), Fzs F vs ds → DpAll K H vs ds
  | [], _, h => by cases h; exact .nil
  | d :: ds, _, h => by cases h with | cons h1 h2 => exact .cons (Fz.dp l d _ h1) (Fzs.dp l ds _ h2)
end
theorem Fzs.length : ∀ {vs : List V} {ds : List PyData}, Fzs F vs ds → vs.length = ds.length
  | _, _, .nil => rfl
  | _, _, .cons _ t => congrArg Nat.succ (Fzs.length t)
theorem Fzs.append : ∀ {vs us : List V} {ds es : List PyData}, Fzs F vs ds → Fzs F us es → Fzs F (vs ++ us) (ds ++ es)
  | _, _, _, _, .nil, h => h
  | _, _, _, _, .cons a t, h => .cons a (Fzs.append t h)
theorem Fzs.get : ∀ {vs : List V} {ds : List PyData} {i : Nat} {d : PyData}, Fzs F vs ds → ds[i]? = some d → ∃ v, vs[i]? = some v ∧ Fz F v d
  | _, _, _, _, .nil, e => by simp at e
  | _, _, 0, _, .cons r _, e => by simp at e; subst e; exact ⟨_, rfl, r⟩
  | _, _, i + 1, d, .cons _ t, e => by
    obtain ⟨u, h1, h2⟩ := Fzs.get (i := i) (d := d) t (by simpa using e)
    exact ⟨u, by simpa using h1, h2⟩
theorem Fzs.take : ∀ {vs : List V} {ds : List PyData} (n : Nat), Fzs F vs ds → Fzs F (vs.take n) (ds.take n)
  | _, _, 0, _ => .nil
  | _, _, _ + 1, .nil => .nil
  | _, _, n + 1, .cons r t => .cons r (Fzs.take n t)
theorem Fzs.drop : ∀ {vs : List V} {ds : List PyData} (n : Nat), Fzs F vs ds → Fzs F (vs.drop n) (ds.drop n)
  | _, _, 0, r => r
  | _, _, _ + 1, .nil => .nil
  | _, _, n + 1, .cons r t => Fzs.drop n t
theorem Fzs.reverse {vs : List V} {ds : List PyData} (h : Fzs F vs ds) : Fzs F vs.reverse ds.reverse := by
  induction h using Fzs.rec (motive_1 := fun _ _ _ => True) with
  | non => trivial
  | bl => trivial
  | int => trivial
  | str => trivial
  | lst => trivial
  | tup => trivial
  | nil => exact .nil
  | cons a t _ ih => rw [List.reverse_cons, List.reverse_cons]; exact ih.append (.cons a .nil)
theorem Fzs.set : ∀ {vs : List V} {ds : List PyData} {v : V} {d : PyData} (i : Nat), Fz F v d → Fzs F vs ds → Fzs F (vs.set i v) (ds.set i d)
  | _, _, _, _, _, _, .nil => .nil
  | _, _, _, _, 0, r, .cons _ t => .cons r t
  | _, _, _, _, i + 1, r, .cons q t => .cons q (Fzs.set i r t)
end

/-! ### data with owners -/
inductive D where
  /-- never changed again -/
  | p (d : PyData)
  /-- a list of one's own -/
  | l (ds : List D)
  /-- a dict of one's own -/
  | d (kvs : List (Key × PyData))
  /-- a dict that is never changed again -/
  | fd (kvs : List (Key × PyData))
  /-- an instance of the class c -/
  | o (c : Nat) (fs : List Str) (ds : List D)
  /-- a caught exception of the class c -/
  | x (c : Nat)
  /-- the script -/
  | s (ns : List Int)
  | gone

/-- where the classes stand -/
structure Env0 where
  P : Program
  w : World
  K : PySem.W.Frag
  ca : Nat → Addr

mutual
inductive FzKey (F : Hs) : Key → V → Prop
  | non : FzKey F .none .non
  | num (i : Int) : FzKey F (.num i) (.int i)
  | text (x : Str) : FzKey F (.text x) (.str x)
  | tup {a : Addr} {vs : List V} {ks : List Key} : F a = some (.tup vs) → FzKeys F ks vs → FzKey F (.tup ks) (.ref a)
inductive FzKeys (F : Hs) : List Key → List V → Prop
  | nil : FzKeys F [] []
  | cons {k : Key} {ks : List Key} {v : V} {vs : List V} : FzKey F k v → FzKeys F ks vs → FzKeys F (k :: ks) (v :: vs)
end
section
variable {K : PySem.W.Frag} {F G : Hs}
mutual
theorem FzKey.mono (l : Le F G) : ∀ (k : Key) (v : V), FzKey F k v → FzKey G k v
  | .none, _, h => by cases h; exact .non
  | .num i, _, h => by cases h; exact .num i
  | .text x, _, h => by cases h; exact .text x
  | .tup ks, _, h => by cases h with | tup h1 h2 => exact .tup (l _ _ h1) (FzKeys.mono l ks _ h2)
theorem FzKeys.mono (l : Le F G) : ∀ (ks : List Key) (vs : List V), FzKeys F ks vs → FzKeys G ks vs
  | [], _, h => by cases h; exact .nil
  | k :: ks, _, h => by cases h with | cons h1 h2 => exact .cons (FzKey.mono l k _ h1) (FzKeys.mono l ks _ h2)
end
end

/-- an entry of a dict -/
structure EntF (F : Hs) (x : Key × Addr × V) (e : Key × PyData) : Prop where
  key : x.1 = e.1
  fk : FzKey F x.1 (.ref x.2.1)
  deep : x.1.depth ≤ 8
  val : Fz F x.2.2 e.2
theorem EntF.mono {F G : Hs} (l : Le F G) {x : Key × Addr × V} {e : Key × PyData} (h : EntF F x e) : EntF G x e := ⟨h.key, FzKey.mono l _ _ h.fk, h.deep, h.val.to l⟩
mutual
/-- the value v bears the data, what is one's own of it at A -/
def Rep (Z : Env0) (F H : Hs) : D → V → List Addr → Prop
  | .p d, v, A => A = [] ∧ Fz F v d
  | .l ds, v, A => ∃ a vs A1, v = .ref a ∧ A = a :: A1 ∧ H a = some (.lst vs) ∧ RepL Z F H ds vs A1
  | .d kvs, v, A => ∃ a o xs, v = .ref a ∧ A = [a] ∧ H a = some (dO Z.P Z.w a o xs) ∧ Paired (EntF F) xs kvs
  | .fd kvs, v, A => ∃ a o xs, v = .ref a ∧ A = [] ∧ F a = some (dO Z.P Z.w a o xs) ∧ Paired (EntF F) xs kvs
  | .o c fs ds, v, A => ∃ a dx vs A1, v = .ref a ∧ A = a :: dx :: A1 ∧ fs.length = vs.length ∧ H a = some (.ins (Z.ca c) dx (fs.zip vs)) ∧ H dx = some (.own a) ∧ RepL Z F H ds vs A1
  | .x c, v, A => ∃ a, v = .ref a ∧ A = [] ∧ F a = some (xO (.ref (Z.ca c)) a)
  | .s ns, v, A => ∃ a, v = .ref a ∧ A = [] ∧ SqL Z.K F a (ns.map V.int)
  | .gone, _, A => A = []
def RepL (Z : Env0) (F H : Hs) : List D → List V → List Addr → Prop
  | [], vs, A => vs = [] ∧ A = []
  | d :: ds, vs, A => ∃ v vs' A1 A2, vs = v :: vs' ∧ A = A1 ++ A2 ∧ Rep Z F H d v A1 ∧ RepL Z F H ds vs' A2
end
section
variable {Z : Env0} {F F' H H' : Hs}
theorem Rep.p_iff {d : PyData} {v : V} {A : List Addr} : Rep Z F H (.p d) v A ↔ (A = [] ∧ Fz F v d) := by simp only [Rep]
mutual
theorem Rep.mono (l : Le F F') : ∀ (d : D) (v : V) (A : List Addr), (∀ a ∈ A, H' a = H a) → Rep Z F H d v A → Rep Z F' H' d v A
  | .p d, v, A, _, h => by
    simp only [Rep] at h ⊢
    exact ⟨h.1, h.2.to l⟩
  | .l ds, v, A, k, h => by
    simp only [Rep] at h ⊢
    obtain ⟨a, vs, A1, rfl, rfl, e, r⟩ := h
    exact ⟨a, vs, A1, rfl, rfl, (k a (by simp)).trans e, RepL.mono l ds vs A1 (fun b hb => k b (by simp [hb])) r⟩
  | .d kvs, v, A, k, h => by
    simp only [Rep] at h ⊢
    obtain ⟨a, o, xs, rfl, rfl, e, q⟩ := h
    exact ⟨a, o, xs, rfl, rfl, (k a (by simp)).trans e, L2.Paired.mapP q fun _ _ z => z.mono l⟩
  | .fd kvs, v, A, k, h => by
    simp only [Rep] at h ⊢
    obtain ⟨a, o, xs, rfl, rfl, e, q⟩ := h
    exact ⟨a, o, xs, rfl, rfl, l _ _ e, L2.Paired.mapP q fun _ _ z => z.mono l⟩
  | .o c fs ds, v, A, k, h => by
    simp only [Rep] at h ⊢
    obtain ⟨a, dx, vs, A1, rfl, rfl, hl, e, e2, r⟩ := h
    exact ⟨a, dx, vs, A1, rfl, rfl, hl, (k a (by simp)).trans e, (k dx (by simp)).trans e2, RepL.mono l ds vs A1 (fun b hb => k b (by simp [hb])) r⟩
  | .x c, v, A, _, h => by
    simp only [Rep] at h ⊢
    obtain ⟨a, rfl, rfl, e⟩ := h
    exact ⟨a, rfl, rfl, l _ _ e⟩
  | .s ns, v, A, _, h => by
    simp only [Rep] at h ⊢
    obtain ⟨a, rfl, rfl, e⟩ := h
    exact ⟨a, rfl, rfl, l.sqL e⟩
  | .gone, v, A, _, h => by
    simp only [Rep] at h ⊢
    exact h
theorem RepL.mono (l : Le F F') : ∀ (ds : List D) (vs : List V) (A : List Addr), (∀ a ∈ A, H' a = H a) → RepL Z F H ds vs A → RepL Z F' H' ds vs A
  | [], vs, A, _, h => by
    simp only [RepL] at h ⊢
    exact h
  | d :: ds, vs, A, k, h => by
    simp only [RepL] at h ⊢
    obtain ⟨v, vs', A1, A2, rfl, rfl, r1, r2⟩ := h
    exact ⟨v, vs', A1, A2, rfl, rfl, Rep.mono l d v A1 (fun b hb => k b (by simp [hb])) r1, RepL.mono l ds vs' A2 (fun b hb => k b (by simp [hb])) r2⟩
end
theorem RepL.length : ∀ {ds : List D} {vs : List V} {A : List Addr}, RepL Z F H ds vs A → vs.length = ds.length
  | [], _, _, h => by simp only [RepL] at h; rw [h.1]; rfl
  | _ :: ds, _, _, h => by
    simp only [RepL] at h
    obtain ⟨v, vs', A1, A2, rfl, rfl, r1, r2⟩ := h
    exact congrArg Nat.succ (RepL.length r2)
mutual
theorem Rep.there : ∀ (d : D) (v : V) (A : List Addr), Rep Z F H d v A → ∀ a ∈ A, H a ≠ none
  | .p d, v, A, h, b, hb => by simp only [Rep] at h; rw [h.1] at hb; cases hb
  | .l ds, v, A, h, b, hb => by
    simp only [Rep] at h
    obtain ⟨a, vs, A1, rfl, rfl, e, r⟩ := h
    rcases List.mem_cons.mp hb with rfl | hb
    · rw [e]; simp
    · exact RepL.there ds _ _ r b hb
  | .d kvs, v, A, h, b, hb => by
    simp only [Rep] at h
    obtain ⟨a, o, xs, rfl, rfl, e, q⟩ := h
    rcases List.mem_cons.mp hb with rfl | hb
    · rw [e]; simp
    · cases hb
  | .fd kvs, v, A, h, b, hb => by
    simp only [Rep] at h
    obtain ⟨a, o, xs, rfl, rfl, e, q⟩ := h
    cases hb
  | .o c fs ds, v, A, h, b, hb => by
    simp only [Rep] at h
    obtain ⟨a, dx, vs, A1, rfl, rfl, hl, e, e2, r⟩ := h
    rcases List.mem_cons.mp hb with rfl | hb
    · rw [e]; simp
    · rcases List.mem_cons.mp hb with rfl | hb
      · rw [e2]; simp
      · exact RepL.there ds _ _ r b hb
  | .x c, v, A, h, b, hb => by
    simp only [Rep] at h
    obtain ⟨a, rfl, rfl, e⟩ := h
    cases hb
  | .s ns, v, A, h, b, hb => by
    simp only [Rep] at h
    obtain ⟨a, rfl, rfl, e⟩ := h
    cases hb
  | .gone, v, A, h, b, hb => by simp only [Rep] at h; rw [h] at hb; cases hb
theorem RepL.there : ∀ (ds : List D) (vs : List V) (A : List Addr), RepL Z F H ds vs A → ∀ a ∈ A, H a ≠ none
  | [], vs, A, h, b, hb => by simp only [RepL] at h; rw [h.2] at hb; cases hb
  | d :: ds, vs, A, h, b, hb => by
    simp only [RepL] at h
    obtain ⟨v, vs', A1, A2, rfl, rfl, r1, r2⟩ := h
    rcases List.mem_append.mp hb with hb | hb
    · exact Rep.there d _ _ r1 b hb
    · exact RepL.there ds _ _ r2 b hb
end

/-! ### one step of the heap -/
/-- from the own addresses A to B -/
structure Step (F H : Hs) (A : List Addr) (F' H' : Hs) (B : List Addr) : Prop where
  ff : Le F F'
  fh : Le F' H'
  nd : B.Nodup
  ap : ∀ a ∈ B, F' a = none
  kp : ∀ a, H a ≠ none → a ∉ A → H' a = H a
  nw : ∀ a, (a ∈ B ∨ F' a ≠ none) → H a ≠ none → a ∈ A ∨ F a ≠ none
/-- where one begins -/
structure Good (F H : Hs) (A : List Addr) : Prop where
  fh : Le F H
  nd : A.Nodup
  ap : ∀ a ∈ A, F a = none
theorem Good.step {A : List Addr} (g : Good F H A) : Step F H A F H A := ⟨Le.refl _, g.fh, g.nd, g.ap, fun _ _ _ => rfl, fun _ h _ => h⟩
theorem Step.good {A B : List Addr} (s : Step F H A F' H' B) : Good F' H' B := ⟨s.fh, s.nd, s.ap⟩
theorem Step.trans {F2 H2 : Hs} {A B C : List Addr} (g : Good F H A) (s : Step F H A F' H' B) (t : Step F' H' B F2 H2 C) : Step F H A F2 H2 C := by
  have kp : ∀ a, H a ≠ none → a ∉ A → a ∉ B := fun a h1 h2 hb => by
    rcases s.nw a (.inl hb) h1 with z | z
    · exact h2 z
    · have := s.ap a hb
      cases e : F a with
      | none => exact z e
      | some o => rw [s.ff a o e] at this; cases this
  refine ⟨s.ff.trans t.ff, t.fh, t.nd, t.ap, fun a h1 h2 => ?_, fun a h1 h2 => ?_⟩
  · have e := s.kp a h1 h2
    exact (t.kp a (by rw [e]; exact h1) (kp a h1 h2)).trans e
  · by_cases ha : a ∈ A
    · exact .inl ha
    · have e := s.kp a h2 ha
      rcases t.nw a h1 (by rw [e]; exact h2) with z | z
      · exact absurd z (kp a h2 ha)
      · exact s.nw a (.inr z) h2
theorem Step.sub {A B C : List Addr} (s : Step F H A F' H' (B ++ C)) : Step F H A F' H' B :=
  ⟨s.ff, s.fh, (List.nodup_append.mp s.nd).1, fun a h => s.ap a (by simp [h]), s.kp, fun a h => s.nw a (h.imp (fun z => by simp [z]) id)⟩
theorem Step.sub2 {A B C : List Addr} (s : Step F H A F' H' (B ++ C)) : Step F H A F' H' C :=
  ⟨s.ff, s.fh, (List.nodup_append.mp s.nd).2.1, fun a h => s.ap a (by simp [h]), s.kp, fun a h => s.nw a (h.imp (fun z => by simp [z]) id)⟩
/-- any sublist of the own addresses -/
theorem Step.of {A B C : List Addr} (s : Step F H A F' H' B) (nd : C.Nodup) (h : ∀ a ∈ C, a ∈ B) : Step F H A F' H' C :=
  ⟨s.ff, s.fh, nd, fun a z => s.ap a (h a z), s.kp, fun a z => s.nw a (z.imp (h a) id)⟩
theorem Step.perm {A B C : List Addr} (s : Step F H A F' H' B) (h : B.Perm C) : Step F H A F' H' C := s.of (h.nodup_iff.mp s.nd) fun a z => h.mem_iff.mpr z
theorem Step.permL {A B C : List Addr} (s : Step F H A F' H' B) (h : A.Perm C) : Step F H C F' H' B :=
  ⟨s.ff, s.fh, s.nd, s.ap, fun a h1 h2 => s.kp a h1 fun z => h2 (h.mem_iff.mp z), fun a z1 z2 => (s.nw a z1 z2).imp (fun q => h.mem_iff.mp q) id⟩
/-- own addresses T that the step does not touch -/
theorem Step.frame {A B T : List Addr} (g : Good F H (A ++ T)) (ht : ∀ a ∈ T, H a ≠ none) (s : Step F H A F' H' B) : Step F H (A ++ T) F' H' (B ++ T) := by
  have nA : ∀ a ∈ T, a ∉ A := fun a h1 h2 => (List.nodup_append.mp g.nd).2.2 a h2 a h1 rfl
  have nF : ∀ a ∈ T, F a = none := fun a h => g.ap a (by simp [h])
  refine ⟨s.ff, s.fh, ?_, fun a h => ?_, fun a h1 h2 => s.kp a h1 fun z => h2 (by simp [z]), fun a h1 h2 => ?_⟩
  · refine List.nodup_append.mpr ⟨s.nd, (List.nodup_append.mp g.nd).2.1, fun a h1 b h2 e => ?_⟩
    subst e
    rcases s.nw a (.inl h1) (ht a h2) with z | z
    · exact nA a h2 z
    · exact z (nF a h2)
  · rcases List.mem_append.mp h with h | h
    · exact s.ap a h
    · cases e : F' a with
      | none => rfl
      | some o =>
        rcases s.nw a (.inr (by rw [e]; simp)) (ht a h) with z | z
        · exact absurd z (nA a h)
        · exact absurd (nF a h) z
  · rcases h1 with h1 | h1
    · rcases List.mem_append.mp h1 with h1 | h1
      · exact (s.nw a (.inl h1) h2).imp (fun z => by simp [z]) id
      · exact .inl (by simp [h1])
    · exact (s.nw a (.inr h1) h2).imp (fun z => by simp [z]) id
/-- what T holds stands -/
theorem Step.rep {A B T : List Addr} {d : D} {v : V} (g : Good F H (A ++ T)) (s : Step F H A F' H' B) (r : Rep Z F H d v T) : Rep Z F' H' d v T :=
  Rep.mono s.ff d v T (fun a h => s.kp a (Rep.there d v T r a h) fun z => (List.nodup_append.mp g.nd).2.2 a z a h rfl) r
theorem Step.repL {A B T : List Addr} {ds : List D} {vs : List V} (g : Good F H (A ++ T)) (s : Step F H A F' H' B) (r : RepL Z F H ds vs T) : RepL Z F' H' ds vs T :=
  RepL.mono s.ff ds vs T (fun a h => s.kp a (RepL.there ds vs T r a h) fun z => (List.nodup_append.mp g.nd).2.2 a z a h rfl) r

/-- only new frozen things -/
structure Grow (F H F' H' : Hs) : Prop where
  ff : Le F F'
  fh : Le F' H'
  hh : Le H H'
  nw : ∀ a, F' a ≠ none → H a ≠ none → F a ≠ none
theorem Grow.refl (l : Le F H) : Grow F H F H := ⟨Le.refl _, l, Le.refl _, fun _ h _ => h⟩
theorem Grow.trans {F2 H2 : Hs} (a : Grow F H F' H') (b : Grow F' H' F2 H2) : Grow F H F2 H2 :=
  ⟨a.ff.trans b.ff, b.fh, a.hh.trans b.hh, fun x h1 h2 => by
    refine a.nw x (b.nw x h1 ?_) h2
    cases e : H x with
    | none => exact absurd e h2
    | some o => rw [a.hh x o e]; simp⟩
theorem Grow.new {p : Addr} {o : HO} (l : Le F H) (h : H p = none) : Grow F H (upd F p o) (upd H p o) := by
  refine ⟨Le.new (l.nn h), fun a u e => ?_, Le.new h, fun a h1 h2 => ?_⟩
  · by_cases z : a = p
    · rw [z, upd_same] at e ⊢; exact e
    · rw [upd_ne z] at e ⊢; exact l a u e
  · by_cases z : a = p
    · rw [z] at h2; exact absurd h h2
    · rw [upd_ne z] at h1; exact h1
theorem Grow.step {A : List Addr} (g : Good F H A) (ha : ∀ a ∈ A, H a ≠ none) (w : Grow F H F' H') : Step F H A F' H' A := by
  refine ⟨w.ff, w.fh, g.nd, fun a h => ?_, fun a h1 _ => ?_, fun a h1 h2 => ?_⟩
  · cases e : F' a with
    | none => rfl
    | some o => exact absurd (g.ap a h) (w.nw a (by rw [e]; simp) (ha a h))
  · cases e : H a with
    | none => exact absurd e h1
    | some o => exact w.hh a o e
  · rcases h1 with h1 | h1
    · exact .inl h1
    · exact .inr (w.nw a h1 h2)
theorem Grow.repL {A : List Addr} {ds : List D} {vs : List V} (w : Grow F H F' H') (r : RepL Z F H ds vs A) : RepL Z F' H' ds vs A :=
  RepL.mono w.ff ds vs A (fun a h => by
    cases e : H a with
    | none => exact absurd e (RepL.there ds vs A r a h)
    | some o => exact w.hh a o e) r
theorem Grow.rep {A : List Addr} {d : D} {v : V} (w : Grow F H F' H') (r : Rep Z F H d v A) : Rep Z F' H' d v A :=
  Rep.mono w.ff d v A (fun a h => by
    cases e : H a with
    | none => exact absurd e (Rep.there d v A r a h)
    | some o => exact w.hh a o e) r
end
end Dl

set_option Elab.async false
set_option linter.all false
set_option maxRecDepth 100000
set_option maxHeartbeats 4000000
namespace Dl
open PySem PySem.Spec PyProof.Rows L2

/-! ### slots -/
inductive Slot where
  | n
  | v (d : D)
  /-- lent by the caller: the parameter's own value -/
  | b (d : D)
abbrev S := List Slot
inductive Out (α : Type) where
  | ok (a : α) (s : S)
  | ex (c : Nat) (s : S)
  | er
structure Cn where
  X : Cx
  ca : Nat → Addr
  bv : Nat → V
  W : WX
abbrev Cn.Z (C : Cn) : Env0 := ⟨C.X.prog, C.X.w, C.X.K, C.ca⟩
def SlR (Z : Env0) (bv : Nat → V) (F H : Hs) (i : Nat) (so : Option V) : Slot → List Addr → Prop
  | .n, A => A = []
  | .v d, A => ∃ v, so = some v ∧ Rep Z F H d v A
  | .b d, A => so = some (bv i) ∧ Rep Z F H d (bv i) A
def SR (Z : Env0) (bv : Nat → V) (F H : Hs) : Nat → L2.St → S → List Addr → Prop
  | _, [], [], A => A = []
  | i, so :: σ, sl :: s, A => ∃ A1 A2, A = A1 ++ A2 ∧ SlR Z bv F H i so sl A1 ∧ SR Z bv F H (i + 1) σ s A2
  | _, _ :: _, [], _ => False
  | _, [], _ :: _, _ => False
section
variable {Z : Env0} {bv : Nat → V} {F F' H H' : Hs}
theorem SlR.mono {i : Nat} {so : Option V} {sl : Slot} {A : List Addr} (l : Le F F') (k : ∀ a ∈ A, H' a = H a) (h : SlR Z bv F H i so sl A) : SlR Z bv F' H' i so sl A := by
  cases sl with
  | n => exact h
  | v d => obtain ⟨v, e, r⟩ := h; exact ⟨v, e, Rep.mono l d v A k r⟩
  | b d => exact ⟨h.1, Rep.mono l d _ A k h.2⟩
theorem SlR.there {i : Nat} {so : Option V} {sl : Slot} {A : List Addr} (h : SlR Z bv F H i so sl A) : ∀ a ∈ A, H a ≠ none := by
  cases sl with
  | n => intro a ha; rw [show A = [] from h] at ha; cases ha
  | v d => obtain ⟨v, e, r⟩ := h; exact Rep.there d v A r
  | b d => exact Rep.there d _ A h.2
theorem SR.mono (l : Le F F') : ∀ {σ : L2.St} {s : S} {i : Nat} {A : List Addr}, (∀ a ∈ A, H' a = H a) → SR Z bv F H i σ s A → SR Z bv F' H' i σ s A
  | [], [], _, _, _, h => h
  | so :: σ, sl :: s, i, A, k, h => by
    obtain ⟨A1, A2, rfl, h1, h2⟩ := h
    exact ⟨A1, A2, rfl, h1.mono l fun a ha => k a (by simp [ha]), SR.mono l (fun a ha => k a (by simp [ha])) h2⟩
  | _ :: _, [], _, _, _, h => h
  | [], _ :: _, _, _, _, h => h
theorem SR.there : ∀ {σ : L2.St} {s : S} {i : Nat} {A : List Addr}, SR Z bv F H i σ s A → ∀ a ∈ A, H a ≠ none
  | [], [], _, _, h, a, ha => by rw [show _ = [] from h] at ha; cases ha
  | so :: σ, sl :: s, i, A, h, a, ha => by
    obtain ⟨A1, A2, rfl, h1, h2⟩ := h
    rcases List.mem_append.mp ha with ha | ha
    · exact h1.there a ha
    · exact SR.there h2 a ha
  | _ :: _, [], _, _, h, _, _ => h.elim
  | [], _ :: _, _, _, h, _, _ => h.elim
theorem SR.len : ∀ {σ : L2.St} {s : S} {i : Nat} {A : List Addr}, SR Z bv F H i σ s A → σ.length = s.length
  | [], [], _, _, _ => rfl
  | so :: σ, sl :: s, i, A, h => by
    obtain ⟨A1, A2, rfl, h1, h2⟩ := h
    exact congrArg Nat.succ (SR.len h2)
  | _ :: _, [], _, _, h => h.elim
  | [], _ :: _, _, _, h => h.elim
/-- one slot looked at -/
theorem SR.get : ∀ {σ : L2.St} {s : S} {i j : Nat} {A : List Addr} {sl : Slot}, SR Z bv F H i σ s A → s[j]? = some sl →
    ∃ so L A1 R, σ[j]? = some so ∧ A = L ++ (A1 ++ R) ∧ SlR Z bv F H (i + j) so sl A1 ∧
      ∀ F' H' so' sl' A1', Le F F' → (∀ a ∈ L ++ R, H' a = H a) → SlR Z bv F' H' (i + j) so' sl' A1' → SR Z bv F' H' i (σ.set j so') (s.set j sl') (L ++ (A1' ++ R))
  | [], [], _, _, _, _, _, e => by simp at e
  | so :: σ, sl :: s, i, 0, A, sl0, h, e => by
    obtain ⟨A1, A2, rfl, h1, h2⟩ := h
    simp at e
    subst e
    refine ⟨so, [], A1, A2, rfl, rfl, h1, fun F' H' so' sl' A1' l k r => ?_⟩
    exact ⟨A1', A2, rfl, r, SR.mono l (fun a ha => k a (by simp [ha])) h2⟩
  | so :: σ, sl :: s, i, j + 1, A, sl0, h, e => by
    obtain ⟨A1, A2, rfl, h1, h2⟩ := h
    obtain ⟨so0, L, B1, R, e1, rfl, r1, put⟩ := SR.get (i := i + 1) (j := j) h2 (by simpa using e)
    refine ⟨so0, A1 ++ L, B1, R, by simpa using e1, by simp, by rw [show i + (j + 1) = i + 1 + j by omega]; exact r1, fun F' H' so' sl' A1' l k r => ?_⟩
    refine ⟨A1, L ++ (A1' ++ R), by simp, h1.mono l fun a ha => k a (by simp [ha]), ?_⟩
    exact put F' H' so' sl' A1' l (fun a ha => k a (by simp at ha ⊢; rcases ha with ha | ha <;> simp [ha])) (by rw [show i + 1 + j = i + (j + 1) by omega]; exact r)
  | _ :: _, [], _, _, _, _, h, _ => h.elim
  | [], _ :: _, _, _, _, _, h, _ => h.elim
end

/-! ### where one stands -/
abbrev At (C : Cn) (σ : L2.St) (H : Hs) (s : S) (F : Hs) (A : List Addr) : Prop := Good F H A ∧ SR C.Z C.bv F H 0 σ s A
theorem At.g {C : Cn} {σ : L2.St} {H : Hs} {s : S} {F : Hs} {A : List Addr} (a : At C σ H s F A) : Good F H A := a.1
theorem At.r {C : Cn} {σ : L2.St} {H : Hs} {s : S} {F : Hs} {A : List Addr} (a : At C σ H s F A) : SR C.Z C.bv F H 0 σ s A := a.2
section
variable {C : Cn} {σ : L2.St} {H H1 : Hs} {s s1 : S} {F F1 : Hs} {A A1 T : List Addr}
theorem At.there (a : At C σ H s F A) : ∀ x ∈ A, H x ≠ none := SR.there a.r
theorem At.grow (a : At C σ H s F A) (w : Grow F H F1 H1) : Step F H A F1 H1 A := w.step a.g a.there
theorem At.grown (a : At C σ H s F A) (w : Grow F H F1 H1) : At C σ H1 s F1 A := ⟨(a.grow w).good, SR.mono w.ff (fun x hx => by
  cases e : H x with
  | none => exact absurd e (a.there x hx)
  | some o => exact w.hh x o e) a.r⟩
end

/-! ### what is wanted behind -/
structure PK (C : Cn) (σ : L2.St) (β : Type) where
  ok : β → S → Hs → Hs → List Addr → Prop
  ex : Nat → S → Hs → Hs → List Addr → Prop
  okm : ∀ {b s F H A F1 H1 A1}, Good F H A → Step F H A F1 H1 A1 → ok b s F H A → ok b s F1 H1 A1
  exm : ∀ {c s F H A F1 H1 A1}, Good F H A → Step F H A F1 H1 A1 → ex c s F H A → ex c s F1 H1 A1
  exw : ∀ {c s F H A}, ex c s F H A → ∀ F' H' A', Step F H A F' H' A' → SR C.Z C.bv F' H' 0 σ s A' → C.W (.ref (C.ca c)) none σ H'
def PK.at {C : Cn} {σ : L2.St} {β : Type} (k : PK C σ β) (o : Out β) (F H : Hs) (A : List Addr) : Prop := match o with
  | .ok b s => k.ok b s F H A
  | .ex c s => k.ex c s F H A
  | .er => False
theorem PK.atm {C : Cn} {σ : L2.St} {β : Type} {k : PK C σ β} {o : Out β} {F H F1 H1 : Hs} {A A1 : List Addr} (g : Good F H A) (t : Step F H A F1 H1 A1) (h : k.at o F H A) : k.at o F1 H1 A1 := by
  cases o with
  | ok b s => exact k.okm g t h
  | ex c s => exact k.exm g t h
  | er => exact h
def Xw (C : Cn) (σ : L2.St) (c : Nat) (s : S) (F H : Hs) (A : List Addr) : Prop := ∀ F' H' A', Step F H A F' H' A' → SR C.Z C.bv F' H' 0 σ s A' → C.W (.ref (C.ca c)) none σ H'
def pkD (C : Cn) (σ : L2.St) (Q : VK) : PK C σ D where
  ok d s F H A := ∀ F' H' A' T v, Step F H A F' H' (A' ++ T) → SR C.Z C.bv F' H' 0 σ s A' → Rep C.Z F' H' d v T → Q v H'
  ex := Xw C σ
  okm g t h := fun F' H' A' T v t' r q => h F' H' A' T v (t.trans g t') r q
  exm g t h := fun F' H' A' t' r => h F' H' A' (t.trans g t') r
  exw h := h
/-- results that are never changed again, values xs in a row -/
def pkL (C : Cn) (σ : L2.St) (Q : List V → Hs → Prop) : PK C σ (List PyData) where
  ok ds s F H A := ∀ F' H' A' vs, Step F H A F' H' A' → SR C.Z C.bv F' H' 0 σ s A' → Fzs F' vs ds → Q vs H'
  ex := Xw C σ
  okm g t h := fun F' H' A' vs t' r q => h F' H' A' vs (t.trans g t') r q
  exm g t h := fun F' H' A' t' r => h F' H' A' (t.trans g t') r
  exw h := h
def pkB (C : Cn) (σ : L2.St) (Q : Bool → Hs → Prop) : PK C σ Bool where
  ok b s F H A := ∀ F' H' A', Step F H A F' H' A' → SR C.Z C.bv F' H' 0 σ s A' → Q b H'
  ex := Xw C σ
  okm g t h := fun F' H' A' t' r => h F' H' A' (t.trans g t') r
  exm g t h := fun F' H' A' t' r => h F' H' A' (t.trans g t') r
  exw h := h
/-- statements: none: on; some d: returned -/
abbrev SOut := Out (Option D)
def pkS (C : Cn) (Dn : Ends) (σ : L2.St) : PK C σ (Option D) where
  ok o s F H A := match o with
    | none => ∀ F' H' A' σ', Step F H A F' H' A' → SR C.Z C.bv F' H' 0 σ' s A' → Dn.nx σ' H'
    | some d => ∀ F' H' A' σ' T v, Step F H A F' H' (A' ++ T) → SR C.Z C.bv F' H' 0 σ' s A' → Rep C.Z F' H' d v T → Dn.rt v H'
  ex c s F H A := ∀ F' H' A' σ', Step F H A F' H' A' → SR C.Z C.bv F' H' 0 σ' s A' → C.W (.ref (C.ca c)) none σ' H'
  okm := by
    intro b s F H A F1 H1 A1 g t h
    cases b with
    | none => exact fun F' H' A' σ' t' r => h F' H' A' σ' (t.trans g t') r
    | some d => exact fun F' H' A' σ' T v t' r q => h F' H' A' σ' T v (t.trans g t') r q
  exm g t h := fun F' H' A' σ' t' r => h F' H' A' σ' (t.trans g t') r
  exw h := fun F' H' A' t' r => h F' H' A' σ t' r

/-! ### the judgements -/
def EvD (C : Cn) (f : S → Out D) : TE := fun σ H Q => ∃ F A s, At C σ H s F A ∧ (pkD C σ Q).at (f s) F H A
def EvL (C : Cn) (f : S → Out (List PyData)) : TA := fun σ H Q => ∃ F A s, At C σ H s F A ∧ (pkL C σ Q).at (f s) F H A
def EvB (C : Cn) (f : S → Out Bool) : TT := fun σ H Q => ∃ F A s, At C σ H s F A ∧ (pkB C σ Q).at (f s) F H A
def EvS (C : Cn) (f : S → SOut) : TS := fun Dn σ H => ∃ F A s, At C σ H s F A ∧ (pkS C Dn σ).at (f s) F H A
structure CE (C : Cn) (e : Expr) (f : S → Out D) : Prop where
  run : PE C.X e (EvD C f)
structure CA (C : Cn) (es : List Expr) (f : S → Out (List PyData)) : Prop where
  run : PA C.X es (EvL C f)
structure CT (C : Cn) (e : Expr) (f : S → Out Bool) : Prop where
  run : PT C.X e (EvB C f)
structure CS (C : Cn) (st : Stmt) (f : S → SOut) : Prop where
  run : PS C.X st (EvS C f)
structure CSs (C : Cn) (st : List Stmt) (f : S → SOut) : Prop where
  run : PSs C.X st (EvS C f)

theorem PE.imp {X : Cx} {e : Expr} {t t' : TE} (h : PE X e t) (i : ∀ σ H Q, t' σ H Q → t σ H Q) : PE X e t' := ⟨fun pins s σ H Q I q => h.run pins s σ H Q I (i σ H Q q)⟩
theorem PT.imp {X : Cx} {e : Expr} {t t' : TT} (h : PT X e t) (i : ∀ σ H Q, t' σ H Q → t σ H Q) : PT X e t' := ⟨fun pins s σ H Q I q => h.run pins s σ H Q I (i σ H Q q)⟩
theorem PW.imp {X : Cx} {e : Expr} {t t' : TT} (h : PW X e t) (i : ∀ σ H Q, t' σ H Q → t σ H Q) : PW X e t' := ⟨fun wh pins s σ H Q I q => h.run wh pins s σ H Q I (i σ H Q q)⟩
theorem PA.imp {X : Cx} {e : List Expr} {t t' : TA} (h : PA X e t) (i : ∀ σ H Q, t' σ H Q → t σ H Q) : PA X e t' := ⟨fun pos pins s σ H Q I q => h.run pos pins s σ H Q I (i σ H Q q)⟩
theorem PS.imp {X : Cx} {e : Stmt} {t t' : TS} (h : PS X e t) (i : ∀ D σ H, t' D σ H → t D σ H) : PS X e t' := ⟨fun pins s σ H D I q => h.run pins s σ H D I (i D σ H q)⟩
theorem PSs.imp {X : Cx} {e : List Stmt} {t t' : TS} (h : PSs X e t) (i : ∀ D σ H, t' D σ H → t D σ H) : PSs X e t' := ⟨fun pins s σ H D I q => h.run pins s σ H D I (i D σ H q)⟩
theorem OpR.imp {X : Cx} {f : Value → Value → Sem Value} {t t' : R2} (h : OpR X f t) (i : ∀ x y H Q, t' x y H Q → t x y H Q) : OpR X f t' := fun pins s σ H x y v u Q I rx ry q => h pins s σ H x y v u Q I rx ry (i x y H Q q)

/-! ### outcomes in a row -/
def Out.bind {α β : Type} (o : Out α) (k : α → S → Out β) : Out β := match o with
  | .ok a s => k a s
  | .ex c s => .ex c s
  | .er => .er
/-- a result that never changes -/
def Out.bindP {β : Type} (o : Out D) (k : PyData → S → Out β) : Out β := match o with
  | .ok (.p d) s => k d s
  | .ok _ _ => .er
  | .ex c s => .ex c s
  | .er => .er
def Out.opt {α : Type} (o : Option α) (s : S) : Out α := match o with
  | some a => .ok a s
  | none => .er
section
variable {C : Cn} {σ : L2.St} {β : Type} {k : PK C σ β} {H : Hs} {s : S} {F : Hs} {A : List Addr}
theorem evD_bindP {fa : S → Out D} {kk : PyData → S → Out β} {Q1 : VK} (a : At C σ H s F A) (h : k.at ((fa s).bindP kk) F H A)
    (cont : ∀ d s1 F1 H1 A1 v, At C σ H1 s1 F1 A1 → Step F H A F1 H1 A1 → Fz F1 v d → k.at (kk d s1) F1 H1 A1 → Q1 v H1) : EvD C fa σ H Q1 := by
  refine ⟨F, A, s, a, ?_⟩
  cases e : fa s with
  | ok d s1 =>
    rw [e] at h
    cases d with
    | p d =>
      intro F' H' A' T v t r q
      obtain ⟨rfl, z⟩ := Rep.p_iff.mp q
      rw [List.append_nil] at t
      exact cont d s1 F' H' A' v ⟨t.good, r⟩ t z (PK.atm a.g t h)
    | _ => exact h.elim
  | ex c s1 =>
    rw [e] at h
    exact k.exw h
  | er =>
    rw [e] at h
    exact h.elim
theorem evD_bind {fa : S → Out D} {kk : D → S → Out β} {Q1 : VK} (a : At C σ H s F A) (h : k.at ((fa s).bind kk) F H A)
    (cont : ∀ d s1 F1 H1 A1 T v, Step F H A F1 H1 (A1 ++ T) → SR C.Z C.bv F1 H1 0 σ s1 A1 → Rep C.Z F1 H1 d v T → k.at (kk d s1) F H A → Q1 v H1) : EvD C fa σ H Q1 := by
  refine ⟨F, A, s, a, ?_⟩
  cases e : fa s with
  | ok d s1 =>
    rw [e] at h
    intro F' H' A' T v t r q
    exact cont d s1 F' H' A' T v t r q h
  | ex c s1 =>
    rw [e] at h
    exact k.exw h
  | er =>
    rw [e] at h
    exact h.elim
theorem evB_bind {fa : S → Out Bool} {kk : Bool → S → Out β} {Q1 : Bool → Hs → Prop} (a : At C σ H s F A) (h : k.at ((fa s).bind kk) F H A)
    (cont : ∀ b s1 F1 H1 A1, At C σ H1 s1 F1 A1 → Step F H A F1 H1 A1 → k.at (kk b s1) F1 H1 A1 → Q1 b H1) : EvB C fa σ H Q1 := by
  refine ⟨F, A, s, a, ?_⟩
  cases e : fa s with
  | ok d s1 =>
    rw [e] at h
    intro F' H' A' t r
    exact cont d s1 F' H' A' ⟨t.good, r⟩ t (PK.atm a.g t h)
  | ex c s1 =>
    rw [e] at h
    exact k.exw h
  | er =>
    rw [e] at h
    exact h.elim
theorem evL_bind {fa : S → Out (List PyData)} {kk : List PyData → S → Out β} {Q1 : List V → Hs → Prop} (a : At C σ H s F A) (h : k.at ((fa s).bind kk) F H A)
    (cont : ∀ ds s1 F1 H1 A1 vs, At C σ H1 s1 F1 A1 → Step F H A F1 H1 A1 → Fzs F1 vs ds → k.at (kk ds s1) F1 H1 A1 → Q1 vs H1) : EvL C fa σ H Q1 := by
  refine ⟨F, A, s, a, ?_⟩
  cases e : fa s with
  | ok d s1 =>
    rw [e] at h
    intro F' H' A' vs t r q
    exact cont d s1 F' H' A' vs ⟨t.good, r⟩ t q (PK.atm a.g t h)
  | ex c s1 =>
    rw [e] at h
    exact k.exw h
  | er =>
    rw [e] at h
    exact h.elim
/-- a result at hand -/
theorem pkD_p {Q : VK} {d : PyData} {v : V} (a : At C σ H s F A) (z : Fz F v d) (h : (pkD C σ Q).at (.ok (.p d) s) F H A) : Q v H := by
  have t := a.g.step
  exact h F H A [] v (by rw [List.append_nil]; exact t) a.r (Rep.p_iff.mpr ⟨rfl, z⟩)
/-- a result behind new frozen things -/
theorem pkD_g {Q : VK} {d : PyData} {v : V} {F1 H1 : Hs} (a : At C σ H s F A) (w : Grow F H F1 H1) (z : Fz F1 v d) (h : (pkD C σ Q).at (.ok (.p d) s) F H A) : Q v H1 :=
  pkD_p (a.grown w) z (PK.atm a.g (a.grow w) h)
end

/-! ### names and constants -/
section
variable {C : Cn}
def cE (d : PyData) : S → Out D := fun s => .ok (.p d) s
theorem ce_int {i j pos} : CE C (.Constant (.int i) j pos) (cE (.int i)) := ⟨PE.imp pe_int fun _ _ _ ⟨_, _, _, a, h⟩ => pkD_p a (.int i) h⟩
theorem ce_bl {b j pos} : CE C (.Constant (.bool b) j pos) (cE (.bool b)) := ⟨PE.imp pe_bl fun _ _ _ ⟨_, _, _, a, h⟩ => pkD_p a (.bl b) h⟩
theorem ce_non {j pos} : CE C (.Constant .none j pos) (cE .none) := ⟨PE.imp pe_non fun _ _ _ ⟨_, _, _, a, h⟩ => pkD_p a .non h⟩
theorem ce_str {x j pos} : CE C (.Constant (.str x) j pos) (cE (.str x)) := ⟨PE.imp pe_str fun _ _ _ ⟨_, _, _, a, h⟩ => pkD_p a (.str x) h⟩
/-- the name in slot j, its value at hand -/
def nE (j : Nat) : S → Out D := fun s => match s[j]? with
  | some (.v (.p d)) => .ok (.p d) s
  | _ => .er
theorem At.get {σ : L2.St} {H : Hs} {s : S} {F : Hs} {A : List Addr} {j : Nat} {sl : Slot} (a : At C σ H s F A) (e : s[j]? = some sl) :
    ∃ so L A1 R, σ[j]? = some so ∧ A = L ++ (A1 ++ R) ∧ SlR C.Z C.bv F H j so sl A1 ∧
      ∀ F' H' so' sl' A1', Le F F' → (∀ a ∈ L ++ R, H' a = H a) → SlR C.Z C.bv F' H' j so' sl' A1' → SR C.Z C.bv F' H' 0 (σ.set j so') (s.set j sl') (L ++ (A1' ++ R)) := by
  obtain ⟨so, L, A1, R, h1, h2, h3, h4⟩ := SR.get a.r e
  rw [Nat.zero_add] at h3 h4
  exact ⟨so, L, A1, R, h1, h2, h3, h4⟩
theorem ce_name {j : Nat} {x : Str} {pos : Pos} (h : PE C.X (.Name x pos) (tVar j)) : CE C (.Name x pos) (nE j) := ⟨PE.imp h fun σ H Q ⟨F, A, s, a, h⟩ => by
  unfold nE at h
  split at h
  · rename_i d e
    obtain ⟨so, L, A1, R, e1, rfl, ⟨v, rfl, r⟩, _⟩ := a.get e
    obtain ⟨rfl, z⟩ := Rep.p_iff.mp r
    exact ⟨v, e1, pkD_p a z h⟩
  · exact h.elim⟩
end
end Dl

set_option Elab.async false
set_option linter.all false
set_option maxRecDepth 100000
set_option maxHeartbeats 4000000
namespace Dl
open PySem PySem.Spec PyProof.Rows L2

/-! ### operators on what never changes -/
abbrev cap : Nat := 100000
theorem cap_le {n : Nat} (h : n ≤ cap) : n ≤ sizeLine := by rw [sizeLine_eq]; exact Nat.le_trans h (by decide)
theorem cap_lt {n : Nat} (h : n ≤ cap) : n < sizeLine := by rw [sizeLine_eq]; exact Nat.lt_of_le_of_lt h (by decide)
def pyAdd : PyData → PyData → Option PyData
  | .int i, .int j => some (.int (i + j))
  | .str x, .str y => if x.length + y.length ≤ cap then some (.str (x ++ y)) else none
  | .list xs, .list ys => if xs.length + ys.length ≤ cap then some (.list (xs ++ ys)) else none
  | .tuple xs, .tuple ys => if xs.length + ys.length ≤ cap then some (.tuple (xs ++ ys)) else none
  | _, _ => none
def pySub : PyData → PyData → Option PyData
  | .int i, .int j => some (.int (i - j))
  | _, _ => none
def pyMul : PyData → PyData → Option PyData
  | .int i, .int j => if (-(2 ^ 64) < i ∧ i < 2 ^ 64) ∨ (-(2 ^ 64) < j ∧ j < 2 ^ 64) then some (.int (i * j)) else none
  | .list xs, .int k => if k ≤ 1000 ∧ -1000 ≤ k ∧ xs.length ≤ 100 then some (.list (List.replicate k.toNat xs).flatten) else none
  | .tuple xs, .int k => if xs ≠ [] ∧ 2 ≤ k ∧ k ≤ 1000 ∧ xs.length ≤ 1000 then some (.tuple (List.replicate k.toNat xs).flatten) else none
  | _, _ => none
def pyFloorDiv : PyData → PyData → Option PyData
  | .int i, .int j => if 0 < j ∧ j < 1073741824 then some (.int (i / j)) else none
  | _, _ => none
def pyMod : PyData → PyData → Option PyData
  | .int i, .int j => if 0 < j then some (.int (i % j)) else none
  | _, _ => none
def pyPow : PyData → PyData → Option PyData
  | .int i, .int j => if 0 ≤ j ∧ j ≤ 1000000 ∧ i.natAbs < 2 ^ 64 then some (.int (i ^ j.toNat)) else none
  | _, _ => none
/-- two values at hand, a third from them -/
def rD (g : PyData → PyData → Option PyData) : R2 := fun x y H Q => ∃ F d e w, Le F H ∧ Fz F x d ∧ Fz F y e ∧ g d e = some w ∧ ∀ F' H' z, Grow F H F' H' → Fz F' z w → Q z H'
theorem Fzs.rep {F : Hs} {vs : List V} {ds : List PyData} (h : Fzs F vs ds) : ∀ n : Nat, Fzs F (List.replicate n vs).flatten (List.replicate n ds).flatten
  | 0 => .nil
  | n + 1 => by
    rw [List.replicate_succ, List.replicate_succ, List.flatten_cons, List.flatten_cons]
    exact h.append (Fzs.rep h n)
section
variable {X : Cx}
theorem or_add : OpR X (binaryOp .Add) (rD pyAdd) := OpR.imp (op_add.or (op_cat.or (op_catA.or op_add_str))) fun x y H Q ⟨F, d, e, w, l, zx, zy, ew, k⟩ => by
  cases d with
  | int i =>
    cases e with
    | int j =>
      cases zx; cases zy
      cases ew
      exact .inl ⟨i, j, rfl, rfl, k F H _ (Grow.refl l) (.int _)⟩
    | _ => cases ew
  | str a =>
    cases e with
    | str b =>
      cases zx; cases zy
      simp only [pyAdd] at ew
      split at ew
      · rename_i hl
        cases ew
        exact .inr (.inr (.inr ⟨a, b, rfl, rfl, cap_le hl, k F H _ (Grow.refl l) (.str _)⟩))
      · cases ew
    | _ => cases ew
  | list xs =>
    cases e with
    | list ys =>
      cases zx with
      | @lst a vs _ hx rx =>
        cases zy with
        | @lst b us _ hy ry =>
          simp only [pyAdd] at ew
          split at ew
          · rename_i hl
            cases ew
            refine .inr (.inl ⟨a, b, vs, us, rfl, rfl, l _ _ hx, l _ _ hy, by rw [rx.length, ry.length]; exact cap_le hl, fun p hp => k _ _ _ (Grow.new l hp) (.lst upd_same ((rx.to (Le.new (l.nn hp))).append (ry.to (Le.new (l.nn hp)))))⟩)
          · cases ew
    | _ => cases ew
  | tuple xs =>
    cases e with
    | tuple ys =>
      cases zx with
      | @tup a vs _ hx rx =>
        cases zy with
        | @tup b us _ hy ry =>
          simp only [pyAdd] at ew
          split at ew
          · rename_i hl
            cases ew
            refine .inr (.inr (.inl ⟨a, b, vs, us, rfl, rfl, SqT.of (l _ _ hx), SqT.of (l _ _ hy), by rw [rx.length, ry.length]; exact cap_le hl, fun e1 => ?_, fun _ e2 => ?_, fun _ _ p hp => ?_⟩))
            · subst e1
              cases rx
              exact k _ _ _ (Grow.refl l) (.tup hy ry)
            · subst e2
              cases ry
              refine k _ _ _ (Grow.refl l) (.tup hx ?_)
              rw [List.append_nil]; exact rx
            · exact k _ _ _ (Grow.new l hp) (.tup upd_same ((rx.to (Le.new (l.nn hp))).append (ry.to (Le.new (l.nn hp)))))
          · cases ew
    | _ => cases ew
  | _ => cases e <;> cases ew
theorem or_sub : OpR X (binaryOp .Sub) (rD pySub) := OpR.imp op_sub fun x y H Q ⟨F, d, e, w, l, zx, zy, ew, k⟩ => by
  cases d with
  | int i =>
    cases e with
    | int j =>
      cases zx; cases zy
      cases ew
      exact ⟨i, j, rfl, rfl, k F H _ (Grow.refl l) (.int _)⟩
    | _ => cases ew
  | _ => cases e <;> cases ew
theorem or_mul : OpR X (binaryOp .Mult) (rD pyMul) := OpR.imp (op_mul.or (op_rep.or op_repT)) fun x y H Q ⟨F, d, e, w, l, zx, zy, ew, k⟩ => by
  cases d with
  | int i =>
    cases e with
    | int j =>
      cases zx; cases zy
      simp only [pyMul] at ew
      split at ew
      · rename_i hl
        cases ew
        exact .inl ⟨i, j, rfl, rfl, hl, k F H _ (Grow.refl l) (.int _)⟩
      · cases ew
    | _ => cases ew
  | list xs =>
    cases e with
    | int j =>
      cases zy
      cases zx with
      | @lst a vs _ hx rx =>
        simp only [pyMul] at ew
        split at ew
        · rename_i hl
          cases ew
          refine .inr (.inl ⟨a, j, vs, rfl, rfl, l _ _ hx, by omega, by omega, ?_, fun p hp => k _ _ _ (Grow.new l hp) (.lst upd_same ((rx.to (Le.new (l.nn hp))).rep _))⟩)
          rw [rx.length]
          refine cap_le ?_
          have h1 : j.toNat ≤ 1000 := by omega
          exact Nat.mul_le_mul hl.2.2 h1
        · cases ew
    | _ => cases ew
  | tuple xs =>
    cases e with
    | int j =>
      cases zy
      cases zx with
      | @tup a vs _ hx rx =>
        simp only [pyMul] at ew
        split at ew
        · rename_i hl
          cases ew
          refine .inr (.inr ⟨a, j, vs, rfl, rfl, SqT.of (l _ _ hx), ?_, hl.2.1, hl.2.2.1, by rw [rx.length]; exact hl.2.2.2, fun p hp => k _ _ _ (Grow.new l hp) (.tup upd_same ((rx.to (Le.new (l.nn hp))).rep _))⟩)
          intro e0
          subst e0
          cases rx
          exact hl.1 rfl
        · cases ew
    | _ => cases ew
  | _ => cases e <;> cases ew
theorem or_fdiv : OpR X (binaryOp .FloorDiv) (rD pyFloorDiv) := OpR.imp op_fdiv fun x y H Q ⟨F, d, e, w, l, zx, zy, ew, k⟩ => by
  cases d with
  | int i =>
    cases e with
    | int j =>
      cases zx; cases zy
      simp only [pyFloorDiv] at ew
      split at ew
      · rename_i hl
        cases ew
        exact ⟨i, j, rfl, rfl, hl, k F H _ (Grow.refl l) (.int _)⟩
      · cases ew
    | _ => cases ew
  | _ => cases e <;> cases ew
theorem or_mod : OpR X (binaryOp .Mod) (rD pyMod) := OpR.imp op_mod fun x y H Q ⟨F, d, e, w, l, zx, zy, ew, k⟩ => by
  cases d with
  | int i =>
    cases e with
    | int j =>
      cases zx; cases zy
      simp only [pyMod] at ew
      split at ew
      · rename_i hl
        cases ew
        exact ⟨i, j, rfl, rfl, hl, k F H _ (Grow.refl l) (.int _)⟩
      · cases ew
    | _ => cases ew
  | _ => cases e <;> cases ew
theorem or_pow : OpR X (binaryOp .Pow) (rD pyPow) := OpR.imp op_pow fun x y H Q ⟨F, d, e, w, l, zx, zy, ew, k⟩ => by
  cases d with
  | int i =>
    cases e with
    | int j =>
      cases zx; cases zy
      simp only [pyPow] at ew
      split at ew
      · rename_i hl
        cases ew
        exact ⟨i, j, rfl, rfl, hl, k F H _ (Grow.refl l) (.int _)⟩
      · cases ew
    | _ => cases ew
  | _ => cases e <;> cases ew

/-! ### comparisons -/
def pyCmp (p : Int → Int → Bool) : PyData → PyData → Option PyData
  | .int i, .int j => some (.bool (p i j))
  | _, _ => none
abbrev pyLt := pyCmp fun i j => decide (i < j)
abbrev pyLe := pyCmp fun i j => decide (i ≤ j)
abbrev pyGt := pyCmp fun i j => decide (j < i)
abbrev pyGe := pyCmp fun i j => decide (j ≤ i)
theorem or_cmp {op : CmpOp} {p : Int → Int → Bool} (h : OpR X (compareOp op) (rI0 fun i j => .bl (p i j))) : OpR X (compareOp op) (rD (pyCmp p)) := OpR.imp h fun x y H Q ⟨F, d, e, w, l, zx, zy, ew, k⟩ => by
  cases d with
  | int i =>
    cases e with
    | int j =>
      cases zx; cases zy
      cases ew
      exact ⟨i, j, rfl, rfl, k F H _ (Grow.refl l) (.bl _)⟩
    | _ => cases ew
  | _ => cases e <;> cases ew
theorem or_lt : OpR X (compareOp .Lt) (rD pyLt) := or_cmp op_lt
theorem or_le : OpR X (compareOp .LtE) (rD pyLe) := or_cmp op_le
theorem or_gt : OpR X (compareOp .Gt) (rD pyGt) := or_cmp op_gt
theorem or_ge : OpR X (compareOp .GtE) (rD pyGe) := or_cmp op_ge
def pyEq (d e : PyData) : Option PyData := if SeqAt.shaped d && SeqAt.shaped e then some (.bool (PyData.eqv d e)) else none
def pyNe (d e : PyData) : Option PyData := if SeqAt.shaped d && SeqAt.shaped e then some (.bool (!PyData.eqv d e)) else none
theorem or_eq (hu : X.A.units + 64 < cLine) : OpR X (compareOp .Eq) (rD pyEq) := OpR.imp (op_eqD hu) fun x y H Q ⟨F, d, e, w, l, zx, zy, ew, k⟩ => by
  unfold pyEq at ew
  split at ew
  · rename_i hs
    cases ew
    obtain ⟨h1, h2⟩ := Bool.and_eq_true_iff.mp hs
    exact ⟨d, e, Fz.dp l d x zx, Fz.dp l e y zy, h1, h2, k F H _ (Grow.refl l) (.bl _)⟩
  · cases ew
theorem or_ne (hu : X.A.units + 64 < cLine) : OpR X (compareOp .NotEq) (rD pyNe) := OpR.imp (op_neD hu) fun x y H Q ⟨F, d, e, w, l, zx, zy, ew, k⟩ => by
  unfold pyNe at ew
  split at ew
  · rename_i hs
    cases ew
    obtain ⟨h1, h2⟩ := Bool.and_eq_true_iff.mp hs
    exact ⟨d, e, Fz.dp l d x zx, Fz.dp l e y zy, h1, h2, k F H _ (Grow.refl l) (.bl _)⟩
  · cases ew
/-- membership: in a list of any data; in a tuple of ints; a sign in a text -/
def intsOf : List PyData → Option (List Int)
  | [] => some []
  | .int i :: ds => (intsOf ds).map (i :: ·)
  | _ :: _ => none
def pyIn0 : PyData → PyData → Option Bool
  | d, .list ds => if SeqAt.shaped d && SeqAt.shaped (.list ds) then some (ds.any fun z => PyData.eqv z d) else none
  | .int i, .tuple ds => (intsOf ds).map fun ns => ns.any fun n => n == i
  | .str x, .str z => match x.cps.toList with
    | [c] => some (decide (c ∈ z.cps.toList))
    | _ => none
  | _, _ => none
def pyIn (d e : PyData) : Option PyData := (pyIn0 d e).map .bool
def pyNotIn (d e : PyData) : Option PyData := (pyIn0 d e).map fun b => .bool (!b)
theorem intsOf_fz {F : Hs} : ∀ {ds : List PyData} {vs : List V} {ns : List Int}, Fzs F vs ds → intsOf ds = some ns → vs = ns.map V.int
  | [], _, _, .nil, e => by cases e; rfl
  | d :: ds, _, _, .cons h t, e => by
    cases d with
    | int i =>
      cases h
      simp only [intsOf] at e
      cases e1 : intsOf ds with
      | none => rw [e1] at e; cases e
      | some ns =>
        rw [e1] at e
        cases e
        rw [intsOf_fz t e1]; rfl
    | _ => cases e
theorem flat_ints (ns : List Int) : (ns.map V.int).all flatV = true := by
  rw [List.all_eq_true]
  intro v hv
  obtain ⟨n, _, rfl⟩ := List.mem_map.mp hv
  rfl
theorem inV_ints (i : Int) (ns : List Int) : inV (.int i) (ns.map V.int) = ns.any fun n => n == i := by
  unfold inV
  rw [List.any_map]
  rfl
theorem in_any {neg : Bool} {f : Value → Value → Sem Value} (h : OpR X f (rIn X.K neg)) (h2 : OpR X f (fun x y H Q => ∃ d ds, Dp X.K H x d ∧ Dp X.K H y (.list ds) ∧ SeqAt.shaped d = true ∧ SeqAt.shaped (.list ds) = true ∧ Q (.bl (if neg then !(ds.any fun z => PyData.eqv z d) else (ds.any fun z => PyData.eqv z d))) H))
    (h3 : OpR X f (fun x y H Q => ∃ (c : Nat) (z : Str), x = .str ⟨#[c]⟩ ∧ y = .str z ∧ Q (.bl (if neg then !(decide (c ∈ z.cps.toList)) else decide (c ∈ z.cps.toList))) H)) :
    OpR X f (rD fun d e => (pyIn0 d e).map fun b => .bool (if neg then !b else b)) := OpR.imp (h.or (h2.or h3)) fun x y H Q ⟨F, d, e, w, l, zx, zy, ew, k⟩ => by
  obtain ⟨b, eb, rfl⟩ := Option.map_eq_some_iff.mp ew
  have kk := k F H _ (Grow.refl l) (.bl (if neg then !b else b))
  clear k ew
  cases e with
  | list ds =>
    have eb' : (if SeqAt.shaped d && SeqAt.shaped (.list ds) then some (ds.any fun z => PyData.eqv z d) else none) = some b := by
      cases d <;> exact eb
    by_cases hs : (SeqAt.shaped d && SeqAt.shaped (.list ds)) = true
    · rw [if_pos hs] at eb'
      obtain rfl := Option.some.inj eb'
      obtain ⟨h1, h2⟩ := Bool.and_eq_true_iff.mp hs
      exact .inr (.inl ⟨d, ds, Fz.dp l d x zx, Fz.dp l _ y zy, h1, h2, kk⟩)
    · rw [if_neg hs] at eb'
      cases eb'
  | tuple ds =>
    cases d with
    | int i =>
      cases zx
      cases zy with
      | @tup a vs _ hy ry =>
        have eb' : ((intsOf ds).map fun ns => ns.any fun n => n == i) = some b := eb
        obtain ⟨ns, en, rfl⟩ := Option.map_eq_some_iff.mp eb'
        have ev := intsOf_fz ry en
        subst ev
        refine .inl ⟨a, _, rfl, .inr (SqT.of (l _ _ hy)), rfl, flat_ints ns, ?_⟩
        rw [inV_ints]
        exact kk
    | _ => cases eb
  | str z =>
    cases d with
    | str x =>
      cases zx; cases zy
      obtain ⟨⟨xl⟩⟩ := x
      match xl, eb with
      | [c], eb =>
        have eb' : some (decide (c ∈ z.cps.toList)) = some b := eb
        obtain rfl := Option.some.inj eb'
        exact .inr (.inr ⟨c, z, rfl, rfl, kk⟩)
    | _ => cases eb
  | _ => cases d <;> cases eb
theorem or_in (hu : X.A.units + 65 < cLine) : OpR X (compareOp .In) (rD pyIn) := in_any (neg := false) op_in_seq (op_inD hu) op_in_sign
theorem or_notIn (hu : X.A.units + 65 < cLine) : OpR X (compareOp .NotIn) (rD pyNotIn) := in_any (neg := true) op_notIn_seq (op_notInD hu) op_notIn_sign
def pyIs0 : PyData → PyData → Option Bool
  | d, .none => some (match d with
    | .none => true
    | _ => false)
  | .bool a, .bool b => some (decide (a = b))
  | _, _ => none
def pyIs (d e : PyData) : Option PyData := (pyIs0 d e).map .bool
def pyIsNot (d e : PyData) : Option PyData := (pyIs0 d e).map fun b => .bool (!b)
theorem is_any {neg : Bool} {f : Value → Value → Sem Value} (h : OpR X f (fun x y H Q => y = .non ∧ Q (.bl (if neg then !decide (x = .non) else decide (x = .non))) H))
    (h2 : OpR X f (fun x y H Q => ∃ a b : Bool, x = .bl a ∧ y = .bl b ∧ Q (.bl (if neg then !decide (a = b) else decide (a = b))) H)) :
    OpR X f (rD fun d e => (pyIs0 d e).map fun b => .bool (if neg then !b else b)) := OpR.imp (h.or h2) fun x y H Q ⟨F, d, e, w, l, zx, zy, ew, k⟩ => by
  obtain ⟨b, eb, rfl⟩ := Option.map_eq_some_iff.mp ew
  have kk := k F H _ (Grow.refl l) (.bl (if neg then !b else b))
  clear k ew
  cases e with
  | none =>
    cases zy
    have e2 : decide (x = V.non) = b := by
      cases zx <;> exact Option.some.inj eb
    refine .inl ⟨rfl, ?_⟩
    rw [e2]
    exact kk
  | bool b2 =>
    cases d with
    | bool a =>
      cases zx; cases zy
      obtain rfl := Option.some.inj eb
      exact .inr ⟨a, b2, rfl, rfl, kk⟩
    | _ => cases eb
  | _ => cases d <;> cases eb
theorem or_is : OpR X (compareOp .Is) (rD pyIs) := is_any (neg := false) op_isN op_isBl
theorem or_isNot : OpR X (compareOp .IsNot) (rD pyIsNot) := is_any (neg := true) op_notN op_notBl
end

/-! ### in expressions and tests -/
def binE (g : PyData → PyData → Option PyData) (fa fb : S → Out D) : S → Out D := fun s => (fa s).bindP fun d s1 => (fb s1).bindP fun e s2 => Out.opt ((g d e).map .p) s2
def toB (f : S → Out D) : S → Out Bool := fun s => (f s).bindP fun d s1 => match d with
  | .bool b => .ok b s1
  | _ => .er
section
variable {C : Cn} {a b c : Expr} {fa fb fc : S → Out D} {pos : Pos} {g g' : PyData → PyData → Option PyData}
theorem rD_fin {σ : L2.St} {H : Hs} {s : S} {F : Hs} {A : List Addr} {Q : VK} {d e : PyData} {x y : V} (at_ : At C σ H s F A) (zx : Fz F x d) (zy : Fz F y e) (h : (pkD C σ Q).at (Out.opt ((g d e).map .p) s) F H A) : rD g x y H Q := by
  cases ew : g d e with
  | none => rw [ew] at h; exact h.elim
  | some w =>
    rw [ew] at h
    exact ⟨F, d, e, w, at_.g.fh, zx, zy, ew, fun F' H' z gr zz => pkD_g at_ gr zz h⟩
theorem ev_bin : EvD C (binE g fa fb) σ H Q → tOp (rD g) (EvD C fa) (EvD C fb) σ H Q := fun ⟨F, A, s, at0, h⟩ =>
  evD_bindP at0 h fun d s1 F1 H1 A1 v at1 _ z1 h1 => evD_bindP at1 h1 fun e s2 F2 H2 A2 u at2 t2 z2 h2 => rD_fin at2 (z1.to t2.ff) z2 h2
theorem ce_bin {op : Operator} (ho : OpR C.X (binaryOp op) (rD g)) (ha : CE C a fa) (hb : CE C b fb) : CE C (.BinOp a op b pos) (binE g fa fb) := ⟨PE.imp (pe_op ho ha.run hb.run) fun _ _ _ => ev_bin⟩
theorem ce_cmp {op : CmpOp} (ho : OpR C.X (compareOp op) (rD g)) (ha : CE C a fa) (hb : CE C b fb) (hm : behindInMarks op b = false) : CE C (.Compare a [op] [b] pos) (binE g fa fb) := ⟨PE.imp (pe_cmpR ho ha.run hb.run hm) fun _ _ _ => ev_bin⟩
theorem ev_test {f : S → Out D} {σ : L2.St} {H : Hs} {Q : Bool → Hs → Prop} : EvB C (toB f) σ H Q → ∀ t : TE, (∀ Q', EvD C f σ H Q' → t σ H Q') → t σ H (fun x H' => ∃ k, x = .bl k ∧ Q k H') := fun ⟨F, A, s, at0, h⟩ t i =>
  i _ (evD_bindP at0 h fun d s1 F1 H1 A1 v at1 _ z1 h1 => by
    cases d with
    | bool b =>
      cases z1
      exact ⟨b, rfl, h1 F1 H1 A1 at1.g.step at1.r⟩
    | _ => exact h1.elim)
theorem ct_cmp {op : CmpOp} (ho : OpR C.X (compareOp op) (rD g)) (ha : CE C a fa) (hb : CE C b fb) (hm : behindInMarks op b = false) : CT C (.Compare a [op] [b] pos) (toB (binE g fa fb)) :=
  ⟨PT.imp (pt_cmpR ho ha.run hb.run hm) fun σ H Q h => ev_test h (tOp (rD g) (EvD C fa) (EvD C fb)) fun _ => ev_bin⟩
/-- a < b < c -/
def chainE (g g' : PyData → PyData → Option PyData) (fa fb fc : S → Out D) : S → Out D := fun s => (fa s).bindP fun d s1 => (fb s1).bindP fun e s2 => match g d e with
  | some (.bool true) => (fc s2).bindP fun w s3 => Out.opt ((g' e w).map .p) s3
  | some (.bool false) => .ok (.p (.bool false)) s2
  | _ => .er
theorem ev_chain : EvD C (chainE g g' fa fb fc) σ H Q → tChain (rD g) (rD g') (EvD C fa) (EvD C fb) (EvD C fc) σ H Q := fun ⟨F, A, s, at0, h⟩ =>
  evD_bindP at0 h fun d s1 F1 H1 A1 v at1 _ z1 h1 => evD_bindP at1 h1 fun e s2 F2 H2 A2 u at2 t2 z2 h2 => by
    cases ew : g d e with
    | none => rw [ew] at h2; exact h2.elim
    | some w =>
      rw [ew] at h2
      refine ⟨F2, d, e, w, at2.g.fh, z1.to t2.ff, z2, ew, fun F' H' z gr zz => ?_⟩
      cases w with
      | bool k =>
        cases zz
        have at3 := at2.grown gr
        cases k with
        | true =>
          refine ⟨true, rfl, ?_⟩
          rw [if_pos rfl]
          have h3 := PK.atm at2.g (at2.grow gr) h2
          exact evD_bindP at3 h3 fun w s4 F4 H4 A4 x at4 t4 z4 h4 => rD_fin at4 (z2.to (gr.ff.trans t4.ff)) z4 h4
        | false =>
          refine ⟨false, rfl, ?_⟩
          rw [if_neg Bool.false_ne_true]
          exact pkD_g at2 gr (.bl false) h2
      | _ => exact h2.elim
theorem ce_chain {op op' : CmpOp} (ho : OpR C.X (compareOp op) (rD g)) (ho' : OpR C.X (compareOp op') (rD g')) (ha : CE C a fa) (hb : CE C b fb) (hc : CE C c fc) (hm : lastMarks [op, op'] [b, c] = false := by with_unfolding_all rfl) :
    CE C (.Compare a [op, op'] [b, c] pos) (chainE g g' fa fb fc) := ⟨PE.imp (pe_chain ho ho' ha.run hb.run hc.run hm) fun _ _ _ => ev_chain⟩
theorem ct_chain {op op' : CmpOp} (ho : OpR C.X (compareOp op) (rD g)) (ho' : OpR C.X (compareOp op') (rD g')) (ha : CE C a fa) (hb : CE C b fb) (hc : CE C c fc) (hm : lastMarks [op, op'] [b, c] = false := by with_unfolding_all rfl) :
    CT C (.Compare a [op, op'] [b, c] pos) (toB (chainE g g' fa fb fc)) := ⟨PT.imp (pt_chain ho ho' ha.run hb.run hc.run hm) fun σ H Q h => ev_test h (tChain (rD g) (rD g') (EvD C fa) (EvD C fb) (EvD C fc)) fun _ => ev_chain⟩
/-- a value that is a bool, as a test -/
theorem ct_val {e : Expr} {f : S → Out D} (h : CE C e f) (he : ∀ whole, isTrue e C.X.env whole = (do let v ← whole; standAt e.pos; holding [v] (truthy v)) := by intro _; rfl) : CT C e (toB f) :=
  ⟨PT.imp (pt_val h.run he) fun σ H Q q => ev_test q (EvD C f) fun _ => id⟩

/-! ### and, or, not, if else -/
variable {ta tb : S → Out Bool}
def andB (ta tb : S → Out Bool) : S → Out Bool := fun s => (ta s).bind fun k s1 => if k = true then tb s1 else .ok false s1
def orB (ta tb : S → Out Bool) : S → Out Bool := fun s => (ta s).bind fun k s1 => if k = true then .ok true s1 else tb s1
def notB (ta : S → Out Bool) : S → Out Bool := fun s => (ta s).bind fun k s1 => .ok (!k) s1
structure CW (C : Cn) (e : Expr) (f : S → Out Bool) : Prop where
  run : PW C.X e (EvB C f)
variable {rest : List Expr}
theorem CW.ct (h : CW C e f) : CT C e f := ⟨h.run.pt⟩
theorem cw_and1 (ha : CT C a ta) : CW C (.BoolOp .And [a] pos) ta := ⟨pw_and1 ha.run⟩
theorem cw_or1 (ha : CT C a ta) : CW C (.BoolOp .Or [a] pos) ta := ⟨pw_or1 ha.run⟩
theorem evB_here {t : S → Out Bool} {σ : L2.St} {H : Hs} {s : S} {F : Hs} {A : List Addr} {Q : Bool → Hs → Prop} (a : At C σ H s F A) (h : (pkB C σ Q).at (t s) F H A) : EvB C t σ H Q := ⟨F, A, s, a, h⟩
theorem evD_here {t : S → Out D} {σ : L2.St} {H : Hs} {s : S} {F : Hs} {A : List Addr} {Q : VK} (a : At C σ H s F A) (h : (pkD C σ Q).at (t s) F H A) : EvD C t σ H Q := ⟨F, A, s, a, h⟩
theorem cw_and (ha : CT C a ta) (hb : CW C (.BoolOp .And (b :: rest) pos) tb) : CW C (.BoolOp .And (a :: b :: rest) pos) (andB ta tb) := ⟨PW.imp (pw_and ha.run hb.run) fun σ H Q ⟨F, A, s, at0, h⟩ =>
  evB_bind at0 h fun k s1 F1 H1 A1 at1 _ h1 => by
    cases k with
    | true => exact evB_here at1 h1
    | false => exact h1 F1 H1 A1 at1.g.step at1.r⟩
theorem cw_or (ha : CT C a ta) (hb : CW C (.BoolOp .Or (b :: rest) pos) tb) : CW C (.BoolOp .Or (a :: b :: rest) pos) (orB ta tb) := ⟨PW.imp (pw_or ha.run hb.run) fun σ H Q ⟨F, A, s, at0, h⟩ =>
  evB_bind at0 h fun k s1 F1 H1 A1 at1 _ h1 => by
    cases k with
    | false => exact evB_here at1 h1
    | true => exact h1 F1 H1 A1 at1.g.step at1.r⟩
theorem ct_not (ha : CT C a ta) : CT C (.UnaryOp .Not a pos) (notB ta) := ⟨PT.imp (pt_not ha.run) fun σ H Q ⟨F, A, s, at0, h⟩ =>
  evB_bind at0 h fun k s1 F1 H1 A1 at1 _ h1 => h1 F1 H1 A1 at1.g.step at1.r⟩
def ifE (t : S → Out Bool) (fa fb : S → Out D) : S → Out D := fun s => (t s).bind fun k s1 => if k = true then fa s1 else fb s1
theorem ce_if (hc : CT C c ta) (ha : CE C a fa) (hb : CE C b fb) : CE C (.IfExp c a b pos) (ifE ta fa fb) := ⟨PE.imp (pe_ifExp hc.run ha.run hb.run) fun σ H Q ⟨F, A, s, at0, h⟩ =>
  evB_bind at0 h fun k s1 F1 H1 A1 at1 _ h1 => by
    cases k with
    | true => exact evD_here at1 h1
    | false => exact evD_here at1 h1⟩
/-- as values: bools -/
def ofB (t : S → Out Bool) : S → Out D := fun s => (t s).bind fun k s1 => .ok (.p (.bool k)) s1
def andE (fa fb : S → Out D) : S → Out D := fun s => (fa s).bindP fun d s1 => match d with
  | .bool true => fb s1
  | .bool false => .ok (.p (.bool false)) s1
  | _ => .er
def orE (fa fb : S → Out D) : S → Out D := fun s => (fa s).bindP fun d s1 => match d with
  | .bool false => fb s1
  | .bool true => .ok (.p (.bool true)) s1
  | _ => .er
def notE (fa : S → Out D) : S → Out D := fun s => (fa s).bindP fun d s1 => match d with
  | .bool k => .ok (.p (.bool (!k))) s1
  | _ => .er
theorem ce_one {op : BoolOp} (h : CE C a fa) : CE C (.BoolOp op [a] pos) fa := ⟨pe_one h.run⟩
theorem ce_and (ha : CE C a fa) (hb : CE C (.BoolOp .And (b :: rest) pos) fb) : CE C (.BoolOp .And (a :: b :: rest) pos) (andE fa fb) := ⟨PE.imp (pe_and ha.run hb.run) fun σ H Q ⟨F, A, s, at0, h⟩ =>
  evD_bindP at0 h fun d s1 F1 H1 A1 v at1 _ z1 h1 => by
    cases d with
    | bool k =>
      cases z1
      refine ⟨k, rfl, ?_⟩
      cases k with
      | true => exact evD_here at1 h1
      | false => exact pkD_p at1 (.bl false) h1
    | _ => exact h1.elim⟩
theorem ce_or (ha : CE C a fa) (hb : CE C (.BoolOp .Or (b :: rest) pos) fb) : CE C (.BoolOp .Or (a :: b :: rest) pos) (orE fa fb) := ⟨PE.imp (pe_or ha.run hb.run) fun σ H Q ⟨F, A, s, at0, h⟩ =>
  evD_bindP at0 h fun d s1 F1 H1 A1 v at1 _ z1 h1 => by
    cases d with
    | bool k =>
      cases z1
      refine ⟨k, rfl, ?_⟩
      cases k with
      | false => exact evD_here at1 h1
      | true => exact pkD_p at1 (.bl true) h1
    | _ => exact h1.elim⟩
theorem ce_not (ha : CE C a fa) : CE C (.UnaryOp .Not a pos) (notE fa) := ⟨PE.imp (pe_not ha.run) fun σ H Q ⟨F, A, s, at0, h⟩ =>
  evD_bindP at0 h fun d s1 F1 H1 A1 v at1 _ z1 h1 => by
    cases d with
    | bool k =>
      cases z1
      exact ⟨k, rfl, pkD_p at1 (.bl _) h1⟩
    | _ => exact h1.elim⟩
def negE (fa : S → Out D) : S → Out D := fun s => (fa s).bindP fun d s1 => match d with
  | .int i => .ok (.p (.int (-i))) s1
  | _ => .er
theorem ce_neg (ha : CE C a fa) : CE C (.UnaryOp .USub a pos) (negE fa) := ⟨PE.imp (pe_un un_neg ha.run) fun σ H Q ⟨F, A, s, at0, h⟩ =>
  evD_bindP at0 h fun d s1 F1 H1 A1 v at1 _ z1 h1 => by
    cases d with
    | int i =>
      cases z1
      exact ⟨i, rfl, pkD_p at1 (.int _) h1⟩
    | _ => exact h1.elim⟩
end
end Dl

set_option Elab.async false
set_option linter.all false
set_option maxRecDepth 100000
set_option maxHeartbeats 4000000
namespace Dl
open PySem PySem.Spec PyProof.Rows L2

/-! ### argument lists -/
def argsE : List (S → Out D) → S → Out (List PyData)
  | [], s => .ok [] s
  | f :: fs, s => (f s).bindP fun d s1 => (argsE fs s1).bind fun ds s2 => .ok (d :: ds) s2
theorem bindP_ok {β : Type} {o : Out D} {k : PyData → S → Out β} {b : β} {s : S} (h : o.bindP k = .ok b s) : ∃ d s1, o = .ok (.p d) s1 ∧ k d s1 = .ok b s := by
  cases o with
  | ok d s1 => cases d with
    | p d => exact ⟨d, s1, rfl, h⟩
    | _ => cases h
  | ex c s1 => cases h
  | er => cases h
theorem bind_ok {α β : Type} {o : Out α} {k : α → S → Out β} {b : β} {s : S} (h : o.bind k = .ok b s) : ∃ d s1, o = .ok d s1 ∧ k d s1 = .ok b s := by
  cases o with
  | ok d s1 => exact ⟨d, s1, rfl, h⟩
  | ex c s1 => cases h
  | er => cases h
theorem argsE_len : ∀ {fs : List (S → Out D)} {s s' : S} {ds : List PyData}, argsE fs s = .ok ds s' → ds.length = fs.length
  | [], s, s', ds, h => by cases h; rfl
  | f :: fs, s, s', ds, h => by
    obtain ⟨d, s1, _, h⟩ := bindP_ok h
    obtain ⟨es, s2, h1, h⟩ := bind_ok h
    cases h
    exact congrArg Nat.succ (argsE_len h1)
section
variable {C : Cn} {e : Expr} {es : List Expr} {f : S → Out D} {fs : List (S → Out D)} {pos : Pos}
theorem evL_here {t : S → Out (List PyData)} {σ : L2.St} {H : Hs} {s : S} {F : Hs} {A : List Addr} {Q : List V → Hs → Prop} (a : At C σ H s F A) (h : (pkL C σ Q).at (t s) F H A) : EvL C t σ H Q := ⟨F, A, s, a, h⟩
theorem ca_nil : CA C [] (argsE []) := ⟨PA.imp pa_nil fun σ H Q ⟨F, A, s, a, h⟩ => h F H A [] a.g.step a.r .nil⟩
theorem ca_cons (he : CE C e f) (hr : CA C es (argsE fs)) (hs : starEach (e :: es) C.X.env = (false, eval e C.X.env) :: starEach es C.X.env := by rfl) : CA C (e :: es) (argsE (f :: fs)) :=
  ⟨PA.imp (pa_cons he.run hr.run hs) fun σ H Q ⟨F, A, s, at0, h⟩ => evD_bindP at0 h fun d s1 F1 H1 A1 v at1 _ z1 h1 => evL_bind at1 h1 fun ds s2 F2 H2 A2 vs at2 t2 z2 h2 =>
    h2 F2 H2 A2 (v :: vs) at2.g.step at2.r (.cons (z1.to t2.ff) z2)⟩

/-! ### built-ins by values -/
def rC (g : List PyData → Option PyData) : List V → Hs → VK → Prop := fun vs H Q => ∃ F ds w, Le F H ∧ Fzs F vs ds ∧ g ds = some w ∧ ∀ F' H' z, Grow F H F' H' → Fz F' z w → Q z H'
def callE (g : List PyData → Option PyData) (fa : S → Out (List PyData)) : S → Out D := fun s => (fa s).bind fun ds s1 => Out.opt ((g ds).map .p) s1
theorem CallR.imp {X : Cx} {f : Value} {r r' : List V → Hs → VK → Prop} (h : CallR X f r) (i : ∀ xs H Q, r' xs H Q → r xs H Q) : CallR X f r' := fun pins s σ H xs us Q I rv q => h pins s σ H xs us Q I rv (i xs H Q q)
variable {g : List PyData → Option PyData} {fa : S → Out (List PyData)}
theorem ev_callB : EvD C (callE g fa) σ H Q → tCB (rC g) (EvL C fa) σ H Q := fun ⟨F, A, s, at0, h⟩ => evL_bind at0 h fun ds s1 F1 H1 A1 vs at1 _ z1 h1 => by
  cases ew : g ds with
  | none => rw [ew] at h1; exact h1.elim
  | some w =>
    rw [ew] at h1
    exact ⟨F1, ds, w, at1.g.fh, z1, ew, fun F' H' z gr zz => pkD_g at1 gr zz h1⟩
theorem ce_callB {x : Str} {p : Pos} {id : String} (hc : CallR C.X (.builtin id) (rC g)) (hg : Gl C.X x) (hm : C.X.mg x = none) (hv : bootBuiltins x = some (.builtin id)) (ha : CA C (e :: es) fa) (hn : x ≠ "__name__" := by decide) (hdb : (x == ("__debug__" : Str)) = false := by decide)
    (he : starEach (e :: es) C.X.env = (false, eval e C.X.env) :: starEach es C.X.env := by rfl) (hpl : (backTo pos (starEach es C.X.env)).any (·.1) = false := by rfl) : CE C (.Call (.Name x p) (e :: es) [] pos) (callE g fa) :=
  ⟨PE.imp (pe_callB hc hg hm hv ha.run hn hdb he hpl) fun _ _ _ => ev_callB⟩
theorem ce_callTy {x : Str} {p : Pos} {T : String} (hc : CallR C.X (.type T) (rC g)) (hg : Gl C.X x) (hm : C.X.mg x = none) (hv : bootBuiltins x = some (.type T)) (ha : CA C (e :: es) fa) (hn : x ≠ "__name__" := by decide) (hdb : (x == ("__debug__" : Str)) = false := by decide)
    (he : starEach (e :: es) C.X.env = (false, eval e C.X.env) :: starEach es C.X.env := by rfl) (hpl : (backTo pos (starEach es C.X.env)).any (·.1) = false := by rfl) : CE C (.Call (.Name x p) (e :: es) [] pos) (callE g fa) :=
  ⟨PE.imp (pe_callTy hc hg hm hv ha.run hn hdb he hpl) fun _ _ _ => ev_callB⟩
end

def pyLen : List PyData → Option PyData
  | [.list xs] => some (.int xs.length)
  | [.tuple xs] => some (.int xs.length)
  | [.str x] => if x.length ≤ cap then some (.int x.length) else none
  | _ => none
def boolsOf : List PyData → Option (List Bool)
  | [] => some []
  | .bool b :: ds => (boolsOf ds).map (b :: ·)
  | _ :: _ => none
def pySum : List PyData → Option PyData
  | [.list xs] => (intsOf xs).map fun ns => .int ns.sum
  | _ => none
def pyAll : List PyData → Option PyData
  | [.list xs] => (boolsOf xs).map fun bs => .bool (bs.all id)
  | _ => none
def pyAny : List PyData → Option PyData
  | [.list xs] => (boolsOf xs).map fun bs => .bool (bs.any id)
  | _ => none
def maxI : List Int → Option Int
  | [] => none
  | n :: ns => some (ns.foldl max n)
def minI : List Int → Option Int
  | [] => none
  | n :: ns => some (ns.foldl min n)
def pyMax : List PyData → Option PyData
  | [.list xs] => (intsOf xs).bind fun ns => (maxI ns).map .int
  | [.int i, .int j] => some (.int (max i j))
  | _ => none
def pyMin : List PyData → Option PyData
  | [.list xs] => (intsOf xs).bind fun ns => (minI ns).map .int
  | [.int i, .int j] => some (.int (min i j))
  | _ => none
def pyTuple : List PyData → Option PyData
  | [.list xs] => some (.tuple xs)
  | [.tuple xs] => some (.tuple xs)
  | _ => none
def pyList : List PyData → Option PyData
  | [.list xs] => some (.list xs)
  | [.tuple xs] => some (.list xs)
  | _ => none
theorem boolsOf_fz {F : Hs} : ∀ {ds : List PyData} {vs : List V} {ns : List Bool}, Fzs F vs ds → boolsOf ds = some ns → vs = ns.map V.bl
  | [], _, _, .nil, e => by cases e; rfl
  | d :: ds, _, _, .cons h t, e => by
    cases d with
    | bool i =>
      cases h
      simp only [boolsOf] at e
      cases e1 : boolsOf ds with
      | none => rw [e1] at e; cases e
      | some ns =>
        rw [e1] at e
        cases e
        rw [boolsOf_fz t e1]; rfl
    | _ => cases e
theorem foldl_max_mem : ∀ (ns : List Int) (n : Int), ns.foldl max n ∈ n :: ns ∧ ∀ y ∈ n :: ns, y ≤ ns.foldl max n
  | [], n => by simp
  | m :: ns, n => by
    obtain ⟨h1, h2⟩ := foldl_max_mem ns (max n m)
    have e : (m :: ns).foldl max n = ns.foldl max (max n m) := rfl
    rw [e]
    constructor
    · rcases List.mem_cons.mp h1 with h1 | h1
      · rw [h1]
        rcases Int.le_total n m with q | q
        · rw [Int.max_eq_right q]; simp
        · rw [Int.max_eq_left q]; simp
      · exact List.mem_cons_of_mem _ (List.mem_cons_of_mem _ h1)
    · intro y hy
      have h3 := h2 (max n m) (by simp)
      rcases List.mem_cons.mp hy with hy | hy
      · subst hy; exact Int.le_trans (Int.le_max_left _ _) h3
      · rcases List.mem_cons.mp hy with hy | hy
        · subst hy; exact Int.le_trans (Int.le_max_right _ _) h3
        · exact h2 y (List.mem_cons_of_mem _ hy)
theorem foldl_min_mem : ∀ (ns : List Int) (n : Int), ns.foldl min n ∈ n :: ns ∧ ∀ y ∈ n :: ns, ns.foldl min n ≤ y
  | [], n => by simp
  | m :: ns, n => by
    obtain ⟨h1, h2⟩ := foldl_min_mem ns (min n m)
    have e : (m :: ns).foldl min n = ns.foldl min (min n m) := rfl
    rw [e]
    constructor
    · rcases List.mem_cons.mp h1 with h1 | h1
      · rw [h1]
        rcases Int.le_total n m with q | q
        · rw [Int.min_eq_left q]; simp
        · rw [Int.min_eq_right q]; simp
      · exact List.mem_cons_of_mem _ (List.mem_cons_of_mem _ h1)
    · intro y hy
      have h3 := h2 (min n m) (by simp)
      rcases List.mem_cons.mp hy with hy | hy
      · subst hy; exact Int.le_trans h3 (Int.min_le_left _ _)
      · rcases List.mem_cons.mp hy with hy | hy
        · subst hy; exact Int.le_trans h3 (Int.min_le_right _ _)
        · exact h2 y (List.mem_cons_of_mem _ hy)
section
variable {X : Cx}
theorem cr_len : CallR X (.builtin "len") (rC pyLen) := CallR.imp (call_len_seq.or call_len_str) fun xs H Q ⟨F, ds, w, l, z, ew, k⟩ => by
  match ds, z, ew with
  | [.list ys], .cons (@Fz.lst _ a vs _ hx rx) .nil, ew =>
    obtain rfl := Option.some.inj ew
    refine .inl ⟨a, vs, rfl, .inl (SqL.of (l _ _ hx)), ?_⟩
    rw [rx.length]
    exact k F H _ (Grow.refl l) (.int _)
  | [.tuple ys], .cons (@Fz.tup _ a vs _ hx rx) .nil, ew =>
    obtain rfl := Option.some.inj ew
    refine .inl ⟨a, vs, rfl, .inr (SqT.of (l _ _ hx)), ?_⟩
    rw [rx.length]
    exact k F H _ (Grow.refl l) (.int _)
  | [.str x], .cons (.str _) .nil, ew =>
    have ew' : (if x.length ≤ cap then some (PyData.int x.length) else none) = some w := ew
    by_cases hx : x.length ≤ cap
    · rw [if_pos hx] at ew'
      obtain rfl := Option.some.inj ew'
      exact .inr ⟨x, rfl, cap_le hx, k F H _ (Grow.refl l) (.int _)⟩
    · rw [if_neg hx] at ew'; cases ew'
theorem crd_sum (hc : X.calm = true) : CallR X (.builtin "sum") (rC pySum) := CallR.imp (cr_sum hc) fun xs H Q ⟨F, ds, w, l, z, ew, k⟩ => by
  match ds, z, ew with
  | [.list ys], .cons (@Fz.lst _ a vs _ hx rx) .nil, ew =>
    obtain ⟨ns, e1, rfl⟩ := Option.map_eq_some_iff.mp ew
    have ev := intsOf_fz rx e1
    subst ev
    exact ⟨a, ns, rfl, SqL.of (l _ _ hx), k F H _ (Grow.refl l) (.int _)⟩
theorem crd_all (hc : X.calm = true) : CallR X (.builtin "all") (rC pyAll) := CallR.imp (cr_all hc) fun xs H Q ⟨F, ds, w, l, z, ew, k⟩ => by
  match ds, z, ew with
  | [.list ys], .cons (@Fz.lst _ a vs _ hx rx) .nil, ew =>
    obtain ⟨ns, e1, rfl⟩ := Option.map_eq_some_iff.mp ew
    have ev := boolsOf_fz rx e1
    subst ev
    exact ⟨a, ns, rfl, SqL.of (l _ _ hx), k F H _ (Grow.refl l) (.bl _)⟩
theorem crd_any (hc : X.calm = true) : CallR X (.builtin "any") (rC pyAny) := CallR.imp (cr_any hc) fun xs H Q ⟨F, ds, w, l, z, ew, k⟩ => by
  match ds, z, ew with
  | [.list ys], .cons (@Fz.lst _ a vs _ hx rx) .nil, ew =>
    obtain ⟨ns, e1, rfl⟩ := Option.map_eq_some_iff.mp ew
    have ev := boolsOf_fz rx e1
    subst ev
    exact ⟨a, ns, rfl, SqL.of (l _ _ hx), k F H _ (Grow.refl l) (.bl _)⟩
theorem crd_max (hc : X.calm = true) : CallR X (.builtin "max") (rC pyMax) := CallR.imp ((cr_max hc).or (call_max2 hc)) fun xs H Q ⟨F, ds, w, l, z, ew, k⟩ => by
  match ds, z, ew with
  | [.list ys], .cons (@Fz.lst _ a vs _ hx rx) .nil, ew =>
    obtain ⟨ns, e1, e2⟩ := Option.bind_eq_some_iff.mp ew
    obtain ⟨m, e3, rfl⟩ := Option.map_eq_some_iff.mp e2
    have ev := intsOf_fz rx e1
    subst ev
    cases ns with
    | nil => cases e3
    | cons n ns =>
      obtain rfl := Option.some.inj e3
      obtain ⟨h1, h2⟩ := foldl_max_mem ns n
      refine .inl ⟨a, n :: ns, rfl, SqL.of (l _ _ hx), by simp, fun m hm hy => ?_⟩
      have : m = ns.foldl max n := Int.le_antisymm (h2 m hm) (hy _ h1)
      rw [this]
      exact k F H _ (Grow.refl l) (.int _)
  | [.int i, .int j], .cons (.int _) (.cons (.int _) .nil), ew =>
    obtain rfl := Option.some.inj ew
    refine .inr ⟨i, j, rfl, ?_⟩
    have : (if j > i then j else i) = max i j := by
      by_cases q : j > i
      · rw [if_pos q, Int.max_eq_right (by omega)]
      · rw [if_neg q, Int.max_eq_left (by omega)]
    rw [this]
    exact k F H _ (Grow.refl l) (.int _)
theorem crd_min (hc : X.calm = true) : CallR X (.builtin "min") (rC pyMin) := CallR.imp ((cr_min hc).or (call_min2 hc)) fun xs H Q ⟨F, ds, w, l, z, ew, k⟩ => by
  match ds, z, ew with
  | [.list ys], .cons (@Fz.lst _ a vs _ hx rx) .nil, ew =>
    obtain ⟨ns, e1, e2⟩ := Option.bind_eq_some_iff.mp ew
    obtain ⟨m, e3, rfl⟩ := Option.map_eq_some_iff.mp e2
    have ev := intsOf_fz rx e1
    subst ev
    cases ns with
    | nil => cases e3
    | cons n ns =>
      obtain rfl := Option.some.inj e3
      obtain ⟨h1, h2⟩ := foldl_min_mem ns n
      refine .inl ⟨a, n :: ns, rfl, SqL.of (l _ _ hx), by simp, fun m hm hy => ?_⟩
      have : m = ns.foldl min n := Int.le_antisymm (hy _ h1) (h2 m hm)
      rw [this]
      exact k F H _ (Grow.refl l) (.int _)
  | [.int i, .int j], .cons (.int _) (.cons (.int _) .nil), ew =>
    obtain rfl := Option.some.inj ew
    refine .inr ⟨i, j, rfl, ?_⟩
    have : (if j < i then j else i) = min i j := by
      by_cases q : j < i
      · rw [if_pos q, Int.min_eq_right (by omega)]
      · rw [if_neg q, Int.min_eq_left (by omega)]
    rw [this]
    exact k F H _ (Grow.refl l) (.int _)
theorem crd_tuple : CallR X (.type "tuple") (rC pyTuple) := CallR.imp call_tuple_of fun xs H Q ⟨F, ds, w, l, z, ew, k⟩ => by
  match ds, z, ew with
  | [.list ys], .cons (@Fz.lst _ a vs _ hx rx) .nil, ew =>
    obtain rfl := Option.some.inj ew
    exact ⟨a, vs, rfl, .inl ⟨SqL.of (l _ _ hx), fun p hp => k _ _ _ (Grow.new l hp) (.tup upd_same (rx.to (Le.new (l.nn hp))))⟩⟩
  | [.tuple ys], .cons (@Fz.tup _ a vs _ hx rx) .nil, ew =>
    obtain rfl := Option.some.inj ew
    exact ⟨a, vs, rfl, .inr ⟨SqT.of (l _ _ hx), k F H _ (Grow.refl l) (.tup hx rx)⟩⟩
theorem crd_list : CallR X (.type "list") (rC pyList) := CallR.imp call_list_of fun xs H Q ⟨F, ds, w, l, z, ew, k⟩ => by
  match ds, z, ew with
  | [.list ys], .cons (@Fz.lst _ a vs _ hx rx) .nil, ew =>
    obtain rfl := Option.some.inj ew
    exact ⟨a, vs, rfl, .inl (SqL.of (l _ _ hx)), fun p hp => k _ _ _ (Grow.new l hp) (.lst upd_same (rx.to (Le.new (l.nn hp))))⟩
  | [.tuple ys], .cons (@Fz.tup _ a vs _ hx rx) .nil, ew =>
    obtain rfl := Option.some.inj ew
    exact ⟨a, vs, rfl, .inr (SqT.of (l _ _ hx)), fun p hp => k _ _ _ (Grow.new l hp) (.lst upd_same (rx.to (Le.new (l.nn hp))))⟩
end
inductive Ty5 where
  | int | bool | tuple | list | str
def Ty5.nm : Ty5 → String
  | .int => "int"
  | .bool => "bool"
  | .tuple => "tuple"
  | .list => "list"
  | .str => "str"
def isI : Ty5 → PyData → Bool
  | .int, .int _ => true
  | .int, .bool _ => true
  | .bool, .bool _ => true
  | .tuple, .tuple _ => true
  | .list, .list _ => true
  | .str, .str _ => true
  | _, _ => false
def tyN : PyData → String
  | .none => "NoneType"
  | .bool _ => "bool"
  | .int _ => "int"
  | .str _ => "str"
  | .list _ => "list"
  | .tuple _ => "tuple"
  | .dict _ => "dict"
theorem kit_all : (["NoneType", "bool", "int", "str", "list", "tuple"].all fun a => ["int", "bool", "tuple", "list", "str"].all fun b => kitB a b == some (decide (a = b) || decide (a = "bool" ∧ b = "int"))) = true := by decide +kernel
theorem kit_isI (T : Ty5) (d : PyData) (h : ∀ kvs, d ≠ .dict kvs) : kitB (tyN d) T.nm = some (isI T d) := by
  have key : ∀ a ∈ ["NoneType", "bool", "int", "str", "list", "tuple"], ∀ b ∈ ["int", "bool", "tuple", "list", "str"], kitB a b = some (decide (a = b) || decide (a = "bool" ∧ b = "int")) := fun a ha b hb => by
    have h1 := List.all_eq_true.mp (List.all_eq_true.mp kit_all a ha) b hb
    exact beq_iff_eq.mp h1
  cases d with
  | dict kvs => exact absurd rfl (h kvs)
  | _ => cases T <;> exact key _ (by simp [tyN]) _ (by simp [Ty5.nm])
theorem Fz.ty {K : PySem.W.Frag} {F H : Hs} {v : V} {d : PyData} (l : Le F H) (z : Fz F v d) : TyX K H v (.type (tyN d)) := by
  cases z with
  | non => exact .base .non
  | bl b => exact .base (.bl b)
  | int i => exact .base (.int i)
  | str x => exact .base (.str x)
  | lst h _ => exact .base (.lst (l _ _ h))
  | tup h _ => exact .base (.tup (l _ _ h))
def isE (T : Ty5) (fa : S → Out D) : S → Out D := fun s => (fa s).bindP fun d s1 => .ok (.p (.bool (isI T d))) s1
section
variable {C : Cn} {e b : Expr} {f fb : S → Out D} {pos : Pos}
theorem boot_ty5 (T : Ty5) : bootBuiltins (PySem.Str.ofString T.nm) = some (.type T.nm) := by cases T <;> decide +kernel
theorem ce_isinst (T : Ty5) {x : Str} {p p2 : Pos} (he : CE C e f) (hg : Gl C.X "isinstance") (hm : C.X.mg "isinstance" = none) (hg2 : Gl C.X x) (hm2 : C.X.mg x = none) (hx : bootBuiltins x = some (.type T.nm)) (hn2 : x ≠ "__name__" := by decide) (hdb2 : (x == ("__debug__" : Str)) = false := by decide)
    (hs1 : starEach (e :: [.Name x p2]) C.X.env = (false, eval e C.X.env) :: starEach [.Name x p2] C.X.env := by rfl) (hs2 : starEach (.Name x p2 :: []) C.X.env = (false, eval (.Name x p2) C.X.env) :: starEach [] C.X.env := by rfl)
    (hpl : (backTo pos (starEach [.Name x p2] C.X.env)).any (·.1) = false := by rfl) : CE C (.Call (.Name "isinstance" p) [e, .Name x p2] [] pos) (isE T f) :=
  ⟨PE.imp (pe_callB call_isi hg hm boot_isinstance (pa_cons he.run (pa_cons (pe_bltn hg2 hm2 hx (v := .ty T.nm) rfl hn2 hdb2) pa_nil hs2) hs1) (he := hs1) (hpl := hpl)) fun σ H Q ⟨F, A, s, at0, h⟩ =>
    evD_bindP at0 h fun d s1 F1 H1 A1 v at1 _ z1 h1 => ⟨v, .ty T.nm, _, _, isI T d, rfl, .ty _, z1.ty at1.g.fh, kit_ty (kit_isI T d fun kvs e => by subst e; cases z1), pkD_p at1 (.bl _) h1⟩⟩

/-! ### displays that never change -/
variable {es : List Expr} {fs : List (S → Out D)}
def tupE (fs : List (S → Out D)) : S → Out D := fun s => (argsE fs s).bind fun ds s1 => .ok (.p (.tuple ds)) s1
def lstE (fs : List (S → Out D)) : S → Out D := fun s => (argsE fs s).bind fun ds s1 => .ok (.p (.list ds)) s1
theorem evL_bindE {σ : L2.St} {β : Type} {k : PK C σ β} {H : Hs} {s : S} {F : Hs} {A : List Addr} {kk : List PyData → S → Out β} {Q1 : List V → Hs → Prop} (a : At C σ H s F A) (h : k.at ((argsE fs s).bind kk) F H A)
    (cont : ∀ ds s1 F1 H1 A1 vs, ds.length = fs.length → At C σ H1 s1 F1 A1 → Step F H A F1 H1 A1 → Fzs F1 vs ds → k.at (kk ds s1) F1 H1 A1 → Q1 vs H1) : EvL C (argsE fs) σ H Q1 := by
  refine ⟨F, A, s, a, ?_⟩
  cases e : argsE fs s with
  | ok d s1 =>
    rw [e] at h
    intro F' H' A' vs t r q
    exact cont d s1 F' H' A' vs (argsE_len e) ⟨t.good, r⟩ t q (PK.atm a.g t h)
  | ex c s1 =>
    rw [e] at h
    exact k.exw h
  | er =>
    rw [e] at h
    exact h.elim
theorem ce_tup {x1} (ha : CA C es (argsE fs)) (hl : fs.length ≤ cap := by decide) : CE C (.Tuple es x1 pos) (tupE fs) := ⟨PE.imp (pe_tup ha.run) fun σ H Q ⟨F, A, s, at0, h⟩ =>
  evL_bindE at0 h fun ds s1 F1 H1 A1 vs hd at1 _ z1 h1 => ⟨by rw [z1.length, hd]; exact cap_le hl, fun p hp => pkD_g at1 (Grow.new at1.g.fh hp) (.tup upd_same (z1.to (Le.new (at1.g.fh.nn hp)))) h1⟩⟩
theorem ce_lst (ha : CA C es (argsE fs)) (hl : fs.length ≤ cap := by decide) : CE C (.List es pos) (lstE fs) := ⟨PE.imp (pe_lst ha.run) fun σ H Q ⟨F, A, s, at0, h⟩ =>
  evL_bindE at0 h fun ds s1 F1 H1 A1 vs hd at1 _ z1 h1 => ⟨by rw [z1.length, hd]; exact cap_le hl, fun p hp => pkD_g at1 (Grow.new at1.g.fh hp) (.lst upd_same (z1.to (Le.new (at1.g.fh.nn hp)))) h1⟩⟩

/-! ### subscripts and slices -/
def pyItem : PyData → PyData → Option PyData
  | .list ds, .int i => atI ds i
  | .tuple ds, .int i => atI ds i
  | .str x, .int i => if x.length ≤ cap then (atI x.cps.toList i).map fun c => .str ⟨#[c]⟩ else none
  | _, _ => none
theorem Fzs.at {F : Hs} {vs : List V} {ds : List PyData} {i : Int} {d : PyData} (h : Fzs F vs ds) (e : atI ds i = some d) : ∃ v, atI vs i = some v ∧ Fz F v d := by
  unfold atI at e ⊢
  rw [h.length]
  cases q : ixN ds.length i with
  | none => rw [q] at e; cases e
  | some j =>
    rw [q] at e
    exact h.get e
theorem IxR.imp {X : Cx} {r r' : R2} (h : IxR X r) (i : ∀ x y H Q, r' x y H Q → r x y H Q) : IxR X r' := fun v sl pins s σ H x y u w Q I rx ry q hs => h v sl pins s σ H x y u w Q I rx ry (i x y H Q q) hs
theorem ixr_item {X : Cx} : IxR X (rD pyItem) := IxR.imp ix_seq fun x y H Q ⟨F, d, e, w, l, zx, zy, ew, k⟩ => by
  match d, e, zx, zy, ew with
  | .list ds, .int i, @Fz.lst _ a vs _ hx rx, .int _, ew =>
    obtain ⟨v, e1, z1⟩ := rx.at ew
    exact .inl ⟨a, vs, i, v, rfl, rfl, SqL.of (l _ _ hx), e1, k F H _ (Grow.refl l) z1⟩
  | .tuple ds, .int i, @Fz.tup _ a vs _ hx rx, .int _, ew =>
    obtain ⟨v, e1, z1⟩ := rx.at ew
    exact .inr (.inl ⟨a, vs, i, v, rfl, rfl, SqT.of (l _ _ hx), e1, k F H _ (Grow.refl l) z1⟩)
  | .str x, .int i, .str _, .int _, ew =>
    have ew' : (if x.length ≤ cap then (atI x.cps.toList i).map fun c => PyData.str ⟨#[c]⟩ else none) = some w := ew
    by_cases hx : x.length ≤ cap
    · rw [if_pos hx] at ew'
      obtain ⟨c, e1, rfl⟩ := Option.map_eq_some_iff.mp ew'
      exact .inr (.inr ⟨x, i, c, rfl, rfl, cap_le hx, e1, k F H _ (Grow.refl l) (.str _)⟩)
    · rw [if_neg hx] at ew'; cases ew'
theorem ce_ix (ha : CE C e f) (hb : CE C b fb) (hs : PlainIx b := by exact fun _ _ => rfl) : CE C (.Subscript e b pos) (binE pyItem f fb) := ⟨PE.imp (pe_ix ixr_item ha.run hb.run hs) fun _ _ _ => ev_bin⟩
def cutL {α : Type} (xs : List α) (lo hi : Option Int) : List α := (xs.drop (HT.sIx xs.length 0 lo)).take (HT.sIx xs.length xs.length hi - HT.sIx xs.length 0 lo)
def pySlice (lo hi : Option Int) : PyData → Option PyData
  | .list ds => some (.list (cutL ds lo hi))
  | .tuple ds => some (.tuple (cutL ds lo hi))
  | .str x => if x.length ≤ cap then some (.str (cutS x lo hi)) else none
  | _ => none
theorem Fzs.cut {F : Hs} {vs : List V} {ds : List PyData} {lo hi : Option Int} (h : Fzs F vs ds) : Fzs F (cutV vs lo hi) (cutL ds lo hi) := by
  unfold cutV cutL
  rw [h.length]
  exact (h.drop _).take _
def rSlD : V → Option Int → Option Int → Hs → VK → Prop := fun x lo hi H Q => ∃ F d w, Le F H ∧ Fz F x d ∧ pySlice lo hi d = some w ∧ ∀ F' H' z, Grow F H F' H' → Fz F' z w → Q z H'
theorem SlR.imp {X : Cx} {r r' : V → Option Int → Option Int → Hs → VK → Prop} (h : L2.SlR X r) (i : ∀ x lo hi H Q, r' x lo hi H Q → r x lo hi H Q) : L2.SlR X r' := fun pins s σ H x v vl vu lo hi sl Q I rx hs pl pu q => h pins s σ H x v vl vu lo hi sl Q I rx hs pl pu (i x lo hi H Q q)
theorem sl_any {X : Cx} : L2.SlR X rSlD := SlR.imp (sl_list.or (sl_tupA.or sl_str)) fun x lo hi H Q ⟨F, d, w, l, zx, ew, k⟩ => by
  match d, zx, ew with
  | .list ds, @Fz.lst _ a vs _ hx rx, ew =>
    obtain rfl := Option.some.inj ew
    exact .inl ⟨a, vs, rfl, SqL.of (l _ _ hx), fun p hp => k _ _ _ (Grow.new l hp) (.lst upd_same (rx.cut.to (Le.new (l.nn hp))))⟩
  | .tuple ds, @Fz.tup _ a vs _ hx rx, ew =>
    obtain rfl := Option.some.inj ew
    refine .inr (.inl ⟨a, vs, rfl, SqT.of (l _ _ hx), fun hh => ?_, fun _ p hp => k _ _ _ (Grow.new l hp) (.tup upd_same (rx.cut.to (Le.new (l.nn hp))))⟩)
    have e : cutL ds lo hi = ds := by
      unfold cutL
      rw [rx.length] at hh
      rw [hh.1, hh.2]
      simp
    rw [e] at k
    exact k _ _ _ (Grow.refl l) (.tup hx rx)
  | .str x, .str _, ew =>
    have ew' : (if x.length ≤ cap then some (PyData.str (cutS x lo hi)) else none) = some w := ew
    by_cases hx : x.length ≤ cap
    · rw [if_pos hx] at ew'
      obtain rfl := Option.some.inj ew'
      exact .inr (.inr ⟨x, rfl, cap_le hx, k F H _ (Grow.refl l) (.str _)⟩)
    · rw [if_neg hx] at ew'; cases ew'
/-- a slice's part -/
def partE : Option (S → Out D) → S → Out (Option Int)
  | none, s => .ok none s
  | some f, s => (f s).bindP fun d s1 => match d with
    | .int i => .ok (some i) s1
    | _ => .er
structure CO (C : Cn) (e : Option Expr) (f : Option (S → Out D)) : Prop where
  run : ∃ t, PO C.X e t ∧ ∀ {σ : L2.St} {β : Type} {k : PK C σ β} {H : Hs} {s : S} {F : Hs} {A : List Addr} {kk : Option Int → S → Out β} {Q1 : Option Int → Hs → Prop}, At C σ H s F A → k.at ((partE f s).bind kk) F H A →
    (∀ o s1 F1 H1 A1, At C σ H1 s1 F1 A1 → Step F H A F1 H1 A1 → k.at (kk o s1) F1 H1 A1 → Q1 o H1) → t σ H Q1
theorem co_none : CO C none none := ⟨_, po_none, fun a h cont => cont _ _ _ _ _ a a.g.step h⟩
theorem co_some (he : CE C e f) : CO C (some e) (some f) := ⟨_, po_some he.run, fun {σ β k H s F A kk Q1} a h cont => by
  have h' : k.at ((f s).bindP fun d s1 => (match d with
    | .int i => (Out.ok (some i) s1 : Out (Option Int))
    | _ => .er).bind kk) F H A := by
    have e1 : ((f s).bindP fun d s1 => (match d with
      | .int i => (Out.ok (some i) s1 : Out (Option Int))
      | _ => .er)).bind kk = (f s).bindP fun d s1 => (match d with
      | .int i => (Out.ok (some i) s1 : Out (Option Int))
      | _ => .er).bind kk := by
      cases f s with
      | ok d s1 => cases d <;> rfl
      | ex c s1 => rfl
      | er => rfl
    rw [← e1]; exact h
  exact evD_bindP a h' fun d s1 F1 H1 A1 v at1 t1 z1 h1 => by
    cases d with
    | int i =>
      cases z1
      exact ⟨i, rfl, cont _ _ _ _ _ at1 t1 h1⟩
    | _ => exact h1.elim⟩
def sliceE (fa : S → Out D) (flo fhi : Option (S → Out D)) : S → Out D := fun s => (fa s).bindP fun d s1 => (partE flo s1).bind fun lo s2 => (partE fhi s2).bind fun hi s3 => Out.opt ((pySlice lo hi d).map .p) s3
theorem ce_slice {lo hi : Option Expr} {flo fhi : Option (S → Out D)} {p2 : Pos} (he : CE C e f) (hl : CO C lo flo) (hh : CO C hi fhi) : CE C (.Subscript e (.Slice lo hi none p2) pos) (sliceE f flo fhi) := by
  obtain ⟨tl, hl1, hl2⟩ := hl.run
  obtain ⟨th, hh1, hh2⟩ := hh.run
  refine ⟨PE.imp (pe_slice sl_any he.run hl1 hh1) fun σ H Q ⟨F, A, s, at0, h⟩ => ?_⟩
  refine evD_bindP at0 h fun d s1 F1 H1 A1 v at1 _ z1 h1 => hl2 at1 h1 fun lo s2 F2 H2 A2 at2 t2 h2 => hh2 at2 h2 fun hi s3 F3 H3 A3 at3 t3 h3 => ?_
  cases ew : pySlice lo hi d with
  | none => rw [ew] at h3; exact h3.elim
  | some w =>
    rw [ew] at h3
    exact ⟨F3, d, w, at3.g.fh, (z1.to t2.ff).to t3.ff, ew, fun F' H' z gr zz => pkD_g at3 gr zz h3⟩
end
end Dl

set_option Elab.async false
set_option linter.all false
set_option maxRecDepth 100000
set_option maxHeartbeats 4000000
namespace Dl
open PySem PySem.Spec PyProof.Rows L2

theorem nd_swap {L A R T : List Addr} (h : ((L ++ (A ++ R)) ++ T).Nodup) : (L ++ (T ++ R)).Nodup := by
  have s : ((L ++ R) ++ T).Sublist ((L ++ (A ++ R)) ++ T) := ((List.Sublist.refl L).append (List.sublist_append_right A R)).append (List.Sublist.refl T)
  have p : ((L ++ R) ++ T).Perm (L ++ (T ++ R)) := by
    rw [List.append_assoc]
    exact List.Perm.append_left L List.perm_append_comm
  exact p.nodup_iff.mp (h.sublist s)
theorem Step.swap {F H F' H' : Hs} {B L A R T : List Addr} (s : Step F H B F' H' ((L ++ (A ++ R)) ++ T)) : Step F H B F' H' (L ++ (T ++ R)) :=
  s.of (nd_swap s.nd) fun a h => by
    simp only [List.mem_append] at h ⊢
    rcases h with h | h | h <;> simp [h]

/-! ### statements in a row -/
section
variable {C : Cn} {st : Stmt} {sts : List Stmt} {e c : Expr} {a b : List Stmt} {f : S → Out D} {t : S → Out Bool} {fs gs : S → SOut} {pos : Pos}
theorem pkS_any {Dn : Ends} {σ σ' : L2.St} {o : SOut} {F H : Hs} {A : List Addr} (h : (pkS C Dn σ).at o F H A) : (pkS C Dn σ').at o F H A := by
  cases o with
  | ok b s => exact h
  | ex c s => exact h
  | er => exact h
def onS : S → SOut := fun s => .ok none s
def seqS (fs gs : S → SOut) : S → SOut := fun s => (fs s).bind fun o s1 => match o with
  | none => gs s1
  | some d => .ok (some d) s1
theorem css_nil : CSs C [] onS := ⟨PSs.imp pss_nil fun Dn σ H ⟨F, A, s, at0, h⟩ => h F H A σ at0.g.step at0.r⟩
theorem evS_seq {Dn : Ends} {σ : L2.St} {H : Hs} : EvS C (seqS fs gs) Dn σ H → tSeq (EvS C fs) (EvS C gs) Dn σ H := fun ⟨F, A, s, at0, h⟩ => by
  refine ⟨F, A, s, at0, ?_⟩
  unfold seqS at h
  cases q : fs s with
  | ok o s1 =>
    rw [q] at h
    cases o with
    | none => exact fun F' H' A' σ' st' r => ⟨F', A', s1, ⟨st'.good, r⟩, pkS_any (PK.atm at0.g st' h)⟩
    | some d => exact h
  | ex c s1 => rw [q] at h; exact h
  | er => rw [q] at h; exact h
theorem css_cons (h1 : CS C st fs) (h2 : CSs C sts gs) : CSs C (st :: sts) (seqS fs gs) := ⟨PSs.imp (pss_cons h1.run h2.run) fun _ _ _ => evS_seq⟩
theorem css_one (h1 : CS C st fs) : CSs C [st] fs := ⟨pss_one h1.run⟩
def retS (f : S → Out D) : S → SOut := fun s => (f s).bind fun d s1 => .ok (some d) s1
theorem cs_ret (he : CE C e f) : CS C (.Return (some e) pos) (retS f) := ⟨PS.imp (ps_ret he.run) fun Dn σ H ⟨F, A, s, at0, h⟩ =>
  evD_bind at0 h fun d s1 F1 H1 A1 T v st1 r1 q1 h1 => h1 F1 H1 A1 σ T v st1 r1 q1⟩
theorem cs_pass : CS C (.Pass pos) onS := ⟨PS.imp ps_pass fun Dn σ H ⟨F, A, s, at0, h⟩ => h F H A σ at0.g.step at0.r⟩
def dropS (f : S → Out D) : S → SOut := fun s => (f s).bind fun _ s1 => .ok none s1
theorem cs_expr (he : CE C e f) (hs : swapsWith e none pos.line C.X.env = pure false := by rfl) : CS C (.Expr e pos) (dropS f) := ⟨PS.imp (ps_expr he.run hs) fun Dn σ H ⟨F, A, s, at0, h⟩ =>
  evD_bind at0 h fun d s1 F1 H1 A1 T v st1 r1 q1 h1 => h1 F1 H1 A1 σ st1.sub r1⟩
def ifS (t : S → Out Bool) (fs gs : S → SOut) : S → SOut := fun s => (t s).bind fun k s1 => if k = true then fs s1 else gs s1
theorem cs_if (hc : CT C c t) (ha : CSs C a fs) (hb : CSs C b gs) : CS C (.If c a b pos) (ifS t fs gs) := ⟨PS.imp (ps_if hc.run ha.run hb.run) fun Dn σ H ⟨F, A, s, at0, h⟩ =>
  evB_bind at0 h fun k s1 F1 H1 A1 at1 _ h1 => by
    cases k with
    | true => exact ⟨F1, A1, s1, at1, h1⟩
    | false => exact ⟨F1, A1, s1, at1, h1⟩⟩
/-- a slot that may be stored to -/
def putSl (i : Nat) (d : D) (s : S) : Option S := match s[i]? with
  | some .n => some (s.set i (.v d))
  | some (.v _) => some (s.set i (.v d))
  | _ => none
def setS (i : Nat) (f : S → Out D) : S → SOut := fun s => (f s).bind fun d s1 => match putSl i d s1 with
  | some s2 => .ok none s2
  | none => .er
theorem put_sr {σ : L2.St} {s s2 : S} {F H : Hs} {A T : List Addr} {i : Nat} {d : D} {v : V} (r : SR C.Z C.bv F H 0 σ s A) (q : Rep C.Z F H d v T) (e : putSl i d s = some s2) :
    ∃ L A0 R, A = L ++ (A0 ++ R) ∧ SR C.Z C.bv F H 0 (σ.set i (some v)) s2 (L ++ (T ++ R)) := by
  unfold putSl at e
  have key : ∀ sl, s[i]? = some sl → s2 = s.set i (.v d) → ∃ L A0 R, A = L ++ (A0 ++ R) ∧ SR C.Z C.bv F H 0 (σ.set i (some v)) s2 (L ++ (T ++ R)) := fun sl e1 e2 => by
    obtain ⟨so, L, A0, R, _, eA, _, put⟩ := SR.get r e1
    subst e2
    exact ⟨L, A0, R, eA, put F H (some v) (.v d) T (Le.refl _) (fun _ _ => rfl) ⟨v, rfl, q⟩⟩
  cases e1 : s[i]? with
  | none => rw [e1] at e; cases e
  | some sl =>
    rw [e1] at e
    cases sl with
    | n => exact key _ e1 (Option.some.inj e).symm
    | v d0 => exact key _ e1 (Option.some.inj e).symm
    | b d0 => cases e
theorem cs_set {i : Nat} {x : Str} {pos' : Pos} (hN : C.X.N.Nodup) (hi : C.X.N[i]? = some x) (hx : Loc C.X.env.scope x) (he : CE C e f) (hs : swapsWith e (some (.Name x pos')) pos.line C.X.env = pure false := by rfl) (hf : C.X.fn x = true ∨ C.X.env.scope.names.lookup x = some .local := by first | exact .inl rfl | exact .inr rfl | assumption) :
    CS C (.Assign [.Name x pos'] e pos) (setS i f) := ⟨PS.imp (ps_set hN hi hx he.run hs hf) fun Dn σ H ⟨F, A, s, at0, h⟩ =>
  evD_bind at0 h fun d s1 F1 H1 A1 T v st1 r1 q1 h1 => by
    cases e2 : putSl i d s1 with
    | none => simp only [e2] at h1; exact h1.elim
    | some s2 =>
      simp only [e2] at h1
      obtain ⟨L, A0, R, rfl, r2⟩ := put_sr r1 q1 e2
      exact h1 F1 H1 _ _ st1.swap r2⟩

/-! ### targets -/
/-- two rows of slots are the same but for the slots js -/
structure Agr (js : List Nat) (σ σ' : L2.St) : Prop where
  len : σ'.length = σ.length
  same : ∀ i, i ∉ js → σ'[i]? = σ[i]?
theorem Agr.refl (js : List Nat) (σ : L2.St) : Agr js σ σ := ⟨rfl, fun _ _ => rfl⟩
theorem Agr.trans {js : List Nat} {σ σ1 σ2 : L2.St} (a : Agr js σ σ1) (b : Agr js σ1 σ2) : Agr js σ σ2 := ⟨b.len.trans a.len, fun i h => (b.same i h).trans (a.same i h)⟩
theorem Agr.mono {js ks : List Nat} {σ σ' : L2.St} (a : Agr js σ σ') (h : ∀ j ∈ js, j ∈ ks) : Agr ks σ σ' := ⟨a.len, fun i q => a.same i fun z => q (h i z)⟩
theorem Agr.set {σ : L2.St} {i : Nat} {v : Option V} : Agr [i] σ (σ.set i v) := ⟨by simp, fun j h => by
  rw [List.getElem?_set_ne]
  intro e
  exact h (by simp [e])⟩
/-- a target takes a value that never changes: g d s, the slots after it -/
def EvG (C : Cn) (js : List Nat) (g : PyData → S → Option S) : TG := fun v σ H Q => ∃ F A s d, At C σ H s F A ∧ Fz F v d ∧ match g d s with
  | some s' => ∀ F' H' A' σ', Step F H A F' H' A' → SR C.Z C.bv F' H' 0 σ' s' A' → Agr js σ σ' → Q σ' H'
  | none => False
structure CG (C : Cn) (tg : Expr) (js : List Nat) (g : PyData → S → Option S) : Prop where
  run : PG C.X tg (EvG C js g)
theorem PG.imp {X : Cx} {tg : Expr} {t t' : TG} (h : PG X tg t) (i : ∀ v σ H Q, t' v σ H Q → t v σ H Q) : PG X tg t' := ⟨fun pins s σ H v u Q I r q => h.run pins s σ H v u Q I r (i v σ H Q q)⟩
def nameG (i : Nat) : PyData → S → Option S := fun d s => putSl i (.p d) s
theorem cg_name {i : Nat} {x : Str} (hN : C.X.N.Nodup) (hi : C.X.N[i]? = some x) (hx : Loc C.X.env.scope x) (hf : C.X.fn x = true ∨ C.X.env.scope.names.lookup x = some .local := by first | exact .inl rfl | exact .inr rfl | assumption) : CG C (.Name x pos) [i] (nameG i) :=
  ⟨PG.imp (pg_name hN hi hx hf) fun v σ H Q ⟨F, A, s, d, at0, z, h⟩ => by
    unfold nameG at h
    cases e2 : putSl i (.p d) s with
    | none => rw [e2] at h; exact h.elim
    | some s2 =>
      rw [e2] at h
      obtain ⟨L, A0, R, rfl, r2⟩ := put_sr at0.r (Rep.p_iff.mpr ⟨rfl, z⟩) e2
      refine h F H _ _ (at0.g.step.of ?_ ?_) r2 Agr.set
      · exact nd_swap (T := []) (by rw [List.append_nil]; exact at0.g.nd)
      · intro x hx
        simp only [List.mem_append, List.nil_append] at hx ⊢
        rcases hx with hx | hx <;> simp [hx]⟩
/-- several targets, each by its own -/
def EvGs (C : Cn) (js : List Nat) (g : List PyData → S → Option S) : TGs := fun vs σ H Q => ∃ F A s ds, At C σ H s F A ∧ Fzs F vs ds ∧ match g ds s with
  | some s' => ∀ F' H' A' σ', Step F H A F' H' A' → SR C.Z C.bv F' H' 0 σ' s' A' → Agr js σ σ' → Q σ' H'
  | none => False
structure CGs (C : Cn) (tgs : List Expr) (js : List Nat) (g : List PyData → S → Option S) : Prop where
  run : PGs C.X tgs (EvGs C js g)
theorem PGs.imp {X : Cx} {tg : List Expr} {t t' : TGs} (h : PGs X tg t) (i : ∀ v σ H Q, t' v σ H Q → t v σ H Q) : PGs X tg t' := ⟨fun pins s σ H v u Q I r q => h.run pins s σ H v u Q I r (i v σ H Q q)⟩
def nilG : List PyData → S → Option S
  | [], s => some s
  | _ :: _, _ => none
def consG (g : PyData → S → Option S) (gs : List PyData → S → Option S) : List PyData → S → Option S
  | [], _ => none
  | d :: ds, s => (g d s).bind (gs ds)
def tupG (gs : List PyData → S → Option S) (n : Nat) : PyData → S → Option S
  | .tuple ds, s => if ds.length = n then gs ds s else none
  | _, _ => none
variable {tg : Expr} {tgs : List Expr} {js ks : List Nat} {g : PyData → S → Option S} {gg : List PyData → S → Option S}
theorem cgs_nil : CGs C [] [] nilG := ⟨PGs.imp pgs_nil fun vs σ H Q ⟨F, A, s, ds, at0, z, h⟩ => by
  cases z with
  | nil => exact ⟨rfl, h F H A σ at0.g.step at0.r (Agr.refl _ _)⟩
  | cons _ _ => exact h.elim⟩
theorem cgs_cons (h1 : CG C tg js g) (h2 : CGs C tgs ks gg) (hs : (assignEach (tg :: tgs) C.X.env).map (·.2) = assign tg C.X.env :: (assignEach tgs C.X.env).map (·.2) := by rfl) : CGs C (tg :: tgs) (js ++ ks) (consG g gg) :=
  ⟨PGs.imp (pgs_cons h1.run h2.run hs) fun vs σ H Q ⟨F, A, s, ds, at0, z, h⟩ => by
    cases z with
    | nil => exact h.elim
    | @cons v vs d ds z1 z2 =>
      refine ⟨v, vs, rfl, F, A, s, d, at0, z1, ?_⟩
      have h' : (match (g d s).bind (gg ds) with
        | some s' => ∀ F' H' A' σ', Step F H A F' H' A' → SR C.Z C.bv F' H' 0 σ' s' A' → Agr (js ++ ks) σ σ' → Q σ' H'
        | none => False) := h
      cases e1 : g d s with
      | none => rw [e1] at h'; exact h'.elim
      | some s1 =>
        rw [e1] at h'
        have h'' : (match gg ds s1 with
          | some s' => ∀ F' H' A' σ', Step F H A F' H' A' → SR C.Z C.bv F' H' 0 σ' s' A' → Agr (js ++ ks) σ σ' → Q σ' H'
          | none => False) := h'
        show ∀ F' H' A' σ', Step F H A F' H' A' → SR C.Z C.bv F' H' 0 σ' s1 A' → Agr js σ σ' → _
        intro F1 H1 A1 σ1 st1 r1 ag1
        refine ⟨F1, A1, s1, ds, ⟨st1.good, r1⟩, z2.to st1.ff, ?_⟩
        cases e2 : gg ds s1 with
        | none => rw [e2] at h''; exact h''.elim
        | some s2 =>
          rw [e2] at h''
          exact fun F2 H2 A2 σ2 st2 r2 ag2 => h'' F2 H2 A2 σ2 (st1.trans at0.g st2) r2 ((ag1.mono fun j hj => List.mem_append_left _ hj).trans (ag2.mono fun j hj => List.mem_append_right _ hj))⟩
theorem cg_tup {n k : Nat} (hc : C.X.calm = true) (h : CGs C tgs js gg) (hn : (assignEach tgs C.X.env).length = n := by rfl) (hst : (assignEach tgs C.X.env).findIdx? (·.1) = none := by rfl) : CG C (.Tuple tgs k pos) js (tupG gg n) :=
  ⟨PG.imp (pg_tup hc h.run hn hst) fun v σ H Q ⟨F, A, s, d, at0, z, h⟩ => by
    cases z with
    | @tup a vs ds hx rx =>
      have h' : (match if ds.length = n then gg ds s else none with
        | some s' => ∀ F' H' A' σ', Step F H A F' H' A' → SR C.Z C.bv F' H' 0 σ' s' A' → Agr js σ σ' → Q σ' H'
        | none => False) := h
      by_cases hl : ds.length = n
      · rw [if_pos hl] at h'
        exact ⟨a, vs, rfl, SqT.of (at0.g.fh _ _ hx), rx.length.trans hl, F, A, s, ds, at0, rx, h'⟩
      · rw [if_neg hl] at h'
        exact h'.elim
    | _ => exact h.elim⟩
/-- tg = e, e never changed again -/
def asgS (g : PyData → S → Option S) (f : S → Out D) : S → SOut := fun s => (f s).bindP fun d s1 => match g d s1 with
  | some s2 => .ok none s2
  | none => .er
theorem cs_asg (he : CE C e f) (hg : CG C tg js g) (hs : swapsWithSole [tg] e pos.line C.X.env = pure false := by rfl) (hw : swappedStores [tg] e C.X.env = pure none := by rfl)
    (h1 : (assignEach [tg] C.X.env).map (·.2) = [assign tg C.X.env] := by rfl) : CS C (.Assign [tg] e pos) (asgS g f) := ⟨PS.imp (ps_asg he.run hg.run hs hw h1) fun Dn σ H ⟨F, A, s, at0, h⟩ =>
  evD_bindP at0 h fun d s1 F1 H1 A1 v at1 _ z1 h1 => ⟨F1, A1, s1, d, at1, z1, by
    cases e2 : g d s1 with
    | none => rw [e2] at h1; exact h1.elim
    | some s2 =>
      rw [e2] at h1
      exact fun F2 H2 A2 σ2 st2 r2 _ => h1 F2 H2 A2 σ2 st2 r2⟩⟩

/-! ### what is walked -/
/-- the walk J gives just these, whatever the heap does besides -/
def Walks (J : It) (F : Hs) (ds : List PyData) : Prop := ∀ i F1 H1, Le F F1 → Le F1 H1 →
  (∀ d, ds[i]? = some d → J.go i H1 ∧ ∀ x H', J.yld i H1 x H' → ∃ F2, Grow F1 H1 F2 H' ∧ Fz F2 x d) ∧ (ds.length = i → J.stop i H1)
def EvI (C : Cn) (f : S → Out (List PyData)) : TI := fun σ H R => ∃ F A s, At C σ H s F A ∧ match f s with
  | .ok ds s' => ∀ F' H' A' J, Step F H A F' H' A' → SR C.Z C.bv F' H' 0 σ s' A' → Walks J F' ds → R J H'
  | .ex c s' => Xw C σ c s' F H A
  | .er => False
structure CI (C : Cn) (tg it : Expr) (f : S → Out (List PyData)) : Prop where
  run : PI C.X tg it (EvI C f)
theorem PI.imp {X : Cx} {tg it : Expr} {t t' : TI} (h : PI X tg it t) (i : ∀ σ H R, t' σ H R → t σ H R) : PI X tg it t' := ⟨fun pins s σ H R I q => h.run pins s σ H R I (i σ H R q)⟩
theorem PI.or {X : Cx} {tg it : Expr} {t t' : TI} (h : PI X tg it t) (h' : PI X tg it t') : PI X tg it (fun σ H R => t σ H R ∨ t' σ H R) := ⟨fun pins s σ H R I q => by
  rcases q with q | q
  · exact h.run pins s σ H R I q
  · exact h'.run pins s σ H R I q⟩
def pkI (C : Cn) (σ : L2.St) (R : It → Hs → Prop) : PK C σ (List PyData) where
  ok ds s F H A := ∀ F' H' A' J, Step F H A F' H' A' → SR C.Z C.bv F' H' 0 σ s A' → Walks J F' ds → R J H'
  ex := Xw C σ
  okm g t h := fun F' H' A' J t' r q => h F' H' A' J (t.trans g t') r q
  exm g t h := fun F' H' A' t' r => h F' H' A' (t.trans g t') r
  exw h := h
theorem evI_at {f : S → Out (List PyData)} {σ : L2.St} {H : Hs} {R : It → Hs → Prop} : EvI C f σ H R ↔ ∃ F A s, At C σ H s F A ∧ (pkI C σ R).at (f s) F H A := by
  constructor
  · rintro ⟨F, A, s, at0, h⟩
    refine ⟨F, A, s, at0, ?_⟩
    cases q : f s with
    | ok ds s1 => rw [q] at h; exact h
    | ex c s1 => rw [q] at h; exact h
    | er => rw [q] at h; exact h
  · rintro ⟨F, A, s, at0, h⟩
    refine ⟨F, A, s, at0, ?_⟩
    cases q : f s with
    | ok ds s1 => rw [q] at h; exact h
    | ex c s1 => rw [q] at h; exact h
    | er => rw [q] at h; exact h
/-- the items of a list | a tuple -/
def itemsE (f : S → Out D) : S → Out (List PyData) := fun s => (f s).bindP fun d s1 => match d with
  | .list ds => .ok ds s1
  | .tuple ds => .ok ds s1
  | _ => .er
theorem walks_list {K : PySem.W.Frag} {F : Hs} {a : Addr} {vs : List V} {ds : List PyData} (h : F a = some (.lst vs)) (z : Fzs F vs ds) : Walks (Itl K a) F ds := fun i F1 H1 l1 l2 => by
  have q : SqL K H1 a vs := SqL.of (l2 _ _ (l1 _ _ h))
  refine ⟨fun d e => ?_, fun hl => ⟨vs, q, by rw [z.length]; exact Nat.le_of_eq hl⟩⟩
  obtain ⟨v, e1, z1⟩ := z.get e
  refine ⟨⟨vs, v, q, e1⟩, fun x H' y => ?_⟩
  obtain ⟨rfl, y⟩ := y
  have e2 := y vs q
  rw [e1] at e2
  cases e2
  exact ⟨F1, Grow.refl l2, z1.to l1⟩
theorem walks_tup {K : PySem.W.Frag} {F : Hs} {a : Addr} {vs : List V} {ds : List PyData} (h : F a = some (.tup vs)) (z : Fzs F vs ds) : Walks (Itt K a) F ds := fun i F1 H1 l1 l2 => by
  have q : SqT K H1 a vs := SqT.of (l2 _ _ (l1 _ _ h))
  refine ⟨fun d e => ?_, fun hl => ⟨vs, q, by rw [z.length]; exact Nat.le_of_eq hl⟩⟩
  obtain ⟨v, e1, z1⟩ := z.get e
  refine ⟨⟨vs, v, q, e1⟩, fun x H' y => ?_⟩
  obtain ⟨rfl, y⟩ := y
  have e2 := y vs q
  rw [e1] at e2
  cases e2
  exact ⟨F1, Grow.refl l2, z1.to l1⟩
theorem ci_seq {it : Expr} (he : CE C it f) : CI C tg it (itemsE f) := ⟨PI.imp (PI.or (pi_list (tg := tg) he.run) (pi_tup he.run)) fun σ H R h0 => by
  obtain ⟨F, A, s, at0, h⟩ := evI_at.mp h0
  -- the branch by what it is
  have key : ∀ d s1, f s = .ok (.p d) s1 → (∃ ds, d = .list ds) ∨ (∃ ds, d = .tuple ds) ∨ False := fun d s1 e => by
    unfold itemsE at h
    rw [e] at h
    cases d with
    | list ds => exact .inl ⟨ds, rfl⟩
    | tuple ds => exact .inr (.inl ⟨ds, rfl⟩)
    | _ => exact h.elim
  have run : ∀ Q1 : VK, (∀ d s1 F1 H1 A1 v, f s = .ok (.p d) s1 → At C σ H1 s1 F1 A1 → Fz F1 v d → (pkI C σ R).at (match d with
      | .list ds => (.ok ds s1 : Out (List PyData))
      | .tuple ds => .ok ds s1
      | _ => .er) F1 H1 A1 → Q1 v H1) → EvD C f σ H Q1 := fun Q1 cont => by
    refine ⟨F, A, s, at0, ?_⟩
    unfold itemsE at h
    cases e : f s with
    | ok d s1 =>
      rw [e] at h
      cases d with
      | p d =>
        intro F' H' A' T v t r q
        obtain ⟨rfl, z⟩ := Rep.p_iff.mp q
        rw [List.append_nil] at t
        exact cont d s1 F' H' A' v e ⟨t.good, r⟩ z (PK.atm at0.g t h)
      | _ => exact h.elim
    | ex c s1 =>
      rw [e] at h
      exact h
    | er =>
      rw [e] at h
      exact h.elim
  by_cases hT : ∃ ds s1, f s = .ok (.p (.tuple ds)) s1
  · obtain ⟨ds0, s0, e0⟩ := hT
    refine .inr (run _ fun d s1 F1 H1 A1 v e at1 z hh => ?_)
    rw [e0] at e
    cases e
    cases z with
    | @tup a vs _ hx rx => exact ⟨a, rfl, ⟨vs, SqT.of (at1.g.fh _ _ hx)⟩, hh F1 H1 A1 _ at1.g.step at1.r (walks_tup hx rx)⟩
  · refine .inl (run _ fun d s1 F1 H1 A1 v e at1 z hh => ?_)
    rcases key d s1 e with ⟨ds, rfl⟩ | ⟨ds, rfl⟩ | q
    · cases z with
      | @lst a vs _ hx rx => exact ⟨a, rfl, ⟨vs, SqL.of (at1.g.fh _ _ hx)⟩, hh F1 H1 A1 _ at1.g.step at1.r (walks_list hx rx)⟩
    · exact absurd ⟨ds, s1, e⟩ hT
    · exact q.elim⟩
/-- lo, lo + 1, .., n of them -/
def upTo (lo : Int) (n : Nat) : List PyData := (List.range n).map fun (i : Nat) => .int (lo + i)
theorem walks_range {F : Hs} {lo : Int} {n : Nat} : Walks (Itr lo n) F (upTo lo n) := fun i F1 H1 l1 l2 => by
  refine ⟨fun d e => ?_, fun hl => by
    unfold upTo at hl
    rw [List.length_map, List.length_range] at hl
    exact Nat.le_of_eq hl⟩
  unfold upTo at e
  rw [List.getElem?_map] at e
  by_cases hi : i < n
  · rw [List.getElem?_range hi] at e
    cases e
    refine ⟨hi, fun x H' y => ?_⟩
    obtain ⟨rfl, rfl⟩ := y
    exact ⟨F1, Grow.refl l2, .int _⟩
  · rw [List.getElem?_eq_none (by simp; omega)] at e
    cases e
def bnd (i : Int) : Prop := -(2 ^ 62) ≤ i ∧ i < 2 ^ 62
instance (i : Int) : Decidable (bnd i) := by unfold bnd; exact inferInstance
def rng1E (fa : S → Out (List PyData)) : S → Out (List PyData) := fun s => (fa s).bind fun ds s1 => match ds with
  | [.int j] => if bnd j then .ok (upTo 0 j.toNat) s1 else .er
  | _ => .er
def rng2E (fa : S → Out (List PyData)) : S → Out (List PyData) := fun s => (fa s).bind fun ds s1 => match ds with
  | [.int i, .int j] => if bnd i ∧ bnd j then .ok (upTo i (j - i).toNat) s1 else .er
  | _ => .er
variable {fa : S → Out (List PyData)} {e1 e2 e3 : Expr} {p : Pos}
theorem ci_range1 (hg : Gl C.X "range") (hm : C.X.mg "range" = none) (ha : CA C [e1] fa) (hs : starEach [e1] C.X.env = [(false, eval e1 C.X.env)] := by rfl) : CI C tg (.Call (.Name "range" p) [e1] [] pos) (rng1E fa) :=
  ⟨PI.imp (pi_range1 hg hm ha.run hs) fun σ H R h0 => by
    obtain ⟨F, A, s, at0, h⟩ := evI_at.mp h0
    refine evL_bind at0 h fun ds s1 F1 H1 A1 vs at1 _ z1 h1 => ?_
    match ds, z1, h1 with
    | [.int j], .cons (.int _) .nil, h1 =>
      by_cases hb : bnd j
      · have h1' : (pkI C σ R).at (if bnd j then .ok (upTo 0 j.toNat) s1 else .er) F1 H1 A1 := h1
        rw [if_pos hb] at h1'
        exact ⟨j, rfl, hb.1, hb.2, h1' F1 H1 A1 _ at1.g.step at1.r walks_range⟩
      · have h1' : (pkI C σ R).at (if bnd j then .ok (upTo 0 j.toNat) s1 else .er) F1 H1 A1 := h1
        rw [if_neg hb] at h1'
        exact h1'.elim⟩
theorem ci_range2 (hg : Gl C.X "range") (hm : C.X.mg "range" = none) (ha : CA C [e1, e2] fa) (hs : starEach [e1, e2] C.X.env = [(false, eval e1 C.X.env), (false, eval e2 C.X.env)] := by rfl) (hs2 : starEach [e2] C.X.env = [(false, eval e2 C.X.env)] := by rfl) : CI C tg (.Call (.Name "range" p) [e1, e2] [] pos) (rng2E fa) :=
  ⟨PI.imp (pi_range2 hg hm ha.run hs hs2) fun σ H R h0 => by
    obtain ⟨F, A, s, at0, h⟩ := evI_at.mp h0
    refine evL_bind at0 h fun ds s1 F1 H1 A1 vs at1 _ z1 h1 => ?_
    match ds, z1, h1 with
    | [.int i, .int j], .cons (.int _) (.cons (.int _) .nil), h1 =>
      have h1' : (pkI C σ R).at (if bnd i ∧ bnd j then .ok (upTo i (j - i).toNat) s1 else .er) F1 H1 A1 := h1
      by_cases hb : bnd i ∧ bnd j
      · rw [if_pos hb] at h1'
        exact ⟨i, j, rfl, ⟨hb.1.1, hb.1.2, hb.2.1, hb.2.2⟩, h1' F1 H1 A1 _ at1.g.step at1.r walks_range⟩
      · rw [if_neg hb] at h1'
        exact h1'.elim⟩

/-! ### for, while -/
def forS (g : PyData → S → Option S) (body : S → SOut) : List PyData → S → SOut
  | [], s => .ok none s
  | d :: ds, s => match g d s with
    | none => .er
    | some s1 => (body s1).bind fun o s2 => match o with
      | none => forS g body ds s2
      | some d => .ok (some d) s2
def loopS (fi : S → Out (List PyData)) (g : PyData → S → Option S) (body : S → SOut) : S → SOut := fun s => (fi s).bind fun ds s1 => forS g body ds s1
theorem evI_bind {β : Type} {k : PK C σ β} {H : Hs} {s : S} {F : Hs} {A : List Addr} {fi : S → Out (List PyData)} {kk : List PyData → S → Out β} {R1 : It → Hs → Prop} (a : At C σ H s F A) (h : k.at ((fi s).bind kk) F H A)
    (cont : ∀ ds s1 F1 H1 A1 J, At C σ H1 s1 F1 A1 → Step F H A F1 H1 A1 → Walks J F1 ds → k.at (kk ds s1) F1 H1 A1 → R1 J H1) : EvI C fi σ H R1 := by
  refine evI_at.mpr ⟨F, A, s, a, ?_⟩
  cases e : fi s with
  | ok d s1 =>
    rw [e] at h
    intro F' H' A' J t r q
    exact cont d s1 F' H' A' J ⟨t.good, r⟩ t q (PK.atm a.g t h)
  | ex c s1 =>
    rw [e] at h
    exact k.exw h
  | er =>
    rw [e] at h
    exact h.elim
theorem cs_for {it : Expr} {body : List Stmt} {fi : S → Out (List PyData)} {fb : S → SOut} (hp : PassesOwn (model C.X.prog C.X.w) C.X.A C.X.env C.X.xe) (hc : C.X.calm = true) (hi : CI C tg it fi) (hg : CG C tg js g) (hb : CSs C body fb)
    (hs : ∀ x, foldedSetIterable it C.X.env x = pure x := by intro _; rfl) : CS C (.For tg it body [] pos) (loopS fi g fb) := ⟨PS.imp (ps_for hp hc hi.run hg.run hb.run hs) fun Dn σ H ⟨F, A, s, at0, h⟩ =>
  evI_bind at0 h fun ds s1 F1 H1 A1 J at1 _ wk h1 => by
    refine ⟨fun i m σ H => m = ds.length - i ∧ i ≤ ds.length ∧ ∃ F2 A2 s2, At C σ H s2 F2 A2 ∧ Le F1 F2 ∧ (pkS C Dn σ).at (forS g fb (ds.drop i) s2) F2 H A2, ⟨ds.length, rfl, Nat.zero_le _, F1, A1, s1, at1, Le.refl _, pkS_any h1⟩, ?_⟩
    rintro i m σ2 H2 ⟨rfl, hil, F2, A2, s2, at2, l2, h2⟩
    obtain ⟨w1, w2⟩ := wk i F2 H2 l2 at2.g.fh
    by_cases hl : i < ds.length
    · right
      obtain ⟨hgo, hy⟩ := w1 ds[i] (List.getElem?_eq_getElem hl)
      rw [List.drop_eq_getElem_cons hl] at h2
      refine ⟨hgo, fun σ' H' => ∃ F3 A3 s3, At C σ' H' s3 F3 A3 ∧ Le F1 F3 ∧ (pkS C Dn σ').at (forS g fb (ds.drop (i + 1)) s3) F3 H' A3, fun σ' H' q => ⟨ds.length - (i + 1), by omega, rfl, by omega, q⟩, fun x H' y => ?_⟩
      obtain ⟨F3, gr, z⟩ := hy x H' y
      have at3 := at2.grown gr
      have h3 := PK.atm at2.g (at2.grow gr) h2
      refine ⟨F3, A2, s2, ds[i], at3, z, ?_⟩
      simp only [forS] at h3
      cases eg : g ds[i] s2 with
      | none => rw [eg] at h3; exact h3.elim
      | some s4 =>
        rw [eg] at h3
        dsimp only at h3
        intro F4 H4 A4 σ4 st4 r4 _
        have h4 := PK.atm at3.g st4 h3
        refine ⟨F4, A4, s4, ⟨st4.good, r4⟩, ?_⟩
        cases eb : fb s4 with
        | ok o s5 =>
          rw [eb] at h4
          cases o with
          | none => exact fun F5 H5 A5 σ5 st5 r5 => ⟨F5, A5, s5, ⟨st5.good, r5⟩, ((l2.trans gr.ff).trans st4.ff).trans st5.ff, pkS_any (PK.atm st4.good st5 h4)⟩
          | some d => exact h4
        | ex c s5 => rw [eb] at h4; exact h4
        | er => rw [eb] at h4; exact h4
    · left
      rw [List.drop_eq_nil_of_le (by omega)] at h2
      exact ⟨w2 (by omega), h2 F2 H2 A2 σ2 at2.g.step at2.r⟩⟩
def whileS (t : S → Out Bool) (body : S → SOut) : Nat → S → SOut
  | 0, _ => .er
  | n + 1, s => (t s).bind fun k s1 => if k = true then (body s1).bind fun o s2 => match o with
      | none => whileS t body n s2
      | some d => .ok (some d) s2
    else .ok none s1
theorem cs_while {body : List Stmt} {fb : S → SOut} (n : Nat) (hp : PassesOwn (model C.X.prog C.X.w) C.X.A C.X.env C.X.xe) (hc : CT C c t) (hb : CSs C body fb) : CS C (.While c body [] pos) (whileS t fb n) := ⟨PS.imp (ps_while hp hc.run hb.run) fun Dn σ H ⟨F, A, s, at0, h⟩ => by
  refine ⟨fun m σ H => ∃ F A s, At C σ H s F A ∧ (pkS C Dn σ).at (whileS t fb m s) F H A, ⟨n, F, A, s, at0, h⟩, ?_⟩
  rintro m σ1 H1 ⟨F1, A1, s1, at1, h1⟩
  cases m with
  | zero => exact h1.elim
  | succ m =>
    refine evB_bind at1 h1 fun k s2 F2 H2 A2 at2 _ h2 => ?_
    cases k with
    | true =>
      rw [if_pos rfl]
      rw [if_pos rfl] at h2
      refine ⟨fun σ' H' => ∃ F A s, At C σ' H' s F A ∧ (pkS C Dn σ').at (whileS t fb m s) F H' A, fun σ' H' q => ⟨m, Nat.lt_succ_self m, q⟩, F2, A2, s2, at2, ?_⟩
      cases eb : fb s2 with
      | ok o s5 =>
        rw [eb] at h2
        cases o with
        | none => exact fun F5 H5 A5 σ5 st5 r5 => ⟨F5, A5, s5, ⟨st5.good, r5⟩, pkS_any (PK.atm at2.g st5 h2)⟩
        | some d => exact h2
      | ex c s5 => rw [eb] at h2; exact h2
      | er => rw [eb] at h2; exact h2
    | false =>
      rw [if_neg Bool.false_ne_true]
      rw [if_neg Bool.false_ne_true] at h2
      exact h2 F2 H2 A2 σ1 at2.g.step at2.r⟩
end
end Dl

set_option Elab.async false
set_option linter.all false
set_option maxRecDepth 100000
set_option maxHeartbeats 4000000
namespace Dl
open PySem PySem.Spec PyProof.Rows L2

/-! ### slots forgotten -/
def wipeS (s : S) : List Nat → S
  | [] => s
  | v :: vs => (wipeS s vs).set v .n
section
variable {Z : Env0} {bv : Nat → V} {F H : Hs}
theorem SR.forget {σ : L2.St} {s : S} {A : List Addr} (i : Nat) (r : SR Z bv F H 0 σ s A) : ∃ B, B.Sublist A ∧ SR Z bv F H 0 (σ.set i none) (s.set i .n) B := by
  cases e : s[i]? with
  | none =>
    have h1 : s.length ≤ i := List.getElem?_eq_none_iff.mp e
    have h2 := r.len
    rw [List.set_eq_of_length_le h1, List.set_eq_of_length_le (by omega)]
    exact ⟨A, List.Sublist.refl _, r⟩
  | some sl =>
    obtain ⟨so, L, A1, R, _, rfl, _, put⟩ := SR.get r e
    refine ⟨L ++ ([] ++ R), (List.Sublist.refl L).append (List.sublist_append_right A1 R), put F H none .n [] (Le.refl _) (fun _ _ => rfl) rfl⟩
theorem SR.wipe {σ : L2.St} {s : S} {A : List Addr} (r : SR Z bv F H 0 σ s A) : ∀ vs : List Nat, ∃ B, B.Sublist A ∧ SR Z bv F H 0 (L2.wipe σ vs) (wipeS s vs) B
  | [] => ⟨A, List.Sublist.refl _, r⟩
  | v :: vs => by
    obtain ⟨B, h1, r1⟩ := SR.wipe r vs
    obtain ⟨B', h2, r2⟩ := SR.forget v r1
    exact ⟨B', h2.trans h1, r2⟩
theorem SR.other : ∀ {σ σ' : L2.St} {s : S} {i : Nat} {A : List Addr}, SR Z bv F H i σ s A → σ'.length = σ.length → (∀ j : Nat, s[j]? ≠ some Slot.n → σ'[j]? = σ[j]?) → SR Z bv F H i σ' s A
  | [], σ', [], _, _, h, hl, _ => by
    cases σ' with
    | nil => exact h
    | cons _ _ => cases hl
  | so :: σ, σ', sl :: s, i, A, h, hl, hs => by
    cases σ' with
    | nil => cases hl
    | cons so' σ' =>
      obtain ⟨A1, A2, rfl, h1, h2⟩ := h
      refine ⟨A1, A2, rfl, ?_, SR.other h2 (by simpa using hl) fun j hj => by simpa using hs (j + 1) (by simpa using hj)⟩
      cases sl with
      | n => exact h1
      | v d =>
        have e := hs 0 (by simp)
        simp at e
        subst e
        exact h1
      | b d =>
        have e := hs 0 (by simp)
        simp at e
        subst e
        exact h1
  | _ :: _, _, [], _, _, h, _, _ => h.elim
  | [], _, _ :: _, _, _, h, _, _ => h.elim
theorem wipeS_len (s : S) : ∀ vs : List Nat, (wipeS s vs).length = s.length
  | [] => rfl
  | v :: vs => by unfold wipeS; rw [List.length_set, wipeS_len s vs]
theorem wipeS_in {s : S} {i : Nat} : ∀ {vs : List Nat}, i ∈ vs → (wipeS s vs)[i]? = some Slot.n ∨ (wipeS s vs)[i]? = none
  | v :: vs, h => by
    unfold wipeS
    by_cases hv : v = i
    · subst hv
      by_cases hl : v < (wipeS s vs).length
      · exact .inl (List.getElem?_set_self hl)
      · exact .inr (List.getElem?_eq_none (by rw [List.length_set]; omega))
    · rw [List.getElem?_set_ne hv]
      exact wipeS_in ((List.mem_cons.mp h).resolve_left fun e => hv e.symm)
theorem SR.unwipe {σ : L2.St} {s : S} {vs : List Nat} {B : List Addr} (r : SR Z bv F H 0 (L2.wipe σ vs) (wipeS s vs) B) : SR Z bv F H 0 σ (wipeS s vs) B := by
  have hl := r.len
  rw [L2.wipe_length] at hl
  refine r.other (by rw [L2.wipe_length]) fun j hj => ?_
  by_cases hm : j ∈ vs
  · rcases wipeS_in (s := s) hm with e | e
    · exact absurd e hj
    · have h1 : (wipeS s vs).length ≤ j := List.getElem?_eq_none_iff.mp e
      rw [List.getElem?_eq_none (by omega), List.getElem?_eq_none (by rw [L2.wipe_length]; omega)]
  · exact (L2.wipe_out hm).symm
theorem wipe_get_in {σ : L2.St} {i : Nat} : ∀ {vs : List Nat}, i ∈ vs → (L2.wipe σ vs)[i]? = if i < σ.length then some none else none
  | v :: vs, h => by
    unfold L2.wipe
    by_cases hv : v = i
    · subst hv
      by_cases hl : v < σ.length
      · rw [if_pos hl, List.getElem?_set_self (by rw [L2.wipe_length]; exact hl)]
      · rw [if_neg hl, List.getElem?_eq_none (by rw [List.length_set, L2.wipe_length]; omega)]
    · rw [List.getElem?_set_ne hv]
      exact wipe_get_in ((List.mem_cons.mp h).resolve_left fun e => hv e.symm)
/-- only slots of vs differ -/
theorem Agr.wiped {js vs : List Nat} {σ σ' : L2.St} (a : Agr js σ σ') (h : ∀ j ∈ js, j ∈ vs) : L2.wipe σ' vs = L2.wipe σ vs := by
  refine List.ext_getElem? fun i => ?_
  by_cases hm : i ∈ vs
  · rw [wipe_get_in hm, wipe_get_in hm, a.len]
  · rw [L2.wipe_out hm, L2.wipe_out hm]
    exact a.same i fun q => hm (h i q)
theorem wipe_wipe (σ : L2.St) (vs : List Nat) : L2.wipe (L2.wipe σ vs) vs = L2.wipe σ vs := by
  refine List.ext_getElem? fun i => ?_
  by_cases hm : i ∈ vs
  · rw [wipe_get_in hm, wipe_get_in hm, L2.wipe_length]
  · rw [L2.wipe_out hm]
theorem wipe_sub {σ σ' : L2.St} {vs vs1 : List Nat} (h : L2.wipe σ' vs1 = L2.wipe σ vs1) (hv : ∀ i ∈ vs1, i ∈ vs) : L2.wipe σ' vs = L2.wipe σ vs := by
  have hl : σ'.length = σ.length := by
    have e := congrArg List.length h
    rwa [L2.wipe_length, L2.wipe_length] at e
  refine List.ext_getElem? fun i => ?_
  by_cases hm : i ∈ vs
  · rw [wipe_get_in hm, wipe_get_in hm, hl]
  · have h1 : i ∉ vs1 := fun q => hm (hv i q)
    rw [L2.wipe_out hm, L2.wipe_out hm]
    have e := congrArg (fun l => l[i]?) h
    simp only [L2.wipe_out h1] at e
    exact e
theorem wipe_of_wipe {σ : L2.St} {vs vs1 : List Nat} (hv : ∀ i ∈ vs1, i ∈ vs) : L2.wipe (L2.wipe σ vs1) vs = L2.wipe σ vs := wipe_sub (wipe_wipe σ vs1) hv
end
theorem Step.subl {F H F' H' : Hs} {A B C : List Addr} (s : Step F H A F' H' B) (h : C.Sublist B) : Step F H A F' H' C := s.of (s.nd.sublist h) fun _ z => h.subset z

/-! ### the loop of a comprehension -/
def lcLoop (vs : List Nat) (g : PyData → S → Option S) (tt : S → Out Bool) (te : S → Out D) : List PyData → S → Out (List D)
  | [], s => .ok [] s
  | d :: ds, s => match g d (wipeS s vs) with
    | none => .er
    | some s1 => match tt s1 with
      | .ok true s2 => match te s2 with
        | .ok e s3 => match lcLoop vs g tt te ds s3 with
          | .ok es s4 => .ok (e :: es) s4
          | _ => .er
        | _ => .er
      | .ok false s2 => lcLoop vs g tt te ds s2
      | _ => .er
theorem lcLoop_cons {vs : List Nat} {g : PyData → S → Option S} {tt : S → Out Bool} {te : S → Out D} {d : PyData} {ds : List PyData} {s s' : S} {es : List D} (h : lcLoop vs g tt te (d :: ds) s = .ok es s') :
    ∃ s1, g d (wipeS s vs) = some s1 ∧ ((∃ s2 e s3 es', tt s1 = .ok true s2 ∧ te s2 = .ok e s3 ∧ lcLoop vs g tt te ds s3 = .ok es' s' ∧ es = e :: es') ∨ (∃ s2, tt s1 = .ok false s2 ∧ lcLoop vs g tt te ds s2 = .ok es s')) := by
  simp only [lcLoop] at h
  cases e1 : g d (wipeS s vs) with
  | none => rw [e1] at h; cases h
  | some s1 =>
    rw [e1] at h
    refine ⟨s1, rfl, ?_⟩
    dsimp only at h
    cases e2 : tt s1 with
    | ok b s2 =>
      rw [e2] at h
      cases b with
      | true =>
        dsimp only at h
        cases e3 : te s2 with
        | ok e s3 =>
          rw [e3] at h
          dsimp only at h
          cases e4 : lcLoop vs g tt te ds s3 with
          | ok es' s4 =>
            rw [e4] at h
            cases h
            exact .inl ⟨s2, e, s3, es', rfl, e3, e4, rfl⟩
          | _ => rw [e4] at h; cases h
        | _ => rw [e3] at h; cases h
      | false => exact .inr ⟨s2, rfl, h⟩
    | _ => rw [e2] at h; cases h
def yesB : S → Out Bool := fun s => .ok true s
structure CTs (C : Cn) (ifs : List Expr) (t : S → Out Bool) : Prop where
  run : PTs C.X ifs (EvB C t)
theorem PTs.imp {X : Cx} {e : List Expr} {t t' : TT} (h : PTs X e t) (i : ∀ σ H Q, t' σ H Q → t σ H Q) : PTs X e t' := ⟨fun pins s σ H Q I q => h.run pins s σ H Q I (i σ H Q q)⟩
theorem cts_nil {C : Cn} : CTs C [] yesB := ⟨PTs.imp pts_nil fun σ H Q ⟨F, A, s, at0, h⟩ => h F H A at0.g.step at0.r⟩
theorem cts_one {C : Cn} {c : Expr} {t : S → Out Bool} (h : CT C c t) : CTs C [c] t := ⟨pts_one h.run⟩
abbrev Cn.blk (C : Cn) (s : Shared) (H : Hs) (scope : Scope) (cenv : Env) (fp : List Addr) : Cn := { X := C.X.blk s H scope cenv fp, ca := C.ca, bv := C.bv, W := fun _ _ _ _ => False }
abbrev Cn.nox (C : Cn) : Cn := { X := C.X, ca := C.ca, bv := C.bv, W := fun _ _ _ _ => False }
/-- [elt for tg in it if ..], a list of one's own -/
def lcD (vs : List Nat) (fi : S → Out (List PyData)) (g : PyData → S → Option S) (tt : S → Out Bool) (te : S → Out D) : S → Out D := fun s => (fi s).bind fun ds s1 => match lcLoop vs g tt te ds s1 with
  | .ok es s2 => if es.length ≤ cap then .ok (.l es) (wipeS s2 vs) else .er
  | _ => .er
section
variable {C : Cn}
theorem repL_append {Z : Env0} {F H : Hs} : ∀ {ds es : List D} {vs us : List V} {A B : List Addr}, RepL Z F H ds vs A → RepL Z F H es us B → RepL Z F H (ds ++ es) (vs ++ us) (A ++ B)
  | [], _, _, _, _, _, h, q => by
    simp only [RepL] at h
    obtain ⟨rfl, rfl⟩ := h
    exact q
  | d :: ds, es, vs, us, A, B, h, q => by
    simp only [RepL] at h
    obtain ⟨v, vs', A1, A2, rfl, rfl, r1, r2⟩ := h
    simp only [List.cons_append, RepL]
    exact ⟨v, vs' ++ us, A1, A2 ++ B, rfl, by rw [List.append_assoc], r1, repL_append r2 q⟩
theorem repL_one {Z : Env0} {F H : Hs} {d : D} {v : V} {A : List Addr} (h : Rep Z F H d v A) : RepL Z F H [d] [v] A := by
  simp only [RepL]
  exact ⟨v, [], A, [], rfl, by simp, h, rfl, rfl⟩
/-- the state in the middle of a comprehension: the new list at p holds what is made so far -/
structure Mid (C : Cn) (F1 H1 : Hs) (A1 : List Addr) (Fm : Hs) (p : Addr) (σ : L2.St) (vs : List Nat) (H : Hs) (s : S) (acc : List D) : Prop where
  ex : ∃ F A T σx us, Le Fm F ∧ Step F1 H1 A1 F H (A ++ (p :: T)) ∧ L2.wipe σx vs = L2.wipe σ vs ∧ SR C.Z C.bv F H 0 σx s A ∧ H p = some (.lst us) ∧ RepL C.Z F H acc us T
/-- a step in the middle -/
theorem mid_step {F1 H1 F H F' H' : Hs} {A1 A A' T T2 : List Addr} {p : Addr} {us : List V} {acc : List D} (g1 : Good F1 H1 A1) (st : Step F1 H1 A1 F H (A ++ (p :: T))) (hp : H p = some (.lst us)) (ra : RepL C.Z F H acc us T) (t : Step F H A F' H' (A' ++ T2)) :
    Step F1 H1 A1 F' H' ((A' ++ T2) ++ (p :: T)) ∧ H' p = some (.lst us) ∧ RepL C.Z F' H' acc us T := by
  have ht : ∀ a ∈ p :: T, H a ≠ none := fun a ha => by
    rcases List.mem_cons.mp ha with rfl | ha
    · rw [hp]; simp
    · exact RepL.there acc us T ra a ha
  have fr := t.frame st.good ht
  have nin : ∀ a ∈ p :: T, a ∉ A := fun a h1 h2 => (List.nodup_append.mp st.nd).2.2 a h2 a h1 rfl
  refine ⟨st.trans g1 fr, (t.kp p (ht p List.mem_cons_self) (nin p List.mem_cons_self)).trans hp, RepL.mono t.ff acc us T (fun a h => t.kp a (ht a (List.mem_cons_of_mem _ h)) (nin a (List.mem_cons_of_mem _ h))) ra⟩
/-- one more item -/
theorem mid_add {F1 H1 F H Fm : Hs} {A1 A T T2 : List Addr} {p : Addr} {us : List V} {acc : List D} {e : D} {y : V} {s : S} {σ σ2 : L2.St} {vs : List Nat} (lm : Le Fm F) (st : Step F1 H1 A1 F H ((A ++ T2) ++ (p :: T))) (hp : H p = some (.lst us)) (ra : RepL C.Z F H acc us T)
    (re : Rep C.Z F H e y T2) (r : SR C.Z C.bv F H 0 σ2 s A) (hw : L2.wipe σ2 vs = L2.wipe σ vs) : Mid C F1 H1 A1 Fm p σ vs (upd H p (.lst (us ++ [y]))) s (acc ++ [e]) := by
  have nd := st.nd
  have hpn : ∀ a, a ∈ A ∨ a ∈ T2 ∨ a ∈ T → a ≠ p := fun a h q => by
    subst q
    have h1 := List.nodup_append.mp nd
    rcases h with h | h | h
    · exact h1.2.2 a (by simp [h]) a (by simp) rfl
    · exact h1.2.2 a (by simp [h]) a (by simp) rfl
    · exact (List.nodup_cons.mp h1.2.1).1 h
  have l : Le F (upd H p (.lst (us ++ [y]))) := fun a o e => by
    rw [upd_ne]
    · exact st.fh a o e
    · intro q
      subst q
      have := st.ap a (by simp)
      rw [this] at e; cases e
  have pm : ((A ++ T2) ++ (p :: T)).Perm (A ++ (p :: (T ++ T2))) := by
    rw [List.append_assoc]
    refine List.Perm.append_left A ?_
    refine List.perm_append_comm.trans ?_
    rw [List.cons_append]
  refine ⟨F, A, T ++ T2, σ2, us ++ [y], lm, ?_, hw, ?_, upd_same, ?_⟩
  · have s2 := st.perm pm
    refine ⟨s2.ff, l, s2.nd, s2.ap, fun a h1 h2 => ?_, s2.nw⟩
    have e := s2.kp a h1 h2
    rw [upd_ne]
    · exact e
    · intro q
      subst q
      rcases s2.nw a (.inl (by simp)) h1 with z | z
      · exact h2 z
      · have h3 := s2.ap a (by simp)
        cases e3 : F1 a with
        | none => exact z e3
        | some o => rw [s2.ff a o e3] at h3; cases h3
  · exact SR.mono (Le.refl _) (fun a ha => upd_ne (hpn a (.inl ha))) r
  · exact repL_append (RepL.mono (Le.refl _) acc us T (fun a ha => upd_ne (hpn a (.inr (.inr ha)))) ra) (repL_one (Rep.mono (Le.refl _) e y T2 (fun a ha => upd_ne (hpn a (.inr (.inl ha)))) re))
variable {elt tg iter tg1 iter1 : Expr} {ifs ifs1 : List Expr} {scope : Scope} {own : List (Str × Nat)} {pos : Pos} {fi fi1 : S → Out (List PyData)} {js js1 vs1 : List Nat} {g g1 : PyData → S → Option S} {tt tt1 : S → Out Bool} {te : S → Out D}
/-- one turn of a comprehension -/
theorem lc_turn {F1 H1 Fm : Hs} {A1 : List Addr} {p : Addr} {σ : L2.St} {vs : List Nat} {H H' : Hs} {s s' : S} {acc es all : List D} {d : PyData} {ds : List PyData} {x : V} {J : It} {Nx : Hs → Prop} (g1 : Good F1 H1 A1) (hj : ∀ j ∈ js, j ∈ vs)
    (m : ∃ F A T σx us, Le Fm F ∧ Step F1 H1 A1 F H (A ++ (p :: T)) ∧ L2.wipe σx vs = L2.wipe σ vs ∧ SR C.Z C.bv F H 0 σx s A ∧ H p = some (.lst us) ∧ RepL C.Z F H acc us T ∧ ∃ F2, Grow F H F2 H' ∧ Fz F2 x d)
    (hlen : all.length ≤ cap) (eq : lcLoop vs g tt te (d :: ds) s = .ok es s') (hall : (acc ++ es).length ≤ all.length)
    (nxt : ∀ H2 acc2 es2 s2, Mid C F1 H1 A1 Fm p σ vs H2 s2 acc2 → lcLoop vs g tt te ds s2 = .ok es2 s' → acc ++ es = acc2 ++ es2 → Nx H2) :
    EvG C.nox js g x (L2.wipe σ vs) H' fun σ2 H2 => L2.wipe σ2 vs = L2.wipe σ vs ∧ EvB C.nox tt σ2 H2 fun b H3 =>
      if b = true then EvD C.nox te σ2 H3 fun y H4 => ∃ acc, H4 p = some (.lst acc) ∧ acc.length < sizeLine ∧ Nx (upd H4 p (.lst (acc ++ [y]))) else Nx H3 := by
  obtain ⟨F, A, T, σx, us, l1, st, hw, r, hp, ra, F2, gr, z⟩ := m
  have thr : ∀ a ∈ A ++ (p :: T), H a ≠ none := fun a ha => by
    rcases List.mem_append.mp ha with ha | ha
    · exact SR.there r a ha
    · rcases List.mem_cons.mp ha with rfl | ha
      · rw [hp]; simp
      · exact RepL.there acc us T ra a ha
  have st2 : Step F1 H1 A1 F2 H' (A ++ (p :: T)) := st.trans g1 (gr.step st.good thr)
  have keepH : ∀ a ∈ A ++ (p :: T), H' a = H a := fun a ha => by
    cases e : H a with
    | none => exact absurd e (thr a ha)
    | some o => exact gr.hh a o e
  have r2 : SR C.Z C.bv F2 H' 0 σx s A := SR.mono gr.ff (fun a ha => keepH a (by simp [ha])) r
  have hp2 : H' p = some (.lst us) := (keepH p (by simp)).trans hp
  have ra2 : RepL C.Z F2 H' acc us T := RepL.mono gr.ff acc us T (fun a ha => keepH a (by simp [ha])) ra
  obtain ⟨B, hB, rB⟩ := SR.wipe r2 vs
  rw [hw] at rB
  have st3 : Step F1 H1 A1 F2 H' (B ++ (p :: T)) := st2.subl (hB.append (List.Sublist.refl _))
  have atB : At C.nox (L2.wipe σ vs) H' (wipeS s vs) F2 B := ⟨(st3.sub).good, rB⟩
  obtain ⟨s1, eg, hh⟩ := lcLoop_cons eq
  refine ⟨F2, B, wipeS s vs, d, atB, z, ?_⟩
  rw [eg]
  intro F3 H3 A3 σ3 t3 r3 ag3
  obtain ⟨q3, hp3, ra3⟩ := mid_step (C := C) (T2 := []) g1 st3 hp2 ra2 (by rw [List.append_nil]; exact t3)
  rw [List.append_nil] at q3
  have hw3 : L2.wipe σ3 vs = L2.wipe σ vs := (ag3.wiped hj).trans (wipe_wipe σ vs)
  refine ⟨hw3, F3, A3, s1, ⟨q3.sub.good, r3⟩, ?_⟩
  rcases hh with ⟨s2, e, s3, es', e2, e3, e4, rfl⟩ | ⟨s2, e2, e4⟩
  · rw [e2]
    intro F4 H4 A4 t4 r4
    obtain ⟨q4, hp4, ra4⟩ := mid_step (C := C) (T2 := []) g1 q3 hp3 ra3 (by rw [List.append_nil]; exact t4)
    rw [List.append_nil] at q4
    rw [if_pos rfl]
    refine ⟨F4, A4, s2, ⟨q4.sub.good, r4⟩, ?_⟩
    rw [e3]
    intro F5 H5 A5 T5 y t5 r5 re5
    obtain ⟨q5, hp5, ra5⟩ := mid_step (C := C) g1 q4 hp4 ra4 t5
    refine ⟨us, hp5, ?_, nxt _ _ es' s3 (mid_add ((((l1.trans gr.ff).trans t3.ff).trans t4.ff).trans t5.ff) q5 hp5 ra5 re5 r5 hw3) e4 (by simp)⟩
    have h1 := RepL.length ra5
    simp only [List.length_append, List.length_cons] at hall
    exact cap_lt (by omega)
  · rw [e2]
    intro F4 H4 A4 t4 r4
    obtain ⟨q4, hp4, ra4⟩ := mid_step (C := C) (T2 := []) g1 q3 hp3 ra3 (by rw [List.append_nil]; exact t4)
    rw [List.append_nil] at q4
    rw [if_neg Bool.false_ne_true]
    exact nxt _ acc es s2 ⟨F4, A4, T, σ3, us, ((l1.trans gr.ff).trans t3.ff).trans t4.ff, q4, hw3, r4, hp4, ra4⟩ e4 rfl
theorem ev_lc (hj : ∀ j ∈ js, j ∈ own.map (·.2)) {σ : L2.St} {H : Hs} {Q : VK} : EvD C (lcD (own.map (·.2)) fi g tt te) σ H Q → tLc (EvI C fi) (EvG C.nox js g) (EvB C.nox tt) (EvD C.nox te) (own.map (·.2)) σ H Q := fun ⟨F, A, s, at0, h⟩ => by
  refine evI_bind at0 h fun ds s1 F1 H1 A1 J at1 _ wk h1 => ?_
  generalize own.map (·.2) = vs at *
  intro p hp
  cases eL : lcLoop vs g tt te ds s1 with
  | ok es s2 =>
    rw [eL] at h1
    by_cases hlen : es.length ≤ cap
    · have h1' : (pkD C σ Q).at (if es.length ≤ cap then .ok (.l es) (wipeS s2 vs) else .er) F1 H1 A1 := h1
      rw [if_pos hlen] at h1'
      have fin : ∀ H' sf, Mid C F1 H1 A1 F1 p σ vs H' sf es → sf = s2 → Q (.ref p) H' := fun H' sf ⟨F, A, T, σx, us, l, st, hw, r, hp', ra⟩ e => by
        subst e
        obtain ⟨B, hB, rB⟩ := SR.wipe r vs
        rw [hw] at rB
        refine h1' F H' B (p :: T) (.ref p) (st.subl (hB.append (List.Sublist.refl _))) rB.unwipe ?_
        simp only [Rep]
        exact ⟨p, us, T, rfl, rfl, hp', ra⟩
      refine ⟨fun i m H => m = ds.length - i ∧ i ≤ ds.length ∧ ∃ s acc rest, Mid C F1 H1 A1 F1 p σ vs H s acc ∧ lcLoop vs g tt te (ds.drop i) s = .ok rest s2 ∧ es = acc ++ rest, ⟨ds.length, rfl, Nat.zero_le _, s1, [], es, ?_, eL, rfl⟩, ?_⟩
      · refine ⟨F1, A1, [], σ, [], Le.refl _, ?_, rfl, ?_, upd_same, by simp only [RepL]; exact ⟨trivial, trivial⟩⟩
        · have gr := Grow.new (o := .lst []) at1.g.fh hp
          have hpa : p ∉ A1 := fun z => at1.there p z hp
          refine ⟨Le.refl _, fun a o e => ?_, ?_, fun a ha => ?_, fun a h2 _ => upd_ne (fun q => h2 (by rw [q]; exact hp)), fun a h2 h3 => ?_⟩
          · rw [upd_ne (ne_of_none e (at1.g.fh.nn hp))]
            exact at1.g.fh a o e
          · exact List.nodup_append.mpr ⟨at1.g.nd, by simp, fun a h2 b h3 q => hpa (by simp at h3; rw [← h3, ← q]; exact h2)⟩
          · rcases List.mem_append.mp ha with ha | ha
            · exact at1.g.ap a ha
            · simp at ha; rw [ha]; exact at1.g.fh.nn hp
          · rcases h2 with h2 | h2
            · rcases List.mem_append.mp h2 with h2 | h2
              · exact .inl h2
              · simp at h2; rw [h2] at h3; exact absurd hp h3
            · exact .inr h2
        · exact SR.mono (Le.refl _) (fun a ha => upd_ne (fun q => at1.there a ha (by rw [q]; exact hp))) at1.r
      · rintro i m H2 ⟨rfl, hil, s3, acc, rest, mid, eq, hes⟩
        obtain ⟨F4, A4, T4, σx, us, l4, st4, hw4, r4, hp4, ra4⟩ := mid
        obtain ⟨w1, w2⟩ := wk i F4 H2 l4 st4.fh
        by_cases hl : i < ds.length
        · right
          obtain ⟨hgo, hy⟩ := w1 ds[i] (List.getElem?_eq_getElem hl)
          rw [List.drop_eq_getElem_cons hl] at eq
          refine ⟨hgo, fun H' => ∃ s acc rest, Mid C F1 H1 A1 F1 p σ vs H' s acc ∧ lcLoop vs g tt te (ds.drop (i + 1)) s = .ok rest s2 ∧ es = acc ++ rest, fun H' q => ⟨ds.length - (i + 1), by omega, rfl, by omega, q⟩, fun x H' y => ?_⟩
          obtain ⟨F5, gr, z⟩ := hy x H' y
          exact lc_turn (all := es) (J := J) at1.g hj ⟨F4, A4, T4, σx, us, l4, st4, hw4, r4, hp4, ra4, F5, gr, z⟩ hlen eq (by rw [hes]; exact Nat.le_refl _)
            fun H6 acc2 es2 s6 mid6 eq6 e6 => ⟨s6, acc2, es2, mid6, eq6, hes.trans e6⟩
        · left
          rw [List.drop_eq_nil_of_le (by omega)] at eq
          cases eq
          rw [List.append_nil] at hes
          subst hes
          exact ⟨w2 (by omega), fin H2 _ ⟨F4, A4, T4, σx, us, l4, st4, hw4, r4, hp4, ra4⟩ rfl⟩
    · have h1' : (pkD C σ Q).at (if es.length ≤ cap then .ok (.l es) (wipeS s2 vs) else .er) F1 H1 A1 := h1
      rw [if_neg hlen] at h1'
      exact h1'.elim
  | ex c s2 => rw [eL] at h1; exact h1.elim
  | er => rw [eL] at h1; exact h1.elim
theorem ce_lc (hc : C.X.calm = true) (hN : C.X.N.Nodup) (ok : BlkOk C.X.N C.X.env.scope scope own) (hj : ∀ j ∈ js, j ∈ own.map (·.2)) (hi : CI C tg iter fi)
    (hg : ∀ (s : Shared) (H : Hs) (c : Addr) (cl : List (Str × Addr)) (fp : List Addr), CG (C.blk s H scope (compEnvC scope cl c C.X.env) fp) tg js g)
    (ht : ∀ (s : Shared) (H : Hs) (c : Addr) (cl : List (Str × Addr)) (fp : List Addr), CTs (C.blk s H scope (compEnvC scope cl c C.X.env) fp) ifs tt)
    (he : ∀ (s : Shared) (H : Hs) (c : Addr) (cl : List (Str × Addr)) (fp : List Addr), CE (C.blk s H scope (compEnvC scope cl c C.X.env) fp) elt te) (hs : ∀ x, foldedSetIterable iter C.X.env x = pure x := by intro _; rfl) :
    CE C (.ListComp elt [⟨tg, iter, ifs, 0⟩] scope pos) (lcD (own.map (·.2)) fi g tt te) :=
  ⟨PE.imp (pe_lc (g := EvG C.nox js g) (tt := EvB C.nox tt) (te := EvD C.nox te) hc hN hi.run ok (fun s H c cl fp => (hg s H c cl fp).run) (fun s H c cl fp => (ht s H c cl fp).run) (fun s H c cl fp => (he s H c cl fp).run) hs) fun _ _ _ => ev_lc hj⟩

/-! ### two sources -/
def lc2Loop (vs vs1 : List Nat) (g : PyData → S → Option S) (tt : S → Out Bool) (fi1 : S → Out (List PyData)) (g1 : PyData → S → Option S) (tt1 : S → Out Bool) (te : S → Out D) : List PyData → S → Out (List D)
  | [], s => .ok [] s
  | d :: ds, s => match g d (wipeS s vs) with
    | none => .er
    | some s1 => match tt s1 with
      | .ok true s2 => match fi1 s2 with
        | .ok ds1 s3 => match lcLoop vs1 g1 tt1 te ds1 s3 with
          | .ok es s4 => match lc2Loop vs vs1 g tt fi1 g1 tt1 te ds s4 with
            | .ok es' s5 => .ok (es ++ es') s5
            | _ => .er
          | _ => .er
        | _ => .er
      | .ok false s2 => lc2Loop vs vs1 g tt fi1 g1 tt1 te ds s2
      | _ => .er
theorem lc2Loop_cons {vs vs1 : List Nat} {d : PyData} {ds : List PyData} {s s' : S} {es : List D} (h : lc2Loop vs vs1 g tt fi1 g1 tt1 te (d :: ds) s = .ok es s') :
    ∃ s1, g d (wipeS s vs) = some s1 ∧ ((∃ s2 ds1 s3 ea s4 eb, tt s1 = .ok true s2 ∧ fi1 s2 = .ok ds1 s3 ∧ lcLoop vs1 g1 tt1 te ds1 s3 = .ok ea s4 ∧ lc2Loop vs vs1 g tt fi1 g1 tt1 te ds s4 = .ok eb s' ∧ es = ea ++ eb) ∨ (∃ s2, tt s1 = .ok false s2 ∧ lc2Loop vs vs1 g tt fi1 g1 tt1 te ds s2 = .ok es s')) := by
  simp only [lc2Loop] at h
  cases e1 : g d (wipeS s vs) with
  | none => rw [e1] at h; cases h
  | some s1 =>
    rw [e1] at h
    refine ⟨s1, rfl, ?_⟩
    dsimp only at h
    cases e2 : tt s1 with
    | ok b s2 =>
      rw [e2] at h
      cases b with
      | true =>
        dsimp only at h
        cases e3 : fi1 s2 with
        | ok ds1 s3 =>
          rw [e3] at h
          dsimp only at h
          cases e4 : lcLoop vs1 g1 tt1 te ds1 s3 with
          | ok ea s4 =>
            rw [e4] at h
            dsimp only at h
            cases e5 : lc2Loop vs vs1 g tt fi1 g1 tt1 te ds s4 with
            | ok eb s5 =>
              rw [e5] at h
              cases h
              exact .inl ⟨s2, ds1, s3, ea, s4, eb, rfl, e3, e4, e5, rfl⟩
            | _ => rw [e5] at h; cases h
          | _ => rw [e4] at h; cases h
        | _ => rw [e3] at h; cases h
      | false => exact .inr ⟨s2, rfl, h⟩
    | _ => rw [e2] at h; cases h
def lc2D (vs vs1 : List Nat) (fi : S → Out (List PyData)) (g : PyData → S → Option S) (tt : S → Out Bool) (fi1 : S → Out (List PyData)) (g1 : PyData → S → Option S) (tt1 : S → Out Bool) (te : S → Out D) : S → Out D := fun s => (fi s).bind fun ds s1 => match lc2Loop vs vs1 g tt fi1 g1 tt1 te ds s1 with
  | .ok es s2 => if es.length ≤ cap then .ok (.l es) (wipeS s2 vs) else .er
  | _ => .er
/-- a new empty list laid beside -/
theorem new_step {σ : L2.St} {F1 H1 : Hs} {A1 : List Addr} {s1 : S} {p : Addr} (at1 : At C σ H1 s1 F1 A1) (hp : H1 p = none) : Step F1 H1 A1 F1 (upd H1 p (.lst [])) (A1 ++ [p]) ∧ SR C.Z C.bv F1 (upd H1 p (.lst [])) 0 σ s1 A1 := by
  have hpa : p ∉ A1 := fun z => at1.there p z hp
  refine ⟨⟨Le.refl _, fun a o e => ?_, ?_, fun a ha => ?_, fun a h2 _ => upd_ne (fun q => h2 (by rw [q]; exact hp)), fun a h2 h3 => ?_⟩, ?_⟩
  · rw [upd_ne (ne_of_none e (at1.g.fh.nn hp))]
    exact at1.g.fh a o e
  · exact List.nodup_append.mpr ⟨at1.g.nd, by simp, fun a h2 b h3 q => hpa (by simp at h3; rw [← h3, ← q]; exact h2)⟩
  · rcases List.mem_append.mp ha with ha | ha
    · exact at1.g.ap a ha
    · simp at ha; rw [ha]; exact at1.g.fh.nn hp
  · rcases h2 with h2 | h2
    · rcases List.mem_append.mp h2 with h2 | h2
      · exact .inl h2
      · simp at h2; rw [h2] at h3; exact absurd hp h3
    · exact .inr h2
  · exact SR.mono (Le.refl _) (fun a ha => upd_ne (fun q => at1.there a ha (by rw [q]; exact hp))) at1.r
theorem ev_lc2 (hj : ∀ j ∈ js, j ∈ own.map (·.2)) (hj1 : ∀ j ∈ js1, j ∈ vs1) (hv : ∀ i ∈ vs1, i ∈ own.map (·.2)) {σ : L2.St} {H : Hs} {Q : VK} : EvD C (lc2D (own.map (·.2)) vs1 fi g tt fi1 g1 tt1 te) σ H Q →
    tLc2 (EvI C fi) (EvG C.nox js g) (EvB C.nox tt) (EvI C.nox fi1) (EvG C.nox js1 g1) (EvB C.nox tt1) (EvD C.nox te) (own.map (·.2)) vs1 σ H Q := fun ⟨F, A, s, at0, h⟩ => by
  refine evI_bind at0 h fun ds s1 F1 H1 A1 J at1 _ wk h1 => ?_
  generalize own.map (·.2) = vs at *
  intro p hp
  cases eL : lc2Loop vs vs1 g tt fi1 g1 tt1 te ds s1 with
  | ok es s2 =>
    rw [eL] at h1
    have h1' : (pkD C σ Q).at (if es.length ≤ cap then .ok (.l es) (wipeS s2 vs) else .er) F1 H1 A1 := h1
    by_cases hlen : es.length ≤ cap
    · rw [if_pos hlen] at h1'
      have fin : ∀ H' sf, Mid C F1 H1 A1 F1 p σ vs H' sf es → sf = s2 → Q (.ref p) H' := fun H' sf ⟨F, A, T, σx, us, l, st, hw, r, hp', ra⟩ e => by
        subst e
        obtain ⟨B, hB, rB⟩ := SR.wipe r vs
        rw [hw] at rB
        refine h1' F H' B (p :: T) (.ref p) (st.subl (hB.append (List.Sublist.refl _))) rB.unwipe ?_
        simp only [Rep]
        exact ⟨p, us, T, rfl, rfl, hp', ra⟩
      obtain ⟨st0, r0⟩ := new_step at1 hp
      refine ⟨fun i m H => m = ds.length - i ∧ i ≤ ds.length ∧ ∃ s acc rest, Mid C F1 H1 A1 F1 p σ vs H s acc ∧ lc2Loop vs vs1 g tt fi1 g1 tt1 te (ds.drop i) s = .ok rest s2 ∧ es = acc ++ rest, ⟨ds.length, rfl, Nat.zero_le _, s1, [], es, ?_, eL, rfl⟩, ?_⟩
      · exact ⟨F1, A1, [], σ, [], Le.refl _, st0, rfl, r0, upd_same, by simp only [RepL]; exact ⟨trivial, trivial⟩⟩
      · rintro i m H2 ⟨rfl, hil, s3, acc, rest, mid, eq, hes⟩
        obtain ⟨F4, A4, T4, σx, us, l4, st4, hw4, r4, hp4, ra4⟩ := mid
        obtain ⟨w1, w2⟩ := wk i F4 H2 l4 st4.fh
        by_cases hl : i < ds.length
        · right
          obtain ⟨hgo, hy⟩ := w1 ds[i] (List.getElem?_eq_getElem hl)
          rw [List.drop_eq_getElem_cons hl] at eq
          refine ⟨hgo, fun H' => ∃ s acc rest, Mid C F1 H1 A1 F1 p σ vs H' s acc ∧ lc2Loop vs vs1 g tt fi1 g1 tt1 te (ds.drop (i + 1)) s = .ok rest s2 ∧ es = acc ++ rest, fun H' q => ⟨ds.length - (i + 1), by omega, rfl, by omega, q⟩, fun x H' y => ?_⟩
          obtain ⟨F2, gr, z⟩ := hy x H' y
          have thr : ∀ a ∈ A4 ++ (p :: T4), H2 a ≠ none := fun a ha => by
            rcases List.mem_append.mp ha with ha | ha
            · exact SR.there r4 a ha
            · rcases List.mem_cons.mp ha with rfl | ha
              · rw [hp4]; simp
              · exact RepL.there acc us T4 ra4 a ha
          have keepH : ∀ a ∈ A4 ++ (p :: T4), H' a = H2 a := fun a ha => by
            cases e : H2 a with
            | none => exact absurd e (thr a ha)
            | some o => exact gr.hh a o e
          have st5 : Step F1 H1 A1 F2 H' (A4 ++ (p :: T4)) := st4.trans at1.g (gr.step st4.good thr)
          obtain ⟨B, hB, rB⟩ := SR.wipe (SR.mono gr.ff (fun a ha => keepH a (by simp [ha])) r4) vs
          rw [hw4] at rB
          have st6 := st5.subl (hB.append (List.Sublist.refl (p :: T4)))
          obtain ⟨s5, eg, hh⟩ := lc2Loop_cons eq
          refine ⟨F2, B, wipeS s3 vs, ds[i], ⟨st6.sub.good, rB⟩, z, ?_⟩
          rw [eg]
          intro F3 H3 A3 σ3 t3 r3 ag3
          obtain ⟨q3, hp3, ra3⟩ := mid_step (C := C) (T2 := []) at1.g st6 ((keepH p (by simp)).trans hp4) (RepL.mono gr.ff acc us T4 (fun a ha => keepH a (by simp [ha])) ra4) (by rw [List.append_nil]; exact t3)
          rw [List.append_nil] at q3
          have hw3 : L2.wipe σ3 vs = L2.wipe σ vs := (ag3.wiped hj).trans (wipe_wipe σ vs)
          have l3 : Le F1 F3 := (l4.trans gr.ff).trans t3.ff
          refine ⟨hw3, F3, A3, s5, ⟨q3.sub.good, r3⟩, ?_⟩
          rcases hh with ⟨s6, ds1, s7, ea, s8, eb, e2, e3, e4, e5, rfl⟩ | ⟨s6, e2, e4⟩
          · rw [e2]
            intro F5 H5 A5 t5 r5
            obtain ⟨q5, hp5, ra5⟩ := mid_step (C := C) (T2 := []) at1.g q3 hp3 ra3 (by rw [List.append_nil]; exact t5)
            rw [List.append_nil] at q5
            rw [if_pos rfl]
            refine ⟨F5, A5, s6, ⟨q5.sub.good, r5⟩, ?_⟩
            rw [e3]
            intro F6 H6 A6 J1 t6 r6 wk1
            obtain ⟨q6, hp6, ra6⟩ := mid_step (C := C) (T2 := []) at1.g q5 hp5 ra5 (by rw [List.append_nil]; exact t6)
            rw [List.append_nil] at q6
            have l6 : Le F1 F6 := (l3.trans t5.ff).trans t6.ff
            refine ⟨fun j k H => k = ds1.length - j ∧ j ≤ ds1.length ∧ ∃ s acc1 rest1, Mid C F1 H1 A1 F6 p σ3 vs1 H s acc1 ∧ lcLoop vs1 g1 tt1 te (ds1.drop j) s = .ok rest1 s8 ∧ acc ++ ea = acc1 ++ rest1, ⟨ds1.length, rfl, Nat.zero_le _, s7, acc, ea, ⟨F6, A6, T4, σ3, us, Le.refl _, q6, rfl, r6, hp6, ra6⟩, e4, rfl⟩, ?_⟩
            rintro j k H7 ⟨rfl, hjl, s9, acc1, rest1, mid1, eq1, hes1⟩
            obtain ⟨F8, A8, T8, σ8, us8, l8, st8, hw8, r8, hp8, ra8⟩ := mid1
            obtain ⟨w3, w4⟩ := wk1 j F8 H7 l8 st8.fh
            by_cases hl1 : j < ds1.length
            · right
              obtain ⟨hgo1, hy1⟩ := w3 ds1[j] (List.getElem?_eq_getElem hl1)
              rw [List.drop_eq_getElem_cons hl1] at eq1
              refine ⟨hgo1, fun H' => ∃ s acc1 rest1, Mid C F1 H1 A1 F6 p σ3 vs1 H' s acc1 ∧ lcLoop vs1 g1 tt1 te (ds1.drop (j + 1)) s = .ok rest1 s8 ∧ acc ++ ea = acc1 ++ rest1, fun H' q => ⟨ds1.length - (j + 1), by omega, rfl, by omega, q⟩, fun x1 H8 y1 => ?_⟩
              obtain ⟨F9, gr1, z1⟩ := hy1 x1 H8 y1
              exact lc_turn (all := es) (J := J1) at1.g hj1 ⟨F8, A8, T8, σ8, us8, l8, st8, hw8, r8, hp8, ra8, F9, gr1, z1⟩ hlen eq1 (by rw [← hes1, hes]; simp)
                fun Ha acc2 es2 sa mida eqa ea2 => ⟨sa, acc2, es2, mida, eqa, hes1.trans ea2⟩
            · left
              rw [List.drop_eq_nil_of_le (by omega)] at eq1
              cases eq1
              rw [List.append_nil] at hes1
              refine ⟨w4 (by omega), _, acc1, eb, ⟨F8, A8, T8, σ8, us8, l6.trans l8, st8, (wipe_sub hw8 hv).trans hw3, r8, hp8, ra8⟩, e5, ?_⟩
              rw [← hes1, hes, List.append_assoc]
          · rw [e2]
            intro F5 H5 A5 t5 r5
            obtain ⟨q5, hp5, ra5⟩ := mid_step (C := C) (T2 := []) at1.g q3 hp3 ra3 (by rw [List.append_nil]; exact t5)
            rw [List.append_nil] at q5
            rw [if_neg Bool.false_ne_true]
            exact ⟨s6, acc, rest, ⟨F5, A5, T4, σ3, us, l3.trans t5.ff, q5, hw3, r5, hp5, ra5⟩, e4, hes⟩
        · left
          rw [List.drop_eq_nil_of_le (by omega)] at eq
          cases eq
          rw [List.append_nil] at hes
          subst hes
          exact ⟨w2 (by omega), fin H2 _ ⟨F4, A4, T4, σx, us, l4, st4, hw4, r4, hp4, ra4⟩ rfl⟩
    · rw [if_neg hlen] at h1'
      exact h1'.elim
  | ex c s2 => rw [eL] at h1; exact h1.elim
  | er => rw [eL] at h1; exact h1.elim
theorem ce_lc2 (hc : C.X.calm = true) (hN : C.X.N.Nodup) (ok : BlkOk C.X.N C.X.env.scope scope own) (hj : ∀ j ∈ js, j ∈ own.map (·.2)) (hj1 : ∀ j ∈ js1, j ∈ vs1) (hv : ∀ i ∈ vs1, i ∈ own.map (·.2)) (hi : CI C tg iter fi)
    (hg : ∀ (s : Shared) (H : Hs) (c : Addr) (cl : List (Str × Addr)) (fp : List Addr), CG (C.blk s H scope (compEnvC scope cl c C.X.env) fp) tg js g)
    (ht : ∀ (s : Shared) (H : Hs) (c : Addr) (cl : List (Str × Addr)) (fp : List Addr), CTs (C.blk s H scope (compEnvC scope cl c C.X.env) fp) ifs tt)
    (hi1 : ∀ (s : Shared) (H : Hs) (c : Addr) (cl : List (Str × Addr)) (fp : List Addr), CI (C.blk s H scope (compEnvC scope cl c C.X.env) fp) tg1 iter1 fi1)
    (hg1 : ∀ (s : Shared) (H : Hs) (c : Addr) (cl : List (Str × Addr)) (fp : List Addr), CG (C.blk s H scope (compEnvC scope cl c C.X.env) fp) tg1 js1 g1)
    (ht1 : ∀ (s : Shared) (H : Hs) (c : Addr) (cl : List (Str × Addr)) (fp : List Addr), CTs (C.blk s H scope (compEnvC scope cl c C.X.env) fp) ifs1 tt1)
    (he : ∀ (s : Shared) (H : Hs) (c : Addr) (cl : List (Str × Addr)) (fp : List Addr), CE (C.blk s H scope (compEnvC scope cl c C.X.env) fp) elt te)
    (hs : ∀ x, foldedSetIterable iter C.X.env x = pure x := by intro _; rfl) (hs1 : ∀ env x, foldedSetIterable iter1 env x = pure x := by intro _ _; rfl) :
    CE C (.ListComp elt [⟨tg, iter, ifs, 0⟩, ⟨tg1, iter1, ifs1, 0⟩] scope pos) (lc2D (own.map (·.2)) vs1 fi g tt fi1 g1 tt1 te) :=
  ⟨PE.imp (pe_lc2 (g := EvG C.nox js g) (tt := EvB C.nox tt) (wi1 := EvI C.nox fi1) (g1 := EvG C.nox js1 g1) (tt1 := EvB C.nox tt1) (te := EvD C.nox te) hc hN hi.run ok hv (fun s H c cl fp => (hg s H c cl fp).run) (fun s H c cl fp => (ht s H c cl fp).run) (fun s H c cl fp => (hi1 s H c cl fp).run) (fun s H c cl fp => (hg1 s H c cl fp).run) (fun s H c cl fp => (ht1 s H c cl fp).run) (fun s H c cl fp => (he s H c cl fp).run) hs hs1) fun _ _ _ => ev_lc2 hj hj1 hv⟩
end
end Dl

set_option Elab.async false
set_option linter.all false
set_option maxRecDepth 100000
set_option maxHeartbeats 4000000
namespace Dl
open PySem PySem.Spec PyProof.Rows L2

/-! ### what a def gives -/
inductive FOut where
  | ok (r : D) (outs : List D)
  | ex (c : Nat) (outs : List D)
  | er
abbrev Fn := List D → FOut
def D.lent : D → Bool
  | .p _ => false
  | .x _ => false
  | .s _ => false
  | .fd _ => false
  | _ => true
def toSlot (d : D) : Slot := if d.lent then .b d else .v d
def initS (ds : List D) (n : Nat) : S := ds.map toSlot ++ List.replicate (n - ds.length) .n
def outD (d : D) (sl : Option Slot) : D := match sl with
  | some (.b d') => d'
  | _ => if d.lent then .gone else d
def outsOf : List D → S → List D
  | [], _ => []
  | d :: ds, [] => outD d none :: outsOf ds []
  | d :: ds, sl :: s => outD d (some sl) :: outsOf ds s
def fnD (n : Nat) (fs : S → SOut) : Fn := fun ds => match fs (initS ds n) with
  | .ok none s => .ok (.p .none) (outsOf ds s)
  | .ok (some d) s => .ok d (outsOf ds s)
  | .ex c s => .ex c (outsOf ds s)
  | .er => .er
def spOf (Z : Env0) (n : Nat) (fm : Fn) : Sp := fun vs H Q E => vs.length = n ∧ ∃ F ds A, Good F H A ∧ RepL Z F H ds vs A ∧ match fm ds with
  | .ok r outs => ∀ F' H' B T v, Step F H A F' H' (B ++ T) → RepL Z F' H' outs vs B → Rep Z F' H' r v T → Q v H'
  | .ex c outs => ∀ F' H' B, Step F H A F' H' B → RepL Z F' H' outs vs B → E (.ref (Z.ca c)) none H'
  | .er => False
/-- no more of each -/
def Sb (A B : List Addr) : Prop := ∀ a : Addr, A.count a ≤ B.count a
theorem Sb.nd {A B : List Addr} (h : Sb A B) (n : B.Nodup) : A.Nodup := List.nodup_iff_count.mpr fun a => Nat.le_trans (h a) (List.nodup_iff_count.mp n a)
theorem Sb.mem {A B : List Addr} (h : Sb A B) {a : Addr} (m : a ∈ A) : a ∈ B := List.count_pos_iff.mp (Nat.lt_of_lt_of_le (List.count_pos_iff.mpr m) (h a))
theorem Step.sb {F H F' H' : Hs} {A B C : List Addr} (s : Step F H A F' H' B) (h : Sb C B) : Step F H A F' H' C := s.of (h.nd s.nd) fun _ z => h.mem z
theorem Sb.app {A B C D : List Addr} (h : Sb A B) (k : Sb C D) : Sb (A ++ C) (B ++ D) := fun a => by
  rw [List.count_append, List.count_append]
  exact Nat.add_le_add (h a) (k a)
theorem Sb.refl (A : List Addr) : Sb A A := fun _ => Nat.le_refl _
section
variable {Z : Env0} {bv : Nat → V} {F F' H H' : Hs}
theorem rep_free {d : D} {v : V} {A : List Addr} (h : d.lent = false) (r : Rep Z F H d v A) : A = [] := by
  cases d with
  | p d => exact (Rep.p_iff.mp r).1
  | x c => simp only [Rep] at r; obtain ⟨_, _, e, _⟩ := r; exact e
  | s ns => simp only [Rep] at r; obtain ⟨_, _, e, _⟩ := r; exact e
  | fd kvs => simp only [Rep] at r; obtain ⟨_, _, _, _, e, _⟩ := r; exact e
  | _ => cases h
theorem repn : ∀ n i : Nat, SR Z bv F H i (List.replicate n none) (List.replicate n .n) []
  | 0, _ => rfl
  | n + 1, i => ⟨[], [], rfl, rfl, repn n (i + 1)⟩
theorem sr_init : ∀ {ds : List D} {vs : List V} {A : List Addr} (i n : Nat), RepL Z F H ds vs A → (∀ j v, vs[j]? = some v → bv (i + j) = v) → SR Z bv F H i (vs.map some ++ List.replicate n none) (ds.map toSlot ++ List.replicate n .n) A
  | [], _, _, i, n, h, _ => by
    simp only [RepL] at h
    obtain ⟨rfl, rfl⟩ := h
    exact repn n i
  | d :: ds, _, _, i, n, h, hb => by
    simp only [RepL] at h
    obtain ⟨v, vs', A1, A2, rfl, rfl, r1, r2⟩ := h
    refine ⟨A1, A2, rfl, ?_, sr_init (i + 1) n r2 fun j w e => ?_⟩
    · have e0 := hb 0 v rfl
      unfold toSlot
      cases q : d.lent with
      | true => exact ⟨by rw [← e0]; rfl, by rw [show bv i = v from e0]; exact r1⟩
      | false => exact ⟨v, rfl, r1⟩
    · rw [show i + 1 + j = i + (j + 1) by omega]
      exact hb (j + 1) w (by simpa using e)
/-- what comes back of the arguments -/
theorem outs_rep : ∀ {ds : List D} {vs : List V} {A A' : List Addr} {σ : L2.St} {s : S} (i : Nat), RepL Z F H ds vs A → Le F F' → (∀ j v, vs[j]? = some v → bv (i + j) = v) → SR Z bv F' H' i σ s A' → ∃ B, Sb B A' ∧ RepL Z F' H' (outsOf ds s) vs B
  | [], _, _, A', σ, s, i, h, _, _, _ => by
    simp only [RepL] at h
    obtain ⟨rfl, rfl⟩ := h
    exact ⟨[], fun a => Nat.zero_le _, by simp only [outsOf, RepL]; exact ⟨trivial, trivial⟩⟩
  | d :: ds, _, _, A', σ, s, i, h, l, hb, r => by
    simp only [RepL] at h
    obtain ⟨v, vs', A1, A2, rfl, rfl, r1, r2⟩ := h
    have e0 : bv i = v := hb 0 v rfl
    have hb' : ∀ j w, vs'[j]? = some w → bv (i + 1 + j) = w := fun j w e => by
      rw [show i + 1 + j = i + (j + 1) by omega]
      exact hb (j + 1) w (by simpa using e)
    have base : Rep Z F' H' (if d.lent then .gone else d) v [] := by
      cases q : d.lent with
      | true => simp only [if_true, Rep]
      | false =>
        have e1 := rep_free q r1
        subst e1
        exact Rep.mono l d v [] (fun _ z => nomatch z) r1
    have plain : ∀ sl : Option Slot, (∀ d', sl ≠ some (Slot.b d')) → Rep Z F' H' (outD d sl) v [] := fun sl hs => by
      cases sl with
      | none => exact base
      | some sl => cases sl with
        | n => exact base
        | v d0 => exact base
        | b d' => exact absurd rfl (hs d')
    cases s with
    | nil =>
      cases σ with
      | cons _ _ => exact r.elim
      | nil =>
        obtain ⟨B, h1, h2⟩ := outs_rep (σ := []) (s := []) (A' := A') (i + 1) r2 l hb' r
        refine ⟨[] ++ B, h1, ?_⟩
        simp only [outsOf, RepL]
        exact ⟨v, vs', [], B, rfl, rfl, plain none (fun _ e => nomatch e), h2⟩
    | cons sl s =>
      cases σ with
      | nil => exact r.elim
      | cons so σ =>
        obtain ⟨B1, B2, rfl, s1, s2⟩ := r
        obtain ⟨B, h1, h2⟩ := outs_rep (i + 1) r2 l hb' s2
        cases sl with
        | b d' =>
          obtain ⟨_, q⟩ := s1
          refine ⟨B1 ++ B, (Sb.refl B1).app h1, ?_⟩
          simp only [outsOf, RepL]
          exact ⟨v, vs', B1, B, rfl, rfl, by rw [← e0]; exact q, h2⟩
        | n =>
          refine ⟨[] ++ B, fun a => ?_, ?_⟩
          · rw [List.count_append, List.count_append]
            exact Nat.add_le_add (Nat.zero_le _) (h1 a)
          · simp only [outsOf, RepL]
            exact ⟨v, vs', [], B, rfl, rfl, plain _ (fun _ e => by cases e), h2⟩
        | v d0 =>
          refine ⟨[] ++ B, fun a => ?_, ?_⟩
          · rw [List.count_append, List.count_append]
            exact Nat.add_le_add (Nat.zero_le _) (h1 a)
          · simp only [outsOf, RepL]
            exact ⟨v, vs', [], B, rfl, rfl, plain _ (fun _ e => by cases e), h2⟩
end

/-! ### a def of the text -/
structure Gv where
  P : Program
  w : World
  K : PySem.W.Frag
  mg : Str → Option Value
  base : Heap
  ca : Nat → Addr
abbrev Gv.Z (G : Gv) : Env0 := ⟨G.P, G.w, G.K, G.ca⟩
abbrev Gv.cn (G : Gv) (N : List Str) (qual : Str) (scope : Scope) (f : Addr) (cdv : Value) (A : Around) (outer : List Env) (s : Shared) (H : Hs) (E : XK) (bv : Nat → V) : Cn :=
  ⟨cxOf (L2.CX G.P G.w) G.P G.w G.K G.mg G.base N qual scope f cdv A outer s H E, G.ca, bv, fun cls d _ H' => E cls d H'⟩
theorem fn_ok {G : Gv} {x qual : Str} {params : Arguments} {body : List Stmt} {scope : Scope} {f : Addr} {fd : FuncData} {N ps : List Str} {k : Nat} {fs : S → SOut} (F : FunD G.K x qual params body scope [] [] f fd) (sc : FnScope N ps scope) (hn : ps.length ≤ N.length := by decide)
    (hb : ∀ (cdv : Value) (A : Around) (outer : List Env) (s : Shared) (H : Hs) (E : XK) (bv : Nat → V), Room k (A.deeper (envOfC qual scope s.heap.objs.size f cdv)) → CSs (G.cn N qual scope f cdv A outer s H E bv) body fs) :
    FnOk G.P G.w G.K G.mg G.base (L2.CX G.P G.w) (k + 1) f fd ps (spOf G.Z ps.length (fnD N.length fs)) := by
  refine F.ok sc (fun vs H Q E h => h.1) fun cdv A outer s H vs Q E hr h => ?_
  obtain ⟨hl, F0, ds, A0, g, r, hm⟩ := h
  have hlen : ds.length = vs.length := r.length.symm
  refine ⟨_, (hb cdv A outer s H E (fun i => vs.getD i .non) hr).run, F0, A0, initS ds N.length, ⟨g, ?_⟩, ?_⟩
  · have q := sr_init (bv := fun i => vs.getD i .non) 0 (N.length - vs.length) r fun j v e => by
      rw [Nat.zero_add]
      show vs.getD j .non = v
      rw [List.getD_eq_getElem?_getD, e]; rfl
    unfold initS L2.start
    rw [hlen]
    exact q
  · have outs : ∀ {F' H' A' σ' s'}, Le F0 F' → SR G.Z (fun i => vs.getD i .non) F' H' 0 σ' s' A' → ∃ B, Sb B A' ∧ RepL G.Z F' H' (outsOf ds s') vs B := fun {F' H' A' σ' s'} l q =>
      outs_rep (F := F0) (H := H) 0 r l (fun j v e => by
        rw [Nat.zero_add]
        show vs.getD j .non = v
        rw [List.getD_eq_getElem?_getD, e]; rfl) q
    unfold fnD at hm
    cases e : fs (initS ds N.length) with
    | ok o s' =>
      rw [e] at hm
      cases o with
      | none =>
        intro F' H' A' σ' st q
        obtain ⟨B, hB, hr⟩ := outs st.ff q
        refine hm F' H' B [] .non ?_ hr (Rep.p_iff.mpr ⟨rfl, .non⟩)
        rw [List.append_nil]
        exact st.sb hB
      | some d =>
        intro F' H' A' σ' T v st q rp
        obtain ⟨B, hB, hr⟩ := outs st.ff q
        exact hm F' H' B T v (st.sb (hB.app (Sb.refl T))) hr rp
    | ex c s' =>
      rw [e] at hm
      intro F' H' A' σ' st q
      obtain ⟨B, hB, hr⟩ := outs st.ff q
      exact hm F' H' B (st.sb hB) hr
    | er => rw [e] at hm; exact hm.elim
/-- a def by its name, what it gives -/
structure Cal (G : Gv) (k : Nat) (x : Str) (n : Nat) (fm : Fn) : Prop where
  ex : ∃ f fd ps, FnOk G.P G.w G.K G.mg G.base (L2.CX G.P G.w) k f fd ps (spOf G.Z n fm) ∧ G.mg x = some (.ref f) ∧ PySem.W.keepIn G.K (.ref f) = true ∧ Binds G.K fd ps []
theorem Cal.mono {G : Gv} {j k : Nat} {x : Str} {n : Nat} {fm : Fn} (c : Cal G j x n fm) (h : j ≤ k) : Cal G k x n fm := let ⟨f, fd, ps, a, b⟩ := c.ex; ⟨f, fd, ps, a.mono h, b⟩

/-! ### arguments -/
inductive Ar where
  /-- a value -/
  | e (f : S → Out D)
  /-- the parameter in slot j, lent on; a local of one's own, lent -/
  | b (j : Nat) | w (j : Nat)
def takeB (j : Nat) (s : S) : Option (D × S) := match s[j]? with
  | some (.b d) => some (d, s.set j .n)
  | _ => none
def takeW (j : Nat) (s : S) : Option (D × S) := match s[j]? with
  | some (.v d) => some (d, s.set j .n)
  | _ => none
def runAr : List Ar → S → Out (List D)
  | [], s => .ok [] s
  | .e f :: as, s => (f s).bind fun d s1 => (runAr as s1).bind fun ds s2 => .ok (d :: ds) s2
  | .b j :: as, s => match takeB j s with
    | some (d, s1) => (runAr as s1).bind fun ds s2 => .ok (d :: ds) s2
    | none => .er
  | .w j :: as, s => match takeW j s with
    | some (d, s1) => (runAr as s1).bind fun ds s2 => .ok (d :: ds) s2
    | none => .er
/-- what was lent comes back -/
def giveAr : List Ar → List D → S → Option S
  | .e _ :: as, _ :: os, s => giveAr as os s
  | .b j :: as, o :: os, s => match s[j]? with
    | some .n => giveAr as os (s.set j (.b o))
    | _ => none
  | .w j :: as, o :: os, s => match s[j]? with
    | some .n => giveAr as os (s.set j (.v o))
    | _ => none
  | _, _, s => some s
def ArRel (bv : Nat → V) (σ : L2.St) : List Ar → List V → Prop
  | .e _ :: as, _ :: vs => ArRel bv σ as vs
  | .b j :: as, v :: vs => σ[j]? = some (some v) ∧ v = bv j ∧ ArRel bv σ as vs
  | .w j :: as, v :: vs => σ[j]? = some (some v) ∧ ArRel bv σ as vs
  | _, _ => True
def pkAr (C : Cn) (σ : L2.St) (as : List Ar) (Q : List V → Hs → Prop) : PK C σ (List D) where
  ok ds s F H A := ∀ F' H' A' T vs, Step F H A F' H' (A' ++ T) → SR C.Z C.bv F' H' 0 σ s A' → RepL C.Z F' H' ds vs T → ArRel C.bv σ as vs → Q vs H'
  ex := Xw C σ
  okm g t h := fun F' H' A' T vs t' r q ar => h F' H' A' T vs (t.trans g t') r q ar
  exm g t h := fun F' H' A' t' r => h F' H' A' (t.trans g t') r
  exw h := h
def EvAr (C : Cn) (as : List Ar) : TA := fun σ H Q => ∃ F A s, At C σ H s F A ∧ (pkAr C σ as Q).at (runAr as s) F H A
structure CAr (C : Cn) (es : List Expr) (as : List Ar) : Prop where
  run : PA C.X es (EvAr C as)
section
variable {C : Cn} {e : Expr} {es : List Expr} {f : S → Out D} {as : List Ar} {pos : Pos}
theorem evAr_bind {σ : L2.St} {β : Type} {k : PK C σ β} {H : Hs} {s : S} {F : Hs} {A : List Addr} {kk : List D → S → Out β} {Q1 : List V → Hs → Prop} (a : At C σ H s F A) (h : k.at ((runAr as s).bind kk) F H A)
    (cont : ∀ ds s1 F1 H1 A1 T vs, Step F H A F1 H1 (A1 ++ T) → SR C.Z C.bv F1 H1 0 σ s1 A1 → RepL C.Z F1 H1 ds vs T → ArRel C.bv σ as vs → k.at (kk ds s1) F H A → Q1 vs H1) : EvAr C as σ H Q1 := by
  refine ⟨F, A, s, a, ?_⟩
  cases e : runAr as s with
  | ok d s1 =>
    rw [e] at h
    intro F' H' A' T vs t r q ar
    exact cont d s1 F' H' A' T vs t r q ar h
  | ex c s1 =>
    rw [e] at h
    exact k.exw h
  | er =>
    rw [e] at h
    exact h.elim
theorem car_nil : CAr C [] [] := ⟨PA.imp pa_nil fun σ H Q ⟨F, A, s, a, h⟩ => h F H A [] [] (by rw [List.append_nil]; exact a.g.step) a.r (by simp only [RepL]; exact ⟨trivial, trivial⟩) trivial⟩
/-- the rest of the arguments behind one whose own part is T1 -/
theorem ar_rest {σ : L2.St} {F H F1 H1 : Hs} {A A1 T1 : List Addr} {s1 : S} {a : Ar} {d : D} {v : V} {Q : List V → Hs → Prop} (g : Good F H A) (st1 : Step F H A F1 H1 (A1 ++ T1)) (r1 : SR C.Z C.bv F1 H1 0 σ s1 A1) (q1 : Rep C.Z F1 H1 d v T1)
    (har : ∀ vs, ArRel C.bv σ as vs → ArRel C.bv σ (a :: as) (v :: vs)) (h : (pkAr C σ (a :: as) Q).at ((runAr as s1).bind fun ds s2 => .ok (d :: ds) s2) F H A) : EvAr C as σ H1 fun xs H2 => Q (v :: xs) H2 := by
  refine ⟨F1, A1, s1, ⟨st1.sub.good, r1⟩, ?_⟩
  cases e : runAr as s1 with
  | ok ds s2 =>
    rw [e] at h
    intro F2 H2 A2 T2 vs st2 r2 q2 ar2
    have fr := st2.frame st1.good (Rep.there d v T1 q1)
    refine h F2 H2 A2 (T1 ++ T2) (v :: vs) ((st1.trans g fr).sb fun a => ?_) r2 ?_ (har vs ar2)
    · simp only [List.count_append]; omega
    · simp only [RepL]
      exact ⟨v, vs, T1, T2, rfl, rfl, st2.rep st1.good q1, q2⟩
  | ex c s2 =>
    rw [e] at h
    have h' : Xw C σ c s2 F H A := h
    exact fun F2 H2 A2 st2 r2 => h' F2 H2 A2 ((st1.trans g (st2.frame st1.good (Rep.there d v T1 q1))).sub) r2
  | er => rw [e] at h; exact h.elim
theorem car_e (he : CE C e f) (hr : CAr C es as) (hs : starEach (e :: es) C.X.env = (false, eval e C.X.env) :: starEach es C.X.env := by rfl) : CAr C (e :: es) (.e f :: as) :=
  ⟨PA.imp (pa_cons he.run hr.run hs) fun σ H Q ⟨F, A, s, at0, h⟩ => evD_bind at0 h fun d s1 F1 H1 A1 T1 v st1 r1 q1 h1 => ar_rest (a := .e f) at0.g st1 r1 q1 (fun _ q => q) h1⟩
theorem take_sr {σ : L2.St} {s : S} {F H : Hs} {A : List Addr} {j : Nat} {sl : Slot} (at0 : At C σ H s F A) (e : s[j]? = some sl) : ∃ so L A1 R, σ[j]? = some so ∧ A = L ++ (A1 ++ R) ∧ SlR C.Z C.bv F H j so sl A1 ∧ SR C.Z C.bv F H 0 σ (s.set j .n) (L ++ ([] ++ R)) := by
  obtain ⟨so, L, A1, R, e1, e2, r, put⟩ := at0.get e
  refine ⟨so, L, A1, R, e1, e2, r, ?_⟩
  have q := put F H so .n [] (Le.refl _) (fun _ _ => rfl) rfl
  rwa [list_set_same e1] at q
where
  list_set_same {σ : L2.St} {j : Nat} {so : Option V} (e : σ[j]? = some so) : σ.set j so = σ := by
    refine List.ext_getElem? fun i => ?_
    by_cases h : j = i
    · subst h
      rw [List.getElem?_set_self (List.getElem?_eq_some_iff.mp e).1, e]
    · rw [List.getElem?_set_ne h]
theorem set_same {σ : L2.St} {j : Nat} {so : Option V} (e : σ[j]? = some so) : σ.set j so = σ := by
  refine List.ext_getElem? fun i => ?_
  by_cases h : j = i
  · subst h
    rw [List.getElem?_set_self (List.getElem?_eq_some_iff.mp e).1, e]
  · rw [List.getElem?_set_ne h]
theorem car_b {j : Nat} {x : Str} {p : Pos} (he : PE C.X (.Name x p) (tVar j)) (hr : CAr C es as) (hs : starEach (.Name x p :: es) C.X.env = (false, eval (.Name x p) C.X.env) :: starEach es C.X.env := by rfl) : CAr C (.Name x p :: es) (.b j :: as) :=
  ⟨PA.imp (pa_cons he hr.run hs) fun σ H Q ⟨F, A, s, at0, h⟩ => by
    have h' : (pkAr C σ (.b j :: as) Q).at (match takeB j s with
      | some (d, s1) => (runAr as s1).bind fun ds s2 => .ok (d :: ds) s2
      | none => .er) F H A := h
    unfold takeB at h'
    cases e : s[j]? with
    | none => rw [e] at h'; exact h'.elim
    | some sl =>
      rw [e] at h'
      cases sl with
      | b d =>
        obtain ⟨so, L, A1, R, e1, rfl, ⟨rfl, q⟩, r2⟩ := take_sr at0 e
        exact ⟨_, e1, ar_rest (a := .b j) at0.g (T1 := A1) (at0.g.step.sb fun a => by simp only [List.count_append, List.nil_append]; omega) r2 q (fun vs q => ⟨e1, rfl, q⟩) h'⟩
      | n => exact h'.elim
      | v d => exact h'.elim⟩
theorem car_w {j : Nat} {x : Str} {p : Pos} (he : PE C.X (.Name x p) (tVar j)) (hr : CAr C es as) (hs : starEach (.Name x p :: es) C.X.env = (false, eval (.Name x p) C.X.env) :: starEach es C.X.env := by rfl) : CAr C (.Name x p :: es) (.w j :: as) :=
  ⟨PA.imp (pa_cons he hr.run hs) fun σ H Q ⟨F, A, s, at0, h⟩ => by
    have h' : (pkAr C σ (.w j :: as) Q).at (match takeW j s with
      | some (d, s1) => (runAr as s1).bind fun ds s2 => .ok (d :: ds) s2
      | none => .er) F H A := h
    unfold takeW at h'
    cases e : s[j]? with
    | none => rw [e] at h'; exact h'.elim
    | some sl =>
      rw [e] at h'
      cases sl with
      | v d =>
        obtain ⟨so, L, A1, R, e1, rfl, ⟨v, rfl, q⟩, r2⟩ := take_sr at0 e
        exact ⟨_, e1, ar_rest (a := .w j) at0.g (T1 := A1) (at0.g.step.sb fun a => by simp only [List.count_append, List.nil_append]; omega) r2 q (fun vs q => ⟨e1, q⟩) h'⟩
      | n => exact h'.elim
      | b d => exact h'.elim⟩
theorem give_sr {σ : L2.St} {F H : Hs} : ∀ {as : List Ar} {outs : List D} {vs : List V} {s s2 : S} {A B : List Addr}, SR C.Z C.bv F H 0 σ s A → RepL C.Z F H outs vs B → ArRel C.bv σ as vs → giveAr as outs s = some s2 → ∃ A2, Sb A2 (A ++ B) ∧ SR C.Z C.bv F H 0 σ s2 A2
  | [], outs, vs, s, s2, A, B, r, q, ar, e => by
    unfold giveAr at e
    obtain rfl := Option.some.inj e
    exact ⟨A, fun a => by rw [List.count_append]; omega, r⟩
  | .e f :: as, [], vs, s, s2, A, B, r, q, ar, e => by
    unfold giveAr at e
    obtain rfl := Option.some.inj e
    exact ⟨A, fun a => by rw [List.count_append]; omega, r⟩
  | .b j :: as, [], vs, s, s2, A, B, r, q, ar, e => by
    unfold giveAr at e
    obtain rfl := Option.some.inj e
    exact ⟨A, fun a => by rw [List.count_append]; omega, r⟩
  | .w j :: as, [], vs, s, s2, A, B, r, q, ar, e => by
    unfold giveAr at e
    obtain rfl := Option.some.inj e
    exact ⟨A, fun a => by rw [List.count_append]; omega, r⟩
  | .e f :: as, o :: os, vs, s, s2, A, B, r, q, ar, e => by
    simp only [RepL] at q
    obtain ⟨v, vs', B1, B2, rfl, rfl, q1, q2⟩ := q
    unfold giveAr at e
    obtain ⟨A2, h1, h2⟩ := give_sr r q2 ar e
    exact ⟨A2, fun a => by have := h1 a; simp only [List.count_append] at this ⊢; omega, h2⟩
  | .b j :: as, o :: os, vs, s, s2, A, B, r, q, ar, e => by
    simp only [RepL] at q
    obtain ⟨v, vs', B1, B2, rfl, rfl, q1, q2⟩ := q
    unfold giveAr at e
    cases ej : s[j]? with
    | none => rw [ej] at e; cases e
    | some sl =>
      rw [ej] at e
      cases sl with
      | n =>
        obtain ⟨a1, a2, a3⟩ := ar
        obtain ⟨so, L, A1, R, e1, rfl, r1, put⟩ := SR.get r ej
        rw [a1] at e1
        cases e1
        have p2 := put F H (some v) (.b o) B1 (Le.refl _) (fun _ _ => rfl) ⟨by rw [Nat.zero_add, a2], by rw [Nat.zero_add, ← a2]; exact q1⟩
        rw [set_same a1] at p2
        obtain ⟨A2, h1, h2⟩ := give_sr p2 q2 a3 e
        exact ⟨A2, fun a => by have := h1 a; simp only [List.count_append] at this ⊢; omega, h2⟩
      | v d => cases e
      | b d => cases e
  | .w j :: as, o :: os, vs, s, s2, A, B, r, q, ar, e => by
    simp only [RepL] at q
    obtain ⟨v, vs', B1, B2, rfl, rfl, q1, q2⟩ := q
    unfold giveAr at e
    cases ej : s[j]? with
    | none => rw [ej] at e; cases e
    | some sl =>
      rw [ej] at e
      cases sl with
      | n =>
        obtain ⟨a1, a3⟩ := ar
        obtain ⟨so, L, A1, R, e1, rfl, r1, put⟩ := SR.get r ej
        rw [a1] at e1
        cases e1
        have p2 := put F H (some v) (.v o) B1 (Le.refl _) (fun _ _ => rfl) ⟨v, rfl, q1⟩
        rw [set_same a1] at p2
        obtain ⟨A2, h1, h2⟩ := give_sr p2 q2 a3 e
        exact ⟨A2, fun a => by have := h1 a; simp only [List.count_append] at this ⊢; omega, h2⟩
      | v d => cases e
      | b d => cases e

/-! ### calls -/
def callD (fm : Fn) (as : List Ar) : S → Out D := fun s => (runAr as s).bind fun ds s1 => match fm ds with
  | .ok r outs => match giveAr as outs s1 with
    | some s2 => .ok r s2
    | none => .er
  | .ex c outs => match giveAr as outs s1 with
    | some s2 => .ex c s2
    | none => .er
  | .er => .er
/-- behind the arguments: what the callee wants -/
theorem sp_here {σ : L2.St} {H : Hs} {Q : VK} {fm : Fn} {n : Nat} {F F1 H1 : Hs} {A A1 T : List Addr} {s1 : S} {ds : List D} {vs : List V} (g : Good F H A) (st1 : Step F H A F1 H1 (A1 ++ T)) (r1 : SR C.Z C.bv F1 H1 0 σ s1 A1) (q1 : RepL C.Z F1 H1 ds vs T) (ar : ArRel C.bv σ as vs) (hn : vs.length = n)
    (h : (pkD C σ Q).at (match fm ds with
      | .ok r outs => match giveAr as outs s1 with
        | some s2 => .ok r s2
        | none => .er
      | .ex c outs => match giveAr as outs s1 with
        | some s2 => .ex c s2
        | none => .er
      | .er => .er) F H A) : spOf C.Z n fm vs H1 Q (fun cls d H' => C.W cls d σ H') := by
  refine ⟨hn, F1, ds, T, st1.sub2.good, q1, ?_⟩
  have stp : Step F H A F1 H1 (T ++ A1) := st1.perm List.perm_append_comm
  cases e : fm ds with
  | ok r outs =>
    rw [e] at h
    intro F' H' B Tr v st2 q2 qr
    dsimp only at h
    have fr := st2.frame stp.good (SR.there r1)
    cases eg : giveAr as outs s1 with
    | none => rw [eg] at h; exact h.elim
    | some s2 =>
      rw [eg] at h
      have r2 : SR C.Z C.bv F' H' 0 σ s1 A1 := SR.mono st2.ff (fun a ha => st2.kp a (SR.there r1 a ha) fun z => (List.nodup_append.mp stp.nd).2.2 a z a ha rfl) r1
      obtain ⟨A2, h1, h2⟩ := give_sr r2 q2 ar eg
      refine h F' H' A2 Tr v ((stp.trans g fr).sb fun a => ?_) h2 qr
      have := h1 a
      simp only [List.count_append] at this ⊢
      omega
  | ex c outs =>
    rw [e] at h
    intro F' H' B st2 q2
    dsimp only at h
    have fr := st2.frame stp.good (SR.there r1)
    cases eg : giveAr as outs s1 with
    | none => rw [eg] at h; exact h.elim
    | some s2 =>
      rw [eg] at h
      have h' : Xw C σ c s2 F H A := h
      have r2 : SR C.Z C.bv F' H' 0 σ s1 A1 := SR.mono st2.ff (fun a ha => st2.kp a (SR.there r1 a ha) fun z => (List.nodup_append.mp stp.nd).2.2 a z a ha rfl) r1
      obtain ⟨A2, h1, h2⟩ := give_sr r2 q2 ar eg
      refine h' F' H' A2 ((stp.trans g fr).sb fun a => ?_) h2
      have := h1 a
      simp only [List.count_append] at this ⊢
      omega
  | er => rw [e] at h; exact h.elim
theorem runAr_len : ∀ {as : List Ar} {s s' : S} {ds : List D}, runAr as s = .ok ds s' → ds.length = as.length
  | [], s, s', ds, h => by cases h; rfl
  | .e f :: as, s, s', ds, h => by
    obtain ⟨d, s1, _, h⟩ := bind_ok h
    obtain ⟨es, s2, h1, h⟩ := bind_ok h
    cases h
    exact congrArg Nat.succ (runAr_len h1)
  | .b j :: as, s, s', ds, h => by
    unfold runAr at h
    cases e : takeB j s with
    | none => rw [e] at h; cases h
    | some p =>
      obtain ⟨d, s1⟩ := p
      rw [e] at h
      obtain ⟨es, s2, h1, h⟩ := bind_ok h
      cases h
      exact congrArg Nat.succ (runAr_len h1)
  | .w j :: as, s, s', ds, h => by
    unfold runAr at h
    cases e : takeW j s with
    | none => rw [e] at h; cases h
    | some p =>
      obtain ⟨d, s1⟩ := p
      rw [e] at h
      obtain ⟨es, s2, h1, h⟩ := bind_ok h
      cases h
      exact congrArg Nat.succ (runAr_len h1)
/-- where the program's text stands -/
structure In (C : Cn) (G : Gv) (k : Nat) : Prop where
  P : C.X.prog = G.P
  w : C.X.w = G.w
  K : C.X.K = G.K
  mg : C.X.mg = G.mg
  base : C.X.base = G.base
  ca : C.ca = G.ca
  tk : Takes C.X C.W
  rm : Room k C.X.A
theorem ce_call {G : Gv} {k j n : Nat} {x : Str} {fm : Fn} {p : Pos} (I : In C G k) (c : Cal G j x n fm) (hj : j ≤ k) (hg : Gl C.X x) (ha : CAr C (e :: es) as) (hn : as.length = n := by rfl) (hdb : (x == ("__debug__" : Str)) = false := by decide)
    (he : starEach (e :: es) C.X.env = (false, eval e C.X.env) :: starEach es C.X.env := by rfl) (hpl : (backTo pos (starEach es C.X.env)).any (·.1) = false := by rfl) : CE C (.Call (.Name x p) (e :: es) [] pos) (callD fm as) := by
  obtain ⟨X, ca, bv, W⟩ := C
  obtain ⟨gP, gw, gK, gmg, gbase, gca⟩ := G
  obtain ⟨i1, i2, i3, i4, i5, i6, tk, rm⟩ := I
  dsimp only at i1 i2 i3 i4 i5 i6 tk rm
  subst i1 i2 i3 i4 i5 i6
  obtain ⟨f, fd, ps, F, hm, hk, hb⟩ := c.ex
  refine ⟨PE.imp (pe_callS F (rm.mono hj) hg hm hk hb (fun σ => passAt tk σ) ha.run hdb he hpl) fun σ H Q ⟨F0, A, s, at0, h⟩ => ?_⟩
  refine ⟨F0, A, s, at0, ?_⟩
  unfold callD at h
  cases er : runAr as s with
  | ok ds s1 =>
    rw [er] at h
    intro F1 H1 A1 T vs st1 r1 q1 ar1
    exact sp_here (C := ⟨X, ca, bv, W⟩) at0.g st1 r1 q1 ar1 ((RepL.length q1).trans ((runAr_len er).trans hn)) h
  | ex c s1 => rw [er] at h; exact h
  | er => rw [er] at h; exact h.elim
end
end Dl

set_option Elab.async false
set_option linter.all false
set_option maxRecDepth 100000
set_option maxHeartbeats 4000000
namespace Dl
open PySem PySem.Spec PyProof.Rows L2

/-! ### what is one's own is never changed again from here on -/
mutual
def frz : D → Option PyData
  | .p d => some d
  | .l ds => match frzL ds with
    | some xs => some (.list xs)
    | none => none
  | .d _ => none
  | .fd _ => none
  | .o _ _ _ => none
  | .x _ => none
  | .s _ => none
  | .gone => none
def frzL : List D → Option (List PyData)
  | [] => some []
  | d :: ds => match frz d, frzL ds with
    | some x, some xs => some (x :: xs)
    | _, _ => none
end
section
variable {Z : Env0} {H : Hs}
mutual
theorem frz_ok : ∀ (d : D) (F : Hs) (v : V) (T : List Addr) (q : PyData), Rep Z F H d v T → T.Nodup → (∀ a ∈ T, F a = none) → Le F H → frz d = some q → ∃ F', Le F F' ∧ Le F' H ∧ Fz F' v q ∧ ∀ a, F' a ≠ none → F a ≠ none ∨ a ∈ T
  | .p d, F, v, T, q, r, nd, ap, l, e => by
    obtain ⟨rfl, z⟩ := Rep.p_iff.mp r
    simp only [frz] at e
    cases e
    exact ⟨F, Le.refl _, l, z, fun _ h => .inl h⟩
  | .l ds, F, v, T, q, r, nd, ap, l, e => by
    simp only [Rep] at r
    obtain ⟨a, vs, A1, rfl, rfl, e1, r1⟩ := r
    simp only [frz] at e
    cases e2 : frzL ds with
    | none => rw [e2] at e; cases e
    | some xs =>
      rw [e2] at e
      cases e
      obtain ⟨na, nd1⟩ := List.nodup_cons.mp nd
      obtain ⟨F1, l1, l2, z, k⟩ := frzL_ok ds F vs A1 xs r1 nd1 (fun b hb => ap b (List.mem_cons_of_mem _ hb)) l e2
      have ha : F1 a = none := by
        cases e3 : F1 a with
        | none => rfl
        | some o =>
          rcases k a (by rw [e3]; simp) with h | h
          · exact absurd (ap a List.mem_cons_self) h
          · exact absurd h na
      refine ⟨upd F1 a (.lst vs), l1.trans (Le.new ha), fun b o eb => ?_, .lst upd_same (z.to (Le.new ha)), fun b hb => ?_⟩
      · by_cases hba : b = a
        · subst hba; rw [upd_same] at eb; rw [e1]; exact eb
        · rw [upd_ne hba] at eb; exact l2 b o eb
      · by_cases hba : b = a
        · exact .inr (by rw [hba]; exact List.mem_cons_self)
        · rw [upd_ne hba] at hb
          exact (k b hb).imp id fun z => List.mem_cons_of_mem _ z
  | .d _, _, _, _, _, _, _, _, _, e => by simp only [frz] at e; cases e
  | .fd _, _, _, _, _, _, _, _, _, e => by simp only [frz] at e; cases e
  | .o _ _ _, _, _, _, _, _, _, _, _, e => by simp only [frz] at e; cases e
  | .x _, _, _, _, _, _, _, _, _, e => by simp only [frz] at e; cases e
  | .s _, _, _, _, _, _, _, _, _, e => by simp only [frz] at e; cases e
  | .gone, _, _, _, _, _, _, _, _, e => by simp only [frz] at e; cases e
theorem frzL_ok : ∀ (ds : List D) (F : Hs) (vs : List V) (T : List Addr) (qs : List PyData), RepL Z F H ds vs T → T.Nodup → (∀ a ∈ T, F a = none) → Le F H → frzL ds = some qs → ∃ F', Le F F' ∧ Le F' H ∧ Fzs F' vs qs ∧ ∀ a, F' a ≠ none → F a ≠ none ∨ a ∈ T
  | [], F, vs, T, qs, r, nd, ap, l, e => by
    simp only [RepL] at r
    obtain ⟨rfl, rfl⟩ := r
    simp only [frzL] at e
    cases e
    exact ⟨F, Le.refl _, l, .nil, fun _ h => .inl h⟩
  | d :: ds, F, vs, T, qs, r, nd, ap, l, e => by
    simp only [RepL] at r
    obtain ⟨v, vs', A1, A2, rfl, rfl, r1, r2⟩ := r
    simp only [frzL] at e
    cases e1 : frz d with
    | none => rw [e1] at e; cases e
    | some x =>
      cases e2 : frzL ds with
      | none => rw [e1, e2] at e; cases e
      | some xs =>
        rw [e1, e2] at e
        cases e
        have nd' := List.nodup_append.mp nd
        obtain ⟨F1, l1, l2, z1, k1⟩ := frz_ok d F v A1 x r1 nd'.1 (fun b hb => ap b (List.mem_append_left _ hb)) l e1
        obtain ⟨F2, l3, l4, z2, k2⟩ := frzL_ok ds F1 vs' A2 xs (RepL.mono l1 ds vs' A2 (fun _ _ => rfl) r2) nd'.2.1 (fun b hb => by
          cases e3 : F1 b with
          | none => rfl
          | some o =>
            rcases k1 b (by rw [e3]; simp) with h | h
            · exact absurd (ap b (List.mem_append_right _ hb)) h
            · exact absurd rfl (nd'.2.2 b h b hb)) l2 e2
        refine ⟨F2, l1.trans l3, l4, .cons (z1.to l3) z2, fun b hb => ?_⟩
        rcases k2 b hb with h | h
        · exact (k1 b h).imp id fun z => List.mem_append_left _ z
        · exact .inr (List.mem_append_right _ h)
end
/-- the step behind the freezing -/
theorem Step.frz {F F1 H0 : Hs} {A A1 T : List Addr} {d : D} {v : V} {q : PyData} (st : Step F H0 A F1 H (A1 ++ T)) (r : Rep Z F1 H d v T) (e : frz d = some q) : ∃ F2, Step F H0 A F2 H A1 ∧ Le F1 F2 ∧ Fz F2 v q := by
  have nd := List.nodup_append.mp st.nd
  obtain ⟨F2, l1, l2, z, k⟩ := frz_ok d F1 v T q r nd.2.1 (fun a h => st.ap a (List.mem_append_right _ h)) st.fh e
  refine ⟨F2, ⟨st.ff.trans l1, l2, nd.1, fun a ha => ?_, st.kp, fun a h1 h2 => ?_⟩, l1, z⟩
  · cases e2 : F2 a with
    | none => rfl
    | some o =>
      rcases k a (by rw [e2]; simp) with h | h
      · exact absurd (st.ap a (List.mem_append_left _ ha)) h
      · exact absurd rfl (nd.2.2 a ha a h)
  · rcases h1 with h1 | h1
    · exact st.nw a (.inl (List.mem_append_left _ h1)) h2
    · rcases k a h1 with h | h
      · exact st.nw a (.inr h) h2
      · exact st.nw a (.inl (List.mem_append_right _ h)) h2
end
def frzE (f : S → Out D) : S → Out D := fun s => (f s).bind fun d s1 => Out.opt ((frz d).map .p) s1
section
variable {C : Cn} {e : Expr} {f : S → Out D}
theorem ev_frz {σ : L2.St} {H : Hs} {Q : VK} : EvD C (frzE f) σ H Q → EvD C f σ H Q := fun ⟨F, A, s, at0, h⟩ => evD_bind at0 h fun d s1 F1 H1 A1 T v st1 r1 q1 h1 => by
  cases e : frz d with
  | none => rw [e] at h1; exact h1.elim
  | some q =>
    rw [e] at h1
    obtain ⟨F2, st2, l2, z⟩ := st1.frz q1 e
    exact h1 F2 H1 A1 [] v (by rw [List.append_nil]; exact st2) (SR.mono l2 (fun _ _ => rfl) r1) (Rep.p_iff.mpr ⟨rfl, z⟩)
theorem ce_frz (h : CE C e f) : CE C e (frzE f) := ⟨PE.imp h.run fun _ _ _ => ev_frz⟩

/-! ### a comprehension stored at a name -/
theorem cs_setT {i : Nat} {te : TE} {st : Stmt} (h : PS C.X st (tAsg te (gName i))) (hi : ∀ σ H Q, EvD C f σ H Q → te σ H Q) : CS C st (setS i f) := ⟨PS.imp h fun Dn σ H ⟨F, A, s, at0, h⟩ =>
  hi _ _ _ (evD_bind at0 h fun d s1 F1 H1 A1 T v st1 r1 q1 h1 => by
    cases e2 : putSl i d s1 with
    | none => simp only [e2] at h1; exact h1.elim
    | some s2 =>
      simp only [e2] at h1
      obtain ⟨L, A0, R, rfl, r2⟩ := put_sr r1 q1 e2
      exact h1 F1 H1 _ _ st1.swap r2)⟩
variable {elt tg iter tg1 iter1 : Expr} {ifs ifs1 : List Expr} {scope : Scope} {own : List (Str × Nat)} {pos spos : Pos} {fi fi1 : S → Out (List PyData)} {js js1 vs1 : List Nat} {g g1 : PyData → S → Option S} {tt tt1 : S → Out Bool} {te : S → Out D}
theorem cs_setLc {i : Nat} {y : Str} {py : Pos} (hc : C.X.calm = true) (hN : C.X.N.Nodup) (hy : C.X.N[i]? = some y) (hyl : C.X.env.scope.names.lookup y = some .local)
    (hsw : swapsWith (.ListComp elt [⟨tg, iter, ifs, 0⟩] scope pos) (some (.Name y py)) spos.line C.X.env = pure true) (hf : ∀ σ H Q, EvD C f σ H Q → EvD C (lcD (own.map (·.2)) fi g tt te) σ H Q)
    (ok : BlkOk C.X.N C.X.env.scope scope own) (hj : ∀ j ∈ js, j ∈ own.map (·.2)) (hi : CI C tg iter fi)
    (hg : ∀ (s : Shared) (H : Hs) (c : Addr) (cl : List (Str × Addr)) (fp : List Addr), CG (C.blk s H scope (compEnvC scope cl c C.X.env) fp) tg js g)
    (ht : ∀ (s : Shared) (H : Hs) (c : Addr) (cl : List (Str × Addr)) (fp : List Addr), CTs (C.blk s H scope (compEnvC scope cl c C.X.env) fp) ifs tt)
    (he : ∀ (s : Shared) (H : Hs) (c : Addr) (cl : List (Str × Addr)) (fp : List Addr), CE (C.blk s H scope (compEnvC scope cl c C.X.env) fp) elt te) (hs : ∀ x, foldedSetIterable iter C.X.env x = pure x := by intro _; rfl) :
    CS C (.Assign [.Name y py] (.ListComp elt [⟨tg, iter, ifs, 0⟩] scope pos) spos) (setS i f) :=
  cs_setT (ps_setLc (g := EvG C.nox js g) (tt := EvB C.nox tt) (te := EvD C.nox te) hc hN hy hyl hsw hi.run ok (fun s H c cl fp => (hg s H c cl fp).run) (fun s H c cl fp => (ht s H c cl fp).run) (fun s H c cl fp => (he s H c cl fp).run) hs) fun σ H Q q => ev_lc hj (hf σ H Q q)
theorem cs_setLc2 {i : Nat} {y : Str} {py : Pos} (hc : C.X.calm = true) (hN : C.X.N.Nodup) (hy : C.X.N[i]? = some y) (hyl : C.X.env.scope.names.lookup y = some .local)
    (hsw : swapsWith (.ListComp elt [⟨tg, iter, ifs, 0⟩, ⟨tg1, iter1, ifs1, 0⟩] scope pos) (some (.Name y py)) spos.line C.X.env = pure true) (hf : ∀ σ H Q, EvD C f σ H Q → EvD C (lc2D (own.map (·.2)) vs1 fi g tt fi1 g1 tt1 te) σ H Q)
    (ok : BlkOk C.X.N C.X.env.scope scope own) (hj : ∀ j ∈ js, j ∈ own.map (·.2)) (hj1 : ∀ j ∈ js1, j ∈ vs1) (hv : ∀ i ∈ vs1, i ∈ own.map (·.2)) (hi : CI C tg iter fi)
    (hg : ∀ (s : Shared) (H : Hs) (c : Addr) (cl : List (Str × Addr)) (fp : List Addr), CG (C.blk s H scope (compEnvC scope cl c C.X.env) fp) tg js g)
    (ht : ∀ (s : Shared) (H : Hs) (c : Addr) (cl : List (Str × Addr)) (fp : List Addr), CTs (C.blk s H scope (compEnvC scope cl c C.X.env) fp) ifs tt)
    (hi1 : ∀ (s : Shared) (H : Hs) (c : Addr) (cl : List (Str × Addr)) (fp : List Addr), CI (C.blk s H scope (compEnvC scope cl c C.X.env) fp) tg1 iter1 fi1)
    (hg1 : ∀ (s : Shared) (H : Hs) (c : Addr) (cl : List (Str × Addr)) (fp : List Addr), CG (C.blk s H scope (compEnvC scope cl c C.X.env) fp) tg1 js1 g1)
    (ht1 : ∀ (s : Shared) (H : Hs) (c : Addr) (cl : List (Str × Addr)) (fp : List Addr), CTs (C.blk s H scope (compEnvC scope cl c C.X.env) fp) ifs1 tt1)
    (he : ∀ (s : Shared) (H : Hs) (c : Addr) (cl : List (Str × Addr)) (fp : List Addr), CE (C.blk s H scope (compEnvC scope cl c C.X.env) fp) elt te)
    (hs : ∀ x, foldedSetIterable iter C.X.env x = pure x := by intro _; rfl) (hs1 : ∀ env x, foldedSetIterable iter1 env x = pure x := by intro _ _; rfl) :
    CS C (.Assign [.Name y py] (.ListComp elt [⟨tg, iter, ifs, 0⟩, ⟨tg1, iter1, ifs1, 0⟩] scope pos) spos) (setS i f) :=
  cs_setT (ps_setLc2 (g := EvG C.nox js g) (tt := EvB C.nox tt) (wi1 := EvI C.nox fi1) (g1 := EvG C.nox js1 g1) (tt1 := EvB C.nox tt1) (te := EvD C.nox te) hc hN hy hyl hsw hi.run ok hv (fun s H c cl fp => (hg s H c cl fp).run) (fun s H c cl fp => (ht s H c cl fp).run) (fun s H c cl fp => (hi1 s H c cl fp).run) (fun s H c cl fp => (hg1 s H c cl fp).run) (fun s H c cl fp => (ht1 s H c cl fp).run) (fun s H c cl fp => (he s H c cl fp).run) hs hs1) fun σ H Q q => ev_lc2 hj hj1 hv (hf σ H Q q)

/-! ### an own error is raised -/
structure ExcF (K : PySem.W.Frag) (mg : Str → Option Value) (x : Str) (a : Addr) : Prop where
  gC : mg x = some (.ref a)
  ex : PySem.W.excIn K a [.type "ValueError", .type "Exception", .type "BaseException", .type "object"] "ValueError.__new__" = true
  kp : PySem.W.keepIn K (.ref a) = true
  sb : PySem.W.subIn K (.ref a) (.type "BaseException") = some true
  ty : PySem.W.typeIn K (.ref a) = some (.type "type")
def raiseS (c : Nat) : S → SOut := fun s => .ex c s
theorem cs_raise {c : Nat} {x m : Str} {j : Nat} {p p2 pos pos2 : Pos} (hc : C.X.calm = true) (tk : Takes C.X C.W) (ef : ExcF C.X.K C.X.mg x (C.ca c)) (hg : Gl C.X x) (hdb : (x == ("__debug__" : Str)) = false := by decide) :
    CS C (.Raise (some (.Call (.Name x p) [.Constant (.str m) j p2] [] pos)) none pos2) (raiseS c) :=
  ⟨PS.imp (ps_raise hc tk (pmk_own PySem.F.excBase_ValueError ef.ex ef.gC ef.kp (raises_own ef.sb ef.ty) hg hdb)) fun Dn σ H ⟨F, A, s, at0, h⟩ => h F H A σ at0.g.step at0.r⟩
end
end Dl

set_option Elab.async false
set_option linter.all false
set_option maxRecDepth 100000
set_option maxHeartbeats 4000000
namespace Dl
open PySem PySem.Spec PyProof.Rows L2

/-! ### rows of one's own -/
section
variable {Z : Env0} {F H : Hs}
theorem repL_get : ∀ {ds : List D} {vs : List V} {A : List Addr} {k : Nat} {d : D}, RepL Z F H ds vs A → ds[k]? = some d →
    ∃ v L T R, vs[k]? = some v ∧ A = L ++ (T ++ R) ∧ Rep Z F H d v T ∧ RepL Z F H (ds.eraseIdx k) (vs.eraseIdx k) (L ++ R) ∧
      ∀ F' H' d' v' T', Le F F' → (∀ a ∈ L ++ R, H' a = H a) → Rep Z F' H' d' v' T' → RepL Z F' H' (ds.set k d') (vs.set k v') (L ++ (T' ++ R))
  | [], _, _, _, _, _, e => by simp at e
  | d0 :: ds, _, _, 0, d, h, e => by
    simp only [RepL] at h
    obtain ⟨v, vs', A1, A2, rfl, rfl, r1, r2⟩ := h
    simp at e
    subst e
    refine ⟨v, [], A1, A2, rfl, rfl, r1, r2, fun F' H' d' v' T' l k r => ?_⟩
    simp only [List.set_cons_zero, RepL]
    exact ⟨v', vs', T', A2, rfl, rfl, r, RepL.mono l ds vs' A2 (fun a ha => k a (by simp [ha])) r2⟩
  | d0 :: ds, _, _, k + 1, d, h, e => by
    simp only [RepL] at h
    obtain ⟨v, vs', A1, A2, rfl, rfl, r1, r2⟩ := h
    obtain ⟨v1, L, T, R, e1, rfl, q1, q2, put⟩ := repL_get r2 (by simpa using e)
    refine ⟨v1, A1 ++ L, T, R, by simpa using e1, by simp, q1, ?_, fun F' H' d' v' T' l kk r => ?_⟩
    · simp only [List.eraseIdx_cons_succ, RepL]
      exact ⟨v, vs'.eraseIdx k, A1, L ++ R, rfl, by simp, r1, q2⟩
    · simp only [List.set_cons_succ, RepL]
      exact ⟨v, vs'.set k v', A1, L ++ (T' ++ R), rfl, by simp, Rep.mono l d0 v A1 (fun a ha => kk a (by simp [ha])) r1, put F' H' d' v' T' l (fun a ha => kk a (by simp at ha ⊢; rcases ha with ha | ha <;> simp [ha])) r⟩
theorem repL_ins : ∀ {ds : List D} {vs : List V} {A T : List Addr} {d : D} {v : V} (k : Nat), RepL Z F H ds vs A → Rep Z F H d v T → ∃ B, Sb B (A ++ T) ∧ RepL Z F H (ds.take k ++ [d] ++ ds.drop k) (vs.take k ++ [v] ++ vs.drop k) B
  | ds, vs, A, T, d, v, 0, h, r => by
    refine ⟨T ++ A, fun a => by simp only [List.count_append]; omega, ?_⟩
    simp only [List.take_zero, List.nil_append, List.drop_zero, List.singleton_append, RepL]
    exact ⟨v, vs, T, A, rfl, rfl, r, h⟩
  | [], _, A, T, d, v, k + 1, h, r => by
    simp only [RepL] at h
    obtain ⟨rfl, rfl⟩ := h
    exact ⟨T, fun a => by simp, by simpa using repL_one r⟩
  | d0 :: ds, _, A, T, d, v, k + 1, h, r => by
    simp only [RepL] at h
    obtain ⟨v0, vs', A1, A2, rfl, rfl, r1, r2⟩ := h
    obtain ⟨B, hB, q⟩ := repL_ins (d := d) (v := v) (T := T) k r2 r
    refine ⟨A1 ++ B, fun a => by have := hB a; simp only [List.count_append] at this ⊢; omega, ?_⟩
    simp only [List.take_succ_cons, List.drop_succ_cons, List.cons_append, RepL]
    exact ⟨v0, _, A1, B, rfl, rfl, r1, q⟩
theorem repL_p {vs : List V} : ∀ {ds : List PyData} {vs : List V}, Fzs F vs ds → RepL Z F H (ds.map .p) vs []
  | _, _, .nil => by simp only [List.map_nil, RepL]; exact ⟨trivial, trivial⟩
  | _, _, .cons h t => by
    simp only [List.map_cons, RepL]
    exact ⟨_, _, [], [], rfl, rfl, Rep.p_iff.mpr ⟨rfl, h⟩, repL_p (vs := []) t⟩
end

/-! ### places -/
structure Pl where
  get : S → Option D
  put : D → S → S
/-- at v stands d; put says what the slots are with another one there -/
def Foc (C : Cn) (F H : Hs) (σ : L2.St) (A : List Addr) (d : D) (put : D → S) (v : V) : Prop :=
  ∃ L A1 R, A = L ++ (A1 ++ R) ∧ Rep C.Z F H d v A1 ∧ ∀ F' H' d' A1', Le F F' → (∀ a ∈ L ++ R, H' a = H a) → Rep C.Z F' H' d' v A1' → SR C.Z C.bv F' H' 0 σ (put d') (L ++ (A1' ++ R))
def EvPl (C : Cn) (pl : Pl) : TE := fun σ H Q => ∃ F A s d, At C σ H s F A ∧ pl.get s = some d ∧ ∀ F' H' v, Grow F H F' H' → Foc C F' H' σ A d (fun d' => pl.put d' s) v → Q v H'
structure CPl (C : Cn) (e : Expr) (pl : Pl) : Prop where
  run : PE C.X e (EvPl C pl)
/-- a value read without a change -/
def EvQ (C : Cn) (q : S → Option PyData) : TE := fun σ H Q => ∃ F A s d, At C σ H s F A ∧ q s = some d ∧ ∀ F' H' v, Grow F H F' H' → Fz F' v d → Q v H'
structure CQ (C : Cn) (e : Expr) (q : S → Option PyData) : Prop where
  run : PE C.X e (EvQ C q)
section
variable {C : Cn} {σ : L2.St} {F H F' H' : Hs} {A T : List Addr} {s : S} {d : D} {put : D → S} {v : V} {e b : Expr} {pl : Pl} {q qb : S → Option PyData} {pos : Pos}
theorem Foc.grow (f : Foc C F H σ A d put v) (w : Grow F H F' H') (th : ∀ a ∈ A, H a ≠ none) : Foc C F' H' σ A d put v := by
  obtain ⟨L, A1, R, rfl, r, k⟩ := f
  refine ⟨L, A1, R, rfl, w.rep r, fun F2 H2 d' A1' l kk r' => k F2 H2 d' A1' (w.ff.trans l) (fun a ha => (kk a ha).trans ?_) r'⟩
  cases e : H a with
  | none => exact absurd e (th a (by simp only [List.mem_append] at ha ⊢; rcases ha with ha | ha <;> simp [ha]))
  | some o => exact w.hh a o e
def slotPl (j : Nat) : Pl where
  get s := match s[j]? with
    | some (.v d) => some d
    | some (.b d) => some d
    | _ => none
  put d s := match s[j]? with
    | some (.b _) => s.set j (.b d)
    | _ => s.set j (.v d)
theorem foc_slot {j : Nat} (a : At C σ H s F A) (e : (slotPl j).get s = some d) : ∃ v, σ[j]? = some (some v) ∧ Foc C F H σ A d (fun d' => (slotPl j).put d' s) v := by
  have e' : (match s[j]? with
    | some (.v d) => some d
    | some (.b d) => some d
    | _ => none) = some d := e
  cases es : s[j]? with
  | none => rw [es] at e'; cases e'
  | some sl =>
    rw [es] at e'
    cases sl with
    | n => cases e'
    | v d0 =>
      cases e'
      obtain ⟨so, L, A1, R, e1, e2, ⟨v, rfl, r⟩, p⟩ := a.get es
      refine ⟨v, e1, L, A1, R, e2, r, fun F' H' d' A1' l k r' => ?_⟩
      have q := p F' H' (some v) (.v d') A1' l k ⟨v, rfl, r'⟩
      rw [set_same e1] at q
      show SR C.Z C.bv F' H' 0 σ (match s[j]? with
        | some (.b _) => s.set j (.b d')
        | _ => s.set j (.v d')) _
      rw [es]
      exact q
    | b d0 =>
      cases e'
      obtain ⟨so, L, A1, R, e1, e2, ⟨rfl, r⟩, p⟩ := a.get es
      refine ⟨_, e1, L, A1, R, e2, r, fun F' H' d' A1' l k r' => ?_⟩
      have q := p F' H' (some (C.bv j)) (.b d') A1' l k ⟨rfl, r'⟩
      rw [set_same e1] at q
      show SR C.Z C.bv F' H' 0 σ (match s[j]? with
        | some (.b _) => s.set j (.b d')
        | _ => s.set j (.v d')) _
      rw [es]
      exact q
theorem cpl_name {j : Nat} {x : Str} (h : PE C.X (.Name x pos) (tVar j)) : CPl C (.Name x pos) (slotPl j) := ⟨PE.imp h fun σ H Q ⟨F, A, s, d, a, e, k⟩ => by
  obtain ⟨v, e1, f⟩ := foc_slot a e
  exact ⟨v, e1, k F H v (Grow.refl a.g.fh) f⟩⟩

/-! ### values read without a change -/
def nQ (j : Nat) : S → Option PyData := fun s => match s[j]? with
    | some (.v (.p d)) => some d
    | _ => none
def cQ (d : PyData) : S → Option PyData := fun _ => some d
def negQ (q : S → Option PyData) : S → Option PyData := fun s => match q s with
    | some (.int i) => some (.int (-i))
    | _ => none
def tupQ (qs : S → Option (List PyData)) : S → Option PyData := fun s => (qs s).map .tuple
def ixQ (q qb : S → Option PyData) : S → Option PyData := fun s => match q s, qb s with
    | some d, some i => pyItem d i
    | _, _ => none
theorem cq_name {j : Nat} {x : Str} (h : PE C.X (.Name x pos) (tVar j)) : CQ C (.Name x pos) (nQ j) := ⟨PE.imp h fun σ H Q ⟨F, A, s, d, a, e, k⟩ => by
  unfold nQ at e
  cases es : s[j]? with
  | none => rw [es] at e; cases e
  | some sl =>
    rw [es] at e
    cases sl with
    | n => cases e
    | b d0 => cases e
    | v d0 =>
      cases d0 with
      | p d1 =>
        cases e
        obtain ⟨so, L, A1, R, e1, rfl, ⟨v, rfl, r⟩, _⟩ := a.get es
        exact ⟨v, e1, k F H v (Grow.refl a.g.fh) (Rep.p_iff.mp r).2⟩
      | _ => cases e⟩
theorem cq_int {i j pos} : CQ C (.Constant (.int i) j pos) (cQ (.int i)) := ⟨PE.imp pe_int fun _ _ _ ⟨F, A, s, d, a, e, k⟩ => by cases e; exact k F _ _ (Grow.refl a.g.fh) (.int i)⟩
theorem cq_neg (h : CQ C e q) : CQ C (.UnaryOp .USub e pos) (negQ q) := ⟨PE.imp (pe_un un_neg h.run) fun σ H Q ⟨F, A, s, d, a, e, k⟩ => by
  unfold negQ at e
  cases eq : q s with
  | none => rw [eq] at e; cases e
  | some d1 =>
    rw [eq] at e
    cases d1 with
    | int i =>
      cases e
      exact ⟨F, A, s, _, a, eq, fun F' H' v w z => by
        cases z
        exact ⟨i, rfl, k F' H' _ w (.int _)⟩⟩
    | _ => cases e⟩
/-- tuples of such -/
def EvQs (C : Cn) (q : S → Option (List PyData)) : TA := fun σ H Q => ∃ F A s ds, At C σ H s F A ∧ q s = some ds ∧ ∀ F' H' vs, Grow F H F' H' → Fzs F' vs ds → Q vs H'
structure CQs (C : Cn) (es : List Expr) (q : S → Option (List PyData)) : Prop where
  run : PA C.X es (EvQs C q)
variable {es : List Expr} {qs : S → Option (List PyData)}
theorem cqs_nil : CQs C [] (fun _ => some []) := ⟨PA.imp pa_nil fun σ H Q ⟨F, A, s, ds, a, e, k⟩ => by cases e; exact k F H [] (Grow.refl a.g.fh) .nil⟩
def consQ (q : S → Option PyData) (qs : S → Option (List PyData)) : S → Option (List PyData) := fun s => match q s, qs s with
  | some d, some ds => some (d :: ds)
  | _, _ => none
theorem cqs_cons (h : CQ C e q) (hr : CQs C es qs) (hs : starEach (e :: es) C.X.env = (false, eval e C.X.env) :: starEach es C.X.env := by rfl) : CQs C (e :: es) (consQ q qs) := ⟨PA.imp (pa_cons h.run hr.run hs) fun σ H Q ⟨F, A, s, ds, a, e, k⟩ => by
  unfold consQ at e
  cases e1 : q s with
  | none => rw [e1] at e; cases e
  | some d =>
    cases e2 : qs s with
    | none => rw [e1, e2] at e; cases e
    | some ds0 =>
      rw [e1, e2] at e
      cases e
      refine ⟨F, A, s, d, a, e1, fun F1 H1 v w1 z1 => ⟨F1, A, s, ds0, a.grown w1, e2, fun F2 H2 vs w2 z2 => k F2 H2 (v :: vs) (w1.trans w2) (.cons (z1.to w2.ff) z2)⟩⟩⟩
theorem cq_tup {x1} (h : CQs C es qs) (hl : ∀ s ds, qs s = some ds → ds.length ≤ cap) : CQ C (.Tuple es x1 pos) (tupQ qs) := ⟨PE.imp (pe_tup h.run) fun σ H Q ⟨F, A, s, d, a, e, k⟩ => by
  obtain ⟨ds, e1, rfl⟩ := Option.map_eq_some_iff.mp e
  exact ⟨F, A, s, ds, a, e1, fun F1 H1 vs w1 z1 => ⟨by rw [z1.length]; exact cap_le (hl s ds e1), fun p hp => k _ _ _ (w1.trans (Grow.new w1.fh hp)) (.tup upd_same (z1.to (Le.new (w1.fh.nn hp))))⟩⟩⟩
/-- as an expression -/
def qE (q : S → Option PyData) : S → Out D := fun s => match q s with
  | some d => .ok (.p d) s
  | none => .er
theorem ce_q (h : CQ C e q) : CE C e (qE q) := ⟨PE.imp h.run fun σ H Q ⟨F, A, s, a, k⟩ => by
  unfold qE at k
  cases e1 : q s with
  | none => rw [e1] at k; exact k.elim
  | some d =>
    rw [e1] at k
    exact ⟨F, A, s, d, a, e1, fun F' H' v w z => pkD_g a w z k⟩⟩

/-! ### a place within a list; what is read of a list -/
def idx (q : S → Option PyData) (s : S) (n : Nat) : Option Nat := match q s with
  | some (.int i) => ixN n i
  | _ => none
def itemPl (pl : Pl) (q : S → Option PyData) : Pl where
  get s := match pl.get s with
    | some (.l ds) => (idx q s ds.length).bind fun k => ds[k]?
    | _ => none
  put d s := match pl.get s with
    | some (.l ds) => match idx q s ds.length with
      | some k => pl.put (.l (ds.set k d)) s
      | none => s
    | _ => s
theorem Foc.list {ds : List D} (f : Foc C F H σ A (.l ds) put v) : ∃ a vs As, v = .ref a ∧ H a = some (.lst vs) ∧ RepL C.Z F H ds vs As ∧ vs.length = ds.length := by
  obtain ⟨L, A1, R, rfl, r, k⟩ := f
  simp only [Rep] at r
  obtain ⟨a, vs, As, rfl, rfl, e, r⟩ := r
  exact ⟨a, vs, As, rfl, e, r, r.length⟩
theorem Foc.item {ds : List D} {k : Nat} {d : D} (g : Good F H A) (f : Foc C F H σ A (.l ds) put v) (e : ds[k]? = some d) : ∃ a vs vk, v = .ref a ∧ H a = some (.lst vs) ∧ vs.length = ds.length ∧ vs[k]? = some vk ∧ Foc C F H σ A d (fun d' => put (.l (ds.set k d'))) vk := by
  obtain ⟨L, A1, R, rfl, r, kk⟩ := f
  simp only [Rep] at r
  obtain ⟨a, vs, As, rfl, rfl, ea, r⟩ := r
  obtain ⟨vk, L1, T, R1, e1, rfl, q1, _, put1⟩ := repL_get r e
  refine ⟨a, vs, vk, rfl, ea, r.length, e1, L ++ (a :: L1), T, R1 ++ R, by simp, q1, fun F' H' d' A1' l k2 r' => ?_⟩
  have r2 := put1 F' H' d' vk A1' l (fun b hb => k2 b (by simp at hb ⊢; rcases hb with hb | hb <;> simp [hb])) r'
  have hs : vs.set k vk = vs := by
    refine List.ext_getElem? fun i => ?_
    by_cases h : k = i
    · subst h
      rw [List.getElem?_set_self (List.getElem?_eq_some_iff.mp e1).1, e1]
    · rw [List.getElem?_set_ne h]
  rw [hs] at r2
  have q := kk F' H' (.l (ds.set k d')) (a :: (L1 ++ (A1' ++ R1))) l (fun b hb => k2 b (by simp at hb ⊢; rcases hb with hb | hb <;> simp [hb])) (by
    simp only [Rep]
    exact ⟨a, vs, _, rfl, rfl, (k2 a (by simp)).trans ea, r2⟩)
  have e3 : L ++ (a :: (L1 ++ (A1' ++ R1)) ++ R) = L ++ a :: L1 ++ (A1' ++ (R1 ++ R)) := by simp
  rw [e3] at q
  exact q
theorem ixN_lt {n : Nat} {i : Int} {k : Nat} (h : ixN n i = some k) : k < n := (ixN_seq h).2.1
theorem cpl_item (h : CPl C e pl) (hq : CQ C b q) (hs : PlainIx b := by exact fun _ _ => rfl) : CPl C (.Subscript e b pos) (itemPl pl q) := ⟨PE.imp (pe_ix ix_list h.run hq.run hs) fun σ H Q ⟨F, A, s, d, a, e, k⟩ => by
  have e' : (match pl.get s with
    | some (.l ds) => (idx q s ds.length).bind fun k => ds[k]?
    | _ => none) = some d := e
  cases e1 : pl.get s with
  | none => rw [e1] at e'; cases e'
  | some d1 =>
    rw [e1] at e'
    cases d1 with
    | l ds =>
      obtain ⟨n, e2, e3⟩ := Option.bind_eq_some_iff.mp e'
      refine ⟨F, A, s, _, a, e1, fun F1 H1 v w1 f1 => ?_⟩
      cases eq : q s with
      | none => unfold idx at e2; rw [eq] at e2; cases e2
      | some dq =>
        cases dq with
        | int i =>
          have e2' : ixN ds.length i = some n := by unfold idx at e2; rw [eq] at e2; exact e2
          refine ⟨F1, A, s, _, a.grown w1, eq, fun F2 H2 u w2 z => ?_⟩
          cases z
          have f2 := f1.grow w2 (a.grown w1).there
          obtain ⟨p, vs, vk, rfl, ea, hl, e4, f3⟩ := f2.item ((a.grown w1).grown w2).g e3
          refine ⟨p, vs, i, vk, rfl, rfl, SqL.of ea, by unfold atI; rw [hl, e2']; exact e4, k F2 H2 vk (w1.trans w2) ?_⟩
          have ep : (fun d' => (itemPl pl q).put d' s) = fun d' => pl.put (.l (ds.set n d')) s := by
            funext d'
            show (match pl.get s with
              | some (.l ds) => match idx q s ds.length with
                | some k => pl.put (.l (ds.set k d')) s
                | none => s
              | _ => s) = _
            rw [e1]
            dsimp only
            rw [e2]
          rw [ep]
          exact f3
        | _ => unfold idx at e2; rw [eq] at e2; cases e2
    | _ => cases e'⟩
/-- an item that never changes, read at a place -/
def plQ (pl : Pl) : S → Option PyData := fun s => match pl.get s with
  | some (.p d) => some d
  | _ => none
theorem cq_pl (h : CPl C e pl) : CQ C e (plQ pl) := ⟨PE.imp h.run fun σ H Q ⟨F, A, s, d, a, e, k⟩ => by
  unfold plQ at e
  cases e1 : pl.get s with
  | none => rw [e1] at e; cases e
  | some d1 =>
    rw [e1] at e
    cases d1 with
    | p d2 =>
      cases e
      refine ⟨F, A, s, _, a, e1, fun F1 H1 v w1 f1 => ?_⟩
      obtain ⟨L, A1, R, _, r, _⟩ := f1
      exact k F1 H1 v w1 (Rep.p_iff.mp r).2
    | _ => cases e⟩
/-- reading a frozen item of a place that is itself frozen: by pyItem -/
theorem cq_ix (h : CQ C e q) (hb : CQ C b qb) (hs : PlainIx b := by exact fun _ _ => rfl) : CQ C (.Subscript e b pos) (ixQ q qb) := ⟨PE.imp (pe_ix ixr_item h.run hb.run hs) fun σ H Q ⟨F, A, s, d, a, e, k⟩ => by
  unfold ixQ at e
  cases e1 : q s with
  | none => rw [e1] at e; cases e
  | some d1 =>
    cases e2 : qb s with
    | none => rw [e1, e2] at e; cases e
    | some d2 =>
      rw [e1, e2] at e
      exact ⟨F, A, s, d1, a, e1, fun F1 H1 v w1 z1 => ⟨F1, A, s, d2, a.grown w1, e2, fun F2 H2 u w2 z2 => ⟨F2, d1, d2, d, w2.fh, z1.to w2.ff, z2, e, fun F3 H3 z w3 z3 => k F3 H3 z ((w1.trans w2).trans w3) z3⟩⟩⟩⟩

/-! ### a list of one's own changed -/
theorem foc_list {ds : List D} (g : Good F H (A ++ T)) (f : Foc C F H σ A (.l ds) put v) : ∃ a vs As, v = .ref a ∧ H a = some (.lst vs) ∧ RepL C.Z F H ds vs As ∧ vs.length = ds.length ∧ (∀ b ∈ As, b ∈ A ∧ b ≠ a) ∧
    ∀ vs' ds' As' T', RepL C.Z F H ds' vs' As' → Sb (As' ++ T') (As ++ T) → (∀ b ∈ T, H b ≠ none) → ∃ A', Step F H (A ++ T) F (upd H a (.lst vs')) (A' ++ T') ∧ SR C.Z C.bv F (upd H a (.lst vs')) 0 σ (put (.l ds')) A' := by
  obtain ⟨L, A1, R, rfl, r, k⟩ := f
  simp only [Rep] at r
  obtain ⟨a, vs, As, rfl, rfl, ea, r⟩ := r
  refine ⟨a, vs, As, rfl, ea, r, r.length, fun b hb => ⟨by simp [hb], fun e => ?_⟩, fun vs' ds' As' T' r' hs hT => ?_⟩
  · subst e
    have h1 := List.nodup_iff_count.mp g.nd b
    have h2 : 0 < As.count b := List.count_pos_iff.mpr hb
    simp only [List.count_append, List.count_cons, beq_self_eq_true, if_true] at h1
    omega
  have nd := List.nodup_iff_count.mp g.nd
  have cnt : ∀ b : Addr, (L ++ (a :: As ++ R) ++ T).count b = L.count b + ((if a = b then 1 else 0) + As.count b + R.count b) + T.count b := fun b => by
    simp only [List.count_append, List.count_cons, beq_iff_eq]
    omega
  have ha : ∀ b ∈ As' ++ T', b ≠ a := fun b hb e => by
    subst e
    have h1 := nd b
    rw [cnt] at h1
    have h2 := hs b
    rw [List.count_append] at h2
    have h3 : 0 < (As' ++ T').count b := List.count_pos_iff.mpr hb
    rw [List.count_append] at h3 h2
    simp only [if_true] at h1
    omega
  have hLR : ∀ b ∈ L ++ R, b ≠ a := fun b hb e => by
    subst e
    have h1 := nd b
    rw [cnt] at h1
    have h3 : 0 < (L ++ R).count b := List.count_pos_iff.mpr hb
    rw [List.count_append] at h3
    simp only [if_true] at h1
    omega
  have r2 : RepL C.Z F (upd H a (.lst vs')) ds' vs' As' := RepL.mono (Le.refl _) ds' vs' As' (fun b hb => upd_ne (ha b (by simp [hb]))) r'
  have sr := k F (upd H a (.lst vs')) (.l ds') (a :: As') (Le.refl _) (fun b hb => upd_ne (hLR b hb)) (by
    simp only [Rep]
    exact ⟨a, vs', As', rfl, rfl, upd_same, r2⟩)
  refine ⟨_, ⟨Le.refl _, fun b o eb => ?_, ?_, fun b hb => ?_, fun b h1 h2 => ?_, fun b h1 h2 => ?_⟩, sr⟩
  · rw [upd_ne]
    · exact g.fh b o eb
    · intro e
      subst e
      rw [g.ap b (by simp)] at eb
      cases eb
  · refine List.nodup_iff_count.mpr fun b => ?_
    have h1 := nd b
    rw [cnt] at h1
    have h2 := hs b
    simp only [List.count_append, List.count_cons, beq_iff_eq] at h2 ⊢
    omega
  · refine g.ap b ?_
    rcases List.mem_append.mp hb with hb | hb
    · simp only [List.mem_append, List.mem_cons] at hb ⊢
      rcases hb with hb | (hb | hb) | hb
      · simp [hb]
      · simp [hb]
      · have := hs.mem (List.mem_append_left T' hb)
        rcases List.mem_append.mp this with z | z <;> simp [z]
      · simp [hb]
    · have := hs.mem (List.mem_append_right As' hb)
      rcases List.mem_append.mp this with z | z <;> simp [z]
  · rw [upd_ne]
    intro e
    subst e
    exact h2 (by simp)
  · rcases h1 with h1 | h1
    · left
      rcases List.mem_append.mp h1 with hb | hb
      · simp only [List.mem_append, List.mem_cons] at hb ⊢
        rcases hb with hb | (hb | hb) | hb
        · simp [hb]
        · simp [hb]
        · have := hs.mem (List.mem_append_left T' hb)
          rcases List.mem_append.mp this with z | z <;> simp [z]
        · simp [hb]
      · have := hs.mem (List.mem_append_right As' hb)
        rcases List.mem_append.mp this with z | z <;> simp [z]
    · exact .inr h1
end
end Dl

set_option Elab.async false
set_option linter.all false
set_option maxRecDepth 100000
set_option maxHeartbeats 4000000
namespace Dl
open PySem PySem.Spec PyProof.Rows L2

/-! ### dicts whose keys are nested tuples, at the heap -/
abbrev Xs := List (Key × Addr × V)
def lookX (xs : Xs) (k : Key) : Option V := (xs.find? fun x => decide (x.1 = k)).map (·.2.2)
def setX (k : Key) (v : V) (x : Key × Addr × V) : Key × Addr × V := if x.1 = k then (x.1, x.2.1, v) else x
def putX (xs : Xs) (k : Key) (b : Addr) (v : V) : Xs := if (lookX xs k).isSome = true then xs.map (setX k v) else xs ++ [(k, b, v)]
def dropX (xs : Xs) (k : Key) : Xs := xs.filter fun x => decide (x.1 ≠ k)
section
variable {P : Program} {w : World} {F H : Hs} {h : Heap}
mutual
theorem nested_of (l : Le F H) (ok : HOk P w H h) : ∀ (k : Key) (v : V) (u : Value), FzKey F k v → RelV v u → NestedIs h k u
  | .none, _, u, e, r => by cases e; obtain rfl : u = Value.none := r; exact .none
  | .num i, _, u, e, r => by cases e; obtain ⟨t, rfl⟩ : ∃ t, u = Value.int i t := r; exact .int i t
  | .text x, _, u, e, r => by cases e; obtain ⟨t, rfl⟩ : ∃ t, u = Value.str x t := r; exact .text x t
  | .tup ks, _, u, e, r => by
    cases e with
    | @tup a vs _ h1 h2 =>
      obtain rfl : u = Value.ref a := r
      obtain ⟨_, its, rv, o, e1, e2, n, e3⟩ := (show ObjOk P w H h a (.tup vs) from ok a _ (l _ _ h1))
      refine .tup e1 e2 e3 ?_
      exact (nesteds_of l ok ks vs its h2 rv)
theorem nesteds_of (l : Le F H) (ok : HOk P w H h) : ∀ (ks : List Key) (vs : List V) (us : List Value), FzKeys F ks vs → Vals vs us → NestedAll h ks us
  | [], _, us, e, r => by cases e; cases r; exact .nil
  | k :: ks, _, us, e, r => by
    cases e with
    | cons e1 e2 =>
      cases r with
      | cons r1 r2 => exact .cons (nested_of l ok k _ _ e1 r1) (nesteds_of l ok ks _ _ e2 r2)
end
/-- a key at b -/
def KAt (H : Hs) (k : Key) (b : Addr) : Prop := ∃ F, Le F H ∧ FzKey F k (.ref b) ∧ k.depth ≤ 8
theorem KAt.is {k : Key} {b : Addr} (x : KAt H k b) (ok : HOk P w H h) : (nestedKind P w).is h k b := by
  obtain ⟨F, l, z, d⟩ := x
  exact ⟨nested_of l ok k _ _ z rfl, d⟩
def DAt (P : Program) (w : World) (H : Hs) (a : Addr) (xs : Xs) : Prop := ∃ o, H a = some (dO P w a o xs) ∧ ∀ x ∈ xs, KAt H x.1 x.2.1
theorem DAt.ok {a : Addr} {xs : Xs} (x : DAt P w H a xs) (ok : HOk P w H h) : (a == sysModules) = false ∧ xs.length ≤ sizeLine ∧ ∃ xv o es ep, Paired entRel xs xv ∧ h.get? a = some o ∧ o.ExactDict ∧ o.data = .dict es ep ∧ h.DictOfH (nestedKind P w) a xv := by
  obtain ⟨o, e, hk⟩ := x
  obtain ⟨⟨h1, h2, h3, xv, rel, es, ep, h4, h5, h6, h7⟩, _, _⟩ := (show ObjOk P w H h a (dO P w a o xs) from ok a _ e)
  refine ⟨h2, h3, xv, o, es, ep, rel, h1, h4, h5, o, es, ep, h1, h4, h5, h6, fun y hy => ?_, ?_⟩
  · have all : ∀ {l : Xs} {m : List (Key × Addr × Value)}, Paired entRel l m → (∀ x ∈ l, KAt H x.1 x.2.1) → ∀ y ∈ m, (nestedKind P w).is h y.1 y.2.1 := by
      intro l m q
      induction q with
      | nil => intro _ y hy; exact nomatch hy
      | @cons p q ps qs hq t ih =>
        intro kk y hy
        rcases List.mem_cons.mp hy with rfl | hy
        · have := (kk p List.mem_cons_self).is ok
          rw [hq.1, hq.2.1] at this
          exact this
        · exact ih (fun x hx => kk x (List.mem_cons_of_mem _ hx)) y hy
    exact all rel hk y hy
  · have e : ∀ {l : Xs} {m : List (Key × Addr × Value)}, Paired entRel l m → l.map (·.1) = m.map (·.1) := by
      intro l m q
      induction q with
      | nil => rfl
      | @cons p q ps qs hq t ih => rw [List.map_cons, List.map_cons, ih, hq.1]
    rw [← e rel]
    exact h7
theorem ent_keys : ∀ {l : Xs} {m : List (Key × Addr × Value)}, Paired entRel l m → l.map (·.1) = m.map (·.1) := by
  intro l m q
  induction q with
  | nil => rfl
  | @cons p q ps qs hq t ih => rw [List.map_cons, List.map_cons, ih, hq.1]
theorem lookX_pos {p : Key × Addr × V} {r : Xs} {k : Key} (e : p.1 = k) : lookX (p :: r) k = some p.2.2 := by simp [lookX, List.find?_cons, e]
theorem lookX_neg {p : Key × Addr × V} {r : Xs} {k : Key} (e : ¬ p.1 = k) : lookX (p :: r) k = lookX r k := by simp [lookX, List.find?_cons, e]
theorem ent_look {xs : Xs} {xv : List (Key × Addr × Value)} (r : Paired entRel xs xv) (k : Key) : RelO (lookX xs k) ((atKey xv k).map (·.2)) := by
  induction r with
  | nil => exact True.intro
  | @cons p q ps qs h t ih =>
    obtain ⟨h1, _, h2⟩ := h
    by_cases e : p.1 = k
    · have e' : q.1 = k := h1.symm.trans e
      have b : atKey (q :: qs) k = some q.2 := by simp [atKey, List.find?_cons, e']
      rw [lookX_pos e, b]; exact h2
    · have e' : ¬ q.1 = k := fun z => e (h1.trans z)
      have b : atKey (q :: qs) k = atKey qs k := by simp [atKey, List.find?_cons, e']
      rw [lookX_neg e, b]; exact ih
theorem ent_isSome {xs : Xs} {xv : List (Key × Addr × Value)} (r : Paired entRel xs xv) (k : Key) : (atKey xv k).isSome = (lookX xs k).isSome := by
  have q := (ent_look r k).isSome_eq
  rw [Option.isSome_map] at q
  exact q.symm
theorem ent_some {xs : Xs} {xv : List (Key × Addr × Value)} (r : Paired entRel xs xv) {k : Key} {v : V} (e : lookX xs k = some v) : ∃ p, atKey xv k = some p ∧ RelV v p.2 := by
  have q := ent_look r k
  rw [e] at q
  cases h : atKey xv k with
  | none => rw [h] at q; exact q.elim
  | some p => rw [h] at q; exact ⟨p, rfl, q⟩
theorem ent_put {xs : Xs} {xv : List (Key × Addr × Value)} (r : Paired entRel xs xv) (k : Key) (b : Addr) {v : V} {u : Value} (ru : RelV v u) : Paired entRel (putX xs k b v) (storedH xv k b u) := by
  unfold putX storedH
  rw [ent_isSome r k]
  by_cases q : (lookX xs k).isSome = true
  · rw [if_pos q, if_pos q]
    clear q
    induction r with
    | nil => exact .nil
    | @cons p q ps qs h t ih =>
      rw [List.map_cons, List.map_cons]
      refine .cons ?_ ih
      obtain ⟨h1, h2, h3⟩ := h
      unfold setX putAt
      by_cases e : p.1 = k
      · rw [if_pos e, if_pos (h1.symm.trans e)]; exact ⟨h1, h2, ru⟩
      · rw [if_neg e, if_neg (fun z => e (h1.trans z))]; exact ⟨h1, h2, h3⟩
  · rw [if_neg q, if_neg q]; exact Paired.snoc r ⟨rfl, rfl, ru⟩
theorem ent_drop {xs : Xs} {xv : List (Key × Addr × Value)} (r : Paired entRel xs xv) (k : Key) : Paired entRel (dropX xs k) (withoutH xv k) := by
  unfold dropX withoutH
  induction r with
  | nil => exact .nil
  | @cons p q ps qs h t ih =>
    obtain ⟨h1, h2, h3⟩ := h
    by_cases e : p.1 = k
    · have e' : q.1 = k := h1.symm.trans e
      simp only [List.filter_cons, e, e', ne_eq, not_true_eq_false, decide_false, Bool.false_eq_true, if_false]
      exact ih
    · have e' : ¬ q.1 = k := fun z => e (h1.trans z)
      simp only [List.filter_cons, e, e', ne_eq, not_false_eq_true, decide_true, if_true]
      exact .cons ⟨h1, h2, h3⟩ ih
theorem setX_key (k : Key) (v : V) (x : Key × Addr × V) : (setX k v x).1 = x.1 := by
  unfold setX
  split <;> rfl
theorem putX_len (xs : Xs) (k : Key) (b : Addr) (v : V) : (putX xs k b v).length ≤ xs.length + 1 := by
  unfold putX
  split
  · rw [List.length_map]; omega
  · simp
theorem dropX_len (xs : Xs) (k : Key) : (dropX xs k).length ≤ xs.length := List.length_filter_le _ _
/-- a dict newly made so -/
theorem dO_new {H' : Hs} {h' : Heap} {a : Addr} {xs : Xs} {xv : List (Key × Addr × Value)} (hd : (a == sysModules) = false) (hl : xs.length ≤ sizeLine) (rel : Paired entRel xs xv) (dd : h'.DictOfH (nestedKind P w) a xv) : ∃ o, ObjOk P w H' h' a (dO P w a o xs) := by
  obtain ⟨o, es, ep, h1, h2, h3, h4, h5, h6⟩ := dd
  exact ⟨o, ⟨h1, hd, hl, xv, rel, es, ep, h2, h3, h4, by rw [ent_keys rel]; exact h6⟩, ⟨o, h1⟩, fun h1 h2 f k => ⟨k _ f.1, f.2⟩⟩
end

section
variable {X : Cx} {pins : List (Addr × Obj)} {σ : L2.St} {H : Hs} {s : Shared} {a b : Addr} {k : Key} {v d : V} {u r : Value} {xs : Xs} {A : Around} {E : Value → Shared → Prop}
theorem room8 (hu : A.units + 9 < cLine) : (nestedKind X.prog X.w).room A.in1 := by
  show A.in1.units + 8 < cLine
  rw [Around.in1_units]
  omega
theorem e_getItem {Q : Value → Shared → Prop} (hu : A.units + 9 < cLine) (I : Inv X pins σ H s) (g : DAt X.prog X.w H a xs) (gk : KAt H k b) (l : lookX xs k = some v) (h : ∀ w' s', Inv X pins σ H s' → RelV v w' → Q w' s') :
    wpAny (model X.prog X.w) A (getItem (.ref a) (.ref b)) Q E s := by
  obtain ⟨z, hd, xv, o, es, ep, rel, _, _, _, dd⟩ := g.ok I.hok
  obtain ⟨p, hp, rp⟩ := ent_some rel l
  exact wpAny_getItem_heap (room8 hu) (gk.is I.hok) dd hp (h p.2 _ (I.tok _) rp)
theorem e_in {Q : Value → Shared → Prop} (hu : A.units + 9 < cLine) (I : Inv X pins σ H s) (g : DAt X.prog X.w H a xs) (gk : KAt H k b) (h : ∀ s', Inv X pins σ H s' → Q (.bool (lookX xs k).isSome) s') :
    wpAny (model X.prog X.w) A (compareOp .In (.ref b) (.ref a)) Q E s := by
  obtain ⟨z, hd, xv, o, es, ep, rel, _, _, _, dd⟩ := g.ok I.hok
  refine wpAny_in_heap (room8 hu) (gk.is I.hok) z dd ?_
  rw [ent_isSome rel]
  exact h _ (I.tok _)
theorem e_notIn {Q : Value → Shared → Prop} (hu : A.units + 9 < cLine) (I : Inv X pins σ H s) (g : DAt X.prog X.w H a xs) (gk : KAt H k b) (h : ∀ s', Inv X pins σ H s' → Q (.bool (!(lookX xs k).isSome)) s') :
    wpAny (model X.prog X.w) A (compareOp .NotIn (.ref b) (.ref a)) Q E s := by
  obtain ⟨z, hd, xv, o, es, ep, rel, _, _, _, dd⟩ := g.ok I.hok
  refine wpAny_notIn_heap (room8 hu) (gk.is I.hok) z dd ?_
  rw [ent_isSome rel]
  exact h _ (I.tok _)
theorem dO_mut (g : DAt X.prog X.w H a xs) : Mut (H a) := by
  obtain ⟨o, e, _⟩ := g
  rw [e]
  exact True.intro
theorem e_setItem {Q : Unit → Shared → Prop} (hu : A.units + 9 < cLine) (I : Inv X pins σ H s) (g : DAt X.prog X.w H a xs) (gk : KAt H k b) (l : xs.length < sizeLine) (rv : RelV v r)
    (h : ∀ o s', Inv X pins σ (upd H a (dO X.prog X.w a o (putX xs k b v))) s' → Q () s') : wpAny (model X.prog X.w) A (setItem (.ref a) (.ref b) r) Q E s := by
  obtain ⟨z, hd, xv, o, es, ep, rel, _, _, _, dd⟩ := g.ok I.hok
  have hz : xv.length ≤ sizeLine := by rw [← Paired.length rel]; exact hd
  have hl : (putX xs k b v).length ≤ sizeLine := by have := putX_len xs k b v; omega
  refine wpAny_setItem_heap (hsz := hz) (room8 hu) (gk.is I.hok) dd fun h' dd' hs => ?_
  obtain ⟨q, _, _, hq, _⟩ := id dd'
  obtain ⟨o', ok'⟩ := dO_new (H' := upd H a (dO X.prog X.w a q (putX xs k b v))) z hl (ent_put rel k b rv) dd'
  obtain ⟨⟨e', _⟩, _⟩ := id ok'
  obtain rfl : o' = q := Option.some.inj (e'.symm.trans hq)
  exact h o' _ (d_write I (dO_mut g) hs ⟨_, hq⟩ ok')
theorem e_pop {Q : Value → Shared → Prop} (hu : A.units + 9 < cLine) (I : Inv X pins σ H s) (g : DAt X.prog X.w H a xs) (gk : KAt H k b) (l : lookX xs k = some v)
    (h : ∀ o w' s', Inv X pins σ (upd H a (dO X.prog X.w a o (dropX xs k))) s' → RelV v w' → Q w' s') : wpAny (model X.prog X.w) A (call (.builtin "dict.pop") [.ref a, .ref b]) Q E s := by
  obtain ⟨z, hd, xv, o, es, ep, rel, _, _, _, dd⟩ := g.ok I.hok
  have hz : xv.length ≤ sizeLine := by rw [← Paired.length rel]; exact hd
  have hl : (dropX xs k).length ≤ sizeLine := by have := dropX_len xs k; omega
  obtain ⟨p, hp, rp⟩ := ent_some rel l
  refine call_pop_heap (hsz := hz) (.inl rfl) (PySem.F.args_dict_pop_2 _ _) (room8 hu) (gk.is I.hok) z dd hp fun h' dd' hs => ?_
  obtain ⟨q, _, _, hq, _⟩ := id dd'
  obtain ⟨o', ok'⟩ := dO_new (H' := upd H a (dO X.prog X.w a q (dropX xs k))) z hl (ent_drop rel k) dd'
  obtain ⟨⟨e', _⟩, _⟩ := id ok'
  obtain rfl : o' = q := Option.some.inj (e'.symm.trans hq)
  exact h o' _ _ (d_write I (dO_mut g) hs ⟨_, hq⟩ ok') rp
theorem e_get2 {Q : Value → Shared → Prop} (hu : A.units + 9 < cLine) (I : Inv X pins σ H s) (g : DAt X.prog X.w H a xs) (gk : KAt H k b) (rd : RelV d r) (h : ∀ w' s', Inv X pins σ H s' → RelV ((lookX xs k).getD d) w' → Q w' s') :
    wpAny (model X.prog X.w) A (call (.builtin "dict.get") [.ref a, .ref b, r]) Q E s := by
  obtain ⟨z, hd, xv, o, es, ep, rel, _, _, _, dd⟩ := g.ok I.hok
  exact call_meetsIn PySem.F.slot_dict_get dd.typeIs PySem.F.entry_dict_get (PySem.F.args_dict_get_3 _ _ _) (meetsH_dict_get_default (nestedKind X.prog X.w) a b z r) ⟨room8 hu, k, xv, gk.is I.hok, dd, h _ _ (I.tok _) ((ent_look rel k).getD rd)⟩
theorem isE_at (I : Inv X pins σ H s) (g : DAt X.prog X.w H a xs) : s.TypeIs (.ref a) "dict" ∧ (∀ b, Value.ref a = .ref b → ∃ ob, s.heap.get? b = some ob ∧ ob.dict = none) := by
  obtain ⟨z, hd, xv, o, es, ep, rel, h1, h2, h3, dd⟩ := g.ok I.hok
  refine ⟨dd.typeIs, fun b q => ?_⟩
  cases q
  exact ⟨o, h1, h2.2.1⟩
end

/-! ### readings and rules -/
def eGet (P : Program) (w : World) (td ty : TE) : TE := fun σ H Q => td σ H fun x H1 => ty σ H1 fun y H2 => ∃ a b xs k v, x = .ref a ∧ y = .ref b ∧ DAt P w H2 a xs ∧ KAt H2 k b ∧ lookX xs k = some v ∧ Q v H2
def eIn (P : Program) (w : World) (neg : Bool) (ty td : TE) : TE := fun σ H Q => ty σ H fun y H1 => td σ H1 fun x H2 => ∃ a b xs k, x = .ref a ∧ y = .ref b ∧ DAt P w H2 a xs ∧ KAt H2 k b ∧ Q (.bl (if neg then !(lookX xs k).isSome else (lookX xs k).isSome)) H2
def ePut (P : Program) (w : World) (td ty tv : TE) : TS := fun D σ H => tv σ H fun v H1 => td σ H1 fun x H2 => ty σ H2 fun y H3 => ∃ a b xs k, x = .ref a ∧ y = .ref b ∧ DAt P w H3 a xs ∧ KAt H3 k b ∧ xs.length < sizeLine ∧
  ∀ o, D.nx σ (upd H3 a (dO P w a o (putX xs k b v)))
def eAug (P : Program) (w : World) (td ty tv : TE) (rd : V → V → Hs → VK → Prop) : TS := fun D σ H => td σ H fun x H1 => ty σ H1 fun y H2 => ∃ a b xs k v, x = .ref a ∧ y = .ref b ∧ DAt P w H2 a xs ∧ KAt H2 k b ∧ lookX xs k = some v ∧
  tv σ H2 fun y2 H3 => rd v y2 H3 fun z H4 => ∃ xs', DAt P w H4 a xs' ∧ KAt H4 k b ∧ xs'.length < sizeLine ∧ ∀ o, D.nx σ (upd H4 a (dO P w a o (putX xs' k b z)))
def eGet2 (P : Program) (w : World) (td ty tx : TE) : TE := fun σ H Q => td σ H fun x H1 => ∃ a xs0, x = .ref a ∧ DAt P w H1 a xs0 ∧ ty σ H1 fun y H2 => tx σ H2 fun z H3 => ∃ b xs k, y = .ref b ∧ DAt P w H3 a xs ∧ KAt H3 k b ∧ Q ((lookX xs k).getD z) H3
def ePop (P : Program) (w : World) (td ty : TE) : TE := fun σ H Q => td σ H fun x H1 => ∃ a xs0, x = .ref a ∧ DAt P w H1 a xs0 ∧ ty σ H1 fun y H2 => ∃ b xs k v, y = .ref b ∧ DAt P w H2 a xs ∧ KAt H2 k b ∧ lookX xs k = some v ∧ ∀ o, Q v (upd H2 a (dO P w a o (dropX xs k)))
def eNew (P : Program) (w : World) : TE := fun _ H Q => ∀ p o, H p = none → Q (.ref p) (upd H p (dO P w p o []))
section
variable {X : Cx} {o i e f value : Expr} {pos pos' tpos apos cpos : Pos} {td ty tv tx : TE}
theorem ee_get (hu : X.A.units + 9 < cLine) (ho : PE X o td) (hi : PE X i ty) (hs : NoSl i) : PE X (.Subscript o i pos) (eGet X.prog X.w td ty) := by
  refine ⟨fun pins s σ H Q I h => ?_⟩
  refine subD_of PySem.F.slot_dict_getitem.lookup hs (thn (ho.run pins s σ H _ I h) fun u s1 ⟨x, H1, I1, rx, q1⟩ => thn (hi.run pins s1 σ H1 _ I1 q1) fun iv s2 ⟨y, H2, I2, ry, a, b, xs, k, v, ex, ey, g, gk, l, q2⟩ => ?_)
  subst ex ey
  obtain rfl : u = Value.ref a := rx
  obtain rfl : iv = Value.ref b := ry
  exact ⟨(isE_at I2 g).1, e_getItem hu I2 g gk l fun w' s3 I3 rw' => ⟨v, H2, I3, rw', q2⟩⟩
theorem ee_in (hu : X.A.units + 9 < cLine) (hi : PE X i ty) (ho : PE X o td) : PC X .In i o (eIn X.prog X.w false ty td) := by
  refine ⟨fun pins s σ H Q I h => ?_⟩
  refine thn (hi.run pins s σ H _ I h) fun iv s1 ⟨y, H1, I1, ry, q1⟩ => thn (ho.run pins s1 σ H1 _ I1 q1) fun u s2 ⟨x, H2, I2, rx, a, b, xs, k, ex, ey, g, gk, q2⟩ => ?_
  subst ex ey
  obtain rfl : u = Value.ref a := rx
  obtain rfl : iv = Value.ref b := ry
  exact e_in hu I2 g gk fun s3 I3 => ⟨.bl (lookX xs k).isSome, H2, I3, rfl, q2⟩
theorem ee_notIn (hu : X.A.units + 9 < cLine) (hi : PE X i ty) (ho : PE X o td) : PC X .NotIn i o (eIn X.prog X.w true ty td) := by
  refine ⟨fun pins s σ H Q I h => ?_⟩
  refine thn (hi.run pins s σ H _ I h) fun iv s1 ⟨y, H1, I1, ry, q1⟩ => thn (ho.run pins s1 σ H1 _ I1 q1) fun u s2 ⟨x, H2, I2, rx, a, b, xs, k, ex, ey, g, gk, q2⟩ => ?_
  subst ex ey
  obtain rfl : u = Value.ref a := rx
  obtain rfl : iv = Value.ref b := ry
  exact e_notIn hu I2 g gk fun s3 I3 => ⟨.bl (!(lookX xs k).isSome), H2, I3, rfl, q2⟩
theorem es_put (hu : X.A.units + 9 < cLine) (ho : PE X o td) (hi : PE X i ty) (hv : PE X value tv) (hs : swapsWith value (some (.Subscript o i pos')) pos.line X.env = pure false) :
    PS X (.Assign [.Subscript o i pos'] value pos) (ePut X.prog X.w td ty tv) := by
  refine ⟨fun pins s σ H D I h => ?_⟩
  refine wpAny_Assign_Subscript (thn (hv.run pins s σ H _ I h) fun r s1 ⟨v, H1, I1, rv, q1⟩ => thn (ho.run pins s1 σ H1 _ I1 q1) fun u s2 ⟨x, H2, I2, rx, q2⟩ => thn (hi.run pins s2 σ H2 _ I2 q2) fun iv s3 ⟨y, H3, I3, ry, a, b, xs, k, ex, ey, g, gk, l, q3⟩ => ?_) hs
  subst ex ey
  obtain rfl : u = Value.ref a := rx
  obtain rfl : iv = Value.ref b := ry
  exact e_setItem hu I3 g gk l rv fun o s4 I4 => ⟨σ, _, I4, q3 o⟩
theorem es_aug {op : Operator} {rd : V → V → Hs → VK → Prop} (hu : X.A.units + 9 < cLine) (ho : PE X o td) (hi : PE X i ty) (hv : PE X value tv) (hop : InOp X op rd)
    (ha : ∀ ov iv new, augStore i ov iv new = (do holding [new, ov, iv] (setItem ov iv new); release [new, ov, iv] []; pure .next)) : PS X (.AugAssign (.Subscript o i tpos) op value pos) (eAug X.prog X.w td ty tv rd) := by
  refine ⟨fun pins s σ H D I h => ?_⟩
  refine wpAny_AugAssign_SubscriptAny (thn (ho.run pins s σ H _ I h) fun u s1 ⟨x, H1, I1, rx, q1⟩ => thn (hi.run pins s1 σ H1 _ I1 q1) fun iv s2 ⟨y, H2, I2, ry, a, b, xs, k, v, ex, ey, g, gk, l, q2⟩ => ?_) ha
  subst ex ey
  obtain rfl : u = Value.ref a := rx
  obtain rfl : iv = Value.ref b := ry
  refine e_getItem hu I2 g gk l fun w' s3 I3 rw' => thn (hv.run pins s3 σ H2 _ I3 q2) fun w2 s4 ⟨y2, H3, I4, ry2, q3⟩ => thn (hop pins s4 σ H3 v y2 w' w2 _ I4 rw' ry2 q3) fun w3 s5 ⟨z, H4, I5, rz, xs', g5, gk5, l5, q4⟩ => ?_
  exact e_setItem hu I5 g5 gk5 l5 rz fun o s6 I6 => ⟨σ, _, I6, q4 o⟩
theorem ee_get2 (hu : X.A.units + 9 < cLine) (ho : PE X o td) (he : PE X e ty) (hf : PE X f tx) (m : M2 X o "get" apos e f cpos) : PE X (.Call (.Attribute o "get" apos) [e, f] [] cpos) (eGet2 X.prog X.w td ty tx) := by
  refine ⟨fun pins s σ H Q I h => ?_⟩
  refine wpAny_Call_method m.base m.few m.line PySem.F.plainAttrs_dict PySem.F.slot_dict_get PySem.F.type_dict_get (thn (ho.run pins s σ H _ I h) fun u s1 ⟨x, H1, I1, rx, a, xs0, ex, d, q1⟩ => ?_)
  subst ex
  obtain rfl : u = Value.ref a := rx
  obtain ⟨t1, t2⟩ := isE_at I1 d
  refine ⟨t1, t2, ?_⟩
  rw [m.trees]
  refine Calls.callWith_builtin rfl (Calls.evalArgs_plain (Calls.spliced_cons (thn (he.run pins s1 σ H1 _ I1 q1) fun iv s2 ⟨y, H2, I2, ry, q2⟩ =>
    Calls.spliced_cons (thn (hf.run pins s2 σ H2 _ I2 q2) fun fv s3 ⟨z, H3, I3, rz, b, xs, k, ey, g, gk, q3⟩ => Calls.spliced_nil ?_))))
  subst ey
  obtain rfl : iv = Value.ref b := ry
  exact e_get2 hu I3 g gk rz fun w' s4 I4 rw' => ⟨_, H3, I4, rw', q3⟩
theorem ee_pop (hu : X.A.units + 9 < cLine) (ho : PE X o td) (he : PE X e ty) (m : M1 X o "pop" apos e cpos) : PE X (.Call (.Attribute o "pop" apos) [e] [] cpos) (ePop X.prog X.w td ty) := by
  refine ⟨fun pins s σ H Q I h => ?_⟩
  refine wpAny_Call_method m.base m.few m.line PySem.F.plainAttrs_dict PySem.F.slot_dict_pop PySem.F.type_dict_pop (thn (ho.run pins s σ H _ I h) fun u s1 ⟨x, H1, I1, rx, a, xs0, ex, d, q1⟩ => ?_)
  subst ex
  obtain rfl : u = Value.ref a := rx
  obtain ⟨t1, t2⟩ := isE_at I1 d
  refine ⟨t1, t2, ?_⟩
  rw [m.trees]
  refine Calls.callWith_builtin rfl (Calls.evalArgs_plain (Calls.spliced_cons (thn (he.run pins s1 σ H1 _ I1 q1) fun iv s2 ⟨y, H2, I2, ry, b, xs, k, v, ey, g, gk, l, q2⟩ => Calls.spliced_nil ?_)))
  subst ey
  obtain rfl : iv = Value.ref b := ry
  exact e_pop hu I2 g gk l fun o w' s3 I3 rw' => ⟨v, _, I3, rw', q2 o⟩
theorem ee_new : PE X (.Dict [] [] pos) (eNew X.prog X.w) := ⟨fun pins s σ H Q I h => by
  obtain ⟨o, ok⟩ := dO_new (P := X.prog) (w := X.w) (H' := H) (h' := s.heap.push { cls := .type "dict", data := .dict #[] }) (a := s.heap.objs.size) (xs := []) (beq_eq_false_iff_ne.mpr (Ne.symm (Nat.ne_of_lt I.big))) (Nat.zero_le _) .nil (Heap.DictOfH.new s.heap)
  exact wpAny_Dict_empty ⟨.ref s.heap.objs.size, _, I.laid (a := s.heap.objs.size) (o := dO X.prog X.w s.heap.objs.size o []) (t' := s.toks) (fun _ _ q => Heap.get?_push_of_some _ q) (Nat.le_refl _) ok, rfl, h _ _ (I.hok.fresh (Nat.le_refl _))⟩⟩
end
end Dl

set_option Elab.async false
set_option linter.all false
set_option maxRecDepth 100000
set_option maxHeartbeats 4000000
namespace Dl
open PySem PySem.Spec PyProof.Rows L2

/-! ### what is one's own, written -/
section
variable {C : Cn} {σ : L2.St} {F H F' H' : Hs} {A T L R As : List Addr} {s : S} {d : D} {put : D → S} {v : V} {e b : Expr} {pl : Pl} {q qb : S → Option PyData} {pos : Pos} {a : Addr}
theorem foc_own (g : Good F H ((L ++ ((a :: As) ++ R)) ++ T)) (k : ∀ F' H' d' A1', Le F F' → (∀ b ∈ L ++ R, H' b = H b) → Rep C.Z F' H' d' (.ref a) A1' → SR C.Z C.bv F' H' 0 σ (put d') (L ++ (A1' ++ R)))
    (o' : HO) (d' : D) (As' T' : List Addr) (mk : (∀ b ∈ As', b ≠ a) → Rep C.Z F (upd H a o') d' (.ref a) (a :: As')) (hs : Sb (As' ++ T') (As ++ T)) :
    ∃ A', Step F H ((L ++ ((a :: As) ++ R)) ++ T) F (upd H a o') (A' ++ T') ∧ SR C.Z C.bv F (upd H a o') 0 σ (put d') A' := by
  have nd := List.nodup_iff_count.mp g.nd
  have cnt : ∀ b : Addr, (L ++ (a :: As ++ R) ++ T).count b = L.count b + ((if a = b then 1 else 0) + As.count b + R.count b) + T.count b := fun b => by
    simp only [List.count_append, List.count_cons, beq_iff_eq]
    omega
  have ha : ∀ b ∈ As' ++ T', b ≠ a := fun b hb e => by
    subst e
    have h1 := nd b
    rw [cnt] at h1
    have h2 := hs b
    rw [List.count_append] at h2
    have h3 : 0 < (As' ++ T').count b := List.count_pos_iff.mpr hb
    rw [List.count_append] at h3 h2
    simp only [if_true] at h1
    omega
  have hLR : ∀ b ∈ L ++ R, b ≠ a := fun b hb e => by
    subst e
    have h1 := nd b
    rw [cnt] at h1
    have h3 : 0 < (L ++ R).count b := List.count_pos_iff.mpr hb
    rw [List.count_append] at h3
    simp only [if_true] at h1
    omega
  have sr := k F (upd H a o') d' (a :: As') (Le.refl _) (fun b hb => upd_ne (hLR b hb)) (mk fun b hb => ha b (by simp [hb]))
  refine ⟨_, ⟨Le.refl _, fun b o eb => ?_, ?_, fun b hb => ?_, fun b h1 h2 => ?_, fun b h1 h2 => ?_⟩, sr⟩
  · rw [upd_ne]
    · exact g.fh b o eb
    · intro e
      subst e
      rw [g.ap b (by simp)] at eb
      cases eb
  · refine List.nodup_iff_count.mpr fun b => ?_
    have h1 := nd b
    rw [cnt] at h1
    have h2 := hs b
    simp only [List.count_append, List.count_cons, beq_iff_eq] at h2 ⊢
    omega
  · refine g.ap b ?_
    rcases List.mem_append.mp hb with hb | hb
    · simp only [List.mem_append, List.mem_cons] at hb ⊢
      rcases hb with hb | (hb | hb) | hb
      · simp [hb]
      · simp [hb]
      · have := hs.mem (List.mem_append_left T' hb)
        rcases List.mem_append.mp this with z | z <;> simp [z]
      · simp [hb]
    · have := hs.mem (List.mem_append_right As' hb)
      rcases List.mem_append.mp this with z | z <;> simp [z]
  · rw [upd_ne]
    intro e
    subst e
    exact h2 (by simp)
  · rcases h1 with h1 | h1
    · left
      rcases List.mem_append.mp h1 with hb | hb
      · simp only [List.mem_append, List.mem_cons] at hb ⊢
        rcases hb with hb | (hb | hb) | hb
        · simp [hb]
        · simp [hb]
        · have := hs.mem (List.mem_append_left T' hb)
          rcases List.mem_append.mp this with z | z <;> simp [z]
        · simp [hb]
      · have := hs.mem (List.mem_append_right As' hb)
        rcases List.mem_append.mp this with z | z <;> simp [z]
    · exact .inr h1

/-! ### keys -/
def keyT : PyData → Option Key
  | .tuple ds => (keysOf ds).bind fun ks => if (Key.tup ks).depth ≤ 8 then some (.tup ks) else none
  | _ => none
where Key.tup := NestedKey.tup
mutual
theorem key_fz : ∀ (d : PyData) (v : V) (k : Key), Fz F v d → keyOf d = some k → FzKey F k v
  | .none, _, _, z, e => by cases z; cases e; exact .non
  | .int i, _, _, z, e => by cases z; cases e; exact .num i
  | .str x, _, _, z, e => by cases z; cases e; exact .text x
  | .bool _, _, _, z, e => by cases e
  | .list _, _, _, z, e => by cases e
  | .dict _, _, _, z, e => by cases e
  | .tuple ds, _, _, z, e => by
    obtain ⟨ks, e1, rfl⟩ := Option.map_eq_some_iff.mp e
    cases z with
    | tup h1 h2 => exact .tup h1 (keys_fz ds _ ks h2 e1)
theorem keys_fz : ∀ (ds : List PyData) (vs : List V) (ks : List Key), Fzs F vs ds → keysOf ds = some ks → FzKeys F ks vs
  | [], _, _, z, e => by cases z; cases e; exact .nil
  | d :: ds, _, _, z, e => by
    unfold keysOf at e
    cases z with
    | cons z1 z2 =>
      cases e1 : keyOf d with
      | none => rw [e1] at e; cases e
      | some k =>
        cases e2 : keysOf ds with
        | none => rw [e1, e2] at e; cases e
        | some ks =>
          rw [e1, e2] at e
          cases e
          exact .cons (key_fz d _ k z1 e1) (keys_fz ds _ ks z2 e2)
end
theorem keyT_at {v : V} {x : PyData} {k : Key} (z : Fz F v x) (e : keyT x = some k) : ∃ b, v = .ref b ∧ FzKey F k (.ref b) ∧ k.depth ≤ 8 := by
  cases x with
  | tuple ds =>
    obtain ⟨ks, e1, e2⟩ := Option.bind_eq_some_iff.mp e
    split at e2
    · rename_i hd
      cases e2
      cases z with
      | @tup a vs _ h1 h2 => exact ⟨a, rfl, .tup h1 (keys_fz ds _ ks h2 e1), hd⟩
    · cases e2
  | _ => cases e

/-! ### looking up -/
def getP (kvs : List (Key × PyData)) (k : Key) : Option PyData := (kvs.find? fun e => decide (e.1 = k)).map (·.2)
def putP (kvs : List (Key × PyData)) (k : Key) (x : PyData) : List (Key × PyData) := if (getP kvs k).isSome = true then kvs.map (fun e => if e.1 = k then (e.1, x) else e) else kvs ++ [(k, x)]
def dropP (kvs : List (Key × PyData)) (k : Key) : List (Key × PyData) := kvs.filter fun e => decide (e.1 ≠ k)
def dictOf : D → Option (List (Key × PyData))
  | .d kvs => some kvs
  | .fd kvs => some kvs
  | _ => none
def LookR (F : Hs) (r : Option PyData) (o : Option V) : Prop := match r with
  | some d => ∃ u, o = some u ∧ Fz F u d
  | none => o = none
theorem getP_pos {p : Key × PyData} {r : List (Key × PyData)} {k : Key} (e : p.1 = k) : getP (p :: r) k = some p.2 := by simp [getP, List.find?_cons, e]
theorem getP_neg {p : Key × PyData} {r : List (Key × PyData)} {k : Key} (e : ¬ p.1 = k) : getP (p :: r) k = getP r k := by simp [getP, List.find?_cons, e]
theorem find_fz {k : Key} {xs : Xs} {kvs : List (Key × PyData)} (r : Paired (EntF F) xs kvs) : LookR F (getP kvs k) (lookX xs k) := by
  induction r with
  | nil => exact rfl
  | @cons p q ps qs h t ih =>
    by_cases e : p.1 = k
    · rw [lookX_pos e, getP_pos (h.key.symm.trans e)]
      exact ⟨_, rfl, h.val⟩
    · rw [lookX_neg e, getP_neg (fun z => e (h.key.trans z))]
      exact ih
theorem LookR.isSome {r : Option PyData} {o : Option V} (h : LookR F r o) : o.isSome = r.isSome := by
  cases r with
  | none => rw [show o = none from h]; rfl
  | some d => obtain ⟨u, rfl, _⟩ := h; rfl
theorem ents_put {k : Key} {b : Addr} {v : V} {x : PyData} (kb : FzKey F k (.ref b)) (kd : k.depth ≤ 8) (z : Fz F v x) {xs : Xs} {kvs : List (Key × PyData)} (r : Paired (EntF F) xs kvs) : Paired (EntF F) (putX xs k b v) (putP kvs k x) := by
  have e := (find_fz (k := k) r).isSome
  unfold putX putP
  rw [e]
  by_cases q : (getP kvs k).isSome = true
  · rw [if_pos q, if_pos q]
    clear q e
    induction r with
    | nil => exact .nil
    | @cons p q ps qs h t ih =>
      rw [List.map_cons, List.map_cons]
      refine .cons ?_ ih
      unfold setX
      by_cases e : p.1 = k
      · rw [if_pos e, if_pos (h.key.symm.trans e)]
        exact ⟨h.key, h.fk, h.deep, z⟩
      · rw [if_neg e, if_neg (fun z => e (h.key.trans z))]
        exact h
  · rw [if_neg q, if_neg q]
    exact Paired.snoc r ⟨rfl, kb, kd, z⟩
theorem ents_drop {k : Key} {xs : Xs} {kvs : List (Key × PyData)} (r : Paired (EntF F) xs kvs) : Paired (EntF F) (dropX xs k) (dropP kvs k) := by
  unfold dropX dropP
  induction r with
  | nil => exact .nil
  | @cons p q ps qs h t ih =>
    by_cases e : p.1 = k
    · have e' : q.1 = k := h.key.symm.trans e
      simp only [List.filter_cons, e, e', ne_eq, not_true_eq_false, decide_false, Bool.false_eq_true, if_false]
      exact ih
    · have e' : ¬ q.1 = k := fun z => e (h.key.trans z)
      simp only [List.filter_cons, e, e', ne_eq, not_false_eq_true, decide_true, if_true]
      exact .cons h ih
theorem ents_at {H : Hs} (l : Le F H) {xs : Xs} {kvs : List (Key × PyData)} (r : Paired (EntF F) xs kvs) : ∀ x ∈ xs, KAt H x.1 x.2.1 := by
  induction r with
  | nil => intro x hx; exact nomatch hx
  | @cons p q ps qs h t ih =>
    intro x hx
    rcases List.mem_cons.mp hx with rfl | hx
    · exact ⟨F, l, h.fk, h.deep⟩
    · exact ih x hx
theorem foc_look {k : Key} {kvs : List (Key × PyData)} (l : Le F H) (f : Foc C F H σ A d put v) (e : dictOf d = some kvs) : ∃ a xs, v = .ref a ∧ DAt C.X.prog C.X.w H a xs ∧ LookR F (getP kvs k) (lookX xs k) := by
  obtain ⟨L, A1, R, rfl, q, _⟩ := f
  cases d with
  | d ks =>
    simp only [Rep] at q
    obtain ⟨a, o, xs, rfl, rfl, eH, r⟩ := q
    cases e
    exact ⟨a, xs, rfl, ⟨o, eH, ents_at l r⟩, find_fz r⟩
  | fd ks =>
    simp only [Rep] at q
    obtain ⟨a, o, xs, rfl, rfl, eF, r⟩ := q
    cases e
    exact ⟨a, xs, rfl, ⟨o, l _ _ eF, ents_at l r⟩, find_fz r⟩
  | _ => cases e
def dixQ (pl : Pl) (q : S → Option PyData) : S → Option PyData := fun s => ((pl.get s).bind dictOf).bind fun kvs => ((q s).bind keyT).bind fun k => getP kvs k
def dgetQ (pl : Pl) (q q0 : S → Option PyData) : S → Option PyData := fun s => ((pl.get s).bind dictOf).bind fun kvs => ((q s).bind keyT).bind fun k => (q0 s).map fun z => (getP kvs k).getD z
def dinQ (neg : Bool) (q : S → Option PyData) (pl : Pl) : S → Option PyData := fun s => ((q s).bind keyT).bind fun k => ((pl.get s).bind dictOf).map fun kvs => .bool (if neg then !(getP kvs k).isSome else (getP kvs k).isSome)
theorem cq_dix (hu : C.X.A.units + 9 < cLine) (h : CPl C e pl) (hq : CQ C b q) (hs : NoSl b := by exact fun _ _ => rfl) : CQ C (.Subscript e b pos) (dixQ pl q) := ⟨PE.imp (ee_get hu h.run hq.run hs) fun σ H Q ⟨F, A, s, x, a, e, k⟩ => by
  obtain ⟨kvs, e1, e⟩ := Option.bind_eq_some_iff.mp e
  obtain ⟨d1, e1, e4⟩ := Option.bind_eq_some_iff.mp e1
  obtain ⟨kk, e2, e⟩ := Option.bind_eq_some_iff.mp e
  obtain ⟨kd, e2, e3⟩ := Option.bind_eq_some_iff.mp e2
  refine ⟨F, A, s, _, a, e1, fun F1 H1 v w1 f1 => ⟨F1, A, s, _, a.grown w1, e2, fun F2 H2 u w2 z2 => ?_⟩⟩
  have f2 := f1.grow w2 (a.grown w1).there
  obtain ⟨b, rfl, kb, kd8⟩ := keyT_at z2 e3
  obtain ⟨p, xs, rfl, dat, lr⟩ := foc_look (k := kk) w2.fh f2 e4
  rw [e] at lr
  obtain ⟨u, h1, h2⟩ := lr
  exact ⟨p, b, xs, kk, u, rfl, rfl, dat, ⟨F2, w2.fh, kb, kd8⟩, h1, k F2 H2 u (w1.trans w2) h2⟩⟩
theorem cq_dget {q0 : S → Option PyData} {f : Expr} {apos cpos : Pos} (hu : C.X.A.units + 9 < cLine) (h : CPl C e pl) (hq : CQ C b q) (h0 : CQ C f q0) (m : M2 C.X e "get" apos b f cpos) : CQ C (.Call (.Attribute e "get" apos) [b, f] [] cpos) (dgetQ pl q q0) := ⟨PE.imp (ee_get2 hu h.run hq.run h0.run m) fun σ H Q ⟨F, A, s, x, a, e, k⟩ => by
  obtain ⟨kvs, e1, e⟩ := Option.bind_eq_some_iff.mp e
  obtain ⟨d1, e1, e4⟩ := Option.bind_eq_some_iff.mp e1
  obtain ⟨kk, e2, e⟩ := Option.bind_eq_some_iff.mp e
  obtain ⟨kd, e2, e3⟩ := Option.bind_eq_some_iff.mp e2
  obtain ⟨z0, e5, rfl⟩ := Option.map_eq_some_iff.mp e
  refine ⟨F, A, s, _, a, e1, fun F1 H1 v w1 f1 => ?_⟩
  obtain ⟨p, xs, rfl, dat, lr⟩ := foc_look (k := kk) w1.fh f1 e4
  refine ⟨p, xs, rfl, dat, F1, A, s, _, a.grown w1, e2, fun F2 H2 u w2 z2 => ⟨F2, A, s, _, (a.grown w1).grown w2, e5, fun F3 H3 u3 w3 z3 => ?_⟩⟩
  have f2 := (f1.grow w2 (a.grown w1).there).grow w3 ((a.grown w1).grown w2).there
  obtain ⟨b, rfl, kb, kd8⟩ := keyT_at (z2.to w3.ff) e3
  obtain ⟨p', xs', ep, dat2, lr2⟩ := foc_look (k := kk) w3.fh f2 e4
  cases ep
  refine ⟨b, xs', kk, rfl, dat2, ⟨F3, w3.fh, kb, kd8⟩, k F3 H3 _ ((w1.trans w2).trans w3) ?_⟩
  cases er : getP kvs kk with
  | none =>
    rw [er] at lr2
    rw [show lookX xs' kk = none from lr2]
    exact z3
  | some y =>
    rw [er] at lr2
    obtain ⟨u, h1, h2⟩ := lr2
    rw [h1]
    exact h2⟩
theorem ev_din {neg : Bool} {σ : L2.St} {H : Hs} {Q : VK} : EvQ C (dinQ neg q pl) σ H Q → eIn C.X.prog C.X.w neg (EvQ C q) (EvPl C pl) σ H Q := fun ⟨F, A, s, x, a, e, k⟩ => by
  obtain ⟨kk, e2, e⟩ := Option.bind_eq_some_iff.mp e
  obtain ⟨kd, e2, e3⟩ := Option.bind_eq_some_iff.mp e2
  obtain ⟨kvs, e1, rfl⟩ := Option.map_eq_some_iff.mp e
  obtain ⟨d1, e1, e4⟩ := Option.bind_eq_some_iff.mp e1
  refine ⟨F, A, s, _, a, e2, fun F1 H1 u w1 z1 => ⟨F1, A, s, _, a.grown w1, e1, fun F2 H2 v w2 f2 => ?_⟩⟩
  obtain ⟨b, rfl, kb, kd8⟩ := keyT_at (z1.to w2.ff) e3
  obtain ⟨p, xs, rfl, dat, lr⟩ := foc_look (k := kk) w2.fh f2 e4
  refine ⟨p, b, xs, kk, rfl, rfl, dat, ⟨F2, w2.fh, kb, kd8⟩, k F2 H2 _ (w1.trans w2) ?_⟩
  rw [lr.isSome]
  exact .bl _
theorem cq_din (hu : C.X.A.units + 9 < cLine) (hq : CQ C b q) (h : CPl C e pl) (hm : behindInMarks .In e = false := by first | exact nobehind _ (by decide) (by decide) | rfl) : CQ C (.Compare b [.In] [e] pos) (dinQ false q pl) :=
  ⟨PE.imp (pe_cmp (ee_in hu hq.run h.run) hm) fun σ H Q q => ev_din q⟩
theorem cq_dnotin (hu : C.X.A.units + 9 < cLine) (hq : CQ C b q) (h : CPl C e pl) (hm : behindInMarks .NotIn e = false := by first | exact nobehind _ (by decide) (by decide) | rfl) : CQ C (.Compare b [.NotIn] [e] pos) (dinQ true q pl) :=
  ⟨PE.imp (pe_cmp (ee_notIn hu hq.run h.run) hm) fun σ H Q q => ev_din q⟩
theorem ct_cmpq {op : CmpOp} {t : TE} (h : PC C.X op b e t) (i : ∀ σ H Q, EvQ C q σ H Q → t σ H Q) (hm : behindInMarks op e = false) : CT C (.Compare b [op] [e] pos) (toB (qE q)) := ⟨PT.imp (pt_cmp h hm) fun σ H Q ⟨F, A, s, at0, hh⟩ => by
  refine i _ _ _ ?_
  unfold toB qE at hh
  cases e1 : q s with
  | none => rw [e1] at hh; exact hh.elim
  | some d1 =>
    rw [e1] at hh
    cases d1 with
    | bool bb =>
      refine ⟨F, A, s, _, at0, e1, fun F1 H1 v w z => ?_⟩
      cases z
      exact ⟨bb, rfl, hh F1 H1 A (at0.grow w) (at0.grown w).r⟩
    | _ => exact hh.elim⟩
theorem ct_din (hu : C.X.A.units + 9 < cLine) (hq : CQ C b q) (h : CPl C e pl) (hm : behindInMarks .In e = false := by first | exact nobehind _ (by decide) (by decide) | rfl) : CT C (.Compare b [.In] [e] pos) (toB (qE (dinQ false q pl))) :=
  ct_cmpq (ee_in hu hq.run h.run) (fun σ H Q q => ev_din q) hm
theorem ct_dnotin (hu : C.X.A.units + 9 < cLine) (hq : CQ C b q) (h : CPl C e pl) (hm : behindInMarks .NotIn e = false := by first | exact nobehind _ (by decide) (by decide) | rfl) : CT C (.Compare b [.NotIn] [e] pos) (toB (qE (dinQ true q pl))) :=
  ct_cmpq (ee_notIn hu hq.run h.run) (fun σ H Q q => ev_din q) hm
end
end Dl

set_option Elab.async false
set_option linter.all false
set_option maxRecDepth 100000
set_option maxHeartbeats 4000000
namespace Dl
open PySem PySem.Spec PyProof.Rows L2

/-! ### a dict of one's own, changed -/
def ownD : D → Option (List (Key × PyData))
  | .d kvs => some kvs
  | _ => none
section
variable {C : Cn} {σ : L2.St} {F H F' H' : Hs} {A T : List Addr} {s : S} {d : D} {put : D → S} {v : V} {e b : Expr} {pl : Pl} {q qb : S → Option PyData} {pos : Pos} {a : Addr} {kvs : List (Key × PyData)} {f : S → Out D}
theorem foc_dict (g : Good F H (A ++ T)) (fo : Foc C F H σ A (.d kvs) put v) : ∃ a xs, v = .ref a ∧ DAt C.X.prog C.X.w H a xs ∧ Paired (EntF F) xs kvs ∧
    ∀ o' xs' kvs', Paired (EntF F) xs' kvs' → ∃ A', Step F H (A ++ T) F (upd H a (dO C.X.prog C.X.w a o' xs')) (A' ++ T) ∧ SR C.Z C.bv F (upd H a (dO C.X.prog C.X.w a o' xs')) 0 σ (put (.d kvs')) A' := by
  obtain ⟨L, A1, R, rfl, q, k⟩ := fo
  simp only [Rep] at q
  obtain ⟨a, o, xs, rfl, rfl, eH, r⟩ := q
  exact ⟨a, xs, rfl, ⟨o, eH, ents_at g.fh r⟩, r, fun o' xs' kvs' r' => foc_own (As := []) g k (dO C.X.prog C.X.w a o' xs') (.d kvs') [] T (fun _ => by
    simp only [Rep]
    exact ⟨a, o', xs', rfl, rfl, upd_same, r'⟩) (Sb.refl _)⟩
theorem ents_len {F : Hs} {xs : Xs} {kvs : List (Key × PyData)} (r : Paired (EntF F) xs kvs) : xs.length = kvs.length := Paired.length r
/-- d[k] = .. by PSet -/
def eSet (P : Program) (w : World) : TSet := fun o i v H Q => ∃ a b xs k, o = .ref a ∧ i = .ref b ∧ DAt P w H a xs ∧ KAt H k b ∧ xs.length < sizeLine ∧ ∀ o', Q (upd H a (dO P w a o' (putX xs k b v)))
theorem set_dict (hu : C.X.A.units + 9 < cLine) : PSet C.X (eSet C.X.prog C.X.w) := by
  intro pins s σ H o i v ov iv u Q I ro ri rv h
  obtain ⟨a, b, xs, k, rfl, rfl, g, gk, l, h⟩ := h
  obtain rfl : ov = Value.ref a := ro
  obtain rfl : iv = Value.ref b := ri
  exact e_setItem hu I g gk l rv fun o' s' I' => ⟨_, I', h o'⟩
def dsetG (pl : Pl) (q : S → Option PyData) : PyData → S → Option S := fun x s => ((pl.get s).bind ownD).bind fun kvs => ((q s).bind keyT).bind fun k => if kvs.length < cap then some (pl.put (.d (putP kvs k x)) s) else none
theorem ownD_some {d : D} (e : ownD d = some kvs) : d = .d kvs := by
  cases d <;> cases e
  rfl
theorem cg_dsub (hu : C.X.A.units + 9 < cLine) (h : CPl C e pl) (hq : CQ C b q)
    (ha : ∀ v, assign (.Subscript e b pos) C.X.env v = (do
      let ov ← holding [v] (eval e C.X.env)
      let iv ← holding [v, ov] (eval b C.X.env)
      standAt pos
      holding [v, ov, iv] (setItem ov iv v)
      release [v, ov, iv] []) := by intro _; rfl) : CG C (.Subscript e b pos) [] (dsetG pl q) := ⟨PG.imp (pg_sub h.run hq.run (set_dict hu) ha) fun v σ H Q ⟨F, A, s, x, at0, z, h⟩ => by
  unfold dsetG at h
  cases e1 : (pl.get s).bind ownD with
  | none => rw [e1] at h; exact h.elim
  | some kvs =>
    cases e2 : (q s).bind keyT with
    | none => rw [e1, e2] at h; exact h.elim
    | some kk =>
      rw [e1, e2] at h
      obtain ⟨d1, e1, e4⟩ := Option.bind_eq_some_iff.mp e1
      obtain ⟨kd, e2, e3⟩ := Option.bind_eq_some_iff.mp e2
      obtain rfl := ownD_some e4
      by_cases hl : kvs.length < cap
      · have h' : ∀ F' H' A' σ', Step F H A F' H' A' → SR C.Z C.bv F' H' 0 σ' (pl.put (.d (putP kvs kk x)) s) A' → Agr [] σ σ' → Q σ' H' := by
          have e : (if kvs.length < cap then some (pl.put (.d (putP kvs kk x)) s) else none) = some (pl.put (.d (putP kvs kk x)) s) := if_pos hl
          simp only [Option.bind_some, e] at h
          exact h
        refine ⟨F, A, s, _, at0, e1, fun F1 H1 v w1 f1 => ⟨F1, A, s, _, at0.grown w1, e2, fun F2 H2 u w2 z2 => ?_⟩⟩
        have at2 := (at0.grown w1).grown w2
        have f2 := f1.grow w2 (at0.grown w1).there
        obtain ⟨b, rfl, kb, kd8⟩ := keyT_at z2 e3
        obtain ⟨a, xs, rfl, dat, rx, fin⟩ := foc_dict (T := []) (by rw [List.append_nil]; exact at2.g) f2
        refine ⟨a, b, xs, kk, rfl, rfl, dat, ⟨F2, w2.fh, kb, kd8⟩, by rw [ents_len rx]; exact cap_lt (Nat.le_of_lt hl), fun o' => ?_⟩
        obtain ⟨A', st, sr⟩ := fin o' (putX xs kk b _) _ (ents_put kb kd8 ((z.to w1.ff).to w2.ff) rx)
        rw [List.append_nil, List.append_nil] at st
        exact h' F2 _ A' σ ((at0.grow (w1.trans w2)).trans at0.g st) sr (Agr.refl _ _)
      · have e : (if kvs.length < cap then some (pl.put (.d (putP kvs kk x)) s) else none) = none := if_neg hl
        simp only [Option.bind_some, e] at h⟩
/-- ints, by an augmented sign -/
def rI (g : Int → Int → Int) : V → V → Hs → VK → Prop := fun x y H Q => ∃ i j, x = .int i ∧ y = .int j ∧ Q (.int (g i j)) H
theorem in_addI {X : Cx} : InOp X .Add (rI (· + ·)) := in_add
theorem in_subI {X : Cx} : InOp X .Sub (rI (· - ·)) := in_sub
def intQ (q : S → Option PyData) (s : S) : Option Int := match q s with
  | some (.int i) => some i
  | _ => none
theorem intQ_some {i : Int} (e : intQ q s = some i) : q s = some (.int i) := by
  unfold intQ at e
  cases h : q s with
  | none => rw [h] at e; cases e
  | some x => rw [h] at e; cases x <;> cases e; rfl
def getI (kvs : List (Key × PyData)) (k : Key) : Option Int := match getP kvs k with
  | some (.int i) => some i
  | _ => none
theorem getI_some {k : Key} {i : Int} (e : getI kvs k = some i) : getP kvs k = some (.int i) := by
  unfold getI at e
  cases h : getP kvs k with
  | none => rw [h] at e; cases e
  | some x => rw [h] at e; cases x <;> cases e; rfl
def daugS (pl : Pl) (q : S → Option PyData) (g : Int → Int → Int) (qc : S → Option PyData) : S → SOut := fun s => Out.opt (((pl.get s).bind ownD).bind fun kvs => ((q s).bind keyT).bind fun k => (getI kvs k).bind fun i => (intQ qc s).bind fun j =>
  if kvs.length < cap then some (pl.put (.d (putP kvs k (.int (g i j)))) s) else none) s |>.bind fun s' _ => .ok none s'
theorem cs_daug {op : Operator} {c : Expr} {g : Int → Int → Int} {qc : S → Option PyData} {tpos : Pos} (hu : C.X.A.units + 9 < cLine) (h : CPl C e pl) (hq : CQ C b q) (hc : CQ C c qc) (hop : InOp C.X op (rI g))
    (ha : ∀ ov iv new, augStore b ov iv new = (do holding [new, ov, iv] (setItem ov iv new); release [new, ov, iv] []; pure .next) := by intros; rfl) : CS C (.AugAssign (.Subscript e b tpos) op c pos) (daugS pl q g qc) :=
  ⟨PS.imp (es_aug hu h.run hq.run hc.run hop ha) fun Dn σ H ⟨F, A, s, at0, h⟩ => by
    unfold daugS at h
    cases e0 : (((pl.get s).bind ownD).bind fun kvs => ((q s).bind keyT).bind fun k => (getI kvs k).bind fun i => (intQ qc s).bind fun j =>
      if kvs.length < cap then some (pl.put (.d (putP kvs k (.int (g i j)))) s) else none) with
    | none => rw [e0] at h; exact h.elim
    | some s' =>
      rw [e0] at h
      obtain ⟨kvs, e1, e0⟩ := Option.bind_eq_some_iff.mp e0
      obtain ⟨kk, e2, e0⟩ := Option.bind_eq_some_iff.mp e0
      obtain ⟨i, e5, e0⟩ := Option.bind_eq_some_iff.mp e0
      obtain ⟨j, e6, e0⟩ := Option.bind_eq_some_iff.mp e0
      obtain ⟨d1, e1, e4⟩ := Option.bind_eq_some_iff.mp e1
      obtain ⟨kd, e2, e3⟩ := Option.bind_eq_some_iff.mp e2
      obtain rfl := ownD_some e4
      split at e0
      · rename_i hl
        cases e0
        refine ⟨F, A, s, _, at0, e1, fun F1 H1 v w1 f1 => ⟨F1, A, s, _, at0.grown w1, e2, fun F2 H2 u w2 z2 => ?_⟩⟩
        have at2 := (at0.grown w1).grown w2
        have f2 := f1.grow w2 (at0.grown w1).there
        obtain ⟨b, rfl, kb, kd8⟩ := keyT_at z2 e3
        obtain ⟨a, xs, rfl, dat, lr⟩ := foc_look (k := kk) w2.fh f2 rfl
        rw [getI_some e5] at lr
        obtain ⟨u, h1, h2⟩ := lr
        cases h2
        refine ⟨a, b, xs, kk, .int i, rfl, rfl, dat, ⟨F2, w2.fh, kb, kd8⟩, h1, F2, A, s, _, at2, intQ_some e6, fun F3 H3 y w3 z3 => ?_⟩
        cases z3
        refine ⟨i, j, rfl, rfl, ?_⟩
        have at3 := at2.grown w3
        have f3 := f2.grow w3 at2.there
        obtain ⟨a', xs', ea, dat', rx, fin⟩ := foc_dict (T := []) (by rw [List.append_nil]; exact at3.g) f3
        cases ea
        have kb3 := FzKey.mono w3.ff _ _ kb
        refine ⟨xs', dat', ⟨F3, w3.fh, kb3, kd8⟩, by rw [ents_len rx]; exact cap_lt (Nat.le_of_lt hl), fun o' => ?_⟩
        obtain ⟨A', st, sr⟩ := fin o' (putX xs' kk b (.int (g i j))) _ (ents_put kb3 kd8 (.int (g i j)) rx)
        rw [List.append_nil, List.append_nil] at st
        exact h F3 _ A' σ ((at0.grow ((w1.trans w2).trans w3)).trans at0.g st) sr
      · cases e0⟩
def dpopD (pl : Pl) (q : S → Option PyData) : S → Out D := fun s => match ((pl.get s).bind ownD).bind fun kvs => ((q s).bind keyT).bind fun k => (getP kvs k).map fun x => (x, pl.put (.d (dropP kvs k)) s) with
  | some (x, s') => .ok (.p x) s'
  | none => .er
theorem ce_dpop {apos cpos : Pos} (hu : C.X.A.units + 9 < cLine) (h : CPl C e pl) (hq : CQ C b q) (m : M1 C.X e "pop" apos b cpos) : CE C (.Call (.Attribute e "pop" apos) [b] [] cpos) (dpopD pl q) :=
  ⟨PE.imp (ee_pop hu h.run hq.run m) fun σ H Q ⟨F, A, s, at0, h⟩ => by
    unfold dpopD at h
    cases e0 : (((pl.get s).bind ownD).bind fun kvs => ((q s).bind keyT).bind fun k => (getP kvs k).map fun x => (x, pl.put (.d (dropP kvs k)) s)) with
    | none => rw [e0] at h; exact h.elim
    | some r =>
      rw [e0] at h
      obtain ⟨kvs, e1, e0⟩ := Option.bind_eq_some_iff.mp e0
      obtain ⟨kk, e2, e0⟩ := Option.bind_eq_some_iff.mp e0
      obtain ⟨x, e5, rfl⟩ := Option.map_eq_some_iff.mp e0
      obtain ⟨d1, e1, e4⟩ := Option.bind_eq_some_iff.mp e1
      obtain ⟨kd, e2, e3⟩ := Option.bind_eq_some_iff.mp e2
      obtain rfl := ownD_some e4
      refine ⟨F, A, s, _, at0, e1, fun F1 H1 v w1 f1 => ?_⟩
      obtain ⟨a, xs0, rfl, dat0, _⟩ := foc_look (k := kk) w1.fh f1 rfl
      refine ⟨a, xs0, rfl, dat0, F1, A, s, _, at0.grown w1, e2, fun F2 H2 u w2 z2 => ?_⟩
      have at2 := (at0.grown w1).grown w2
      have f2 := f1.grow w2 (at0.grown w1).there
      obtain ⟨b, rfl, kb, kd8⟩ := keyT_at z2 e3
      obtain ⟨a', xs, ea, dat, lr⟩ := foc_look (k := kk) w2.fh f2 rfl
      cases ea
      rw [e5] at lr
      obtain ⟨u, h1, h2⟩ := lr
      obtain ⟨a', xs', ea, dat', rx, fin⟩ := foc_dict (T := []) (by rw [List.append_nil]; exact at2.g) f2
      cases ea
      obtain ⟨u2, h3, h4⟩ : LookR F2 (some x) (lookX xs' kk) := by rw [← e5]; exact find_fz rx
      refine ⟨b, xs', kk, u2, rfl, dat', ⟨F2, w2.fh, kb, kd8⟩, h3, fun o => ?_⟩
      obtain ⟨A', st, sr⟩ := fin o (dropX xs' kk) _ (ents_drop rx)
      rw [List.append_nil, List.append_nil] at st
      exact h F2 _ A' [] u2 (by rw [List.append_nil]; exact (at0.grow (w1.trans w2)).trans at0.g st) sr (Rep.p_iff.mpr ⟨rfl, h4⟩)⟩
/-- {} -/
def newDE : S → Out D := fun s => .ok (.d []) s
theorem ce_dnew : CE C (.Dict [] [] pos) newDE := ⟨PE.imp ee_new fun σ H Q ⟨F, A, s, at0, h⟩ => fun p o hp => by
  have hpA : p ∉ A := fun z => at0.there p z hp
  have hF : F p = none := at0.g.fh.nn hp
  refine h F (upd H p (dO C.X.prog C.X.w p o [])) A [p] (.ref p) ⟨Le.refl _, fun b u e => ?_, ?_, fun b hb => ?_, fun b h1 _ => upd_ne fun e => h1 (by rw [e]; exact hp), fun b h1 h2 => ?_⟩ ?_ ?_
  · exact Le.trans at0.g.fh (Le.new hp) b u e
  · refine List.nodup_append.mpr ⟨at0.g.nd, by simp, fun x hx y hy e => ?_⟩
    subst e
    exact hpA (by rw [List.mem_singleton.mp hy] at hx; exact hx)
  · rcases List.mem_append.mp hb with hb | hb
    · exact at0.g.ap b hb
    · rw [List.mem_singleton.mp hb]; exact hF
  · rcases h1 with h1 | h1
    · rcases List.mem_append.mp h1 with h1 | h1
      · exact .inl h1
      · rw [List.mem_singleton.mp h1] at h2; exact absurd hp h2
    · exact .inr h1
  · exact SR.mono (Le.refl _) (fun x hx => upd_ne fun e => hpA (by rw [← e]; exact hx)) at0.r
  · simp only [Rep]
    exact ⟨p, o, [], rfl, rfl, upd_same, .nil⟩⟩
end
end Dl

set_option Elab.async false
set_option linter.all false
set_option maxRecDepth 100000
set_option maxHeartbeats 4000000
namespace Dl
open PySem PySem.Spec PyProof.Rows L2

/-! ### names: moved, frozen -/
def frD : D → Option D
  | .d kvs => some (.fd kvs)
  | d => (frz d).map .p
section
variable {Z : Env0} {H : Hs}
theorem frD_ok {d d' : D} {F : Hs} {v : V} {T : List Addr} (r : Rep Z F H d v T) (nd : T.Nodup) (ap : ∀ a ∈ T, F a = none) (l : Le F H) (e : frD d = some d') : ∃ F', Le F F' ∧ Le F' H ∧ Rep Z F' H d' v [] ∧ ∀ a, F' a ≠ none → F a ≠ none ∨ a ∈ T := by
  have gen : ∀ q, frz d = some q → ∃ F', Le F F' ∧ Le F' H ∧ Rep Z F' H (.p q) v [] ∧ ∀ a, F' a ≠ none → F a ≠ none ∨ a ∈ T := fun q eq => by
    obtain ⟨F', h1, h2, h3, h4⟩ := frz_ok d F v T q r nd ap l eq
    exact ⟨F', h1, h2, Rep.p_iff.mpr ⟨rfl, h3⟩, h4⟩
  by_cases hd : ∃ kvs, d = .d kvs
  · obtain ⟨kvs, rfl⟩ := hd
    cases e
    simp only [Rep] at r
    obtain ⟨a, o, xs, rfl, rfl, eH, rx⟩ := r
    have ha : F a = none := ap a (by simp)
    refine ⟨upd F a (dO Z.P Z.w a o xs), Le.new ha, fun b u eb => ?_, ?_, fun b hb => ?_⟩
    · by_cases hba : b = a
      · subst hba; rw [upd_same] at eb; rw [eH]; exact eb
      · rw [upd_ne hba] at eb; exact l b u eb
    · simp only [Rep]
      exact ⟨a, o, xs, rfl, trivial, upd_same, L2.Paired.mapP rx fun _ _ z => z.mono (Le.new ha)⟩
    · by_cases hba : b = a
      · exact .inr (by rw [hba]; simp)
      · rw [upd_ne hba] at hb; exact .inl hb
  · have e' : (frz d).map D.p = some d' := by
      rw [← e]
      cases d <;> first | rfl | exact absurd ⟨_, rfl⟩ hd
    obtain ⟨q, eq, rfl⟩ := Option.map_eq_some_iff.mp e'
    exact gen q eq
theorem Step.frD {F F1 H0 : Hs} {A A1 T : List Addr} {d d' : D} {v : V} (st : Step F H0 A F1 H (A1 ++ T)) (r : Rep Z F1 H d v T) (e : frD d = some d') : ∃ F2, Step F H0 A F2 H A1 ∧ Le F1 F2 ∧ Rep Z F2 H d' v [] := by
  have nd := List.nodup_append.mp st.nd
  obtain ⟨F2, l1, l2, z, k⟩ := frD_ok r nd.2.1 (fun a h => st.ap a (List.mem_append_right _ h)) st.fh e
  refine ⟨F2, ⟨st.ff.trans l1, l2, nd.1, fun a ha => ?_, st.kp, fun a h1 h2 => ?_⟩, l1, z⟩
  · cases e2 : F2 a with
    | none => rfl
    | some o =>
      rcases k a (by rw [e2]; simp) with h | h
      · exact absurd (st.ap a (List.mem_append_left _ ha)) h
      · exact absurd rfl (nd.2.2 a ha a h)
  · rcases h1 with h1 | h1
    · exact st.nw a (.inl (List.mem_append_left _ h1)) h2
    · rcases k a h1 with h | h
      · exact st.nw a (.inr h) h2
      · exact st.nw a (.inl (List.mem_append_right _ h)) h2
end
/-- the value of the slot j, moved away -/
def takeM (j : Nat) (s : S) : Option (D × S) := match s[j]? with
  | some (.v d) => some (d, s.set j (.v .gone))
  | _ => none
/-- the value of the slot j, frozen where it stands -/
def takeF (j : Nat) (s : S) : Option (D × S) := match s[j]? with
  | some (.v d) => (frD d).map fun d' => (d', s.set j (.v d'))
  | some (.b d) => (frD d).map fun d' => (d', s.set j (.b d'))
  | _ => none
def outO : Option (D × S) → Out D
  | some (d, s) => .ok d s
  | none => .er
def mvE (j : Nat) : S → Out D := fun s => outO (takeM j s)
def fzE (j : Nat) : S → Out D := fun s => outO (takeF j s)
section
variable {C : Cn} {σ : L2.St} {F H F' H' : Hs} {A T : List Addr} {s s1 : S} {d d' : D} {put : D → S} {v : V} {e b : Expr} {pl : Pl} {q qb : S → Option PyData} {pos : Pos} {a : Addr} {f : S → Out D} {j : Nat} {x : Str}
theorem take_mv (at0 : At C σ H s F A) (e : takeM j s = some (d, s1)) : ∃ v A1 T, σ[j]? = some (some v) ∧ Step F H A F H (A1 ++ T) ∧ SR C.Z C.bv F H 0 σ s1 A1 ∧ Rep C.Z F H d v T := by
  unfold takeM at e
  cases es : s[j]? with
  | none => rw [es] at e; cases e
  | some sl =>
    rw [es] at e
    cases sl with
    | v d0 =>
      cases e
      obtain ⟨so, L, A1, R, e1, rfl, ⟨v, rfl, r⟩, put⟩ := at0.get es
      have r2 := put F H (some v) (.v .gone) [] (Le.refl _) (fun _ _ => rfl) ⟨v, rfl, by simp only [Rep]⟩
      rw [set_same e1] at r2
      refine ⟨v, L ++ ([] ++ R), A1, e1, at0.g.step.sb fun a => ?_, r2, r⟩
      simp only [List.count_append, List.nil_append]
      omega
    | n => cases e
    | b d0 => cases e
theorem take_fz (at0 : At C σ H s F A) (e : takeF j s = some (d, s1)) : ∃ v F1 A1, σ[j]? = some (some v) ∧ Step F H A F1 H A1 ∧ SR C.Z C.bv F1 H 0 σ s1 A1 ∧ Rep C.Z F1 H d v [] := by
  unfold takeF at e
  cases es : s[j]? with
  | none => rw [es] at e; cases e
  | some sl =>
    rw [es] at e
    cases sl with
    | v d0 =>
      obtain ⟨d', e2, e⟩ := Option.map_eq_some_iff.mp e
      cases e
      obtain ⟨so, L, A1, R, e1, rfl, ⟨v, rfl, r⟩, put⟩ := at0.get es
      have st : Step F H (L ++ (A1 ++ R)) F H ((L ++ R) ++ A1) := at0.g.step.sb fun a => by simp only [List.count_append]; omega
      obtain ⟨F1, st1, l1, r1⟩ := st.frD r e2
      have r2 := put F1 H (some v) (.v d) [] l1 (fun _ _ => rfl) ⟨v, rfl, r1⟩
      rw [set_same e1] at r2
      exact ⟨v, F1, L ++ R, e1, st1, r2, r1⟩
    | n => cases e
    | b d0 =>
      obtain ⟨d', e2, e⟩ := Option.map_eq_some_iff.mp e
      cases e
      obtain ⟨so, L, A1, R, e1, rfl, ⟨rfl, r⟩, put⟩ := at0.get es
      have st : Step F H (L ++ (A1 ++ R)) F H ((L ++ R) ++ A1) := at0.g.step.sb fun a => by simp only [List.count_append]; omega
      obtain ⟨F1, st1, l1, r1⟩ := st.frD r e2
      have r2 := put F1 H (some (C.bv j)) (.b d) [] l1 (fun _ _ => rfl) ⟨rfl, r1⟩
      rw [set_same e1] at r2
      exact ⟨C.bv j, F1, L ++ R, e1, st1, r2, r1⟩
theorem ce_mv (h : PE C.X (.Name x pos) (tVar j)) : CE C (.Name x pos) (mvE j) := ⟨PE.imp h fun σ H Q ⟨F, A, s, at0, h⟩ => by
  unfold mvE at h
  cases e : takeM j s with
  | none => rw [e] at h; exact h.elim
  | some p =>
    obtain ⟨d, s1⟩ := p
    rw [e] at h
    obtain ⟨v, A1, T, e1, st, r1, r2⟩ := take_mv at0 e
    exact ⟨v, e1, h F H A1 T v st r1 r2⟩⟩
theorem ce_fz (h : PE C.X (.Name x pos) (tVar j)) : CE C (.Name x pos) (fzE j) := ⟨PE.imp h fun σ H Q ⟨F, A, s, at0, h⟩ => by
  unfold fzE at h
  cases e : takeF j s with
  | none => rw [e] at h; exact h.elim
  | some p =>
    obtain ⟨d, s1⟩ := p
    rw [e] at h
    obtain ⟨v, F1, A1, e1, st, r1, r2⟩ := take_fz at0 e
    exact ⟨v, e1, h F1 H A1 [] v (by rw [List.append_nil]; exact st) r1 r2⟩⟩

/-! ### a new list of one's own -/
theorem own_new {p : Addr} {o : HO} (st : Step F H A F' H' (s0 ++ T)) (hp : H' p = none) (hA : ∀ x ∈ s0 ++ T, H' x ≠ none) : Step F H A F' (upd H' p o) (s0 ++ (p :: T)) := by
  have hF : F' p = none := st.fh.nn hp
  have hpn : p ∉ s0 ++ T := fun z => hA p z hp
  refine ⟨st.ff, fun b u e => Le.trans st.fh (Le.new hp) b u e, ?_, fun b hb => ?_, fun b h1 h2 => ?_, fun b h1 h2 => ?_⟩
  · refine List.nodup_iff_count.mpr fun b => ?_
    have h1 := List.nodup_iff_count.mp st.nd b
    simp only [List.count_append, List.count_cons, beq_iff_eq] at h1 ⊢
    by_cases hb : p = b
    · subst hb
      have : (s0 ++ T).count p = 0 := List.count_eq_zero.mpr hpn
      rw [List.count_append] at this
      simp only [if_true]
      omega
    · simp only [hb, if_false]
      omega
  · simp only [List.mem_append, List.mem_cons] at hb
    rcases hb with hb | rfl | hb
    · exact st.ap b (by simp [hb])
    · exact hF
    · exact st.ap b (by simp [hb])
  · rw [upd_ne]
    · exact st.kp b h1 h2
    · intro e
      subst e
      have := st.kp b h1 h2
      rw [hp] at this
      exact h1 this.symm
  · rcases h1 with h1 | h1
    · simp only [List.mem_append, List.mem_cons] at h1
      rcases h1 with h1 | rfl | h1
      · exact st.nw b (.inl (by simp [h1])) h2
      · by_cases hbA : b ∈ A
        · exact .inl hbA
        · have := st.kp b h2 hbA
          rw [hp] at this
          exact absurd this.symm h2
      · exact st.nw b (.inl (by simp [h1])) h2
    · exact st.nw b (.inr h1) h2
theorem Step.own1 {p : Addr} {o : HO} {s1 : S} (at0 : At C σ H s F A) (hp : H p = none) : Step F H A F (upd H p o) (A ++ [p]) ∧ SR C.Z C.bv F (upd H p o) 0 σ s A := by
  refine ⟨own_new (T := []) (by rw [List.append_nil]; exact at0.g.step) hp (by rw [List.append_nil]; exact at0.there), SR.mono (Le.refl _) (fun x hx => upd_ne fun e => at0.there x hx (by rw [e]; exact hp)) at0.r⟩
/-- a new list of frozen things -/
theorem pkD_own {Q : VK} {ds : List PyData} {vs : List V} {p : Addr} (at0 : At C σ H s F A) (hp : H p = none) (z : Fzs F vs ds) (h : (pkD C σ Q).at (.ok (.l (ds.map .p)) s) F H A) : Q (.ref p) (upd H p (.lst vs)) := by
  obtain ⟨st, sr⟩ := Step.own1 (s1 := s) (o := .lst vs) at0 hp
  refine h F (upd H p (.lst vs)) A [p] (.ref p) st sr ?_
  simp only [Rep]
  exact ⟨p, vs, [], rfl, rfl, upd_same, repL_p (vs := []) z⟩
/-- [a, ..], to be one's own -/
def lnewE (f : S → Out (List PyData)) : S → Out D := fun s => (f s).bind fun ds s1 => if ds.length ≤ cap then .ok (.l (ds.map .p)) s1 else .er
theorem ce_lnew {es : List Expr} {fa : S → Out (List PyData)} (ha : CA C es fa) : CE C (.List es pos) (lnewE fa) := ⟨PE.imp (pe_lst ha.run) fun σ H Q ⟨F, A, s, at0, h⟩ =>
  evL_bind at0 h fun ds s1 F1 H1 A1 vs at1 _ z1 h1 => by
    by_cases hl : ds.length ≤ cap
    · rw [if_pos hl] at h1
      exact ⟨by rw [z1.length]; exact cap_le hl, fun p hp => pkD_own at1 hp z1 h1⟩
    · rw [if_neg hl] at h1
      exact h1.elim⟩
def rCo (g : List PyData → Option (List PyData)) : List V → Hs → VK → Prop := fun vs H Q => ∃ F ds w, Le F H ∧ Fzs F vs ds ∧ g ds = some w ∧ ∀ p us, H p = none → Fzs F us w → Q (.ref p) (upd H p (.lst us))
def callOE (g : List PyData → Option (List PyData)) (fa : S → Out (List PyData)) : S → Out D := fun s => (fa s).bind fun ds s1 => match g ds with
  | some w => .ok (.l (w.map .p)) s1
  | none => .er
def pyListO : List PyData → Option (List PyData)
  | [.list ds] => some ds
  | [.tuple ds] => some ds
  | _ => none
theorem cro_list {X : Cx} : CallR X (.type "list") (rCo pyListO) := CallR.imp call_list_of fun xs H Q ⟨F, ds, w, l, z, ew, k⟩ => by
  match ds, z, ew with
  | [.list es], .cons (.lst h1 h2) .nil, ew => cases ew; exact ⟨_, _, rfl, .inl (SqL.of (l _ _ h1)), fun p hp => k p _ hp h2⟩
  | [.tuple es], .cons (.tup h1 h2) .nil, ew => cases ew; exact ⟨_, _, rfl, .inr (SqT.of (l _ _ h1)), fun p hp => k p _ hp h2⟩
theorem ce_callTyO {x : Str} {p : Pos} {T : String} {g : List PyData → Option (List PyData)} {es : List Expr} {fa : S → Out (List PyData)} (hc : CallR C.X (.type T) (rCo g)) (hg : Gl C.X x) (hm : C.X.mg x = none) (hv : bootBuiltins x = some (.type T)) (ha : CA C (e :: es) fa) (hn : x ≠ "__name__" := by decide) (hdb : (x == ("__debug__" : Str)) = false := by decide)
    (he : starEach (e :: es) C.X.env = (false, eval e C.X.env) :: starEach es C.X.env := by rfl) (hpl : (backTo pos (starEach es C.X.env)).any (·.1) = false := by rfl) : CE C (.Call (.Name x p) (e :: es) [] pos) (callOE g fa) := ⟨PE.imp (pe_callTy hc hg hm hv ha.run hn hdb he hpl) fun σ H Q ⟨F, A, s, at0, h⟩ =>
  evL_bind at0 h fun ds s1 F1 H1 A1 vs at1 _ z1 h1 => by
    cases eg : g ds with
    | none => rw [eg] at h1; exact h1.elim
    | some w =>
      rw [eg] at h1
      exact ⟨F1, ds, w, at1.g.fh, z1, eg, fun p us hp z => pkD_own at1 hp z h1⟩⟩
end
end Dl

set_option Elab.async false
set_option linter.all false
set_option maxRecDepth 100000
set_option maxHeartbeats 4000000
namespace Dl
open PySem PySem.Spec PyProof.Rows L2

/-! ### lists of one's own, changed -/
section
variable {C : Cn} {σ : L2.St} {F H F' H' : Hs} {A T : List Addr} {s s1 : S} {d d' : D} {put : D → S} {v : V} {e b : Expr} {pl : Pl} {q qb : S → Option PyData} {pos : Pos} {a : Addr} {f : S → Out D} {j : Nat} {x : Str} {ds : List D}
def ownL : D → Option (List D)
  | .l ds => some ds
  | _ => none
theorem ownL_some {d : D} (e : ownL d = some ds) : d = .l ds := by
  cases d <;> cases e
  rfl
def putL (pl : Pl) (ds : List D) (s : S) : S := pl.put (.l ds) s
theorem nd_drop {A T : List Addr} (g : Good F H A) : Good F H (A ++ []) := by rw [List.append_nil]; exact g
/-- one item replaced by a frozen one -/
theorem foc_set {k : Nat} {y : PyData} {u : V} (at0 : At C σ H s F A) (fo : Foc C F H σ A (.l ds) put v) (hk : k < ds.length) (z : Fz F u y) : ∃ a vs, v = .ref a ∧ H a = some (.lst vs) ∧ vs.length = ds.length ∧
    ∃ A', Step F H A F (upd H a (.lst (vs.set k u))) A' ∧ SR C.Z C.bv F (upd H a (.lst (vs.set k u))) 0 σ (put (.l (ds.set k (.p y)))) A' := by
  obtain ⟨a, vs, As, rfl, ea, r, hl, hAs, fin⟩ := foc_list (T := []) (nd_drop (T := []) at0.g) fo
  obtain ⟨vk, L, T, R, e1, rfl, q1, _, put1⟩ := repL_get r (List.getElem?_eq_getElem hk)
  have r2 := put1 F H (.p y) u [] (Le.refl _) (fun _ _ => rfl) (Rep.p_iff.mpr ⟨rfl, z⟩)
  obtain ⟨A', st, sr⟩ := fin (vs.set k u) (ds.set k (.p y)) (L ++ ([] ++ R)) [] r2 (fun a => by simp only [List.count_append, List.nil_append]; omega) (fun _ h => nomatch h)
  rw [List.append_nil, List.append_nil] at st
  exact ⟨a, vs, rfl, ea, hl, A', st, sr⟩
def lsetG (pl : Pl) (q : S → Option PyData) : PyData → S → Option S := fun y s => ((pl.get s).bind ownL).bind fun ds => (idx q s ds.length).map fun k => pl.put (.l (ds.set k (.p y))) s
theorem idx_some {n k : Nat} (e : idx q s n = some k) : ∃ i, q s = some (.int i) ∧ ixN n i = some k := by
  unfold idx at e
  cases h : q s with
  | none => rw [h] at e; cases e
  | some x =>
    rw [h] at e
    cases x with
    | int i => exact ⟨i, rfl, e⟩
    | _ => cases e
theorem cg_sub (h : CPl C e pl) (hq : CQ C b q)
    (ha : ∀ v, assign (.Subscript e b pos) C.X.env v = (do
      let ov ← holding [v] (eval e C.X.env)
      let iv ← holding [v, ov] (eval b C.X.env)
      standAt pos
      holding [v, ov, iv] (setItem ov iv v)
      release [v, ov, iv] []) := by intro _; rfl) : CG C (.Subscript e b pos) [] (lsetG pl q) := ⟨PG.imp (pg_sub h.run hq.run set_list ha) fun v σ H Q ⟨F, A, s, y, at0, z, h⟩ => by
  unfold lsetG at h
  cases e0 : (((pl.get s).bind ownL).bind fun ds => (idx q s ds.length).map fun k => pl.put (.l (ds.set k (.p y))) s) with
  | none => rw [e0] at h; exact h.elim
  | some s' =>
    rw [e0] at h
    obtain ⟨ds, e1, e0⟩ := Option.bind_eq_some_iff.mp e0
    obtain ⟨k, e2, rfl⟩ := Option.map_eq_some_iff.mp e0
    obtain ⟨d1, e1, e4⟩ := Option.bind_eq_some_iff.mp e1
    obtain rfl := ownL_some e4
    obtain ⟨i, e2, e3⟩ := idx_some e2
    refine ⟨F, A, s, _, at0, e1, fun F1 H1 v w1 f1 => ⟨F1, A, s, _, at0.grown w1, e2, fun F2 H2 u w2 z2 => ?_⟩⟩
    cases z2
    have at2 := (at0.grown w1).grown w2
    have f2 := f1.grow w2 (at0.grown w1).there
    obtain ⟨a, vs, rfl, ea, hl, A', st, sr⟩ := foc_set at2 f2 (ixN_lt e3) ((z.to w1.ff).to w2.ff)
    exact ⟨a, vs, i, k, rfl, rfl, ea, by rw [hl]; exact e3, h F2 _ A' σ ((at0.grow (w1.trans w2)).trans at0.g st) sr (Agr.refl _ _)⟩⟩
/-- x[i] op= c, ints -/
def rGetL (K : PySem.W.Frag) : V → V → Hs → VK → Prop := fun x y H Q => ∃ p xs i z, x = .ref p ∧ y = .int i ∧ SqL K H p xs ∧ atI xs i = some z ∧ Q z H
theorem get_list {X : Cx} : PGet X (rGetL X.K) := by
  intro pins s σ H o i ov iv Q I ro ri h
  obtain ⟨p, xs, i, z, rfl, rfl, hq, he, q⟩ := h
  cases ro
  obtain ⟨t, rfl⟩ := ri
  obtain ⟨its, r, pl, hz⟩ := I.list hq
  obtain ⟨j, h1, h2, h3, h4, h5⟩ := atI_get he
  obtain ⟨w, ew, rw'⟩ := r.get h2
  have hl := r.length
  have hn := line63
  have fin : EP X pins σ Q w s := ⟨z, H, I, rw', q⟩
  by_cases h0 : 0 ≤ i
  · have hj : i.toNat = j := by
      rw [seqIndex_of h0 h5] at h1
      exact Option.some.inj h1
    exact wpAny_getItem_list pl.isList h0 (by omega) (by rw [hj]; simpa using ew) fin
  · have hj : (i + (its.toArray.size : Int)).toNat = j := by
      rw [seqIndex_neg (by omega) h4] at h1
      rw [List.size_toArray, ← hl]
      exact Option.some.inj h1
    exact wpAny_getItem_list_neg pl.isList (by omega) (by rw [List.size_toArray] <;> omega) (by omega) (by rw [hj]; simpa using ew) fin
def intD : Option D → Option Int
  | some (.p (.int i)) => some i
  | _ => none
theorem intD_some {o : Option D} {i : Int} (e : intD o = some i) : o = some (.p (.int i)) := by
  cases o with
  | none => cases e
  | some d => cases d with
    | p x => cases x <;> cases e; rfl
    | _ => cases e
def laugS (pl : Pl) (q : S → Option PyData) (g : Int → Int → Int) (qc : S → Option PyData) : S → SOut := fun s => Out.opt (((pl.get s).bind ownL).bind fun ds => (idx q s ds.length).bind fun k => (intD ds[k]?).bind fun i => (intQ qc s).map fun j =>
  pl.put (.l (ds.set k (.p (.int (g i j))))) s) s |>.bind fun s' _ => .ok none s'
theorem cs_laug {op : Operator} {c : Expr} {g : Int → Int → Int} {qc : S → Option PyData} {tpos : Pos} (h : CPl C e pl) (hq : CQ C b q) (hc : CQ C c qc) (hop : PIp C.X op (rI g))
    (ha : ∀ ov iv new, augStore b ov iv new = (do holding [new, ov, iv] (setItem ov iv new); release [new, ov, iv] []; pure .next) := by intros; rfl) : CS C (.AugAssign (.Subscript e b tpos) op c pos) (laugS pl q g qc) :=
  ⟨PS.imp (ps_augS h.run hq.run get_list hc.run hop set_list ha) fun Dn σ H ⟨F, A, s, at0, h⟩ => by
    unfold laugS at h
    cases e0 : (((pl.get s).bind ownL).bind fun ds => (idx q s ds.length).bind fun k => (intD ds[k]?).bind fun i => (intQ qc s).map fun j => pl.put (.l (ds.set k (.p (.int (g i j))))) s) with
    | none => rw [e0] at h; exact h.elim
    | some s' =>
      rw [e0] at h
      obtain ⟨ds, e1, e0⟩ := Option.bind_eq_some_iff.mp e0
      obtain ⟨k, e2, e0⟩ := Option.bind_eq_some_iff.mp e0
      obtain ⟨x0, e5, e0⟩ := Option.bind_eq_some_iff.mp e0
      obtain ⟨y0, e6, rfl⟩ := Option.map_eq_some_iff.mp e0
      obtain ⟨d1, e1, e4⟩ := Option.bind_eq_some_iff.mp e1
      obtain rfl := ownL_some e4
      obtain ⟨i, e2, e3⟩ := idx_some e2
      refine ⟨F, A, s, _, at0, e1, fun F1 H1 v w1 f1 => ⟨F1, A, s, _, at0.grown w1, e2, fun F2 H2 u w2 z2 => ?_⟩⟩
      cases z2
      have at2 := (at0.grown w1).grown w2
      have f2 := f1.grow w2 (at0.grown w1).there
      obtain ⟨a, vs, vk, rfl, ea, hl, ek, f3⟩ := f2.item at2.g (intD_some e5)
      obtain ⟨L, A1, R, _, r3, _⟩ := f3
      have z3 := (Rep.p_iff.mp r3).2
      cases z3
      refine ⟨a, vs, i, _, rfl, rfl, SqL.of ea, by unfold atI; rw [hl, e3]; exact ek, F2, A, s, _, at2, intQ_some e6, fun F3 H3 y w3 z3 => ?_⟩
      cases z3
      refine ⟨_, _, rfl, rfl, ?_⟩
      have at3 := at2.grown w3
      have f4 := f2.grow w3 at2.there
      obtain ⟨a', vs', ea', eb', hl', A', st, sr⟩ := foc_set at3 f4 (ixN_lt e3) (.int (g x0 y0))
      cases ea'
      exact ⟨a, vs', i, k, rfl, rfl, eb', by rw [hl']; exact e3, h F3 _ A' σ ((at0.grow ((w1.trans w2).trans w3)).trans at0.g st) sr⟩⟩
/-- x.append(e), e a value read without a change -/
def appQ (pl : Pl) (q : S → Option PyData) : S → Out D := fun s => match ((pl.get s).bind ownL).bind fun ds => (q s).bind fun y => if ds.length < cap then some (pl.put (.l (ds ++ [.p y])) s) else none with
  | some s' => .ok (.p .none) s'
  | none => .er
theorem repL_snoc {Z : Env0} {F H : Hs} : ∀ {ds : List D} {vs : List V} {A T : List Addr} {d : D} {v : V}, RepL Z F H ds vs A → Rep Z F H d v T → RepL Z F H (ds ++ [d]) (vs ++ [v]) (A ++ T)
  | [], _, A, T, d, v, h, r => by
    simp only [RepL] at h
    obtain ⟨rfl, rfl⟩ := h
    simpa using repL_one r
  | d0 :: ds, _, _, T, d, v, h, r => by
    simp only [RepL] at h
    obtain ⟨v0, vs', A1, A2, rfl, rfl, r1, r2⟩ := h
    simp only [List.cons_append, RepL]
    exact ⟨v0, vs' ++ [v], A1, A2 ++ T, rfl, by simp, r1, repL_snoc r2 r⟩
/-- the list at a place, with what stands at T at its end -/
theorem foc_app (g : Good F H (A ++ T)) (hT : ∀ b ∈ T, H b ≠ none) (fo : Foc C F H σ A (.l ds) put v) {u : V} (r : Rep C.Z F H d u T) : ∃ a vs, v = .ref a ∧ H a = some (.lst vs) ∧ vs.length = ds.length ∧
    ∃ A', Step F H (A ++ T) F (upd H a (.lst (vs ++ [u]))) A' ∧ SR C.Z C.bv F (upd H a (.lst (vs ++ [u]))) 0 σ (put (.l (ds ++ [d]))) A' := by
  obtain ⟨a, vs, As, rfl, ea, r0, hl, hAs, fin⟩ := foc_list g fo
  obtain ⟨A', st, sr⟩ := fin (vs ++ [u]) (ds ++ [d]) (As ++ T) [] (repL_snoc r0 r) (fun a => by simp only [List.count_append, List.append_nil]; omega) hT
  rw [List.append_nil] at st
  exact ⟨a, vs, rfl, ea, hl, A', st, sr⟩
theorem mtr_append {X : Cx} : MtR X "list.append" rAppend := fun pins s σ H x xs v us Q I rx rxs h => mt_append pins s σ H x xs v us Q I rx rxs h
theorem tyV_list {K : PySem.W.Frag} {a : Addr} {vs : List V} (e : H a = some (.lst vs)) : tyV K "list" (.ref a) H := .inl ⟨rfl, vs, SqL.of e⟩
section
variable {apos cpos : Pos}
theorem ce_append (h : CPl C e pl) (hq : CQ C b q) (hbase : attributeBase e "append" C.X.env (eval e C.X.env) = eval e C.X.env := by rfl)
    (hfew : ((backTo cpos (starEach [b] C.X.env)).all (fun x => !x.1) && (backToKw cpos (keywordEach [] C.X.env)).all (fun x => x.1.isSome)
      && decide (([b] : List Expr).length + ([] : List Keyword).length + (if ([] : List Keyword).isEmpty then 0 else 1) < 30)) = true := by rfl)
    (hline : (apos.endLine == cpos.line) = true := by rfl) (hs : starEach [b] C.X.env = (false, eval b C.X.env) :: starEach [] C.X.env := by rfl) : CE C (.Call (.Attribute e "append" apos) [b] [] cpos) (appQ pl q) :=
  ⟨PE.imp (pe_bm F.plainAttrs_list F.slot_list_append F.type_list_append mtr_append h.run (pa_cons hq.run pa_nil hs) hbase hfew hline hs) fun σ H Q ⟨F, A, s, at0, h⟩ => by
    unfold appQ at h
    cases e0 : (((pl.get s).bind ownL).bind fun ds => (q s).bind fun y => if ds.length < cap then some (pl.put (.l (ds ++ [.p y])) s) else none) with
    | none => rw [e0] at h; exact h.elim
    | some s' =>
      rw [e0] at h
      obtain ⟨ds, e1, e0⟩ := Option.bind_eq_some_iff.mp e0
      obtain ⟨y, e2, e0⟩ := Option.bind_eq_some_iff.mp e0
      obtain ⟨d1, e1, e4⟩ := Option.bind_eq_some_iff.mp e1
      obtain rfl := ownL_some e4
      split at e0
      · rename_i hl0
        cases e0
        refine ⟨F, A, s, _, at0, e1, fun F1 H1 v w1 f1 => ?_⟩
        obtain ⟨a, vs0, _, rfl, ea0, _⟩ := f1.list
        refine ⟨tyV_list ea0, F1, A, s, _, at0.grown w1, e2, fun F2 H2 u w2 z2 => ?_⟩
        have at2 := (at0.grown w1).grown w2
        have f2 := f1.grow w2 (at0.grown w1).there
        obtain ⟨a', vs, ea', ea, hl, A', st, sr⟩ := foc_app (T := []) (nd_drop (T := []) at2.g) (fun _ h => nomatch h) f2 (Rep.p_iff.mpr ⟨rfl, z2⟩)
        cases ea'
        rw [List.append_nil] at st
        exact ⟨a, vs, u, rfl, rfl, ea, by rw [hl]; exact cap_lt (Nat.le_of_lt hl0), h F2 _ A' [] _ (by rw [List.append_nil]; exact (at0.grow (w1.trans w2)).trans at0.g st) sr (Rep.p_iff.mpr ⟨rfl, .non⟩)⟩
      · cases e0⟩
/-- x.append(y), y's own value moved there (as it is, or frozen) -/
def appM (pl : Pl) (tk : S → Option (D × S)) : S → Out D := fun s => match (tk s).bind fun p => ((pl.get p.2).bind ownL).bind fun ds => if ds.length < cap then some (pl.put (.l (ds ++ [p.1])) p.2) else none with
  | some s' => .ok (.p .none) s'
  | none => .er
/-- what a slot gives away -/
structure TkOk (C : Cn) (j : Nat) (tk : S → Option (D × S)) : Prop where
  run : ∀ {σ H s F A d s1}, At C σ H s F A → tk s = some (d, s1) → ∃ v F1 A1 T, σ[j]? = some (some v) ∧ Step F H A F1 H (A1 ++ T) ∧ SR C.Z C.bv F1 H 0 σ s1 A1 ∧ Rep C.Z F1 H d v T
theorem tk_mv : TkOk C j (takeM j) := ⟨fun {σ H s F A d s1} at0 e => by
  obtain ⟨v, A1, T, h1, h2, h3, h4⟩ := take_mv at0 e
  exact ⟨v, F, A1, T, h1, h2, h3, h4⟩⟩
theorem tk_fz : TkOk C j (takeF j) := ⟨fun {σ H s F A d s1} at0 e => by
  obtain ⟨v, F1, A1, h1, h2, h3, h4⟩ := take_fz at0 e
  exact ⟨v, F1, A1, [], h1, by rw [List.append_nil]; exact h2, h3, h4⟩⟩
theorem Step.keepT {F F1 F2 H0 H1 H2 : Hs} {A A1 T : List Addr} (st : Step F H0 A F1 H1 (A1 ++ T)) (w : Grow F1 H1 F2 H2) (hT : ∀ x ∈ A1 ++ T, H1 x ≠ none) : Step F H0 A F2 H2 (A1 ++ T) := by
  refine ⟨st.ff.trans w.ff, w.fh, st.nd, fun a ha => ?_, fun a h1 h2 => ?_, fun a h1 h2 => ?_⟩
  · cases e : F2 a with
    | none => rfl
    | some o =>
      have h3 := hT a ha
      rcases w.nw a (by rw [e]; simp) h3 with h
      exact absurd (st.ap a ha) h
  · have e := st.kp a h1 h2
    cases e3 : H1 a with
    | none => rw [e3] at e; exact absurd e.symm h1
    | some o => rw [w.hh a o e3, ← e3, e]
  · rcases h1 with h1 | h1
    · exact st.nw a (.inl h1) h2
    · by_cases hA : a ∈ A
      · exact .inl hA
      · have e := st.kp a h2 hA
        have h3 : H1 a ≠ none := by rw [e]; exact h2
        exact st.nw a (.inr (w.nw a h1 h3)) h2
theorem ce_appendM {tk : S → Option (D × S)} {px : Pos} (h : CPl C e pl) (hx : PE C.X (.Name x px) (tVar j)) (ht : TkOk C j tk) (hbase : attributeBase e "append" C.X.env (eval e C.X.env) = eval e C.X.env := by rfl)
    (hfew : ((backTo cpos (starEach [.Name x px] C.X.env)).all (fun x => !x.1) && (backToKw cpos (keywordEach [] C.X.env)).all (fun x => x.1.isSome)
      && decide (([.Name x px] : List Expr).length + ([] : List Keyword).length + (if ([] : List Keyword).isEmpty then 0 else 1) < 30)) = true := by rfl)
    (hline : (apos.endLine == cpos.line) = true := by rfl) (hs : starEach [.Name x px] C.X.env = (false, eval (.Name x px) C.X.env) :: starEach [] C.X.env := by rfl) : CE C (.Call (.Attribute e "append" apos) [.Name x px] [] cpos) (appM pl tk) :=
  ⟨PE.imp (pe_bm F.plainAttrs_list F.slot_list_append F.type_list_append mtr_append h.run (pa_cons hx pa_nil hs) hbase hfew hline hs) fun σ H Q ⟨F, A, s, at0, h⟩ => by
    unfold appM at h
    cases e0 : ((tk s).bind fun p => ((pl.get p.2).bind ownL).bind fun ds => if ds.length < cap then some (pl.put (.l (ds ++ [p.1])) p.2) else none) with
    | none => rw [e0] at h; exact h.elim
    | some s' =>
      rw [e0] at h
      obtain ⟨⟨d, s1⟩, e1, e0⟩ := Option.bind_eq_some_iff.mp e0
      obtain ⟨ds, e2, e0⟩ := Option.bind_eq_some_iff.mp e0
      obtain ⟨d1, e2, e4⟩ := Option.bind_eq_some_iff.mp e2
      obtain rfl := ownL_some e4
      obtain ⟨v, F1, A1, T, ej, st, sr, rt⟩ := ht.run at0 e1
      have thT : ∀ b ∈ T, H b ≠ none := Rep.there d v T rt
      have th : ∀ b ∈ A1 ++ T, H b ≠ none := fun b hb => by
        rcases List.mem_append.mp hb with hb | hb
        · exact SR.there sr b hb
        · exact thT b hb
      split at e0
      · rename_i hl0
        cases e0
        refine ⟨F1, A1, s1, _, ⟨st.sub.good, sr⟩, e2, fun F2 H2 vv w f => ?_⟩
        obtain ⟨a, vs0, _, rfl, ea0, _⟩ := f.list
        have st2 := st.keepT w th
        obtain ⟨a', vs, ea', ea, hl, A', st3, sr3⟩ := foc_app st2.good (fun b hb => by
          cases eb : H b with
          | none => exact absurd eb (thT b hb)
          | some o => rw [w.hh b o eb]; simp) f (w.rep rt)
        cases ea'
        exact ⟨tyV_list ea0, v, ej, a, vs, v, rfl, rfl, ea, by rw [hl]; exact cap_lt (Nat.le_of_lt hl0), h F2 _ A' [] _ (by rw [List.append_nil]; exact st2.trans at0.g st3) sr3 (Rep.p_iff.mpr ⟨rfl, .non⟩)⟩
      · cases e0⟩
end
end
end Dl

set_option Elab.async false
set_option linter.all false
set_option maxRecDepth 100000
set_option maxHeartbeats 4000000
namespace Dl
open PySem PySem.Spec PyProof.Rows L2
open PySem.W (alike alikeAll dataLt keyToks keyToksAll EachIs AllAlike Sortable SortsAt dataKind dataKind_some dataKind_inv)
open SeqAt (EqAt RcLt firstLt pairEq)

/-! ### data sorted -/
def insD (x : PyData) : List PyData → List PyData
  | [] => [x]
  | y :: ys => if dataLt y x = true then y :: insD x ys else x :: y :: ys
def sortD : List PyData → List PyData
  | [] => []
  | x :: xs => insD x (sortD xs)
theorem insD_perm (x : PyData) : ∀ l, (insD x l).Perm (x :: l)
  | [] => List.Perm.refl _
  | y :: ys => by
    unfold insD
    split
    · exact ((insD_perm x ys).cons y).trans (List.Perm.swap x y ys)
    · exact List.Perm.refl _
theorem sortD_perm : ∀ l, (sortD l).Perm l
  | [] => List.Perm.refl _
  | x :: xs => (insD_perm x _).trans ((sortD_perm xs).cons x)
def leD (a b : PyData) : Prop := dataLt b a = false
theorem leD_trans {a b c : PyData} (h1 : leD a b) (h2 : leD b c) : leD a c := by
  unfold leD dataLt at *
  cases h : PyProof.Rows.lexLt itemOrd (keyToks c) (keyToks a) with
  | false => rfl
  | true =>
    rcases PyProof.Rows.lex_negTrans _ (keyToks b) _ h with h | h
    · rw [h2] at h; cases h
    · rw [h1] at h; cases h
theorem leD_of_lt {a b : PyData} (h : dataLt a b = true) : leD a b := by
  unfold leD
  cases h2 : dataLt b a with
  | false => rfl
  | true =>
    have := PyProof.Rows.lex_trans _ _ _ h h2
    rw [PyProof.Rows.lex_irrefl] at this
    cases this
theorem insD_sorted (x : PyData) : ∀ l, l.Pairwise leD → (insD x l).Pairwise leD
  | [], _ => List.pairwise_singleton _ _
  | y :: ys, h => by
    obtain ⟨h1, h2⟩ := List.pairwise_cons.mp h
    unfold insD
    split
    · rename_i e
      refine List.pairwise_cons.mpr ⟨fun z hz => ?_, insD_sorted x ys h2⟩
      rcases List.mem_cons.mp ((insD_perm x ys).mem_iff.mp hz) with rfl | hz
      · exact leD_of_lt e
      · exact h1 z hz
    · rename_i e
      have e' : leD x y := by
        unfold leD
        cases h : dataLt y x with
        | false => rfl
        | true => exact absurd h e
      refine List.pairwise_cons.mpr ⟨fun z hz => ?_, h⟩
      rcases List.mem_cons.mp hz with rfl | hz
      · exact e'
      · exact leD_trans e' (h1 z hz)
theorem sortD_sorted : ∀ l, (sortD l).Pairwise leD
  | [] => List.Pairwise.nil
  | x :: xs => insD_sorted x _ (sortD_sorted xs)
mutual
/-- data written in signs can be read back -/
theorem toks_inj : ∀ (x y : PyData) (l m : List (Int ⊕ List Nat)), alike x y = true → keyToks x ++ l = keyToks y ++ m → x = y ∧ l = m
  | .none, y, l, m, h, e => by
    cases y with
    | none => simp only [keyToks, List.nil_append] at e; exact ⟨rfl, e⟩
    | _ => exact absurd h (by simp [alike])
  | .bool a, y, l, m, h, e => by
    cases y with
    | bool b =>
      simp only [keyToks, List.singleton_append, List.cons.injEq] at e
      refine ⟨?_, e.2⟩
      have := Sum.inl.inj e.1
      cases a <;> cases b <;> first | rfl | (simp at this)
    | _ => exact absurd h (by simp [alike])
  | .int a, y, l, m, h, e => by
    cases y with
    | int b =>
      simp only [keyToks, List.singleton_append, List.cons.injEq] at e
      exact ⟨by rw [Sum.inl.inj e.1], e.2⟩
    | _ => exact absurd h (by simp [alike])
  | .str a, y, l, m, h, e => by
    cases y with
    | str b =>
      simp only [keyToks, List.singleton_append, List.cons.injEq] at e
      exact ⟨by rw [PySem.W.str_of_cps (Sum.inr.inj e.1)], e.2⟩
    | _ => exact absurd h (by simp [alike])
  | .list xs, y, l, m, h, e => by
    cases y with
    | list ys =>
      simp only [keyToks] at e
      obtain ⟨h1, h2⟩ := toksAll_inj xs ys l m (by simpa [alike] using h) e
      exact ⟨by rw [h1], h2⟩
    | _ => exact absurd h (by simp [alike])
  | .tuple xs, y, l, m, h, e => by
    cases y with
    | tuple ys =>
      simp only [keyToks] at e
      obtain ⟨h1, h2⟩ := toksAll_inj xs ys l m (by simpa [alike] using h) e
      exact ⟨by rw [h1], h2⟩
    | _ => exact absurd h (by simp [alike])
  | .dict _, y, _, _, h, _ => absurd h (by cases y <;> simp [alike])
theorem toksAll_inj : ∀ (xs ys : List PyData) (l m : List (Int ⊕ List Nat)), alikeAll xs ys = true → keyToksAll xs ++ l = keyToksAll ys ++ m → xs = ys ∧ l = m
  | [], [], l, m, _, e => by
    simp only [keyToksAll, List.singleton_append, List.cons.injEq] at e
    exact ⟨rfl, e.2⟩
  | [], y :: ys, l, m, _, e => by
    simp only [keyToksAll, List.cons_append, List.cons.injEq] at e
    have := Sum.inl.inj e.1
    omega
  | x :: xs, [], l, m, _, e => by
    simp only [keyToksAll, List.cons_append, List.cons.injEq] at e
    have := Sum.inl.inj e.1
    omega
  | x :: xs, y :: ys, l, m, h, e => by
    obtain ⟨h1, h2⟩ := PySem.W.alike_all_cons h
    simp only [keyToksAll, List.cons_append, List.append_assoc, List.cons.injEq] at e
    obtain ⟨e1, e2⟩ := toks_inj x y _ _ h1 e.2
    obtain ⟨e3, e4⟩ := toksAll_inj xs ys l m h2 e2
    exact ⟨by rw [e1, e3], e4⟩
end
theorem leD_anti {a b : PyData} (h : alike a b = true) (h1 : leD a b) (h2 : leD b a) : a = b := by
  have e := PyProof.Rows.lex_total _ _ h2 h1
  exact (toks_inj a b [] [] h (by rw [e])).1
/-- two sorted lists of the same things are one -/
theorem sorted_one : ∀ {l m : List PyData}, AllAlike l → l.Pairwise leD → m.Pairwise leD → l.Perm m → l = m
  | [], m, _, _, _, p => by rw [List.nil_perm.mp p]
  | x :: l, [], _, _, _, p => absurd p.symm (by simp)
  | x :: l, y :: m, al, h1, h2, p => by
    obtain ⟨a1, a2⟩ := List.pairwise_cons.mp h1
    obtain ⟨b1, b2⟩ := List.pairwise_cons.mp h2
    have hy : y ∈ x :: l := p.mem_iff.mpr List.mem_cons_self
    have hx : x ∈ y :: m := p.mem_iff.mp List.mem_cons_self
    have e : x = y := by
      rcases List.mem_cons.mp hy with rfl | hy'
      · rfl
      · rcases List.mem_cons.mp hx with rfl | hx'
        · rfl
        · exact leD_anti (al x List.mem_cons_self y hy) (a1 y hy') (b1 x hx')
    subst e
    rw [sorted_one (fun a ha b hb => al a (List.mem_cons_of_mem _ ha) b (List.mem_cons_of_mem _ hb)) a2 b2 (List.Perm.cons_inv p)]
theorem merge_sortD {ds : List PyData} (al : AllAlike ds) : ds.mergeSort (PySem.W.dataLe false id) = sortD ds := by
  refine (sorted_one (fun a ha b hb => al a ((sortD_perm ds).mem_iff.mp ha) b ((sortD_perm ds).mem_iff.mp hb)) (sortD_sorted ds) ?_ ((sortD_perm ds).trans (List.mergeSort_perm ds _).symm)).symm
  have := List.pairwise_mergeSort (le := PySem.W.dataLe false id) (fun a b c h1 h2 => ?_) (fun a b => ?_) ds
  · refine this.imp fun {a b} h => ?_
    have h' : (!dataLt b a) = true := h
    unfold leD
    cases e : dataLt b a with
    | false => rfl
    | true => rw [e] at h'; cases h'
  · have h1' : (!dataLt b a) = true := h1
    have h2' : (!dataLt c b) = true := h2
    have h3 : leD a c := leD_trans (b := b) (by unfold leD; cases e : dataLt b a with
      | false => rfl
      | true => rw [e] at h1'; cases h1') (by unfold leD; cases e : dataLt c b with
      | false => rfl
      | true => rw [e] at h2'; cases h2')
    show (!dataLt c a) = true
    rw [show dataLt c a = false from h3]
    rfl
  · show ((!dataLt b a) || (!dataLt a b)) = true
    cases e : dataLt b a with
    | false => rfl
    | true =>
      rw [show dataLt a b = false from leD_of_lt e]
      rfl

/-! ### tuples, one of them empty -/
section
variable {prog : Program} {w : World} {A : Around} {E : Value → Shared → Prop} {s : Shared}
theorem firsts_any : ∀ {vs : List Value} {ds : List PyData} {Q : List (Option Value) → Shared → Prop}, EachIs (fun v d => ∃ as, Reads s.heap v d as) vs ds → (∀ d, d ∈ ds → ∃ xs, d = .tuple xs) →
    (∀ os : List (Option Value), EachIs (fun (o : Option Value) d => o.isSome = false ↔ d = PyData.tuple []) os ds → Q os s) → wpAny (model prog w) A (vs.mapM firstOfTuple') Q E s
  | _, _, Q, .nil, _, h => by
    rw [List.mapM_nil]
    exact wpAny_pure (h [] .nil)
  | _, _, Q, .cons (a := v) (b := d) ⟨as, r⟩ t, ht, h => by
    obtain ⟨xs, rfl⟩ := ht d List.mem_cons_self
    rw [List.mapM_cons]
    refine wpAny_bind ?_
    rw [PySem.W.kas_first_eq]
    refine wpAny_bind ((PySem.W.looks_reads r).here ?_)
    rw [if_neg (by simp [PySem.W.dataType])]
    cases r with
    | @tuple a o vs n _ _ h1 h2 h3 h4 =>
      refine wpAny_bind (listItems_at h1 h3 (wpAny_pure ?_))
      refine wpAny_bind (firsts_any t (fun d hd => ht d (List.mem_cons_of_mem _ hd)) fun os ho => wpAny_pure (h _ (.cons ?_ ho)))
      have hl : vs.size = xs.length := by simpa using SeqAt.ReadsAll.length _ _ _ h4
      constructor
      · intro hn
        cases xs with
        | nil => rfl
        | cons x xs =>
          have : 0 < vs.size := by rw [hl]; simp
          simp [this] at hn
      · intro e
        cases e
        have : vs.size = 0 := hl
        simp [this]
theorem call_tup_lt {Q : Value → Shared → Prop} {l b : Addr} {items items2 : Array Value} {e r : Nat → Bool} (hl : s.heap.IsTuple l items) (hb : s.heap.IsTuple b items2)
    (he : ∀ j (h1 : j < items.size) (h2 : j < items2.size), EqAt A.in1 s items[j] items2[j] (e j)) (hr : ∀ j (h1 : j < items.size) (h2 : j < items2.size), e j = false → RcLt A.in1 s items[j] items2[j] (r j))
    (h : Q (.bool (firstLt e r (decide (items.size < items2.size)) (List.range (min items.size items2.size)))) s) : wpAny (model prog w) A (call (.builtin "tuple.__lt__") [.ref l, .ref b]) Q E s := by
  obtain ⟨⟨c1, d1, x1, s1⟩, ho1, hc1, n1, hd1⟩ := id hl
  obtain ⟨⟨c2, d2, x2, s2⟩, ho2, hc2, n2, hd2⟩ := id hb
  dsimp only at hc1 hd1 hc2 hd2
  subst hc1 hd1 hc2 hd2
  exact call_meets F.slot_tuple_lt ⟨_, ho1, rfl⟩ F.entry_tuple_lt (F.args_tuple_lt_2 _ _) (SeqAt.tuple_ltAt l b items items2 n1 n2 d1 d2 s1 s2 e r) ⟨ho1, ho2, he, hr, h⟩
theorem oneLt_tups {xs ys : List PyData} {a b : Value} {as bs : List Addr} {Q : Bool → Shared → Prop} (ra : Reads s.heap a (.tuple xs) as) (rb : Reads s.heap b (.tuple ys) bs) (h : alike (.tuple xs) (.tuple ys) = true)
    (hu : A.units + min (PyData.tuple xs).depth (PyData.tuple ys).depth < cLine) (hq : Q (dataLt (.tuple xs) (.tuple ys)) s) : wpAny (model prog w) A (oneLt' true a b) Q E s := by
  have hal : alikeAll xs ys = true := by simpa [alike] using h
  cases ra with
  | @tuple l o vs n _ as₁ h1 h2 h3 h4 =>
    cases rb with
    | @tuple l' o' vs' n' _ bs₁ k1 k2 k3 k4 =>
      have m1 : vs.size = xs.length := by simpa using SeqAt.ReadsAll.length _ _ _ h4
      have m2 : vs'.size = ys.length := by simpa using SeqAt.ReadsAll.length _ _ _ k4
      rw [PySem.W.dataLt_tuple, ← PySem.W.firstLt_toks xs ys hal, ← m1, ← m2] at hq
      rw [oneLt'_eq]
      simp only [if_true]
      refine wpAny_bind (wpAny_cRoomFor (SeqAt.room_here hu) ?_)
      refine wpAny_bind (wpAny_callSpecialIfBound?_slot (T := "tuple") ⟨_, h1, h2⟩ F.slot_tuple_lt (call_tup_lt (e := pairEq xs ys) (r := fun j => dataLt (xs.getD j .none) (ys.getD j .none)) ⟨_, h1, h2, _, h3⟩ ⟨_, k1, k2, _, k3⟩ (fun j j1 j2 => ?_) (fun j j1 j2 hj => ?_) ?_))
      · have q := PySem.W.eqAt_alikeAll xs ys A.in1 s vs.toList vs'.toList _ _ h4 k4 hal (SeqAt.room_in hu) j (by simpa using j1) (by simpa using j2)
        rw [Array.getElem_toList, Array.getElem_toList] at q
        exact q
      · have q := PySem.W.rcLt_alikeAll xs ys A.in1 s vs.toList vs'.toList _ _ h4 k4 hal (SeqAt.room_in hu) j (by simpa using j1) (by simpa using j2) hj
        rw [Array.getElem_toList, Array.getElem_toList] at q
        exact q
      · exact wpAny_truthy_bool hq
theorem sorts_tups {vs : List Value} {ds : List PyData} (e : EachIs (fun v d => ∃ as, Reads s.heap v d as) vs ds) (hal : AllAlike ds) (ht : ∀ d, d ∈ ds → ∃ xs, d = .tuple xs) (h0 : PyData.tuple [] ∈ ds) (hu : ∀ d, d ∈ ds → A.units + d.depth < cLine) :
    SortsAt prog w A s (dataKind s.heap ds) vs := by
  have room : ∀ {d d' : PyData}, d ∈ ds → A.units + min d.depth d'.depth < cLine := fun {d d'} hd => Nat.lt_of_le_of_lt (Nat.add_le_add_left (Nat.min_le_left _ _) _) (hu d hd)
  refine ⟨fun v hv => ?_, ?_⟩
  · obtain ⟨d, hd, as, r⟩ := e.left v hv
    exact ⟨_, dataKind_some hal hd r⟩
  · cases ds with
    | nil => cases h0
    | cons d0 ds0 =>
      by_cases hd0 : d0 = .tuple []
      · refine ⟨oneType', ?_, fun h2 E Q hq => ?_⟩
        · intro E x y a b Q ha hb hq
          obtain ⟨d, as, hd, ra, rfl⟩ := dataKind_inv ha
          obtain ⟨d', as', hd', rb, rfl⟩ := dataKind_inv hb
          obtain ⟨x1, rfl⟩ := ht d hd
          obtain ⟨x2, rfl⟩ := ht d' hd'
          rw [keyLt'_oneType]
          exact oneLt_tups ra rb (hal _ hd _ hd') (room hd) hq
        · rw [keyKind'_eq, List.mapM_toArray, map_eq_pure_bind]
          refine wpAny_bind (wpAny_bind (firsts_any e ht fun os ho => wpAny_pure ?_))
          cases ho with
          | @cons o0 _ os' _ ho1 ho2 =>
            have en : o0 = none := by
              have := ho1.mpr hd0
              cases o0 with
              | none => rfl
              | some x => cases this
            subst en
            rw [if_neg (by simp), if_neg (by simp)]
            rw [oneTypeOnly'_eq, List.mapM_toArray, map_eq_pure_bind]
            refine wpAny_bind (wpAny_bind (wpAny_bind (PySem.W.kas_mapM (r := Value.type "tuple") _ (fun v hv Q' hq' => ?_) (wpAny_pure ?_))))
            · obtain ⟨d, hd, as, r⟩ := e.left v hv
              obtain ⟨xs, rfl⟩ := ht d hd
              exact (PySem.W.looks_reads r).here hq'
            · have hall : ((List.map (fun _ => Value.type "tuple") vs).toArray.all fun x => x == Value.type "tuple") = true := by
                simp only [List.all_toArray, List.all_map, List.all_eq_true]
                intro _ _
                exact beq_self_eq_true _
              have h0' : (List.map (fun _ => Value.type "tuple") vs).toArray[0]? = some (Value.type "tuple") := by
                cases vs with
                | nil => simp at h2
                | cons v vs => simp
              rw [h0']
              simp only [hall, if_true]
              exact wpAny_pure (wpAny_pure hq)
      · refine ⟨general', ?_, fun h2 E Q hq => ?_⟩
        · intro E x y a b Q ha hb hq
          obtain ⟨d, as, hd, ra, rfl⟩ := dataKind_inv ha
          obtain ⟨d', as', hd', rb, rfl⟩ := dataKind_inv hb
          obtain ⟨x1, rfl⟩ := ht d hd
          show wpAny _ _ (oneLt' false x y) _ _ _
          exact PySem.W.oneLt_alike (fun h => nomatch h) ra rb (hal _ hd _ hd') (fun h => nomatch h) (room hd) hq
        · rw [keyKind'_eq, List.mapM_toArray, map_eq_pure_bind]
          refine wpAny_bind (wpAny_bind (firsts_any e ht fun os ho => wpAny_pure ?_))
          have hnone : ∃ o ∈ os, o.isSome = false := by
            obtain ⟨o, ho', hx⟩ : ∃ o ∈ os, (o.isSome = false ↔ PyData.tuple [] = PyData.tuple []) := by
              have : ∀ {os : List (Option Value)} {ds : List PyData}, EachIs (fun (o : Option Value) d => o.isSome = false ↔ d = PyData.tuple []) os ds → ∀ d ∈ ds, ∃ o ∈ os, (o.isSome = false ↔ d = PyData.tuple []) := by
                intro os ds h
                induction h with
                | nil => intro d hd; cases hd
                | cons h1 h2 ih =>
                  intro d hd
                  rcases List.mem_cons.mp hd with rfl | hd
                  · exact ⟨_, List.mem_cons_self, h1⟩
                  · obtain ⟨o, h3, h4⟩ := ih d hd
                    exact ⟨o, List.mem_cons_of_mem _ h3, h4⟩
              exact this ho _ h0
            exact ⟨o, ho', hx.mpr rfl⟩
          rw [if_neg (by
            rw [List.all_toArray, List.all_eq_true]
            intro h
            obtain ⟨o, h1, h2⟩ := hnone
            rw [h o h1] at h2
            cases h2)]
          cases ho with
          | @cons o0 _ os' _ ho1 ho2 =>
            have en : ∃ x, o0 = some x := by
              cases o0 with
              | none => exact absurd (ho1.mp rfl) hd0
              | some x => exact ⟨x, rfl⟩
            obtain ⟨x, rfl⟩ := en
            rw [if_pos (by simp)]
            exact wpAny_pure hq
end
end Dl

set_option Elab.async false
set_option linter.all false
set_option maxRecDepth 100000
set_option maxHeartbeats 4000000
namespace Dl
open PySem PySem.Spec PyProof.Rows L2
open PySem.W (alike alikeAll dataLt keyToks keyToksAll EachIs AllAlike Sortable SortsAt dataKind)
open SeqAt (EqAt RcLt)

theorem pair_getR {α β : Type} {R : α → β → Prop} : ∀ {l : List α} {m : List β} {i : Nat} {y : β}, Paired R l m → m[i]? = some y → ∃ x, l[i]? = some x ∧ R x y
  | _, _, _, _, .nil, e => by simp at e
  | _, _, 0, _, .cons h _, e => by simp at e; subst e; exact ⟨_, rfl, h⟩
  | _, _, i + 1, _, .cons _ t, e => by simpa using pair_getR (i := i) t (by simpa using e)
theorem pair_getL {α β : Type} {R : α → β → Prop} : ∀ {l : List α} {m : List β} {i : Nat} {x : α}, Paired R l m → l[i]? = some x → ∃ y, m[i]? = some y ∧ R x y
  | _, _, _, _, .nil, e => by simp at e
  | _, _, 0, _, .cons h _, e => by simp at e; subst e; exact ⟨_, rfl, h⟩
  | _, _, i + 1, _, .cons _ t, e => by simpa using pair_getL (i := i) t (by simpa using e)
def isTupD : PyData → Bool
  | .tuple _ => true
  | _ => false
def plainD : PyData → Bool
  | .tuple _ => false
  | .none => false
  | _ => true
def sortOk (ds : List PyData) : Bool := decide (ds.length ≤ cap) && ((ds.all fun a => ds.all fun b => alike a b) && ((ds.all fun d => decide (d.depth ≤ 50)) && (ds.all isTupD || ds.all plainD)))
theorem sortOk_all {ds : List PyData} (h : sortOk ds = true) : ds.length ≤ cap ∧ AllAlike ds ∧ (∀ d ∈ ds, d.depth ≤ 50) ∧ ((∀ d ∈ ds, ∃ xs, d = .tuple xs) ∨ ∀ d, d ∈ ds → d ≠ .none ∧ ∀ xs, d ≠ .tuple xs) := by
  unfold sortOk at h
  simp only [Bool.and_eq_true, decide_eq_true_eq, List.all_eq_true, Bool.or_eq_true] at h
  obtain ⟨h1, h2, h3, h4⟩ := h
  refine ⟨h1, h2, h3, h4.imp (fun h d hd => ?_) fun h d hd => ?_⟩
  · have := h d hd
    cases d <;> first | exact ⟨_, rfl⟩ | cases this
  · have := h d hd
    cases d with
    | tuple xs => simp [plainD] at this
    | none => simp [plainD] at this
    | _ => exact ⟨(fun e => nomatch e), (fun xs e => nomatch e)⟩
section
variable {prog : Program} {w : World} {A : Around} {E : Value → Shared → Prop} {s : Shared}
theorem sorts_any {vs : List Value} {ds : List PyData} (ok : sortOk ds = true) (e : EachIs (fun v d => ∃ as, Reads s.heap v d as) vs ds) (hu : A.units + 50 < cLine) : SortsAt prog w A s (dataKind s.heap ds) vs := by
  obtain ⟨_, al, hd, hk⟩ := sortOk_all ok
  have hu' : ∀ d, d ∈ ds → A.units + d.depth < cLine := fun d h => by have := hd d h; omega
  rcases hk with hk | hk
  · by_cases h0 : PyData.tuple [] ∈ ds
    · exact sorts_tups e al hk h0 hu'
    · refine SortsAt.data e al (.inl fun d hd => ?_) hu'
      obtain ⟨xs, rfl⟩ := hk d hd
      cases xs with
      | nil => exact absurd hd h0
      | cons x r => exact ⟨x, r, rfl⟩
  · exact SortsAt.data e al (.inr hk) hu'
theorem collect_tup {l : Addr} {vs : List Value} {Q : List Value → Shared → Prop} (hl : s.heap.IsTuple l vs.toArray)
    (h : Q vs { s with heap := (s.heap.push (seqObj "list" #[] 0)).update s.heap.objs.size (Obj.mapSeq (· ++ vs.toArray)) }) (hsz : vs.length ≤ sizeLine) : wpAny (model prog w) A (collect (.ref l)) Q E s := by
  obtain ⟨ot, hot, hct, nt, hdt⟩ := id hl
  have hkeep : (s.heap.push (seqObj "list" #[] 0)).get? l = some ot := Heap.get?_push_of_some _ hot
  have hnew : (s.heap.push (seqObj "list" #[] 0)).get? s.heap.objs.size = some (seqObj "list" #[] 0) := Heap.get?_push_size _ rfl
  unfold collect
  refine wpAny_bind (wpAny_runValue (codeAny_builtin entry_proto_collect' ?_))
  show wpAny _ _ (newList [] >>= fun x => again (.builtin "list.__iadd__" ⟨[x, .ref l], []⟩)) _ _ s
  refine wpAny_bind (wpAny_newList (wpAny_pure ⟨Code.quiet_builtin _ (by decide +kernel), codeAny_builtin entry_list_iadd' ?_⟩))
  show wpAny _ _ (Builtin.List.listExtendWith (.ref s.heap.objs.size) (.ref l) (.ref s.heap.objs.size)) _ _ { s with heap := s.heap.push (seqObj "list" #[] 0) }
  unfold Builtin.List.listExtendWith
  refine wpAny_bind (wpAny_typeOf (T := "tuple") ⟨ot, hkeep, hct⟩ ?_)
  rw [if_pos (by first | decide +kernel | simp)]
  refine wpAny_bind (listItems_at hkeep hdt ?_)
  refine wpAny_bind (listItems_at (xs := #[]) (n := 0) hnew rfl ?_)
  rw [if_neg (by simp)]
  refine wpAny_bind (listUpdate_at (xs := #[]) (n := 0) hnew rfl ?_ (Nat.zero_le _) (by show (#[] ++ vs.toArray).size ≤ sizeLine + 1; simp only [Array.size_append, List.size_toArray, List.length_nil]; omega))
  refine wpAny_pure ?_
  refine wpAny_bind (wpAny_load (get?_update_seq hnew _) ?_)
  show wpAny _ _ (pure ((#[] : Array Value) ++ vs.toArray).toList) Q E _
  rw [show ((#[] : Array Value) ++ vs.toArray).toList = vs by simp]
  exact wpAny_pure h
theorem sorted_col {r : Addr} {Pv : List Value → Heap → Prop} {Q : Value → Shared → Prop}
    (hcol : ∀ {R : List Value → Shared → Prop} {E' : Value → Shared → Prop}, (∀ (h' : Heap) (tk : Nat) (vs : List Value), (∀ b o, s.heap.get? b = some o → h'.get? b = some o) → Pv vs h' → R vs { s with heap := h', toks := tk }) → wpAny (model prog w) A.in1 (collect (.ref r)) R E' s)
    (body : ∀ (h' : Heap) (tk : Nat) (vs : List Value), (∀ b o, s.heap.get? b = some o → h'.get? b = some o) → Pv vs h' → vs.length ≤ sizeLine ∧ ∃ κ,
      SortsAt prog w A.in1.in1 { s with heap := PySem.W.sortingHeap (h'.push (seqObj "list" vs.toArray 0)) h'.objs.size vs, toks := tk } κ vs ∧
      Q (.ref h'.objs.size) { s with heap := sortedHeap (h'.push (seqObj "list" vs.toArray 0)) h'.objs.size vs (PySem.W.sortVals κ false vs vs).toArray, toks := tk }) :
    wpAny (model prog w) A (call (.builtin "sorted") [.ref r]) Q E s := by
  refine Calls.call_function_entry PyProof.Rows.kind_sorted PyProof.Rows.plain_sorted PyProof.Rows.entry_sorted (PyProof.Rows.args_sorted1 _) ?_
  unfold Builtin.«sorted»
  refine wpAny_bind (m := checkCount "sorted" 1 1 _) (wpAny_pure ?_)
  refine wpAny_bind (hcol fun h' tk vs hk hp => ?_)
  obtain ⟨hz, κ, S, q⟩ := body h' tk vs hk hp
  refine wpAny_bind (wpAny_newList ?_ hz)
  have hoL : (h'.push (seqObj "list" vs.toArray 0)).get? h'.objs.size = some (seqObj "list" vs.toArray 0) := Heap.get?_push_size _ rfl
  show wpAny _ _ _ _ _ { s with heap := h'.push (seqObj "list" vs.toArray 0), toks := tk }
  refine wpAny_bind (wpAny_holding (wpAny_call_entry PyProof.Rows.slot_list_sort ⟨_, hoL, rfl⟩ PyProof.Rows.entry_list_sort (PySem.W.list_sort_vals (s := { s with heap := h'.push (seqObj "list" vs.toArray 0), toks := tk }) hoL S hz ⟨_, rfl, ?_⟩) (PyProof.Rows.args_list_sort _)))
  exact wpAny_pure ⟨_, rfl, q⟩
end
mutual
theorem key_data {F : Hs} : ∀ (k : Key) (v : V), FzKey F k v → Fz F v k.data
  | .none, _, h => by cases h; exact .non
  | .num i, _, h => by cases h; exact .int i
  | .text x, _, h => by cases h; exact .str x
  | .tup ks, _, h => by cases h with | tup h1 h2 => exact .tup h1 (keys_data ks _ h2)
theorem keys_data {F : Hs} : ∀ (ks : List Key) (vs : List V), FzKeys F ks vs → Fzs F vs (NestedKey.datas ks)
  | [], _, h => by cases h; exact .nil
  | k :: ks, _, h => by cases h with | cons h1 h2 => exact .cons (key_data k _ h1) (keys_data ks _ h2)
end
/-- what can be sorted or walked at x: these items -/
def Src (P : Program) (w : World) (F H : Hs) (x : V) (ds : List PyData) : Prop :=
  Fz F x (.list ds) ∨ Fz F x (.tuple ds) ∨ ∃ a xs kvs, x = .ref a ∧ DAt P w H a xs ∧ Paired (EntF F) xs kvs ∧ ds = kvs.map fun e => e.1.data
def rSrt (P : Program) (w : World) : List V → Hs → VK → Prop := fun vs H Q => ∃ F x ds, vs = [x] ∧ Le F H ∧ Src P w F H x ds ∧ sortOk ds = true ∧ ∀ p us, H p = none → Fzs F us (sortD ds) → Q (.ref p) (upd H p (.lst us))
section
variable {X : Cx}
theorem each_of_fzs {F : Hs} : ∀ {vs : List V} {us : List Value} {ds : List PyData}, Fzs F vs ds → Vals vs us → EachIs (fun u d => ∃ x, RelV x u ∧ Fz F x d) us ds
  | _, _, _, .nil, h => by cases h; exact .nil
  | _, _, _, .cons z1 z2, h => by
    cases h with
    | cons r1 r2 => exact .cons ⟨_, r1, z1⟩ (each_of_fzs z2 r2)
theorem fzs_of_each {F : Hs} : ∀ {us : List Value} {ds : List PyData}, EachIs (fun u d => ∃ x, RelV x u ∧ Fz F x d) us ds → ∃ vs, Vals vs us ∧ Fzs F vs ds
  | _, _, .nil => ⟨[], .nil, .nil⟩
  | _, _, .cons ⟨x, r, z⟩ t => by
    obtain ⟨vs, h1, h2⟩ := fzs_of_each t
    exact ⟨x :: vs, .cons r h1, .cons z h2⟩
theorem crd_sorted (hc : X.calm = true) (hu : X.A.units + 64 < cLine) : CallR X (.builtin "sorted") (rSrt X.prog X.w) := by
  intro pins s σ H xs us Q I r h
  obtain ⟨F, x, ds, rfl, l, src, ok, q⟩ := h
  obtain ⟨u, rfl, rx⟩ := vals1 r
  obtain ⟨hz, al, hdep, hkk⟩ := sortOk_all ok
  have body : ∀ (h' : Heap) (tk : Nat) (vs : List Value), (∀ b o, s.heap.get? b = some o → h'.get? b = some o) → EachIs (fun v d => ∃ x, RelV x v ∧ Fz F x d) vs ds → vs.length ≤ sizeLine ∧ ∃ κ,
      SortsAt X.prog X.w X.A.in1.in1 { s with heap := PySem.W.sortingHeap (h'.push (seqObj "list" vs.toArray 0)) h'.objs.size vs, toks := tk } κ vs ∧
      EP X pins σ Q (.ref h'.objs.size) { s with heap := sortedHeap (h'.push (seqObj "list" vs.toArray 0)) h'.objs.size vs (PySem.W.sortVals κ false vs vs).toArray, toks := tk } := by
    intro h' tk vs hk he
    have hlen : vs.length = ds.length := he.length
    have I1 : Inv X pins σ H { s with heap := h', toks := tk } := I.kept hk
    have er : EachIs (fun v d => ∃ as, Reads (PySem.W.sortingHeap (h'.push (seqObj "list" vs.toArray 0)) h'.objs.size vs) v d as) vs ds := he.mono fun v d ⟨x, rx, zx⟩ => by
      obtain ⟨as, ra⟩ := Dp.reads I d x v (Fz.dp l d x zx) rx
      refine ⟨as, PyProof.Rows.Reads.keeps (fun b o e => ?_) ra⟩
      have e1 := hk b o e
      exact PySem.W.sortingHeap_old (Nat.ne_of_lt (Heap.lt_size e1)) (Heap.get?_push_of_some _ e1)
    refine ⟨by rw [hlen]; exact cap_le hz, _, sorts_any (s := { s with heap := PySem.W.sortingHeap (h'.push (seqObj "list" vs.toArray 0)) h'.objs.size vs, toks := tk }) ok er (by rw [Around.in1_units, Around.in1_units]; omega), ?_⟩
    have out := PySem.W.sortVals_data (enc := id) (bs := ds) false he er (by rw [List.map_id]; exact al)
    rw [List.map_id, merge_sortD al] at out
    obtain ⟨vs', rv, zv⟩ := fzs_of_each out
    have hoL : (h'.push (seqObj "list" vs.toArray 0)).get? h'.objs.size = some (seqObj "list" vs.toArray 0) := Heap.get?_push_size _ rfl
    obtain ⟨ep, hat⟩ := PyProof.Rows.sortedHeap_at (vs := vs) (out := (PySem.W.sortVals (dataKind (PySem.W.sortingHeap (h'.push (seqObj "list" vs.toArray 0)) h'.objs.size vs) ds) false vs vs).toArray) hoL
    have hp : H h'.objs.size = none := I1.hok.fresh (Nat.le_refl _)
    refine ⟨.ref h'.objs.size, upd H h'.objs.size (.lst vs'), I1.laid (t' := tk) (fun b o e1 => ?_) (Nat.le_refl _) ⟨?_, _, ep, rv, hat⟩, rfl, q _ _ hp zv⟩
    · rw [PyProof.Rows.sortedHeap_old (Nat.ne_of_lt (Heap.lt_size e1)) (by rw [size_push']; exact Nat.lt_succ_of_lt (Heap.lt_size e1))]
      exact Heap.get?_push_of_some _ e1
    · rw [zv.length, (sortD_perm ds).length_eq]
      exact cap_le hz
  rcases src with z | z | ⟨a, xs, kvs, rfl, dat, ents, rfl⟩
  · cases z with
    | @lst a vs _ hx rv =>
      obtain rfl : u = Value.ref a := rx
      obtain ⟨its, rvs, pl, _⟩ := I.list (SqL.of (l _ _ hx))
      refine sorted_col (Pv := fun v _ => v = its) (fun {R E'} hR => collect_list pl.isList (hR _ s.toks _ (fun b o e => ?_) rfl) (by rw [← rvs.length, rv.length]; exact cap_le hz)) fun h' tk v hk ev => by rw [ev]; exact body h' tk its hk (each_of_fzs rv rvs)
      rw [Heap.get?_update_ne _ _ _ _ (Nat.ne_of_lt (Heap.lt_size e))]
      exact Heap.get?_push_of_some _ e
  · cases z with
    | @tup a vs _ hx rv =>
      obtain rfl : u = Value.ref a := rx
      obtain ⟨its, rvs, pl, _⟩ := I.tuple (SqT.of (l _ _ hx))
      refine sorted_col (Pv := fun v _ => v = its) (fun {R E'} hR => collect_tup pl (hR _ s.toks _ (fun b o e => ?_) rfl) (by rw [← rvs.length, rv.length]; exact cap_le hz)) fun h' tk v hk ev => by rw [ev]; exact body h' tk its hk (each_of_fzs rv rvs)
      rw [Heap.get?_update_ne _ _ _ _ (Nat.ne_of_lt (Heap.lt_size e))]
      exact Heap.get?_push_of_some _ e
  · obtain rfl : u = Value.ref a := rx
    obtain ⟨z, hd, xv, o, es, ep, rel, ho, hx, hdat, dd⟩ := dat.ok I.hok
    obtain ⟨_, _, _, h1, h2, h3, h4, _, _⟩ := id dd
    have heo := Option.some.inj (h1.symm.trans ho)
    subst heo
    obtain ⟨e1, e2⟩ := dict_ep hdat h3
    subst e1 e2
    have l1 : xs.length = xv.length := Paired.length rel
    have l2 : xs.length = kvs.length := Paired.length ents
    have l3 := size_of_entries h4
    have hle : kvs.length ≤ cap := by simpa using hz
    refine sorted_col (Pv := fun v _ => EachIs (fun u d => ∃ x, RelV x u ∧ Fz F x d) v (kvs.map fun e => e.1.data)) (fun {R E'} hR => PySem.W.kdu_collect (A := X.A.in1) (PySem.KdlSrc.rawDict z) (I.ok.hd hc) ⟨_, ho, hx, hdat⟩ (by rw [l3, ← l1, l2]; exact cap_le hle) fun h' tk acc hk hacc => hR h' tk acc.toList hk ?_) body
    have hal : acc.toList.length = kvs.length := by rw [Array.length_toList, hacc.1, l3, ← l1, l2]
    have key : ∀ (n : Nat), n ≤ kvs.length → EachIs (fun u d => ∃ x, RelV x u ∧ Fz F x d) (acc.toList.drop (kvs.length - n)) ((kvs.map fun e => e.1.data).drop (kvs.length - n)) := by
      intro n
      induction n with
      | zero =>
        intro _
        rw [Nat.sub_zero, List.drop_of_length_le (by omega), List.drop_of_length_le (by simp)]
        exact .nil
      | succ n ih =>
        intro hn
        have hj : kvs.length - (n + 1) < kvs.length := by omega
        have hj2 : kvs.length - (n + 1) < acc.toList.length := by omega
        rw [List.drop_eq_getElem_cons hj2, List.drop_eq_getElem_cons (l := kvs.map fun e => e.1.data) (by rw [List.length_map]; exact hj)]
        have e3 : kvs.length - (n + 1) + 1 = kvs.length - n := by omega
        rw [e3]
        refine .cons ?_ (ih (by omega))
        obtain ⟨hi, hv⟩ := hacc.2 (kvs.length - (n + 1)) _ (by rw [← Array.getElem?_toList, List.getElem?_eq_getElem hj2])
        obtain ⟨y, hy⟩ : ∃ y, xv[kvs.length - (n + 1)]? = some y := ⟨_, List.getElem?_eq_getElem (by omega)⟩
        have hen := entry_at h4 (kvs.length - (n + 1))
        rw [hy, Array.getElem?_eq_getElem hi] at hen
        have hen2 := Option.some.inj hen
        obtain ⟨x0, hx0, r1, r2, r3⟩ := pair_getR rel hy
        obtain ⟨e0, he0, re⟩ := pair_getL ents hx0
        refine ⟨.ref x0.2.1, ?_, ?_⟩
        · show acc.toList[kvs.length - (n + 1)] = Value.ref x0.2.1
          rw [hv, hen2, r2]
          rfl
        · rw [List.getElem_map]
          have : kvs[kvs.length - (n + 1)] = e0 := by
            have := List.getElem?_eq_getElem hj
            rw [he0] at this
            exact (Option.some.inj this).symm
          rw [this, ← re.key]
          exact key_data _ _ re.fk
    have := key kvs.length (Nat.le_refl _)
    rw [Nat.sub_self, List.drop_zero, List.drop_zero] at this
    exact this
end
end Dl

set_option Elab.async false
set_option linter.all false
set_option maxRecDepth 100000
set_option maxHeartbeats 4000000
namespace Dl
open PySem PySem.Spec PyProof.Rows L2

/-! ### a list (b = false) | a tuple (b = true) -/
def SqB (K : PySem.W.Frag) (b : Bool) (H : Hs) (a : Addr) (xs : List V) : Prop := if b = true then SqT K H a xs else SqL K H a xs
def IsB (b : Bool) (h : Heap) (l : Addr) (items : Array Value) : Prop := if b = true then h.IsTuple l items else h.IsList l items
def ItB (b : Bool) (h : Heap) (it l : Addr) (i : Nat) : Prop := if b = true then h.IsTupleIter it l i else h.IsListIter it l i
def objB (b : Bool) (l : Addr) : Obj := { cls := .type (if b = true then "tuple_iterator" else "list_iterator"), data := .fields #[.ref l, .int 0 0] }
theorem begins_B (b : Bool) (l : Addr) (items : Array Value) : Begins (.ref l) (objB b l) fun h => IsB b h l items := by
  cases b
  · exact begins_list l items
  · exact begins_tuple l items
theorem draws_B {prog : Program} {w : World} {A : Around} (hh : A.handled = none) (b : Bool) (it l : Addr) (hne : l ≠ it) (items : Array Value) :
    Draws prog w A it [it, l] items.size (fun i v => items[i]? = some v) (fun i h => ItB b h it l i ∧ IsB b h l items) := by
  cases b
  · exact Draws.list hh it l hne items
  · exact Draws.tuple hh it l hne items
theorem ItB.at {b : Bool} {h h' : Heap} {it l : Addr} {i : Nat} (x : ItB b h it l i) (k : ∀ o, h.get? it = some o → h'.get? it = some o) : ItB b h' it l i := by
  cases b
  · exact Heap.IsListIter.at x k
  · exact Heap.IsTupleIter.at x k
theorem ItB.obj {b : Bool} {h : Heap} {it l : Addr} {i : Nat} (x : ItB b h it l i) : ∃ o, h.get? it = some o ∧ ∀ v, o.data ≠ .cell v := by
  cases b
  · obtain ⟨o, e, _, d⟩ := (show h.IsListIter it l i from x)
    exact ⟨o, e, fun v q => by rw [d] at q; cases q⟩
  · obtain ⟨o, e, _, d⟩ := (show h.IsTupleIter it l i from x)
    exact ⟨o, e, fun v q => by rw [d] at q; cases q⟩
theorem ItB.new {b : Bool} {h : Heap} {it l : Addr} (e : h.get? it = some (objB b l)) : ItB b h it l 0 := by
  cases b
  · exact ⟨_, e, rfl, rfl⟩
  · exact ⟨_, e, rfl, rfl⟩
section
variable {X : Cx} {pins : List (Addr × Obj)} {σ : L2.St} {H : Hs} {s : Shared} {a : Addr} {xs ys : List V} {b : Bool}
theorem sqB_at (I : Inv X pins σ H s) (h : SqB X.K b H a xs) : ∃ its, Vals xs its ∧ IsB b s.heap a its.toArray ∧ a < s.heap.objs.size := by
  cases b
  · obtain ⟨its, rv, p, _⟩ := I.list (show SqL X.K H a xs from h)
    exact ⟨its, rv, p.isList, p.lt⟩
  · obtain ⟨its, rv, p, _⟩ := I.tuple (show SqT X.K H a xs from h)
    obtain ⟨o, e, _⟩ := id p
    exact ⟨its, rv, p, Heap.lt_size e⟩
theorem sqB_inj (I : Inv X pins σ H s) (h : SqB X.K b H a xs) (h' : SqB X.K b H a ys) : xs = ys := by
  cases b
  · exact I.list_inj h h'
  · exact I.tuple_inj h h'
end

/-! ### zip of two of them -/
def ItzB (K : PySem.W.Frag) (b1 b2 : Bool) (a b : Addr) : It :=
  ⟨fun i H => ∃ (xs ys : List V) (x y : V), SqB K b1 H a xs ∧ SqB K b2 H b ys ∧ xs[i]? = some x ∧ ys[i]? = some y,
    fun i H v H' => ∃ T x y, v = .ref T ∧ H T = none ∧ H' = upd H T (.tup [x, y]) ∧ (∀ xs, SqB K b1 H a xs → xs[i]? = some x) ∧ ∀ ys, SqB K b2 H b ys → ys[i]? = some y,
    fun i H => ∃ xs ys : List V, SqB K b1 H a xs ∧ SqB K b2 H b ys ∧ i ≤ xs.length ∧ i ≤ ys.length ∧ (i = xs.length ∨ i = ys.length)⟩
theorem zip_sep {z TI TO i1 i2 : Addr} {a b : Nat} (n : Nat) (ha : a < n) (hb : b < n) (e1 : i1 = n) (e2 : i2 = n + 1) (e3 : TI = n + 2) (e4 : TO = n + 3) (e5 : z = n + 4) : PySem.ZipSep2 z TI TO i1 i2 [i1, a] [i2, b] := by
  subst e1 e2 e3 e4 e5
  have nm : ∀ (x y u : Nat), x ≠ y → x ≠ u → (x : Addr) ∉ ([y, u] : List Addr) := fun x y u h1 h2 h => by
    rcases List.mem_cons.mp h with h | h
    · exact h1 h
    · exact h2 (List.mem_singleton.mp h)
  exact ⟨PySem.W.neN (by omega), PySem.W.neN (by omega), PySem.W.neN (by omega), PySem.W.neN (by omega), List.mem_cons_self, nm _ _ _ (by omega) (by omega), nm _ _ _ (by omega) (by omega), PySem.W.neN (by omega), List.mem_cons_self, nm _ _ _ (by omega) (by omega), nm _ _ _ (by omega) (by omega),
    nm _ _ _ (by omega) (by omega), nm _ _ _ (by omega) (by omega)⟩
theorem turn_zipB {P : Program} {w : World} {K : PySem.W.Frag} {elts : List Expr} {kk : Nat} {tpos : Pos} {a b z TI TO i1 i2 : Addr} {b1 b2 : Bool} (D : PySem.ZipSep2 z TI TO i1 i2 [i1, a] [i2, b]) (n1 : a ≠ i1) (n2 : b ≠ i2) :
    Turn P w K (.Tuple elts kk tpos) (ItzB K b1 b2 a b) [z, TI, TO, i1, i2] z (fun i h => IsZip h z TI TO .none ∧ IsTupOf2 h TI (.ref i1) (.ref i2) ∧ (∃ x y, IsTupOf2 h TO x y) ∧ ItB b1 h i1 a i ∧ ItB b2 h i2 b i) where
  mem := List.mem_cons_self
  obj := fun i h st c hc => by
    obtain ⟨hz, hTI, ⟨x, y, hTO⟩, h1, h2⟩ := st
    simp only [List.mem_cons, List.not_mem_nil, or_false] at hc
    rcases hc with rfl | rfl | rfl | rfl | rfl
    · exact ⟨_, hz, fun v q => nomatch q⟩
    · exact ⟨_, hTI, fun v q => nomatch q⟩
    · exact ⟨_, hTO, fun v q => nomatch q⟩
    · exact h1.obj
    · exact h2.obj
  keep := fun i h h' st k => by
    obtain ⟨hz, hTI, ⟨x, y, hTO⟩, h1, h2⟩ := st
    exact ⟨k z (by simp) _ hz, k TI (by simp) _ hTI, ⟨x, y, k TO (by simp) _ hTO⟩, h1.at fun o q => k i1 (by simp) o q, h2.at fun o q => k i2 (by simp) o q⟩
  item := by
    intro X hP hw hK hc i pins s σ H E I hf st hg
    subst hP hw hK
    obtain ⟨hz, hTI, ⟨x0, y0, hTO⟩, h1, h2⟩ := st
    obtain ⟨xs, ys, x, y, hqx, hqy, hx, hy⟩ := hg
    obtain ⟨its, rv, p, _⟩ := sqB_at I hqx
    obtain ⟨its2, rv2, p2, _⟩ := sqB_at I hqy
    have hh : X.A.in1.handled = none := I.ok.hd hc
    have lz : z < s.heap.objs.size := Heap.lt_size hz
    have lT : TI < s.heap.objs.size := Heap.lt_size hTI
    have lO : TO < s.heap.objs.size := Heap.lt_size hTO
    obtain ⟨o1, g1, _⟩ := h1.obj
    obtain ⟨o2, g2, _⟩ := h2.obj
    have lx : i < its.toArray.size := by
      have := (List.getElem?_eq_some_iff.mp hx).1
      rw [List.size_toArray, ← rv.length]; exact this
    have ly : i < its2.toArray.size := by
      have := (List.getElem?_eq_some_iff.mp hy).1
      rw [List.size_toArray, ← rv2.length]; exact this
    refine wpAny_pyNext_zipD2_item D (draws_B hh b1 i1 a n1 its.toArray) (draws_B hh b2 i2 b n2 its2.toArray) hz hTI hTO ⟨h1, p⟩ ⟨h2, p2⟩ lx ly fun u u2 h' tk hu hu2 z' TO' st1 st2 hT hsz hk => ?_
    refine ⟨_, rfl, wpAny_letOwnedTupleGo_zip (s := { s with heap := h', toks := tk }) z' fun h'' z'' sb => ?_⟩
    have ru : RelV x u := by
      obtain ⟨w1, e1, r1⟩ := rv.get hx
      have : its.toArray[i]? = some w1 := by simpa using e1
      rw [hu] at this
      cases this
      exact r1
    have ru2 : RelV y u2 := by
      obtain ⟨w1, e1, r1⟩ := rv2.get hy
      have : its2.toArray[i]? = some w1 := by simpa using e1
      rw [hu2] at this
      cases this
      exact r1
    have hT2 : h''.get? s.heap.objs.size = some { cls := .type "tuple", data := .seq #[u, u2] } := (sb.2 _ (Nat.ne_of_gt lz)).trans hT
    have new : ObjOk X.prog X.w (upd H s.heap.objs.size (.tup [x, y])) h'' s.heap.objs.size (.tup [x, y]) :=
      ⟨(by show 2 ≤ sizeLine; decide), [u, u2], .cons ru (.cons ru2 .nil), ⟨_, hT2, rfl, _, rfl⟩⟩
    have I1 : Inv X pins σ (upd H s.heap.objs.size (.tup [x, y])) { s with heap := h'', toks := tk } :=
      I.turnedNew (t' := tk) (ch := [z, TI, TO, i1, i2]) (fun c o hb q => (sb.2 c (fun q' => hb (by simp [q']))).trans (hk c o (fun q' => hb (by simp [q'])) (fun q' => hb (by simp [q'])) (fun q' => hb (by simp [q'])) (fun q' => hb (by simp [q'])) q)) hf (Nat.le_refl _) new
    refine ⟨.ref s.heap.objs.size, _, I1, rfl, ⟨_, x, y, rfl, I.hok.fresh (Nat.le_refl _), rfl, fun l hl => by rw [sqB_inj I hl hqx]; exact hx, fun l hl => by rw [sqB_inj I hl hqy]; exact hy⟩, ⟨z'', ?_, ⟨u, u2, ?_⟩, ?_, ?_⟩, fun c hcm => ?_⟩
    · exact (sb.2 _ D.TIz).trans (hk _ _ D.TIz D.TITO D.TIi1 D.TIi2 hTI)
    · exact (sb.2 _ D.TOz).trans TO'
    · exact st1.1.at fun o q => (sb.2 _ (Ne.symm D.zi1)).trans q
    · exact st2.1.at fun o q => (sb.2 _ (Ne.symm D.zi2)).trans q
    · rw [upd_ne]
      · exact (hf c hcm).1
      · simp only [List.mem_cons, List.not_mem_nil, or_false] at hcm
        rcases hcm with rfl | rfl | rfl | rfl | rfl
        · exact Nat.ne_of_lt lz
        · exact Nat.ne_of_lt lT
        · exact Nat.ne_of_lt lO
        · exact Nat.ne_of_lt (Heap.lt_size g1)
        · exact Nat.ne_of_lt (Heap.lt_size g2)
  done := by
    intro X hP hw hK hc i pins s σ H E I hf st hg
    subst hP hw hK
    obtain ⟨hz, hTI, ⟨x0, y0, hTO⟩, h1, h2⟩ := st
    obtain ⟨xs, ys, hqx, hqy, l1, l2, hend⟩ := hg
    obtain ⟨its, rv, p, _⟩ := sqB_at I hqx
    obtain ⟨its2, rv2, p2, _⟩ := sqB_at I hqy
    have hh : X.A.in1.handled = none := I.ok.hd hc
    have e1 : its.toArray.size = xs.length := by rw [List.size_toArray, ← rv.length]
    have e2 : its2.toArray.size = ys.length := by rw [List.size_toArray, ← rv2.length]
    exact wpAny_pyNext_zipD2_end D (draws_B hh b1 i1 a n1 its.toArray) (draws_B hh b2 i2 b n2 its2.toArray) hz hTI hTO ⟨h1, p⟩ ⟨h2, p2⟩ (by omega) (by omega) (by omega) fun h' tk hk => ⟨rfl, I.turnedL (t' := tk) (ch := [z, TI, TO, i1, i2]) (fun c o hb q =>
      hk c o (fun q' => hb (by simp [q'])) (fun q' => hb (by simp [q'])) (fun q' => hb (by simp [q'])) (fun q' => hb (by simp [q'])) q) hf⟩
  self := fun A i s Q E st h => wpAny_pyIter_zip st.1 h
def iZipB (K : PySem.W.Frag) (ta : TA) : TI := fun σ H R => ta σ H fun vs H1 => ∃ b1 b2 a b xs ys, vs = [.ref a, .ref b] ∧ SqB K b1 H1 a xs ∧ SqB K b2 H1 b ys ∧ R (ItzB K b1 b2 a b) H1
theorem pi_zipB {X : Cx} {e e2 : Expr} {ta : TA} {p pos tpos : Pos} {elts : List Expr} {kk : Nat} (hg : Gl X "zip") (hm : X.mg "zip" = none) (ha : PA X [e, e2] ta)
    (hs : starEach [e, e2] X.env = (false, eval e X.env) :: starEach [e2] X.env := by rfl) (hpl : (backTo pos (starEach [e2] X.env)).any (·.1) = false := by rfl) :
    PI X (.Tuple elts kk tpos) (.Call (.Name "zip" p) [e, e2] [] pos) (iZipB X.K ta) := ⟨fun pins s σ H R I h =>
  Call_ (ld_blt I hg hm PyProof.Rows.boot_zip (PyProof.Rows.callWith_type1 (thn (ha.run pos pins s σ H _ I h) fun us s1 ⟨vs, H1, I1, r1, q1⟩ => by
    obtain ⟨b1, b2, a, b, xs, ys, rfl, hqx, hqy, q⟩ := q1
    obtain ⟨u1, u2, rfl, r, r'⟩ := r1.two
    cases r
    cases r'
    obtain ⟨its, rv, p1, la⟩ := sqB_at I1 hqx
    obtain ⟨its2, rv2, p2, lb⟩ := sqB_at I1 hqy
    refine zip_begins2 (begins_B b1 a its.toArray) (begins_B b2 b its2.toArray) p1 p2 fun h' hz hTI hTO g1 g2 hsz hk => wpAny_pyIter_zip hz ?_
    have I2 : Inv X pins σ H1 { s1 with heap := h' } := I1.kept (t' := s1.toks) hk
    refine ⟨s1.heap.objs.size + 4, [s1.heap.objs.size + 4, s1.heap.objs.size + 2, s1.heap.objs.size + 3, s1.heap.objs.size, s1.heap.objs.size + 1], _, _, H1, rfl, I2, turn_zipB (zip_sep s1.heap.objs.size la lb rfl rfl rfl rfl rfl) (Nat.ne_of_lt la) (Nat.ne_of_lt (Nat.lt_succ_of_lt lb)), ⟨hz, hTI, ⟨_, _, hTO⟩, .new g1, .new g2⟩, fun c hcm => ?_, q⟩
    have hle : s1.heap.objs.size ≤ c := by
      simp only [List.mem_cons, List.not_mem_nil, or_false] at hcm
      rcases hcm with rfl | rfl | rfl | rfl | rfl <;> first | exact Nat.le_add_right _ _ | exact Nat.le_refl _
    exact I1.fpOk hle (I1.hok.fresh hle)) hs hpl))⟩

/-! ### enumerate(tuple) -/
theorem meets_enum_tup (l : Addr) (items : Array Value) (n : Nat) (dct : Option Addr) (sl : Array (Option Value)) :
    Meets (Builtin.«enumerate.__new__» ⟨[.type "enumerate", .ref l], []⟩) (fun _ R s => s.heap.get? l = some { cls := .type "tuple", dict := dct, data := .seq items n, slots := sl } ∧
      R (.ok (.ret (.ref (s.heap.push (objB true l)).objs.size)))
        { s with heap := (s.heap.push (objB true l)).push { cls := .type "enumerate", data := .fields #[.none, .bool false, .ref s.heap.objs.size, rawInt 0, .none, .none] } }) :=
  .of_wp fun prog w A R s h => by
    obtain ⟨hp, g, d, tk, os⟩ := s
    obtain ⟨hl, h⟩ := h
    have hsub := sub_enumerate
    have hT : Heap.IsTuple (Shared.heap ⟨hp, g, d, tk, os⟩) l items := ⟨_, hl, rfl, n, rfl⟩
    wp_walk using AutoSeq1.wpAny_loadPart' hl
    refine wpAny_stack_any fun st => wpAny_pure ?_
    split
    · rename_i c _ _ _ _ _
      cases (c == Value.type "enumerate")
      · wp_walk using AutoSeq1.wpAny_loadPart' hl, wpAny_pyIter_tuple hT
        exact ⟨_, rfl, h⟩
      · wp_walk using AutoSeq1.wpAny_loadPart' hl, wpAny_pyIter_tuple hT
        exact ⟨_, rfl, h⟩
    · wp_walk using AutoSeq1.wpAny_loadPart' hl, wpAny_pyIter_tuple hT
      exact ⟨_, rfl, h⟩
def IteB (K : PySem.W.Frag) (b : Bool) (a : Addr) : It :=
  ⟨fun i H => ∃ (xs : List V) (x : V), SqB K b H a xs ∧ xs[i]? = some x, fun i H v H' => ∃ T x, v = .ref T ∧ H T = none ∧ H' = upd H T (.tup [.int (i : Nat), x]) ∧ ∀ xs, SqB K b H a xs → xs[i]? = some x, fun i H => ∃ xs : List V, SqB K b H a xs ∧ i = xs.length⟩
theorem turn_enumB {P : Program} {w : World} {K : PySem.W.Frag} {elts : List Expr} {kk : Nat} {tpos : Pos} (b : Bool) (a e it : Addr) (nit : a ≠ it) (nea : e ≠ a) (nei : e ≠ it) :
    Turn P w K (.Tuple elts kk tpos) (IteB K b a) [e, it] e (fun i h => (∃ old, IsEnum h e it ((i : Nat) : Int) old) ∧ ItB b h it a i) where
  mem := List.mem_cons_self
  obj := fun i h st c hc => by
    obtain ⟨⟨old, he⟩, h1⟩ := st
    simp only [List.mem_cons, List.not_mem_nil, or_false] at hc
    rcases hc with rfl | rfl
    · exact ⟨_, he, fun v q => nomatch q⟩
    · exact h1.obj
  keep := fun i h h' st k => let ⟨⟨old, he⟩, h1⟩ := st; ⟨⟨old, k e (by simp) _ he⟩, h1.at fun o q => k it (by simp) o q⟩
  item := by
    intro X hP hw hK hc i pins s σ H E I hf st hg
    subst hP hw hK
    obtain ⟨⟨old, he⟩, h1⟩ := st
    obtain ⟨xs, x, hq, hx⟩ := hg
    obtain ⟨its, rv, p, _⟩ := sqB_at I hq
    have hh : X.A.in1.handled = none := I.ok.hd hc
    have lx : i < its.toArray.size := by
      have := (List.getElem?_eq_some_iff.mp hx).1
      rw [List.size_toArray, ← rv.length]; exact this
    have lel : e < s.heap.objs.size := Heap.lt_size he
    obtain ⟨o1, g1, _⟩ := h1.obj
    have lil : it < s.heap.objs.size := Heap.lt_size g1
    refine wpAny_pyNext_enum_itemD (draws_B hh b it a nit its.toArray) he ⟨h1, p⟩ lx nei (by simp [nei, nea]) fun u h' tk hu ho st1 hT hsz hk => ?_
    refine ⟨_, rfl, wpAny_letOwnedTupleGo_enum (s := { s with heap := h', toks := tk + 1 }) ho fun h'' he' sb => ?_⟩
    have ru : RelV x u := by
      obtain ⟨w1, e1, r1⟩ := rv.get hx
      have : its.toArray[i]? = some w1 := by simpa using e1
      rw [hu] at this
      cases this
      exact r1
    have hT2 : h''.get? s.heap.objs.size = some { cls := .type "tuple", data := .seq #[.int i tk, u] } := (sb.2 _ (Nat.ne_of_gt lel)).trans hT
    have new : ObjOk X.prog X.w (upd H s.heap.objs.size (.tup [.int (i : Nat), x])) h'' s.heap.objs.size (.tup [.int (i : Nat), x]) :=
      ⟨(by show 2 ≤ sizeLine; decide), [.int i tk, u], .cons ⟨_, rfl⟩ (.cons ru .nil), ⟨_, hT2, rfl, _, rfl⟩⟩
    have I1 : Inv X pins σ (upd H s.heap.objs.size (.tup [.int (i : Nat), x])) { s with heap := h'', toks := tk + 1 } :=
      I.turnedNew (t' := tk + 1) (ch := [e, it]) (fun c o hb q => (sb.2 c (fun z => hb (by simp [z]))).trans (hk c o (fun z => hb (by simp [z])) (fun z => hb (by simp [z])) q)) hf (Nat.le_refl _) new
    refine ⟨.ref s.heap.objs.size, _, I1, rfl, ⟨_, x, rfl, I.hok.fresh (Nat.le_refl _), rfl, fun ys hy => by rw [sqB_inj I hy hq]; exact hx⟩, ⟨⟨u, ?_⟩, st1.1.at fun o q => (sb.2 it (Ne.symm nei)).trans q⟩, fun c hcm => ?_⟩
    · rw [show ((i + 1 : Nat) : Int) = (i : Int) + 1 by omega]
      exact he'
    · rw [upd_ne]
      · exact (hf c hcm).1
      · simp only [List.mem_cons, List.not_mem_nil, or_false] at hcm
        rcases hcm with rfl | rfl
        · exact Nat.ne_of_lt lel
        · exact Nat.ne_of_lt lil
  done := by
    intro X hP hw hK hc i pins s σ H E I hf st hg
    subst hP hw hK
    obtain ⟨⟨old, he⟩, h1⟩ := st
    obtain ⟨xs, hq, hx⟩ := hg
    obtain ⟨its, rv, p, _⟩ := sqB_at I hq
    have hh : X.A.in1.handled = none := I.ok.hd hc
    obtain ⟨f0, f1, f2, f3, f4, f5⟩ := hf it (by simp)
    have e1 : i = its.toArray.size := by rw [List.size_toArray, ← rv.length]; exact hx
    refine wpAny_pyNext_enum_endD (draws_B hh b it a nit its.toArray) he (by rw [← e1]; exact ⟨h1, p⟩) fun h' eb => ⟨rfl, I.turned (t' := s.toks) (fun c o hb q => eb c o hb q) f0 f1 f3 f4 f5⟩
  self := fun A i s Q E st h => let ⟨⟨_, he⟩, _⟩ := st; wpAny_pyIter_enum he h
def iEnumT (K : PySem.W.Frag) (ta : TA) : TI := fun σ H R => ta σ H fun vs H1 => ∃ a xs, vs = [.ref a] ∧ SqT K H1 a xs ∧ R (IteB K true a) H1
theorem pi_enumT {X : Cx} {e : Expr} {ta : TA} {p pos tpos : Pos} {elts : List Expr} {kk : Nat} (hg : Gl X "enumerate") (hm : X.mg "enumerate" = none) (ha : PA X [e] ta) (hs : starEach [e] X.env = [(false, eval e X.env)] := by rfl) :
    PI X (.Tuple elts kk tpos) (.Call (.Name "enumerate" p) [e] [] pos) (iEnumT X.K ta) := ⟨fun pins s σ H R I h =>
  Call_ (ld_blt I hg hm boot_enumerate (PyProof.Rows.callWith_type1 (thn (ha.run pos pins s σ H _ I h) fun us s1 ⟨vs, H1, I1, r1, q1⟩ => by
    obtain ⟨a, xs, rfl, hq, q⟩ := q1
    obtain ⟨u, rfl, r⟩ := r1.one
    cases r
    obtain ⟨its, rv, ⟨⟨oc, od, odt, osl⟩, ho, hc, n, hd⟩, la⟩ := sqB_at (b := true) I1 hq
    dsimp only at hc hd
    subst hc hd
    refine callType_new F.called_enumerate (by decide) (F.typeCall_enumerate_1 _) (F.newCall_enumerate_1 _) (fun obj => F.args_object_init_2 obj _) F.entry_enumerate_new (meets_enum_tup a its.toArray n od osl) ⟨ho, ?_⟩
    have hz : (s1.heap.push (objB true a)).objs.size = s1.heap.objs.size + 1 := Heap.size_push ..
    have g2 : ((s1.heap.push (objB true a)).push { cls := .type "enumerate", data := .fields #[.none, .bool false, .ref s1.heap.objs.size, rawInt 0, .none, .none] }).get? (s1.heap.push (objB true a)).objs.size = some { cls := .type "enumerate", data := .fields #[.none, .bool false, .ref s1.heap.objs.size, rawInt 0, .none, .none] } := Heap.get?_push_size _ rfl
    have g1 : ((s1.heap.push (objB true a)).push { cls := .type "enumerate", data := .fields #[.none, .bool false, .ref s1.heap.objs.size, rawInt 0, .none, .none] }).get? s1.heap.objs.size = some (objB true a) := Heap.get?_push_of_some _ (Heap.get?_push_size _ rfl)
    rw [hz] at g2
    show _ ∧ _
    rw [hz]
    refine ⟨⟨_, g2, rfl⟩, wpAny_pyIter_enum (s := { s1 with heap := _ }) g2 ?_⟩
    have I2 : Inv X pins σ H1 { s1 with heap := (s1.heap.push (objB true a)).push { cls := .type "enumerate", data := .fields #[.none, .bool false, .ref s1.heap.objs.size, rawInt 0, .none, .none] } } := I1.kept (t' := s1.toks) fun b o q => Heap.get?_push_of_some _ (Heap.get?_push_of_some _ q)
    refine ⟨s1.heap.objs.size + 1, [s1.heap.objs.size + 1, s1.heap.objs.size], _, _, H1, rfl, I2, turn_enumB true a (s1.heap.objs.size + 1) s1.heap.objs.size (Nat.ne_of_lt la) (Nat.ne_of_gt (Nat.lt_succ_of_lt la)) (Nat.succ_ne_self _), ⟨⟨.none, g2⟩, .new g1⟩, fun c hcm => ?_, q⟩
    have hle : s1.heap.objs.size ≤ c := by
      simp only [List.mem_cons, List.not_mem_nil, or_false] at hcm
      rcases hcm with rfl | rfl <;> first | exact Nat.le_add_right _ _ | exact Nat.le_refl _
    exact I1.fpOk hle (I1.hok.fresh hle)) hs rfl))⟩
end Dl

set_option Elab.async false
set_option linter.all false
set_option maxRecDepth 100000
set_option maxHeartbeats 4000000
namespace Dl
open PySem PySem.Spec PyProof.Rows L2

/-! ### what is walked: pairs, a dict's keys -/
def enumD : Nat → List PyData → List PyData
  | _, [] => []
  | n, d :: ds => .tuple [.int n, d] :: enumD (n + 1) ds
theorem enumD_get : ∀ (ds : List PyData) (n i : Nat), (enumD n ds)[i]? = (ds[i]?).map fun d => .tuple [.int ((n + i : Nat) : Int), d]
  | [], n, i => by simp [enumD]
  | d :: ds, n, 0 => by simp [enumD]
  | d :: ds, n, i + 1 => by
    have := enumD_get ds (n + 1) i
    simp only [enumD, List.getElem?_cons_succ]
    rw [this, show n + 1 + i = n + (i + 1) by omega]
theorem enumD_len : ∀ (ds : List PyData) (n : Nat), (enumD n ds).length = ds.length
  | [], _ => rfl
  | d :: ds, n => by simp only [enumD, List.length_cons, enumD_len ds (n + 1)]
def zipD : List PyData → List PyData → List PyData
  | a :: as, b :: bs => .tuple [a, b] :: zipD as bs
  | _, _ => []
theorem zipD_get : ∀ (as bs : List PyData) (i : Nat) (d : PyData), (zipD as bs)[i]? = some d → ∃ a b, as[i]? = some a ∧ bs[i]? = some b ∧ d = .tuple [a, b]
  | [], _, i, d, e => by simp [zipD] at e
  | _ :: _, [], i, d, e => by simp [zipD] at e
  | a :: as, b :: bs, 0, d, e => by
    simp only [zipD, List.getElem?_cons_zero] at e
    cases e
    exact ⟨a, b, rfl, rfl, rfl⟩
  | a :: as, b :: bs, i + 1, d, e => by
    simp only [zipD, List.getElem?_cons_succ] at e
    obtain ⟨x, y, h1, h2, h3⟩ := zipD_get as bs i d e
    exact ⟨x, y, by simpa using h1, by simpa using h2, h3⟩
theorem zipD_len : ∀ (as bs : List PyData), (zipD as bs).length = min as.length bs.length
  | [], _ => by simp [zipD]
  | _ :: _, [] => by simp [zipD]
  | a :: as, b :: bs => by simp only [zipD, List.length_cons, zipD_len as bs]; omega
/-- the items of a frozen list | tuple at x, with the kind -/
def FzB (K : PySem.W.Frag) (b : Bool) (F : Hs) (a : Addr) (ds : List PyData) : Prop := ∃ vs, Fzs F vs ds ∧ F a = some (if b = true then HO.tup vs else HO.lst vs)
theorem FzB.sq {K : PySem.W.Frag} {b : Bool} {F H : Hs} {a : Addr} {ds : List PyData} (h : FzB K b F a ds) (l : Le F H) : ∃ vs, Fzs F vs ds ∧ SqB K b H a vs := by
  obtain ⟨vs, z, e⟩ := h
  refine ⟨vs, z, ?_⟩
  cases b
  · exact SqL.of (l _ _ e)
  · exact SqT.of (l _ _ e)
theorem walks_enum {K : PySem.W.Frag} {F : Hs} {a : Addr} {vs : List V} {ds : List PyData} (h : F a = some (.lst vs)) (z : Fzs F vs ds) : Walks (Ite K a) F (enumD 0 ds) := fun i F1 H1 l1 l2 => by
  have q : SqL K H1 a vs := SqL.of (l2 _ _ (l1 _ _ h))
  refine ⟨fun d e => ?_, fun hl => ⟨vs, q, by rw [enumD_len] at hl; rw [z.length]; exact Nat.le_of_eq hl⟩⟩
  rw [enumD_get] at e
  obtain ⟨d0, e0, rfl⟩ := Option.map_eq_some_iff.mp e
  obtain ⟨v, e1, z1⟩ := z.get e0
  refine ⟨⟨vs, v, q, e1⟩, fun x H' y => ?_⟩
  obtain ⟨T, x1, rfl, hT, rfl, hx⟩ := y
  have e2 := hx vs q
  rw [e1] at e2
  cases e2
  refine ⟨_, Grow.new l2 hT, .tup upd_same (.cons ?_ (.cons ((z1.to l1).to (Le.new (l2.nn hT))) .nil))⟩
  rw [Nat.zero_add]
  exact .int _
theorem walks_enumT {K : PySem.W.Frag} {F : Hs} {a : Addr} {vs : List V} {ds : List PyData} (h : F a = some (.tup vs)) (z : Fzs F vs ds) : Walks (IteB K true a) F (enumD 0 ds) := fun i F1 H1 l1 l2 => by
  have q : SqB K true H1 a vs := SqT.of (l2 _ _ (l1 _ _ h))
  refine ⟨fun d e => ?_, fun hl => ⟨vs, q, by rw [enumD_len] at hl; rw [z.length]; exact hl.symm⟩⟩
  rw [enumD_get] at e
  obtain ⟨d0, e0, rfl⟩ := Option.map_eq_some_iff.mp e
  obtain ⟨v, e1, z1⟩ := z.get e0
  refine ⟨⟨vs, v, q, e1⟩, fun x H' y => ?_⟩
  obtain ⟨T, x1, rfl, hT, rfl, hx⟩ := y
  have e2 := hx vs q
  rw [e1] at e2
  cases e2
  refine ⟨_, Grow.new l2 hT, .tup upd_same (.cons ?_ (.cons ((z1.to l1).to (Le.new (l2.nn hT))) .nil))⟩
  rw [Nat.zero_add]
  exact .int _
/-- the frozen sequence at a -/
def SeqF (b : Bool) (F : Hs) (a : Addr) (vs : List V) : Prop := F a = some (if b = true then HO.tup vs else HO.lst vs)
theorem SeqF.sq {K : PySem.W.Frag} {b : Bool} {F H : Hs} {a : Addr} {vs : List V} (h : SeqF b F a vs) (l : Le F H) : SqB K b H a vs := by
  cases b
  · exact SqL.of (l _ _ h)
  · exact SqT.of (l _ _ h)
theorem seqF_of {F : Hs} {v : V} {d : PyData} {ds : List PyData} (z : Fz F v d) (e : d = .list ds ∨ d = .tuple ds) : ∃ b a vs, v = .ref a ∧ SeqF b F a vs ∧ Fzs F vs ds := by
  rcases e with rfl | rfl
  · cases z with | lst h1 h2 => exact ⟨false, _, _, rfl, h1, h2⟩
  · cases z with | tup h1 h2 => exact ⟨true, _, _, rfl, h1, h2⟩
theorem walks_zip {K : PySem.W.Frag} {F : Hs} {b1 b2 : Bool} {a b : Addr} {vs us : List V} {ds es : List PyData} (h1 : SeqF b1 F a vs) (h2 : SeqF b2 F b us) (z1 : Fzs F vs ds) (z2 : Fzs F us es) : Walks (ItzB K b1 b2 a b) F (zipD ds es) := fun i F1 H1 l1 l2 => by
  have q1 : SqB K b1 H1 a vs := h1.sq (l1.trans l2)
  have q2 : SqB K b2 H1 b us := h2.sq (l1.trans l2)
  have n1 := z1.length
  have n2 := z2.length
  refine ⟨fun d e => ?_, fun hl => ⟨vs, us, q1, q2, ?_, ?_, ?_⟩⟩
  · obtain ⟨x, y, ex, ey, rfl⟩ := zipD_get ds es i d e
    obtain ⟨v, e1, w1⟩ := z1.get ex
    obtain ⟨u, e2, w2⟩ := z2.get ey
    refine ⟨⟨vs, us, v, u, q1, q2, e1, e2⟩, fun x' H' yy => ?_⟩
    obtain ⟨T, x1, y1, rfl, hT, rfl, hx, hy⟩ := yy
    have e3 := hx vs q1
    rw [e1] at e3
    cases e3
    have e4 := hy us q2
    rw [e2] at e4
    cases e4
    exact ⟨_, Grow.new l2 hT, .tup upd_same (.cons ((w1.to l1).to (Le.new (l2.nn hT))) (.cons ((w2.to l1).to (Le.new (l2.nn hT))) .nil))⟩
  all_goals (rw [zipD_len] at hl; omega)
def seqOf : PyData → Option (List PyData)
  | .list ds => some ds
  | .tuple ds => some ds
  | _ => none
theorem seqOf_some {d : PyData} {ds : List PyData} (e : seqOf d = some ds) : d = .list ds ∨ d = .tuple ds := by
  cases d <;> cases e
  · exact .inl rfl
  · exact .inr rfl
def enumE (fa : S → Out (List PyData)) : S → Out (List PyData) := fun s => (fa s).bind fun ds s1 => match ds with
  | [d] => Out.opt ((seqOf d).map (enumD 0)) s1
  | _ => .er
def zipE (fa : S → Out (List PyData)) : S → Out (List PyData) := fun s => (fa s).bind fun ds s1 => match ds with
  | [d, e] => match seqOf d, seqOf e with
    | some xs, some ys => .ok (zipD xs ys) s1
    | _, _ => .er
  | _ => .er
section
variable {C : Cn} {fa : S → Out (List PyData)} {e1 e2 : Expr} {elts : List Expr} {kk : Nat} {tpos p pos : Pos}
theorem ci_enum (hg : Gl C.X "enumerate") (hm : C.X.mg "enumerate" = none) (ha : CA C [e1] fa) (hs : starEach [e1] C.X.env = [(false, eval e1 C.X.env)] := by rfl) : CI C (.Tuple elts kk tpos) (.Call (.Name "enumerate" p) [e1] [] pos) (enumE fa) :=
  ⟨PI.imp (PI.or (pi_enum hg hm ha.run hs) (pi_enumT hg hm ha.run hs)) fun σ H R h0 => by
    obtain ⟨F, A, s, at0, h⟩ := evI_at.mp h0
    unfold enumE at h
    have run : ∀ Q1 : List V → Hs → Prop, (∀ d s1 F1 H1 A1 v ds, fa s = .ok [d] s1 → At C σ H1 s1 F1 A1 → Fz F1 v d → seqOf d = some ds → (pkI C σ R).at (.ok (enumD 0 ds) s1) F1 H1 A1 → Q1 [v] H1) → EvL C fa σ H Q1 := fun Q1 cont => by
      refine ⟨F, A, s, at0, ?_⟩
      cases e : fa s with
      | ok ds s1 =>
        rw [e] at h
        intro F' H' A' vs t r z
        have h2 := PK.atm at0.g t h
        match ds, z, h2, e with
        | [d], .cons z1 .nil, h2, e =>
          cases eq : seqOf d with
          | none =>
            have h3 : (pkI C σ R).at (Out.opt ((seqOf d).map (enumD 0)) s1) F' H' A' := h2
            rw [eq] at h3
            exact h3.elim
          | some ds =>
            have h3 : (pkI C σ R).at (Out.opt ((seqOf d).map (enumD 0)) s1) F' H' A' := h2
            rw [eq] at h3
            exact cont d s1 F' H' A' _ ds e ⟨t.good, r⟩ z1 eq h3
        | [], _, h2, _ => exact h2.elim
        | _ :: _ :: _, _, h2, _ => exact h2.elim
      | ex c s1 =>
        rw [e] at h
        exact h
      | er =>
        rw [e] at h
        exact h.elim
    by_cases hT : ∃ ds s1, fa s = .ok [.tuple ds] s1
    · obtain ⟨ds0, s0, e0⟩ := hT
      refine .inr (run _ fun d s1 F1 H1 A1 v ds e at1 z eq hh => ?_)
      rw [e0] at e
      cases e
      cases eq
      cases z with
      | @tup a vs _ hx rx => exact ⟨a, vs, rfl, SqT.of (at1.g.fh _ _ hx), hh F1 H1 A1 _ at1.g.step at1.r (walks_enumT hx rx)⟩
    · refine .inl (run _ fun d s1 F1 H1 A1 v ds e at1 z eq hh => ?_)
      rcases seqOf_some eq with rfl | rfl
      · cases z with
        | @lst a vs _ hx rx => exact ⟨a, vs, rfl, SqL.of (at1.g.fh _ _ hx), hh F1 H1 A1 _ at1.g.step at1.r (walks_enum hx rx)⟩
      · exact absurd ⟨ds, s1, e⟩ hT⟩
theorem ci_zip (hg : Gl C.X "zip") (hm : C.X.mg "zip" = none) (ha : CA C [e1, e2] fa) (hs : starEach [e1, e2] C.X.env = (false, eval e1 C.X.env) :: starEach [e2] C.X.env := by rfl) (hpl : (backTo pos (starEach [e2] C.X.env)).any (·.1) = false := by rfl) :
    CI C (.Tuple elts kk tpos) (.Call (.Name "zip" p) [e1, e2] [] pos) (zipE fa) := ⟨PI.imp (pi_zipB hg hm ha.run hs hpl) fun σ H R h0 => by
    obtain ⟨F, A, s, at0, h⟩ := evI_at.mp h0
    refine evL_bind at0 h fun ds s1 F1 H1 A1 vs at1 _ z1 h1 => ?_
    match ds, z1, h1 with
    | [d, e], .cons z1 (.cons z2 .nil), h1 =>
      have h2 : (pkI C σ R).at (match seqOf d, seqOf e with
        | some xs, some ys => (.ok (zipD xs ys) s1 : Out (List PyData))
        | _, _ => .er) F1 H1 A1 := h1
      cases q1 : seqOf d with
      | none => rw [q1] at h2; exact h2.elim
      | some xs =>
        cases q2 : seqOf e with
        | none => rw [q1, q2] at h2; exact h2.elim
        | some ys =>
          rw [q1, q2] at h2
          obtain ⟨b1, a, vs, rfl, sa, za⟩ := seqF_of z1 (seqOf_some q1)
          obtain ⟨b2, b, us, rfl, sb, zb⟩ := seqF_of z2 (seqOf_some q2)
          exact ⟨b1, b2, a, b, vs, us, rfl, sa.sq at1.g.fh, sb.sq at1.g.fh, h2 F1 H1 A1 _ at1.g.step at1.r (walks_zip sa sb za zb)⟩
    | [], _, h1 => exact h1.elim
    | [_], _, h1 => exact h1.elim
    | _ :: _ :: _ :: _, _, h1 => exact h1.elim⟩
end

/-! ### the keys of a dict that stays -/
def Itdo (P : Program) (w : World) (a : Addr) (o : Obj) (xs : Xs) : It :=
  ⟨fun i H => (H a = some (dO P w a o xs) ∧ ∀ x ∈ xs, KAt H x.1 x.2.1) ∧ i < xs.length, fun i H x H' => H' = H ∧ ∃ k b v, xs[i]? = some (k, b, v) ∧ x = .ref b, fun i H => (H a = some (dO P w a o xs) ∧ ∀ x ∈ xs, KAt H x.1 x.2.1) ∧ xs.length ≤ i⟩
theorem dO_obj {X : Cx} {pins : List (Addr × Obj)} {σ : L2.St} {H : Hs} {s : Shared} {a : Addr} {o : Obj} {xs : Xs} (I : Inv X pins σ H s) (e : H a = some (dO X.prog X.w a o xs)) (hk : ∀ x ∈ xs, KAt H x.1 x.2.1) : (a == sysModules) = false ∧ s.heap.get? a = some o ∧ o.ExactDict ∧
    ∃ es ep, o.data = .dict es ep ∧ es.size = xs.length ∧ ∀ (i : Nat) x, xs[i]? = some x → ∃ en, es[i]? = some en ∧ en.key = .ref x.2.1 := by
  obtain ⟨⟨h1, h2, h3, xv, rel, es, ep, h4, h5, h6, h7⟩, _, _⟩ := (show ObjOk X.prog X.w H s.heap a (dO X.prog X.w a o xs) from I.hok a _ e)
  refine ⟨h2, h1, h4, es, ep, h5, by rw [size_of_entries h6, ← Paired.length rel], fun i x hx => ?_⟩
  obtain ⟨y, hy, r1, r2, r3⟩ := pair_getL rel hx
  have q := entry_at h6 i
  rw [hy] at q
  exact ⟨_, q, by show Value.ref y.2.1 = _; rw [r2]⟩
theorem turn_dkeys {P : Program} {w : World} {K : PySem.W.Frag} {tg : Expr} {d : Addr} {o : Obj} {xs : Xs} (it : Addr) {es0 : Array DictEntry} {ep : Nat} (hod : o.data = .dict es0 ep) : Turn P w K tg (Itdo P w d o xs) [it] it (fun i h => h.IsKeyIter it d i xs.length ep) where
  mem := List.mem_cons_self
  obj := fun i h st b hb => by
    obtain rfl := List.mem_singleton.mp hb
    obtain ⟨oi, e, c, dd⟩ := st
    exact ⟨oi, e, fun v z => by rw [dd] at z; cases z⟩
  keep := fun i h h' st k => st.at fun oi e => k it (by simp) oi e
  item := by
    intro X hP hw hK hc i pins s σ H E I hf st hg
    subst hP hw hK
    obtain ⟨⟨hd, hk⟩, hi⟩ := hg
    obtain ⟨f0, f1, f2, f3, f4, f5⟩ := hf it (by simp)
    obtain ⟨_, hgd, hx, es, ep', hdt, hsz, ent⟩ := dO_obj I hd hk
    obtain ⟨rfl, rfl⟩ := dict_ep hod hdt
    have e0 : xs[i]? = some xs[i] := List.getElem?_eq_getElem hi
    obtain ⟨en, hen, hkey⟩ := ent i _ e0
    refine next_key_item st hgd hdt hsz hen fun h' st' sb => ?_
    have I1 : Inv X pins σ H { s with heap := h' } := I.turned (t' := s.toks) (fun b ob hb e => (sb.2 b hb).trans e) f0 f1 f3 f4 f5
    obtain ⟨oi, e, c, dd⟩ := id st'
    exact ⟨en.key, rfl, go_of (s := { s with heap := h' }) e c dd (by decide) ⟨.ref xs[i].2.1, H, I1, hkey, ⟨rfl, xs[i].1, xs[i].2.1, xs[i].2.2, e0, rfl⟩, st', fun b hb => (hf b hb).1⟩⟩
  done := by
    intro X hP hw hK hc i pins s σ H E I hf st hg
    subst hP hw hK
    obtain ⟨⟨hd, hk⟩, hi⟩ := hg
    obtain ⟨f0, f1, f2, f3, f4, f5⟩ := hf it (by simp)
    obtain ⟨_, hgd, hx, es, ep', hdt, hsz, ent⟩ := dO_obj I hd hk
    obtain ⟨rfl, rfl⟩ := dict_ep hod hdt
    exact next_key_end (I.ok.hd hc) st hgd hdt hsz hi fun h' eb => ⟨rfl, I.turned (t' := s.toks) (fun b ob hb e => eb b ob hb e) f0 f1 f3 f4 f5⟩
  self := fun A i s Q E st h => by
    refine wpAny_pyIter_slot st.typeIs F.slot_dict_keyiterator_iter (wpAny_call_entry F.slot_dict_keyiterator_iter st.typeIs F.entry_dict_keyiterator_iter ?_ (F.args_dict_keyiterator_iter_1 _))
    show wpAny _ _ (ret (.ref it)) _ _ s
    exact wpAny_pure ⟨_, rfl, "dict_keyiterator", _, st.typeIs, F.slot_dict_keyiterator_next.lookup, h⟩
def iDk (P : Program) (w : World) (td : TE) : TI := fun σ H R => td σ H fun x H1 => ∃ a o xs, x = .ref a ∧ H1 a = some (dO P w a o xs) ∧ (∀ x ∈ xs, KAt H1 x.1 x.2.1) ∧ R (Itdo P w a o xs) H1
theorem pi_dkeys {X : Cx} {tg e : Expr} {td : TE} (he : PE X e td) : PI X tg e (iDk X.prog X.w td) := ⟨fun pins s σ H R I h => thn (he.run pins s σ H _ I h) fun u s1 ⟨x, H1, I1, rx, a, o, xs, ex, hd, hk, q⟩ => by
  subst ex
  obtain rfl : u = Value.ref a := rx
  obtain ⟨hs, hgd, hx, es, ep, hdt, hsz, ent⟩ := dO_obj I1 hd hk
  refine iter_keys hs hgd hx hdt (pi_one (tk := s1.toks) I1 _ (turn_dkeys _ hdt) ⟨_, Heap.get?_push_size _ rfl, rfl, ?_⟩ q)
  rw [hsz] <;> rfl⟩
def fdE (pl : Pl) : S → Out (List PyData) := fun s => match pl.get s with
  | some (.fd kvs) => .ok (kvs.map fun e => e.1.data) s
  | _ => .er
theorem ci_fd {C : Cn} {tg e : Expr} {pl : Pl} (h : CPl C e pl) : CI C tg e (fdE pl) := ⟨PI.imp (pi_dkeys (tg := tg) h.run) fun σ H R h0 => by
  obtain ⟨F, A, s, at0, hh⟩ := evI_at.mp h0
  unfold fdE at hh
  cases e1 : pl.get s with
  | none => rw [e1] at hh; exact hh.elim
  | some d =>
    rw [e1] at hh
    cases d with
    | fd kvs =>
      refine ⟨F, A, s, _, at0, e1, fun F1 H1 v w f => ?_⟩
      obtain ⟨L, A1, R1, _, r, _⟩ := f
      simp only [Rep] at r
      obtain ⟨a, o, xs, rfl, _, eF, ents⟩ := r
      refine ⟨a, o, xs, rfl, w.fh _ _ eF, ents_at w.fh ents, hh F1 H1 A _ (at0.grow w) (at0.grown w).r fun i F2 H2 l1 l2 => ?_⟩
      have hat : H2 a = some (dO C.X.prog C.X.w a o xs) := l2 _ _ (l1 _ _ eF)
      have hka : ∀ x ∈ xs, KAt H2 x.1 x.2.1 := fun x hx => by
        obtain ⟨F3, l3, k1, k2⟩ := ents_at (Le.refl F1) ents x hx
        exact ⟨F3, (l3.trans l1).trans l2, k1, k2⟩
      have hlen : xs.length = kvs.length := Paired.length ents
      refine ⟨fun d e => ?_, fun hl => ⟨⟨hat, hka⟩, by rw [List.length_map] at hl; omega⟩⟩
      rw [List.getElem?_map] at e
      obtain ⟨e0, h0, rfl⟩ := Option.map_eq_some_iff.mp e
      obtain ⟨x0, hx0, re⟩ := pair_getR ents h0
      refine ⟨⟨⟨hat, hka⟩, (List.getElem?_eq_some_iff.mp hx0).1⟩, fun x H' y => ?_⟩
      obtain ⟨rfl, k, b, v, e5, rfl⟩ := y
      rw [hx0] at e5
      cases e5
      exact ⟨F2, Grow.refl l2, by rw [← re.key]; exact (key_data _ _ re.fk).to l1⟩
    | _ => exact hh.elim⟩

/-! ### sorted -/
def srcOf : D → Option (List PyData)
  | .p d => seqOf d
  | .d kvs => some (kvs.map fun e => e.1.data)
  | .fd kvs => some (kvs.map fun e => e.1.data)
  | _ => none
def sortedE (f : S → Out D) : S → Out D := fun s => (f s).bind fun d s1 => match srcOf d with
  | some ds => if sortOk ds = true then .ok (.p (.list (sortD ds))) s1 else .er
  | none => .er
theorem ce_sorted {C : Cn} {e : Expr} {f : S → Out D} {p pos : Pos} (hc : C.X.calm = true) (hu : C.X.A.units + 64 < cLine) (he : CE C e f) (hg : Gl C.X "sorted") (hm : C.X.mg "sorted" = none) (hv : bootBuiltins ("sorted" : Str) = some (.builtin "sorted") := by first | rfl | decide +kernel)
    (hs : starEach [e] C.X.env = (false, eval e C.X.env) :: starEach [] C.X.env := by rfl) (hpl : (backTo pos (starEach [] C.X.env)).any (·.1) = false := by rfl) : CE C (.Call (.Name "sorted" p) [e] [] pos) (sortedE f) :=
  ⟨PE.imp (pe_callB (crd_sorted hc hu) hg hm hv (pa_cons he.run pa_nil hs) (by decide) (by decide) hs hpl) fun σ H Q ⟨F, A, s, at0, h⟩ => evD_bind at0 h fun d s1 F1 H1 A1 T v st1 r1 q1 h1 => by
    cases ed : srcOf d with
    | none => rw [ed] at h1; exact h1.elim
    | some ds =>
      rw [ed] at h1
      have h1' : (pkD C σ Q).at (if sortOk ds = true then .ok (.p (.list (sortD ds))) s1 else .er) F H A := h1
      by_cases ok : sortOk ds = true
      · rw [if_pos ok] at h1'
        have at1 : At C σ H1 s1 F1 A1 := ⟨st1.sub.good, r1⟩
        refine ⟨F1, v, ds, rfl, st1.fh, ?_, ok, fun p us hp z => pkD_g at1 (Grow.new st1.fh hp) (.lst upd_same (z.to (Le.new (st1.fh.nn hp)))) (PK.atm at0.g st1.sub h1')⟩
        cases d with
        | p d =>
          rcases seqOf_some ed with rfl | rfl
          · exact .inl (Rep.p_iff.mp q1).2
          · exact .inr (.inl (Rep.p_iff.mp q1).2)
        | d kvs =>
          cases ed
          simp only [Rep] at q1
          obtain ⟨a, o, xs, rfl, rfl, eH, ents⟩ := q1
          exact .inr (.inr ⟨a, xs, kvs, rfl, ⟨o, eH, ents_at st1.fh ents⟩, ents, rfl⟩)
        | fd kvs =>
          cases ed
          simp only [Rep] at q1
          obtain ⟨a, o, xs, rfl, rfl, eF, ents⟩ := q1
          exact .inr (.inr ⟨a, xs, kvs, rfl, ⟨o, st1.fh _ _ eF, ents_at st1.fh ents⟩, ents, rfl⟩)
        | _ => cases ed
      · rw [if_neg ok] at h1'
        exact h1'.elim⟩
end Dl

set_option Elab.async false
set_option linter.all false
set_option maxRecDepth 100000
set_option maxHeartbeats 4000000
namespace Dl
open PySem PySem.Spec PyProof.Rows L2

/-! ### more values read without a change -/
def binQ (g : PyData → PyData → Option PyData) (qa qb : S → Option PyData) : S → Option PyData := fun s => (qa s).bind fun d => (qb s).bind fun e => g d e
def lstQ (qs : S → Option (List PyData)) : S → Option PyData := fun s => (qs s).map .list
def callQ (g : List PyData → Option PyData) (qs : S → Option (List PyData)) : S → Option PyData := fun s => (qs s).bind g
section
variable {C : Cn} {σ : L2.St} {F H F' H' : Hs} {A T : List Addr} {s s1 : S} {d d' : D} {put : D → S} {v : V} {e b : Expr} {pl : Pl} {q qb : S → Option PyData} {pos : Pos} {a : Addr} {f : S → Out D} {j : Nat} {x : Str} {ds : List D} {es : List Expr} {qs : S → Option (List PyData)}
theorem ev_binQ {g : PyData → PyData → Option PyData} {Q : VK} : EvQ C (binQ g q qb) σ H Q → tOp (rD g) (EvQ C q) (EvQ C qb) σ H Q := fun ⟨F, A, s, d, a, e, k⟩ => by
  obtain ⟨d1, e1, e⟩ := Option.bind_eq_some_iff.mp e
  obtain ⟨d2, e2, e⟩ := Option.bind_eq_some_iff.mp e
  exact ⟨F, A, s, d1, a, e1, fun F1 H1 v w1 z1 => ⟨F1, A, s, d2, a.grown w1, e2, fun F2 H2 u w2 z2 => ⟨F2, d1, d2, d, w2.fh, z1.to w2.ff, z2, e, fun F3 H3 z w3 z3 => k F3 H3 z ((w1.trans w2).trans w3) z3⟩⟩⟩
theorem cq_bin {op : Operator} {g : PyData → PyData → Option PyData} (ho : OpR C.X (binaryOp op) (rD g)) (ha : CQ C e q) (hb : CQ C b qb) : CQ C (.BinOp e op b pos) (binQ g q qb) := ⟨PE.imp (pe_op ho ha.run hb.run) fun _ _ _ => ev_binQ⟩
theorem cq_cmp {op : CmpOp} {g : PyData → PyData → Option PyData} (ho : OpR C.X (compareOp op) (rD g)) (ha : CQ C e q) (hb : CQ C b qb) (hm : behindInMarks op b = false) : CQ C (.Compare e [op] [b] pos) (binQ g q qb) := ⟨PE.imp (pe_cmpR ho ha.run hb.run hm) fun _ _ _ => ev_binQ⟩
theorem cq_lst (h : CQs C es qs) (hl : ∀ s ds, qs s = some ds → ds.length ≤ cap) : CQ C (.List es pos) (lstQ qs) := ⟨PE.imp (pe_lst h.run) fun σ H Q ⟨F, A, s, d, a, e, k⟩ => by
  obtain ⟨ds, e1, rfl⟩ := Option.map_eq_some_iff.mp e
  exact ⟨F, A, s, ds, a, e1, fun F1 H1 vs w1 z1 => ⟨by rw [z1.length]; exact cap_le (hl s ds e1), fun p hp => k _ _ _ (w1.trans (Grow.new w1.fh hp)) (.lst upd_same (z1.to (Le.new (w1.fh.nn hp))))⟩⟩⟩
theorem cq_callB {g : List PyData → Option PyData} {id : String} {p : Pos} (hc : CallR C.X (.builtin id) (rC g)) (hg : Gl C.X x) (hm : C.X.mg x = none) (hv : bootBuiltins x = some (.builtin id)) (ha : CQs C (e :: es) qs) (hn : x ≠ "__name__" := by decide) (hdb : (x == ("__debug__" : Str)) = false := by decide)
    (he : starEach (e :: es) C.X.env = (false, eval e C.X.env) :: starEach es C.X.env := by rfl) (hpl : (backTo pos (starEach es C.X.env)).any (·.1) = false := by rfl) : CQ C (.Call (.Name x p) (e :: es) [] pos) (callQ g qs) :=
  ⟨PE.imp (pe_callB hc hg hm hv ha.run hn hdb he hpl) fun σ H Q ⟨F, A, s, d, a, e, k⟩ => by
    obtain ⟨ds, e1, e2⟩ := Option.bind_eq_some_iff.mp e
    exact ⟨F, A, s, ds, a, e1, fun F1 H1 vs w1 z1 => ⟨F1, ds, d, w1.fh, z1, e2, fun F2 H2 z w2 z2 => k F2 H2 z (w1.trans w2) z2⟩⟩⟩
theorem cqs_len {n : Nat} (h : ∀ s ds, qs s = some ds → ds.length = n) (hq : q = q) : ∀ s ds, consQ q qs s = some ds → ds.length = n + 1 := fun s ds e => by
  unfold consQ at e
  cases e1 : q s with
  | none => rw [e1] at e; cases e
  | some d =>
    cases e2 : qs s with
    | none => rw [e1, e2] at e; cases e
    | some ds0 =>
      rw [e1, e2] at e
      cases e
      rw [List.length_cons, h s ds0 e2]
theorem cqs_nil_len : ∀ (s : S) (ds : List PyData), (fun _ => some []) s = some ds → ds.length = 0 := fun s ds e => by cases e; rfl

/-! ### lists at a name: x.append(any value) -/
def appE (j : Nat) (f : S → Out D) : S → Out D := fun s => match ((slotPl j).get s).bind ownL with
  | none => .er
  | some _ => (f s).bind fun d s1 => match ((slotPl j).get s1).bind ownL with
    | some ds => if ds.length < cap then .ok (.p .none) ((slotPl j).put (.l (ds ++ [d])) s1) else .er
    | none => .er
theorem ce_appendE {apos cpos px : Pos} (hx : PE C.X (.Name x px) (tVar j)) (he : CE C b f) (hbase : attributeBase (.Name x px) "append" C.X.env (eval (.Name x px) C.X.env) = eval (.Name x px) C.X.env := by rfl)
    (hfew : ((backTo cpos (starEach [b] C.X.env)).all (fun x => !x.1) && (backToKw cpos (keywordEach [] C.X.env)).all (fun x => x.1.isSome)
      && decide (([b] : List Expr).length + ([] : List Keyword).length + (if ([] : List Keyword).isEmpty then 0 else 1) < 30)) = true := by rfl)
    (hline : (apos.endLine == cpos.line) = true := by rfl) (hs : starEach [b] C.X.env = (false, eval b C.X.env) :: starEach [] C.X.env := by rfl) : CE C (.Call (.Attribute (.Name x px) "append" apos) [b] [] cpos) (appE j f) :=
  ⟨PE.imp (pe_bm F.plainAttrs_list F.slot_list_append F.type_list_append mtr_append hx (pa_cons he.run pa_nil hs) hbase hfew hline hs) fun σ H Q ⟨F, A, s, at0, h⟩ => by
    unfold appE at h
    cases e0 : ((slotPl j).get s).bind ownL with
    | none => rw [e0] at h; exact h.elim
    | some ds0 =>
      rw [e0] at h
      obtain ⟨d1, e1, e4⟩ := Option.bind_eq_some_iff.mp e0
      obtain rfl := ownL_some e4
      obtain ⟨v, ej, fo⟩ := foc_slot at0 e1
      obtain ⟨a, vs0, _, rfl, ea0, _⟩ := fo.list
      refine ⟨_, ej, tyV_list ea0, evD_bind at0 h fun d s1 F1 H1 A1 T u st1 r1 q1 h1 => ?_⟩
      cases e5 : ((slotPl j).get s1).bind ownL with
      | none => rw [e5] at h1; exact h1.elim
      | some ds =>
        rw [e5] at h1
        obtain ⟨d2, e6, e7⟩ := Option.bind_eq_some_iff.mp e5
        obtain rfl := ownL_some e7
        have h1' : (pkD C σ Q).at (if ds.length < cap then .ok (.p .none) ((slotPl j).put (.l (ds ++ [d])) s1) else .er) F H A := h1
        by_cases hl0 : ds.length < cap
        · rw [if_pos hl0] at h1'
          obtain ⟨v', ej', f2⟩ := foc_slot (A := A1) ⟨st1.sub.good, r1⟩ e6
          rw [ej] at ej'
          cases ej'
          obtain ⟨a', vs, ea', ea, hl, A', st, sr⟩ := foc_app st1.good (Rep.there d u T q1) f2 q1
          cases ea'
          exact ⟨a, vs, u, rfl, rfl, ea, by rw [hl]; exact cap_lt (Nat.le_of_lt hl0), h1' F1 _ A' [] _ (by rw [List.append_nil]; exact st1.trans at0.g st) sr (Rep.p_iff.mpr ⟨rfl, .non⟩)⟩
        · rw [if_neg hl0] at h1'
          exact h1'.elim⟩

/-! ### x.pop(i), x.pop() -/
def lpopE (pl : Pl) (q : S → Option PyData) : S → Out D := fun s => match ((pl.get s).bind ownL).bind fun ds => (intQ q s).bind fun i => if bnd i then (ixN ds.length i).bind fun k => (ds[k]?).map fun d => (d, pl.put (.l (ds.eraseIdx k)) s) else none with
  | some (d, s1) => .ok d s1
  | none => .er
theorem foc_pop {k : Nat} (at0 : At C σ H s F A) (fo : Foc C F H σ A (.l ds) put v) (e : ds[k]? = some d) : ∃ a vs u, v = .ref a ∧ H a = some (.lst vs) ∧ vs.length = ds.length ∧ vs[k]? = some u ∧
    ∃ A' T, Step F H A F (upd H a (.lst (vs.eraseIdx k))) (A' ++ T) ∧ SR C.Z C.bv F (upd H a (.lst (vs.eraseIdx k))) 0 σ (put (.l (ds.eraseIdx k))) A' ∧ Rep C.Z F (upd H a (.lst (vs.eraseIdx k))) d u T := by
  obtain ⟨a, vs, As, rfl, ea, r, hl, hAs, fin⟩ := foc_list (T := []) (nd_drop (T := []) at0.g) fo
  obtain ⟨u, L, T, R, e1, rfl, q1, r2, _⟩ := repL_get r e
  obtain ⟨A', st, sr⟩ := fin (vs.eraseIdx k) (ds.eraseIdx k) (L ++ R) T r2 (fun b => by simp only [List.count_append, List.append_nil]; omega) (fun _ h => nomatch h)
  rw [List.append_nil] at st
  refine ⟨a, vs, u, rfl, ea, hl, e1, A', T, st, sr, Rep.mono (Le.refl _) d u T (fun b hb => upd_ne fun e => ?_) q1⟩
  exact (hAs b (by simp [hb])).2 e
theorem mtr_popAt {X : Cx} : MtR X "list.pop" rPopAt := fun pins s σ H x xs v us Q I rx rxs h => mt_popAt pins s σ H x xs v us Q I rx rxs h
theorem mtr_pop {X : Cx} : MtR X "list.pop" rPop := fun pins s σ H x xs v us Q I rx rxs h => mt_pop pins s σ H x xs v us Q I rx rxs h
theorem ce_lpop {apos cpos : Pos} (h : CPl C e pl) (hq : CQ C b q) (hbase : attributeBase e "pop" C.X.env (eval e C.X.env) = eval e C.X.env := by rfl)
    (hfew : ((backTo cpos (starEach [b] C.X.env)).all (fun x => !x.1) && (backToKw cpos (keywordEach [] C.X.env)).all (fun x => x.1.isSome)
      && decide (([b] : List Expr).length + ([] : List Keyword).length + (if ([] : List Keyword).isEmpty then 0 else 1) < 30)) = true := by rfl)
    (hline : (apos.endLine == cpos.line) = true := by rfl) (hs : starEach [b] C.X.env = (false, eval b C.X.env) :: starEach [] C.X.env := by rfl) : CE C (.Call (.Attribute e "pop" apos) [b] [] cpos) (lpopE pl q) :=
  ⟨PE.imp (pe_bm F.plainAttrs_list F.slot_list_pop F.type_list_pop mtr_popAt h.run (pa_cons hq.run pa_nil hs) hbase hfew hline hs) fun σ H Q ⟨F, A, s, at0, h⟩ => by
    unfold lpopE at h
    cases e0 : (((pl.get s).bind ownL).bind fun ds => (intQ q s).bind fun i => if bnd i then (ixN ds.length i).bind fun k => (ds[k]?).map fun d => (d, pl.put (.l (ds.eraseIdx k)) s) else none) with
    | none => rw [e0] at h; exact h.elim
    | some p =>
      rw [e0] at h
      obtain ⟨ds, e1, e0⟩ := Option.bind_eq_some_iff.mp e0
      obtain ⟨i, e2, e0⟩ := Option.bind_eq_some_iff.mp e0
      obtain ⟨d1, e1, e4⟩ := Option.bind_eq_some_iff.mp e1
      obtain rfl := ownL_some e4
      split at e0
      · rename_i hb
        obtain ⟨k, e3, e0⟩ := Option.bind_eq_some_iff.mp e0
        obtain ⟨d, e5, rfl⟩ := Option.map_eq_some_iff.mp e0
        refine ⟨F, A, s, _, at0, e1, fun F1 H1 v w1 f1 => ?_⟩
        obtain ⟨a, vs0, _, rfl, ea0, _⟩ := f1.list
        refine ⟨tyV_list ea0, F1, A, s, _, at0.grown w1, intQ_some e2, fun F2 H2 u w2 z2 => ?_⟩
        cases z2
        have at2 := (at0.grown w1).grown w2
        have f2 := f1.grow w2 (at0.grown w1).there
        obtain ⟨a', vs, y, ea', ea, hl, ey, A', T, st, sr, rt⟩ := foc_pop at2 f2 e5
        cases ea'
        refine ⟨a, vs, i, k, y, rfl, rfl, ea, ?_, ?_, ?_, ey, h F2 _ A' T y ((at0.grow (w1.trans w2)).trans at0.g st) sr rt⟩
        · have := hb.1; omega
        · have := hb.2; omega
        · rw [hl]; exact (ixN_seq e3).1
      · cases e0⟩
def lpop0E (pl : Pl) : S → Out D := fun s => match ((pl.get s).bind ownL).bind fun ds => (ds[ds.length - 1]?).map fun d => (d, pl.put (.l (ds.eraseIdx (ds.length - 1))) s) with
  | some (d, s1) => .ok d s1
  | none => .er
theorem dropLast_erase {α : Type} : ∀ l : List α, l.dropLast = l.eraseIdx (l.length - 1)
  | [] => rfl
  | [_] => rfl
  | x :: y :: l => by
    have := dropLast_erase (y :: l)
    simp only [List.dropLast_cons₂, List.length_cons, Nat.add_sub_cancel, List.eraseIdx_cons_succ] at this ⊢
    rw [this]
theorem ce_lpop0 {apos cpos : Pos} (h : CPl C e pl) (hbase : attributeBase e "pop" C.X.env (eval e C.X.env) = eval e C.X.env := by rfl) (hline : (apos.endLine == cpos.line) = true := by rfl) : CE C (.Call (.Attribute e "pop" apos) [] [] cpos) (lpop0E pl) :=
  ⟨PE.imp (pe_bm0 F.plainAttrs_list F.slot_list_pop F.type_list_pop mtr_pop h.run hbase hline) fun σ H Q ⟨F, A, s, at0, h⟩ => by
    unfold lpop0E at h
    cases e0 : (((pl.get s).bind ownL).bind fun ds => (ds[ds.length - 1]?).map fun d => (d, pl.put (.l (ds.eraseIdx (ds.length - 1))) s)) with
    | none => rw [e0] at h; exact h.elim
    | some p =>
      rw [e0] at h
      obtain ⟨ds, e1, e0⟩ := Option.bind_eq_some_iff.mp e0
      obtain ⟨d1, e1, e4⟩ := Option.bind_eq_some_iff.mp e1
      obtain rfl := ownL_some e4
      obtain ⟨d, e5, rfl⟩ := Option.map_eq_some_iff.mp e0
      refine ⟨F, A, s, _, at0, e1, fun F1 H1 v w1 f1 => ?_⟩
      have at1 := at0.grown w1
      obtain ⟨a, vs, y, rfl, ea, hl, ey, A', T, st, sr, rt⟩ := foc_pop at1 f1 e5
      refine ⟨tyV_list ea, a, vs, y, rfl, rfl, ea, by rw [hl]; exact ey, ?_⟩
      rw [dropLast_erase, hl]
      exact h F1 _ A' T y ((at0.grow w1).trans at0.g st) sr rt⟩

/-! ### new lists of one's own: [c] * n, list(range(..)) -/
def pyMulO : PyData → PyData → Option (List PyData)
  | .list xs, .int k => if k ≤ 1000 ∧ -1000 ≤ k ∧ xs.length ≤ 100 then some (List.replicate k.toNat xs).flatten else none
  | _, _ => none
def mulOE (fa fb : S → Out D) : S → Out D := fun s => (fa s).bindP fun d s1 => (fb s1).bindP fun e s2 => match pyMulO d e with
  | some w => .ok (.l (w.map .p)) s2
  | none => .er
theorem ce_mulO {fb : S → Out D} (ha : CE C e f) (hb : CE C b fb) : CE C (.BinOp e .Mult b pos) (mulOE f fb) := ⟨PE.imp (pe_op op_rep ha.run hb.run) fun σ H Q ⟨F, A, s, at0, h⟩ =>
  evD_bindP at0 h fun d s1 F1 H1 A1 v at1 _ z1 h1 => evD_bindP at1 h1 fun e s2 F2 H2 A2 u at2 t2 z2 h2 => by
    cases ew : pyMulO d e with
    | none => rw [ew] at h2; exact h2.elim
    | some w =>
      rw [ew] at h2
      have z1' := z1.to t2.ff
      cases d with
      | list xs =>
        cases e with
        | int k =>
          simp only [pyMulO] at ew
          split at ew
          · rename_i hk
            cases ew
            cases z2
            cases z1' with
            | @lst a vs _ hx rx =>
              refine ⟨a, k, vs, rfl, rfl, at2.g.fh _ _ hx, by omega, by omega, ?_, fun p hp => pkD_own at2 hp (rx.rep _) h2⟩
              rw [rx.length, sizeLine_eq]
              have h1 : k.toNat ≤ 1000 := by omega
              have h2 : xs.length * k.toNat ≤ 100 * 1000 := Nat.mul_le_mul hk.2.2 h1
              omega
          · cases ew
        | _ => cases ew
      | _ => cases ew⟩
def lstRgE (f : S → Out D) : S → Out D := fun s => (f s).bindP fun d s1 => match d with
  | .int j => if 0 ≤ j ∧ j ≤ cap then .ok (.l ((upTo 0 j.toNat).map .p)) s1 else .er
  | _ => .er
theorem fzs_upTo {F : Hs} (lo : Int) : ∀ (l : List Nat), Fzs F (l.map fun i => V.int (lo + (i : Nat))) (l.map fun (i : Nat) => PyData.int (lo + i))
  | [] => .nil
  | _ :: l => .cons (.int _) (fzs_upTo lo l)
theorem ce_lstRg {fa : S → Out (List PyData)} {e1 : Expr} {p p1 pos1 : Pos} (hc : C.X.calm = true) (hg : Gl C.X "list") (hm : C.X.mg "list" = none) (hg2 : Gl C.X "range") (hm2 : C.X.mg "range" = none) (he : CE C e1 f) (hs : starEach [e1] C.X.env = (false, eval e1 C.X.env) :: starEach [] C.X.env := by rfl)
    (hs2 : starEach [.Call (.Name "range" p1) [e1] [] pos1] C.X.env = (false, eval (.Call (.Name "range" p1) [e1] [] pos1) C.X.env) :: starEach [] C.X.env := by rfl) :
    CE C (.Call (.Name "list" p) [.Call (.Name "range" p1) [e1] [] pos1] [] pos) (lstRgE f) := ⟨PE.imp (pe_listRg hc hg hm (prg_1 hg2 hm2 he.run hs) hs2) fun σ H Q ⟨F, A, s, at0, h⟩ => by
  refine evD_bindP at0 h fun d s1 F1 H1 A1 v at1 _ z1 h1 => ?_
  cases d with
  | int j =>
    cases z1
    have h2 : (pkD C σ Q).at (if 0 ≤ j ∧ j ≤ cap then .ok (.l ((upTo 0 j.toNat).map .p)) s1 else .er) F1 H1 A1 := h1
    by_cases hj : 0 ≤ j ∧ j ≤ cap
    · rw [if_pos hj] at h2
      have hcap : (cap : Int) = 100000 := rfl
      refine ⟨j, rfl, .of_le (Int.le_refl _) (by omega) (by decide) hj.1, fun p hp => pkD_own at1 hp ?_ h2⟩
      have e : (j - 0).toNat = j.toNat := by rw [Int.sub_zero]
      unfold rgV upTo
      rw [e]
      exact fzs_upTo 0 _
    · rw [if_neg hj] at h2
      exact h2.elim
  | _ => exact h1.elim⟩
end
end Dl

set_option Elab.async false
set_option linter.all false
set_option maxRecDepth 100000
set_option maxHeartbeats 4000000
namespace Dl
open PySem PySem.Spec PyProof.Rows L2

/-! ### attributes -/
def fldIx (f : Str) : List Str → Option Nat
  | [] => none
  | g :: r => if g = f then some 0 else (fldIx f r).map (· + 1)
theorem fldIx_look {f : Str} : ∀ {fs : List Str} {vs : List V} {k : Nat} {v : V}, fldIx f fs = some k → vs[k]? = some v → (fs.zip vs).lookup f = some v
  | [], _, _, _, e, _ => by cases e
  | g :: r, [], k, v, _, h => by simp at h
  | g :: r, u :: us, k, v, e, h => by
    unfold fldIx at e
    by_cases hg : g = f
    · rw [if_pos hg] at e
      cases e
      simp only [List.getElem?_cons_zero] at h
      cases h
      simp [List.lookup, hg]
    · rw [if_neg hg] at e
      obtain ⟨k', e', rfl⟩ := Option.map_eq_some_iff.mp e
      have hb : (f == g) = false := beq_eq_false_iff_ne.mpr (Ne.symm hg)
      simp only [List.zip_cons_cons, List.lookup, hb]
      exact fldIx_look e' (by simpa using h)
theorem fldIx_none {f : Str} : ∀ {fs : List Str} {vs : List V}, fldIx f fs = none → (fs.zip vs).lookup f = none
  | [], _, _ => by simp [List.lookup]
  | g :: r, [], _ => by simp [List.lookup]
  | g :: r, u :: us, e => by
    unfold fldIx at e
    by_cases hg : g = f
    · rw [if_pos hg] at e; cases e
    · rw [if_neg hg] at e
      have e' : fldIx f r = none := by
        cases h : fldIx f r with
        | none => rfl
        | some k => rw [h] at e; cases e
      have hb : (f == g) = false := beq_eq_false_iff_ne.mpr (Ne.symm hg)
      simp only [List.zip_cons_cons, List.lookup, hb]
      exact fldIx_none e'
def fldPl (pl : Pl) (c0 : Nat) (f : Str) : Pl where
  get s := match pl.get s with
    | some (.o c fs ds) => if c = c0 then (fldIx f fs).bind fun k => ds[k]? else none
    | _ => none
  put d s := match pl.get s with
    | some (.o c fs ds) => match fldIx f fs with
      | some k => pl.put (.o c fs (ds.set k d)) s
      | none => s
    | _ => s
def putFD (f : Str) (d : D) : List Str → List D → List Str × List D
  | g :: fs, x :: ds => if g = f then (g :: fs, d :: ds) else (g :: (putFD f d fs ds).1, x :: (putFD f d fs ds).2)
  | _, _ => ([f], [d])
section
variable {C : Cn} {σ : L2.St} {F H F' H' : Hs} {A T : List Addr} {s s1 : S} {d d' : D} {put : D → S} {v : V} {e b : Expr} {pl : Pl} {q qb : S → Option PyData} {pos : Pos} {a : Addr} {f : S → Out D} {j c0 c : Nat} {x fn : Str} {ds : List D} {fs : List Str}
theorem Foc.obj (fo : Foc C F H σ A (.o c fs ds) put v) : ∃ a dx vs As, v = .ref a ∧ fs.length = vs.length ∧ H a = some (.ins (C.ca c) dx (fs.zip vs)) ∧ RepL C.Z F H ds vs As := by
  obtain ⟨L, A1, R, rfl, r, k⟩ := fo
  simp only [Rep] at r
  obtain ⟨a, dx, vs, As, rfl, rfl, hl, e, e2, r⟩ := r
  exact ⟨a, dx, vs, As, rfl, hl, e, r⟩
theorem Foc.field {k : Nat} (fo : Foc C F H σ A (.o c fs ds) put v) (hk : fldIx fn fs = some k) (e : ds[k]? = some d) : ∃ a dx xs vk, v = .ref a ∧ H a = some (.ins (C.ca c) dx xs) ∧ xs.lookup fn = some vk ∧ Foc C F H σ A d (fun d' => put (.o c fs (ds.set k d'))) vk := by
  obtain ⟨L, A1, R, rfl, r, kk⟩ := fo
  simp only [Rep] at r
  obtain ⟨a, dx, vs, As, rfl, rfl, hl, ea, ex, r⟩ := r
  obtain ⟨vk, L1, T, R1, e1, rfl, q1, _, put1⟩ := repL_get r e
  refine ⟨a, dx, _, vk, rfl, ea, fldIx_look hk e1, L ++ (a :: dx :: L1), T, R1 ++ R, by simp, q1, fun F' H' d' A1' l k2 r' => ?_⟩
  have r2 := put1 F' H' d' vk A1' l (fun b hb => k2 b (by simp at hb ⊢; rcases hb with hb | hb <;> simp [hb])) r'
  rw [set_sameL e1] at r2
  have q := kk F' H' (.o c fs (ds.set k d')) (a :: dx :: (L1 ++ (A1' ++ R1))) l (fun b hb => k2 b (by simp at hb ⊢; rcases hb with hb | hb <;> simp [hb])) (by
    simp only [Rep]
    exact ⟨a, dx, vs, _, rfl, rfl, hl, (k2 a (by simp)).trans ea, (k2 dx (by simp)).trans ex, r2⟩)
  have e3 : L ++ (a :: dx :: (L1 ++ (A1' ++ R1)) ++ R) = L ++ a :: dx :: L1 ++ (A1' ++ (R1 ++ R)) := by simp
  rw [e3] at q
  exact q
where
  set_sameL {vs : List V} {vk : V} {k : Nat} (e1 : vs[k]? = some vk) : vs.set k vk = vs := by
    refine List.ext_getElem? fun i => ?_
    by_cases h : k = i
    · subst h
      rw [List.getElem?_set_self (List.getElem?_eq_some_iff.mp e1).1, e1]
    · rw [List.getElem?_set_ne h]
theorem cpl_fld (hC : Cls C.X.K (C.ca c0)) (hN : NoAttr C.X.K (C.ca c0) fn) (h : CPl C e pl) (hb : attributeBase e fn C.X.env (eval e C.X.env) = eval e C.X.env := by rfl) : CPl C (.Attribute e fn pos) (fldPl pl c0 fn) := ⟨PE.imp (pe_fld h.run hb) fun σ H Q ⟨F, A, s, d, a, e, k⟩ => by
  have e' : (match pl.get s with
    | some (.o c fs ds) => if c = c0 then (fldIx fn fs).bind fun k => ds[k]? else none
    | _ => none) = some d := e
  cases e1 : pl.get s with
  | none => rw [e1] at e'; cases e'
  | some d1 =>
    rw [e1] at e'
    cases d1 with
    | o c fs ds =>
      dsimp only at e'
      split at e'
      · rename_i hc
        subst hc
        obtain ⟨n, e2, e3⟩ := Option.bind_eq_some_iff.mp e'
        refine ⟨F, A, s, _, a, e1, fun F1 H1 v w1 f1 => ?_⟩
        obtain ⟨p, dx, xs, vk, rfl, ea, hl, f3⟩ := f1.field e2 e3
        refine ⟨p, C.ca c, dx, xs, vk, rfl, ea, hC, hN, hl, k F1 H1 vk w1 ?_⟩
        have ep : (fun d' => (fldPl pl c fn).put d' s) = fun d' => pl.put (.o c fs (ds.set n d')) s := by
          funext d'
          show (match pl.get s with
            | some (.o c fs ds) => match fldIx fn fs with
              | some k => pl.put (.o c fs (ds.set k d')) s
              | none => s
            | _ => s) = _
          rw [e1]
          dsimp only
          rw [e2]
        rw [ep]
        exact f3
      · cases e'
    | _ => cases e'⟩
/-- o.f = value -/
def fldS (pl : Pl) (c0 : Nat) (fn : Str) (f : S → Out D) : S → SOut := fun s => (f s).bind fun d s1 => match pl.get s1 with
  | some (.o c fs ds) => if c = c0 ∧ fs.length < 999 then .ok none (pl.put (.o c (putFD fn d fs ds).1 (putFD fn d fs ds).2) s1) else .er
  | _ => .er
theorem putFD_rep {Z : Env0} {fn : Str} : ∀ {fs : List Str} {ds : List D} {vs : List V} {As T : List Addr} {d : D} {u : V}, RepL Z F H ds vs As → Rep Z F H d u T → fs.length = vs.length → ∃ us Bs, Sb Bs (As ++ T) ∧ RepL Z F H (putFD fn d fs ds).2 us Bs ∧ (putFD fn d fs ds).1.length = us.length ∧ (putFD fn d fs ds).1.zip us = putF fn u (fs.zip vs)
  | [], [], vs, As, T, d, u, r, q, hl => by
    have r' := r
    simp only [RepL] at r'
    obtain ⟨rfl, rfl⟩ := r'
    exact ⟨[u], T, fun a => by simp, repL_one q, rfl, rfl⟩
  | [], _ :: _, vs, As, T, d, u, r, q, hl => by
    have h1 := r.length
    simp only [List.length_nil, List.length_cons] at hl h1
    omega
  | _ :: _, [], vs, As, T, d, u, r, q, hl => by
    have h1 := r.length
    simp only [List.length_nil, List.length_cons] at hl h1
    omega
  | g :: fs, x :: ds, vs, As, T, d, u, r, q, hl => by
    simp only [RepL] at r
    obtain ⟨v0, vs', A1, A2, rfl, rfl, r1, r2⟩ := r
    unfold putFD
    by_cases hg : g = fn
    · rw [if_pos hg]
      refine ⟨u :: vs', T ++ A2, fun a => by simp only [List.count_append]; omega, ?_, by simpa using hl, ?_⟩
      · simp only [RepL]
        exact ⟨u, vs', T, A2, rfl, rfl, q, r2⟩
      · simp only [List.zip_cons_cons, putF, if_pos hg]
    · rw [if_neg hg]
      obtain ⟨us, Bs, h1, h2, h3, h4⟩ := putFD_rep (fn := fn) r2 q (by simpa using hl)
      refine ⟨v0 :: us, A1 ++ Bs, fun a => ?_, ?_, by simp [h3], ?_⟩
      · have := h1 a
        simp only [List.count_append] at this ⊢
        omega
      · simp only [RepL]
        exact ⟨v0, us, A1, Bs, rfl, rfl, r1, h2⟩
      · simp only [List.zip_cons_cons, putF, if_neg hg, h4]
theorem cs_fld {pos' : Pos} (hC : Cls C.X.K (C.ca c0)) (hN : NoAttr C.X.K (C.ca c0) fn) (h : CPl C e pl) (hv : CE C b f) (hs : swapsWith b (some (.Attribute e fn pos')) pos.line C.X.env = pure false := by rfl) : CS C (.Assign [.Attribute e fn pos'] b pos) (fldS pl c0 fn f) :=
  ⟨PS.imp (ps_fld h.run hv.run hs) fun Dn σ H ⟨F, A, s, at0, h⟩ => evD_bind at0 h fun d s1 F1 H1 A1 T u st1 r1 q1 h1 => by
    cases e1 : pl.get s1 with
    | none => rw [e1] at h1; exact h1.elim
    | some d1 =>
      rw [e1] at h1
      cases d1 with
      | o c fs ds =>
        have h1' : (pkS C Dn σ).at (if c = c0 ∧ fs.length < 999 then .ok none (pl.put (.o c (putFD fn d fs ds).1 (putFD fn d fs ds).2) s1) else .er) F H A := h1
        by_cases hc : c = c0 ∧ fs.length < 999
        · rw [if_pos hc] at h1'
          obtain ⟨rfl, hlen⟩ := hc
          have at1 : At C σ H1 s1 F1 A1 := ⟨st1.sub.good, r1⟩
          have th : ∀ b ∈ A1 ++ T, H1 b ≠ none := fun b hb => by
            rcases List.mem_append.mp hb with hb | hb
            · exact SR.there r1 b hb
            · exact Rep.there d u T q1 b hb
          refine ⟨F1, A1, s1, _, at1, e1, fun F2 H2 v w f2 => ?_⟩
          have st2 := st1.keepT w th
          have q2 := w.rep q1
          obtain ⟨L, A2, R, rfl, r, kk⟩ := f2
          simp only [Rep] at r
          obtain ⟨a, dx, vs, As, rfl, rfl, hl, ea, ex, r⟩ := r
          obtain ⟨us, Bs, hB, rB, lB, zB⟩ := putFD_rep (fn := fn) r q2 hl
          have nda : ∀ b ∈ Bs, b ≠ a := fun b hb e => by
            subst e
            have h1 := List.nodup_iff_count.mp st2.nd b
            have h2 := hB b
            have h3 : 0 < Bs.count b := List.count_pos_iff.mpr hb
            simp only [List.count_append, List.count_cons, beq_self_eq_true, if_true] at h1 h2
            omega
          have ndx : dx ≠ a := fun e => by
            subst e
            have h1 := List.nodup_iff_count.mp st2.nd dx
            simp only [List.count_append, List.count_cons, beq_self_eq_true, if_true] at h1
            omega
          obtain ⟨A', st, sr⟩ := foc_own (C := C) (put := fun d' => pl.put d' s1) (a := a) (As := dx :: As) (T := T) st2.good kk (.ins (C.ca c) dx (putF fn u (fs.zip vs))) (.o c (putFD fn d fs ds).1 (putFD fn d fs ds).2) (dx :: Bs) [] (fun hne => by
            simp only [Rep]
            refine ⟨a, dx, us, Bs, rfl, rfl, lB, ?_, (upd_ne ndx).trans ex, RepL.mono (Le.refl _) _ us Bs (fun b hb => upd_ne (nda b hb)) rB⟩
            rw [zB]
            exact upd_same) (fun b => by
            have := hB b
            simp only [List.count_append, List.count_cons, List.append_nil] at this ⊢
            omega)
          rw [List.append_nil] at st
          refine ⟨a, C.ca c, dx, _, rfl, ea, hC, hN, ?_, h1' F2 _ A' σ (st2.trans at0.g st) sr⟩
          rw [List.length_zip, ← hl, Nat.min_self]
          omega
        · rw [if_neg hc] at h1'
          exact h1'.elim
      | _ => exact h1.elim⟩

/-! ### methods -/
structure CalF (G : Gv) (k : Nat) (f : Addr) (n : Nat) (fm : Fn) : Prop where
  ex : ∃ fd ps, FnOk G.P G.w G.K G.mg G.base (L2.CX G.P G.w) k f fd ps (spOf G.Z n fm) ∧ Binds G.K fd ps []
theorem CalF.mono {G : Gv} {j k : Nat} {f : Addr} {n : Nat} {fm : Fn} (c : CalF G j f n fm) (h : j ≤ k) : CalF G k f n fm := let ⟨fd, ps, a, b⟩ := c.ex; ⟨fd, ps, a.mono h, b⟩
structure CalM (G : Gv) (k : Nat) (c : Nat) (m : Str) (n : Nat) (fm : Fn) : Prop where
  cls : Cls G.K (G.ca c)
  ex : ∃ f, Meth G.K (G.ca c) m f ∧ CalF G k f n fm
theorem CalM.mono {G : Gv} {j k : Nat} {c : Nat} {m : Str} {n : Nat} {fm : Fn} (x : CalM G j c m n fm) (h : j ≤ k) : CalM G k c m n fm := ⟨x.cls, let ⟨f, a, b⟩ := x.ex; ⟨f, a, b.mono h⟩⟩
def okO (c0 : Nat) (m : Str) (j : Nat) (s : S) : Bool := match s[j]? with
  | some (.v (.o c fs _)) => decide (c = c0) && (fldIx m fs).isNone
  | some (.b (.o c fs _)) => decide (c = c0) && (fldIx m fs).isNone
  | _ => false
/-- o.m(..), o the name in slot j, lent -/
def methE (c0 : Nat) (m : Str) (fm : Fn) (ar : Ar) (j : Nat) (as : List Ar) : S → Out D := fun s => if okO c0 m j s = true then callD fm (ar :: as) s else .er
theorem okO_at {c0 : Nat} {m : Str} (at0 : At C σ H s F A) (h : okO c0 m j s = true) : ∃ a dx xs, σ[j]? = some (some (.ref a)) ∧ H a = some (.ins (C.ca c0) dx xs) ∧ xs.lookup m = none := by
  unfold okO at h
  cases es : s[j]? with
  | none => rw [es] at h; cases h
  | some sl =>
    rw [es] at h
    cases sl with
    | n => cases h
    | v d0 =>
      cases d0 with
      | o c fs ds =>
        simp only [Bool.and_eq_true, decide_eq_true_eq, Option.isNone_iff_eq_none] at h
        obtain ⟨rfl, h⟩ := h
        obtain ⟨so, L, A1, R, e1, _, ⟨v, rfl, r⟩, _⟩ := at0.get es
        simp only [Rep] at r
        obtain ⟨a, dx, vs, _, rfl, _, _, ea, _⟩ := r
        exact ⟨a, dx, _, e1, ea, fldIx_none h⟩
      | _ => cases h
    | b d0 =>
      cases d0 with
      | o c fs ds =>
        simp only [Bool.and_eq_true, decide_eq_true_eq, Option.isNone_iff_eq_none] at h
        obtain ⟨rfl, h⟩ := h
        obtain ⟨so, L, A1, R, e1, _, ⟨rfl, r⟩, _⟩ := at0.get es
        simp only [Rep] at r
        obtain ⟨a, dx, vs, _, ev, _, _, ea, _⟩ := r
        rw [ev] at e1
        exact ⟨a, dx, _, e1, ea, fldIx_none h⟩
      | _ => cases h
theorem evAr_b {as : List Ar} {Q : List V → Hs → Prop} : EvAr C (.b j :: as) σ H Q → ∃ v, σ[j]? = some (some v) ∧ EvAr C as σ H fun xs H2 => Q (v :: xs) H2 := fun ⟨F, A, s, at0, h⟩ => by
  have h' : (pkAr C σ (.b j :: as) Q).at (match takeB j s with
    | some (d, s1) => (runAr as s1).bind fun ds s2 => .ok (d :: ds) s2
    | none => .er) F H A := h
  unfold takeB at h'
  cases e : s[j]? with
  | none => rw [e] at h'; exact h'.elim
  | some sl =>
    rw [e] at h'
    cases sl with
    | b d =>
      obtain ⟨so, L, A1, R, e1, rfl, ⟨rfl, q⟩, r2⟩ := take_sr at0 e
      exact ⟨_, e1, ar_rest (a := .b j) at0.g (T1 := A1) (at0.g.step.sb fun a => by simp only [List.count_append, List.nil_append]; omega) r2 q (fun vs q => ⟨e1, rfl, q⟩) h'⟩
    | n => exact h'.elim
    | v d => exact h'.elim
theorem evAr_w {as : List Ar} {Q : List V → Hs → Prop} : EvAr C (.w j :: as) σ H Q → ∃ v, σ[j]? = some (some v) ∧ EvAr C as σ H fun xs H2 => Q (v :: xs) H2 := fun ⟨F, A, s, at0, h⟩ => by
  have h' : (pkAr C σ (.w j :: as) Q).at (match takeW j s with
    | some (d, s1) => (runAr as s1).bind fun ds s2 => .ok (d :: ds) s2
    | none => .er) F H A := h
  unfold takeW at h'
  cases e : s[j]? with
  | none => rw [e] at h'; exact h'.elim
  | some sl =>
    rw [e] at h'
    cases sl with
    | v d =>
      obtain ⟨so, L, A1, R, e1, rfl, ⟨v, rfl, q⟩, r2⟩ := take_sr at0 e
      exact ⟨v, e1, ar_rest (a := .w j) at0.g (T1 := A1) (at0.g.step.sb fun a => by simp only [List.count_append, List.nil_append]; omega) r2 q (fun vs q => ⟨e1, q⟩) h'⟩
    | n => exact h'.elim
    | b d => exact h'.elim
end
section
variable {X : Cx} {CX : CXT} {k : Nat} {f C : Addr} {fd : FuncData} {ps : List Str} {sp : Sp} {E : L2.St → XK} {x m : Str} {p pos apos : Pos} {e o : Expr} {es : List Expr} {ta : TE} {t : TA}
theorem pe_meths {pl : Sem Bool} (he : PE X o ta) (c : Cls X.K C) (hm : Meth X.K C m f) (F : FnOk X.prog X.w X.K X.mg X.base CX k f fd ps sp) (hr : Room k X.A) (hb : Binds X.K fd ps []) (hx : ∀ σ, PassesAt CX X σ (E σ)) (ha : PA X (e :: es) t)
    (hst : starEach (e :: es) X.env = (false, eval e X.env) :: starEach es X.env := by rfl) (hpl : (backTo pos (starEach es X.env)).any (·.1) = false := by rfl)
    (ht : eval (.Call (.Attribute o m apos) (e :: es) [] pos) X.env = (do
      let ov ← eval o X.env
      standAt apos.atName
      let (f, first) ← holding [ov] (getMethod ov m pl)
      callWith pos f first (backTo pos (starEach (e :: es) X.env)) (backToKw pos (keywordEach [] X.env))) := by rfl) :
    PE X (.Call (.Attribute o m apos) (e :: es) [] pos) (fun σ H Q => ta σ H fun x H1 => ∃ a dx fs, x = .ref a ∧ H1 a = some (.ins C dx fs) ∧ fs.lookup m = none ∧ t σ H1 fun vs H2 => sp (x :: vs) H2 Q (E σ)) :=
  ⟨fun pins s σ H Q I h => PySem.W.methodCall_KW (pl := pl) (thn (he.run pins s σ H _ I h) fun u s1 ⟨x, H1, I1, rx, a, dx, fs, ex, ea, l, q⟩ => by
    subst ex
    obtain rfl : u = Value.ref a := rx
    exact getmeth_ok I1 ea c hm l (PySem.W.callWith_K (first := [.ref a]) (h₀ := X.base) I.ok.mod.kin hm.kp (thn (ha.run pos pins s1 σ H1 _ I1 q) fun us s2 ⟨vs, H2, I2, r, q2⟩ => ⟨I2.kIn, run_fnS (us := .ref a :: us) (vs := .ref a :: vs) F hr hb (hx σ) I2 (.cons rfl r) q2⟩) hst hpl)) ht⟩
theorem pe_meths0 {pl : Sem Bool} (he : PE X o ta) (c : Cls X.K C) (hm : Meth X.K C m f) (F : FnOk X.prog X.w X.K X.mg X.base CX k f fd ps sp) (hr : Room k X.A) (hb : Binds X.K fd ps []) (hx : ∀ σ, PassesAt CX X σ (E σ))
    (ht : eval (.Call (.Attribute o m apos) [] [] pos) X.env = (do
      let ov ← eval o X.env
      standAt apos.atName
      let (f, first) ← holding [ov] (getMethod ov m pl)
      callWith pos f first (backTo pos (starEach [] X.env)) (backToKw pos (keywordEach [] X.env))) := by rfl) :
    PE X (.Call (.Attribute o m apos) [] [] pos) (fun σ H Q => ta σ H fun x H1 => ∃ a dx fs, x = .ref a ∧ H1 a = some (.ins C dx fs) ∧ fs.lookup m = none ∧ sp [x] H1 Q (E σ)) :=
  ⟨fun pins s σ H Q I h => PySem.W.methodCall_KW (pl := pl) (thn (he.run pins s σ H _ I h) fun u s1 ⟨x, H1, I1, rx, a, dx, fs, ex, ea, l, q⟩ => by
    subst ex
    obtain rfl : u = Value.ref a := rx
    exact getmeth_ok I1 ea c hm l (PySem.W.callWith_K0 (first := [.ref a]) I1.kIn hm.kp (run_fnS (us := [.ref a]) (vs := [.ref a]) F hr hb (hx σ) I1 (.cons rfl .nil) q))) ht⟩
end
section
variable {C : Cn} {e : Expr} {es : List Expr} {as : List Ar} {pos apos p : Pos} {G : Gv} {k j n c0 i : Nat} {m x : Str} {fm : Fn}
/-- the two ways to lend the receiver -/
structure LendOk (C : Cn) (i : Nat) (ar : Ar) : Prop where
  run : ∀ {σ H as Q}, EvAr C (ar :: as) σ H Q → ∃ v, σ[i]? = some (some v) ∧ EvAr C as σ H fun xs H2 => Q (v :: xs) H2
theorem lend_b : LendOk C i (.b i) := ⟨evAr_b⟩
theorem lend_w : LendOk C i (.w i) := ⟨evAr_w⟩
theorem ev_meth {ar : Ar} {σ : L2.St} {H : Hs} {Q : VK} (hl : LendOk C i ar) (hn : as.length + 1 = n) (q : EvD C (methE c0 m fm ar i as) σ H Q) : ∃ a dx fs, σ[i]? = some (some (.ref a)) ∧ H a = some (.ins (C.ca c0) dx fs) ∧ fs.lookup m = none ∧
    EvAr C as σ H fun vs H2 => spOf C.Z n fm (.ref a :: vs) H2 Q (fun cls d H' => C.W cls d σ H') := by
  obtain ⟨F, A, s, at0, h⟩ := q
  unfold methE at h
  by_cases ok : okO c0 m i s = true
  · rw [if_pos ok] at h
    obtain ⟨a, dx, xs, e1, ea, hl2⟩ := okO_at at0 ok
    have ev : EvAr C (ar :: as) σ H fun vs H2 => spOf C.Z n fm vs H2 Q (fun cls d H' => C.W cls d σ H') := by
      refine ⟨F, A, s, at0, ?_⟩
      unfold callD at h
      cases er : runAr (ar :: as) s with
      | ok ds s1 =>
        rw [er] at h
        intro F1 H1 A1 T vs st1 r1 q1 ar1
        exact sp_here at0.g st1 r1 q1 ar1 ((RepL.length q1).trans ((runAr_len er).trans (by simpa using hn))) h
      | ex c s1 => rw [er] at h; exact h
      | er => rw [er] at h; exact h
    obtain ⟨v, e2, ev2⟩ := hl.run ev
    rw [e1] at e2
    cases e2
    exact ⟨a, dx, xs, e1, ea, hl2, ev2⟩
  · rw [if_neg ok] at h
    exact h.elim
theorem ce_meth {ar : Ar} {pl : Sem Bool} (I : In C G k) (cm : CalM G j c0 m n fm) (hj : j ≤ k) (hx : PE C.X (.Name x p) (tVar i)) (hl : LendOk C i ar) (ha : CAr C (e :: es) as) (hn : as.length + 1 = n := by rfl)
    (hst : starEach (e :: es) C.X.env = (false, eval e C.X.env) :: starEach es C.X.env := by rfl) (hpl : (backTo pos (starEach es C.X.env)).any (·.1) = false := by rfl)
    (ht : eval (.Call (.Attribute (.Name x p) m apos) (e :: es) [] pos) C.X.env = (do
      let ov ← eval (.Name x p) C.X.env
      standAt apos.atName
      let (f, first) ← holding [ov] (getMethod ov m pl)
      callWith pos f first (backTo pos (starEach (e :: es) C.X.env)) (backToKw pos (keywordEach [] C.X.env))) := by rfl) :
    CE C (.Call (.Attribute (.Name x p) m apos) (e :: es) [] pos) (methE c0 m fm ar i as) := by
  obtain ⟨X, ca, bv, W⟩ := C
  obtain ⟨gP, gw, gK, gmg, gbase, gca⟩ := G
  obtain ⟨i1, i2, i3, i4, i5, i6, tk, rm⟩ := I
  dsimp only at i1 i2 i3 i4 i5 i6 tk rm
  subst i1 i2 i3 i4 i5 i6
  obtain ⟨f, hm, fd, ps, F, hb⟩ := cm.ex
  exact ⟨PE.imp (pe_meths (pl := pl) hx cm.cls hm F (rm.mono hj) hb (fun σ => passAt tk σ) ha.run hst hpl ht) fun σ H Q q => by
    obtain ⟨a, dx, fs, e1, ea, l, ev⟩ := ev_meth hl hn q
    exact ⟨_, e1, a, dx, fs, rfl, ea, l, ev⟩⟩
theorem ce_meth0 {ar : Ar} {pl : Sem Bool} (I : In C G k) (cm : CalM G j c0 m 1 fm) (hj : j ≤ k) (hx : PE C.X (.Name x p) (tVar i)) (hl : LendOk C i ar)
    (ht : eval (.Call (.Attribute (.Name x p) m apos) [] [] pos) C.X.env = (do
      let ov ← eval (.Name x p) C.X.env
      standAt apos.atName
      let (f, first) ← holding [ov] (getMethod ov m pl)
      callWith pos f first (backTo pos (starEach [] C.X.env)) (backToKw pos (keywordEach [] C.X.env))) := by rfl) :
    CE C (.Call (.Attribute (.Name x p) m apos) [] [] pos) (methE c0 m fm ar i []) := by
  obtain ⟨X, ca, bv, W⟩ := C
  obtain ⟨gP, gw, gK, gmg, gbase, gca⟩ := G
  obtain ⟨i1, i2, i3, i4, i5, i6, tk, rm⟩ := I
  dsimp only at i1 i2 i3 i4 i5 i6 tk rm
  subst i1 i2 i3 i4 i5 i6
  obtain ⟨f, hm, fd, ps, F, hb⟩ := cm.ex
  exact ⟨PE.imp (pe_meths0 (pl := pl) hx cm.cls hm F (rm.mono hj) hb (fun σ => passAt tk σ) ht) fun σ H Q q => by
    obtain ⟨a, dx, fs, e1, ea, l, F0, A0, s0, at0, hh⟩ := ev_meth hl rfl q
    exact ⟨_, e1, a, dx, fs, rfl, ea, l, hh F0 H A0 [] [] (by rw [List.append_nil]; exact at0.g.step) at0.r (by simp only [RepL]; exact ⟨trivial, trivial⟩) trivial⟩⟩
end
end Dl

set_option Elab.async false
set_option linter.all false
set_option maxRecDepth 100000
set_option maxHeartbeats 4000000
namespace Dl
open PySem PySem.Spec PyProof.Rows L2

/-! ### {k: v for ..}, the keys tuples -/
section
variable {X : Cx} {pins : List (Addr × Obj)} {σ : L2.St} {H : Hs} {s : Shared} {a b : Addr} {k : Key} {v : V} {r : Value} {xs : Xs} {E : Value → Shared → Prop}
theorem e_dictSet {Q : Unit → Shared → Prop} (hu : X.A.units + 9 < cLine) (I : Inv X pins σ H s) (g : DAt X.prog X.w H a xs) (gk : KAt H k b) (l : xs.length < sizeLine) (rv : RelV v r)
    (h : ∀ o s', Inv X pins σ (upd H a (dO X.prog X.w a o (putX xs k b v))) s' → Q () s') : wpAny (model X.prog X.w) X.A (dictSet a (.ref b) r) Q E s := by
  obtain ⟨z, hd, xv, o, es, ep, rel, _, _, _, dd⟩ := g.ok I.hok
  have hz : xv.length ≤ sizeLine := by rw [← Paired.length rel]; exact hd
  have hl : (putX xs k b v).length ≤ sizeLine := by have := putX_len xs k b v; omega
  refine wpAny_dictSet_heap (hsz := hz) (show (nestedKind X.prog X.w).room X.A from by show X.A.units + 8 < cLine; omega) (gk.is I.hok) dd fun h' dd' hs => ?_
  obtain ⟨q, _, _, hq, _⟩ := id dd'
  obtain ⟨o', ok'⟩ := dO_new (H' := upd H a (dO X.prog X.w a q (putX xs k b v))) z hl (ent_put rel k b rv) dd'
  obtain ⟨⟨e', _⟩, _⟩ := id ok'
  obtain rfl : o' = q := Option.some.inj (e'.symm.trans hq)
  exact h o' _ (d_write I (dO_mut g) hs ⟨_, hq⟩ ok')
end
def eDc (P : Program) (w : World) (wi : TI) (g : TG) (tk tv : TE) (vs : List Nat) : TE := fun σ H Q => wi σ H fun J H1 => ∀ D o, H1 D = none → ∃ W : Nat → Nat → Hs → Prop, (∃ m, W 0 m (upd H1 D (dO P w D o []))) ∧ ∀ i m H, W i m H →
  (J.stop i H ∧ Q (.ref D) H) ∨ (J.go i H ∧ ∃ Nx : Hs → Prop, (∀ H', Nx H' → ∃ m', m' < m ∧ W (i + 1) m' H') ∧ ∀ x H', J.yld i H x H' → g x (L2.wipe σ vs) H' fun σ2 H2 => L2.wipe σ2 vs = L2.wipe σ vs ∧
    tk σ2 H2 fun y H4 => tv σ2 H4 fun z H5 => ∃ b xs k, y = .ref b ∧ DAt P w H5 D xs ∧ KAt H5 k b ∧ xs.length < sizeLine ∧ ∀ o, Nx (upd H5 D (dO P w D o (putX xs k b z))))
theorem ee_dc {X : Cx} {kx vx tg iter : Expr} {scope : Scope} {own : List (Str × Nat)} {pos : Pos} {wi : TI} {g : TG} {tk tv : TE} (hu : X.A.units + 9 < cLine) (hc : X.calm = true) (hN : X.N.Nodup) (hi : PI X tg iter wi) (ok : BlkOk X.N X.env.scope scope own)
    (hg : ∀ (s : Shared) (H : Hs) (C : Addr) (cl : List (Str × Addr)) (fp : List Addr), PG (X.blk s H scope (compEnvC scope cl C X.env) fp) tg g)
    (hk : ∀ (s : Shared) (H : Hs) (C : Addr) (cl : List (Str × Addr)) (fp : List Addr), PE (X.blk s H scope (compEnvC scope cl C X.env) fp) kx tk)
    (he : ∀ (s : Shared) (H : Hs) (C : Addr) (cl : List (Str × Addr)) (fp : List Addr), PE (X.blk s H scope (compEnvC scope cl C X.env) fp) vx tv) (hs : ∀ x, foldedSetIterable iter X.env x = pure x := by intro _; rfl) :
    PE X (.DictComp kx vx [⟨tg, iter, [], 0⟩] scope pos) (eDc X.prog X.w wi g tk tv (own.map (·.2))) := ⟨fun pins s σ H Q I h => by
  rw [arm_eval_DictComp]
  have free : ∀ y ∈ scope.names, y.2 = .free → ∃ c, X.env.cells.lookup y.1 = some c := fun y hy e => (ok.free y hy e).elim (fun k => I.ok.has _ (.inl k)) (fun k => I.ok.has _ (.inr k))
  refine wpAny_comprehension_free (use := none) rfl hs (closure_ok free) ok.kind (fun y hy e => by rw [ok.uniq y hy, e]) (thn (hi.run pins s σ H _ I h) fun xv s1 hx => thn hx fun itv s2 ⟨it, fp, tn, J, H2, ei, I2, T, st2, f2, q⟩ => ?_)
  subst ei
  refine wpAny_newObj_type (newEnv_comp ?_)
  obtain ⟨D, hD⟩ : ∃ D, s2.heap.objs.size = D := ⟨_, rfl⟩
  rw [hD]
  have hDn : H2 D = none := I2.hok.fresh (Nat.le_of_eq hD)
  obtain ⟨o, okD⟩ := dO_new (P := X.prog) (w := X.w) (H' := H2) (h' := s2.heap.push { cls := .type "dict", data := .dict #[] }) (a := D) (xs := []) (by rw [← hD]; exact beq_eq_false_iff_ne.mpr (Ne.symm (Nat.ne_of_lt I2.big))) (Nat.zero_le _) .nil (by rw [← hD]; exact Heap.DictOfH.new s2.heap)
  obtain ⟨W, ⟨m0, w0⟩, turn⟩ := q D o hDn
  obtain ⟨s3, hs3⟩ : ∃ s3 : Shared, ({ s2 with heap := s2.heap.push { cls := .type "dict", data := .dict #[] } } : Shared) = s3 := ⟨_, rfl⟩
  have h3 : s3.heap = s2.heap.push { cls := .type "dict", data := .dict #[] } := by rw [← hs3]
  obtain ⟨H3, hH3⟩ : ∃ H3 : Hs, upd H2 D (dO X.prog X.w D o []) = H3 := ⟨_, rfl⟩
  have I3 : Inv X pins σ H3 s3 := by
    rw [← hs3, ← hH3]
    exact I2.laid (t' := s2.toks) (fun b o e => Heap.get?_push_of_some _ e) (Nat.le_of_eq hD) okD
  rw [hs3]
  have low : ∀ b ∈ fp, b < s2.heap.objs.size := fun b hb => let ⟨o, e, _⟩ := T.obj _ _ st2 b hb; Heap.lt_size e
  have f3 : ∀ b ∈ fp, FpOk X pins H3 b ∧ b < s3.heap.objs.size := fun b hb => by
    refine ⟨⟨?_, (f2 b hb).2⟩, by rw [h3, Heap.size_push]; exact Nat.lt_succ_of_lt (low b hb)⟩
    rw [← hH3, upd_ne (by rw [← hD]; exact Nat.ne_of_lt (low b hb))]
    exact (f2 b hb).1
  have n3 : ∀ b ∈ fp, H3 b = none := fun b hb => (f3 b hb).1.1
  have st3 : tn 0 s3.heap := T.keep _ _ _ st2 fun b _ o e => by rw [h3]; exact Heap.get?_push_of_some _ e
  have I4 := block_start I3 ok hN f3
  have pg := hg s3 H3 s3.heap.objs.size (cellsFrom (s3.heap.objs.size + 1) scope.names (cloFrom X.env.cells scope.names [])) fp
  have pk := hk s3 H3 s3.heap.objs.size (cellsFrom (s3.heap.objs.size + 1) scope.names (cloFrom X.env.cells scope.names [])) fp
  have pe := he s3 H3 s3.heap.objs.size (cellsFrom (s3.heap.objs.size + 1) scope.names (cloFrom X.env.cells scope.names [])) fp
  show codeAny _ _ (.compStart (.DictComp kx vx [⟨tg, iter, [], 0⟩] scope pos) 0 (.ref it) (.ref D) (compEnvC scope (cellsFrom (s3.heap.objs.size + 1) scope.names (cloFrom X.env.cells scope.names [])) s3.heap.objs.size X.env)) _ { s3 with heap := pushCells (s3.heap.push { cls := .type "dict", data := .dict #[] }) scope.names }
  obtain ⟨ce, hce⟩ : ∃ ce, compEnvC scope (cellsFrom (s3.heap.objs.size + 1) scope.names (cloFrom X.env.cells scope.names [])) s3.heap.objs.size X.env = ce := ⟨_, rfl⟩
  rw [hce] at I4 pg pk pe ⊢
  have cL : ce.locals = s3.heap.objs.size := by rw [← hce]; rfl
  obtain ⟨s4, hs4⟩ : ∃ s4 : Shared, ({ s3 with heap := pushCells (s3.heap.push { cls := .type "dict", data := .dict #[] }) scope.names } : Shared) = s4 := ⟨_, rfl⟩
  rw [hs4] at I4 ⊢
  have st4 : tn 0 s4.heap := T.keep _ _ _ st3 fun b _ o e => by rw [← hs4]; exact pushCells_keeps _ _ _ _ (Heap.get?_push_of_some _ e)
  have stat : ∀ {σ' : L2.St} {H' : Hs} {s' : Shared}, Inv (X.blk s3 H3 scope ce fp) [] σ' H' s' → (∀ b ∈ fp, H' b = none) → ∀ b ∈ fp, FpOk (X.blk s3 H3 scope ce fp) [] H' b := fun {σ' H' s'} I' hn b hb =>
    ⟨hn b hb, (I'.ok.exf b hb).1, I'.ok.exfs b hb, .inl hb, fun x c e => (I'.ok.exf b hb).2 x c e, fun p hp => absurd (show p ∈ ([] : List (Addr × Obj)) ++ [] from hp) (by simp)⟩
  have loop : codeAny (model X.prog X.w) X.A (.compLoop (.DictComp kx vx [⟨tg, iter, [], 0⟩] scope pos) 0 (.ref it) (.ref D) ce) (compPost (model X.prog X.w) X.A X.xe none (EP X pins σ Q) (.ref D) s3.heap.objs.size) s4 := by
    refine compLoop_anyD (fun n s' => ∃ i H', Inv (X.blk s3 H3 scope ce fp) [] (L2.wipe σ (own.map (·.2))) H' s' ∧ tn i s'.heap ∧ (∀ b ∈ fp, H' b = none) ∧ W i n H') ?_ m0 ⟨0, H3, I4, st4, n3, by rw [← hH3]; exact w0⟩
    rintro n s5 ⟨i, H5, I5, st5, n5, w5⟩
    rcases turn i n H5 w5 with ⟨stop, qq⟩ | ⟨go, Nx, hNx, step⟩
    · refine thnF (T.done (X.blk s3 H3 scope ce fp) rfl rfl rfl hc i [] s5 _ H5 (fun _ _ => False) I5 (stat I5 n5) st5 stop) fun r s6 ⟨hr, I6⟩ => ?_
      subst hr
      have I7 : Inv X pins σ H5 s6 := I3.call' (ch := fp) I6.os I6.base I6.hok I6.bare fun b hb => ⟨(f3 b hb).1.2.2.2.1, (f3 b hb).1.2.1, (f3 b hb).1.2.2.2.2.1, (f3 b hb).1.2.2.2.2.2⟩
      obtain ⟨m, hn, _⟩ := I6.loc
      have hn' : s6.heap.Ns s3.heap.objs.size m := by rw [← cL]; exact hn
      have nC : H5 s3.heap.objs.size = none := by rw [← cL]; exact I6.free
      refine ⟨m, hn', fun h'' sb => ?_⟩
      obtain ⟨f0, f1, f2', f3', f4, f5⟩ := I3.fpOk (Nat.le_refl s3.heap.objs.size) nC
      exact ⟨.ref D, H5, I7.turned (t' := s6.toks) (fun b o hb e => (sb.2 b hb).trans e) f0 f1 f3' f4 f5, rfl, qq⟩
    · refine thnF (T.item (X.blk s3 H3 scope ce fp) rfl rfl rfl hc i [] s5 _ H5 (fun _ _ => False) I5 (stat I5 n5) st5 go) fun r s6 ⟨u, hr, h6⟩ => ?_
      subst hr
      refine thnF h6 fun _ s7 ⟨x, H7, I7, r7, y7, st7, n7⟩ => ?_
      refine thnF (pg.run _ s7 _ H7 x u _ (I7.pinned (stat I7 n7) (T.obj _ _ st7)) r7 (step x H7 y7)) fun _ s8 ⟨σ8, H8, I8, hw8, q8⟩ => ?_
      rw [List.forIn_nil]
      refine wpAny_pure ?_
      simp only [if_true]
      refine thnF (pk.run _ s8 σ8 H8 _ I8 q8) fun z s10 ⟨yk, H10, I10, r10, q10⟩ => thnF (pe.run _ s10 σ8 H10 _ I10 q10) fun z2 s11 ⟨yv, H11, I11, r11, b, xs, k, ek, dat, kat, hz11, nx⟩ => ?_
      subst ek
      obtain rfl : z = Value.ref b := r10
      refine e_dictSet (X := X.blk s3 H3 scope ce fp) hu I11 dat kat hz11 r11 fun o' s12 I12 => ?_
      obtain ⟨m', hm, w'⟩ := hNx _ (nx o')
      have pin' : ∀ c ∈ fp, ∀ oc, s7.heap.get? c = some oc → s12.heap.get? c = some oc ∧ upd H11 D (dO (X.blk s3 H3 scope ce fp).prog (X.blk s3 H3 scope ce fp).w D o' (putX xs k b yv)) c = none := fun c hc oc e =>
        let z := I12.pin (c, oc) (List.mem_append_right _ (List.mem_append_right _ (mem_pinsAt hc e)))
        ⟨z.1, z.2.1⟩
      have hl : (L2.wipe σ (own.map (·.2))).length = σ8.length := by rw [← hw8, wipe_length]
      refine ⟨m', hm, i + 1, _, (I12.unpinned (pins := [])).weak hl (fun j v e => by rw [← hw8] at e; exact (wipe_some e).1), T.keep _ _ _ st7 fun c hc oc e => (pin' c hc oc e).1, fun c hc => ?_, w'⟩
      obtain ⟨oc, e, _⟩ := T.obj _ _ st7 c hc
      exact (pin' c hc oc e).2
  exact codeAny_compStart_dict loop (T.self X.A 0 _ _ _ st4 loop)⟩
end Dl

set_option Elab.async false
set_option linter.all false
set_option maxRecDepth 100000
set_option maxHeartbeats 4000000
namespace Dl
open PySem PySem.Spec PyProof.Rows L2

/-! ### dict comprehensions by values -/
def dcLoop (vs : List Nat) (g : PyData → S → Option S) (q : S → Option PyData) (te : S → Out D) : List PyData → List (Key × PyData) → S → Out (List (Key × PyData))
  | [], acc, s => .ok acc s
  | d :: ds, acc, s => match g d (wipeS s vs) with
    | none => .er
    | some s1 => match (q s1).bind keyT with
      | none => .er
      | some k => match te s1 with
        | .ok (.p x) s2 => if acc.length < cap then dcLoop vs g q te ds (putP acc k x) s2 else .er
        | _ => .er
theorem dcLoop_cons {vs : List Nat} {g : PyData → S → Option S} {q : S → Option PyData} {te : S → Out D} {d : PyData} {ds : List PyData} {acc kvs : List (Key × PyData)} {s s' : S} (h : dcLoop vs g q te (d :: ds) acc s = .ok kvs s') :
    ∃ s1 kd k x s2, g d (wipeS s vs) = some s1 ∧ q s1 = some kd ∧ keyT kd = some k ∧ te s1 = .ok (.p x) s2 ∧ acc.length < cap ∧ dcLoop vs g q te ds (putP acc k x) s2 = .ok kvs s' := by
  simp only [dcLoop] at h
  cases e1 : g d (wipeS s vs) with
  | none => rw [e1] at h; cases h
  | some s1 =>
    rw [e1] at h
    dsimp only at h
    cases e2 : (q s1).bind keyT with
    | none => rw [e2] at h; cases h
    | some k =>
      rw [e2] at h
      dsimp only at h
      obtain ⟨kd, e3, e4⟩ := Option.bind_eq_some_iff.mp e2
      cases e5 : te s1 with
      | ok d s2 =>
        rw [e5] at h
        cases d with
        | p x =>
          dsimp only at h
          split at h
          · rename_i hl
            exact ⟨s1, kd, k, x, s2, rfl, e3, e4, e5, hl, h⟩
          · cases h
        | _ => cases h
      | _ => rw [e5] at h; cases h
def dcD (vs : List Nat) (fi : S → Out (List PyData)) (g : PyData → S → Option S) (q : S → Option PyData) (te : S → Out D) : S → Out D := fun s => (fi s).bind fun ds s1 => match dcLoop vs g q te ds [] s1 with
  | .ok kvs s2 => .ok (.d kvs) (wipeS s2 vs)
  | _ => .er
structure MidD (C : Cn) (F1 H1 : Hs) (A1 : List Addr) (Fm : Hs) (p : Addr) (σ : L2.St) (vs : List Nat) (H : Hs) (s : S) (acc : List (Key × PyData)) : Prop where
  ex : ∃ F A σx o xs, Le Fm F ∧ Step F1 H1 A1 F H (A ++ [p]) ∧ L2.wipe σx vs = L2.wipe σ vs ∧ SR C.Z C.bv F H 0 σx s A ∧ H p = some (dO C.X.prog C.X.w p o xs) ∧ Paired (EntF F) xs acc
section
variable {C : Cn} {kx vx tg iter : Expr} {scope : Scope} {own : List (Str × Nat)} {pos : Pos} {fi : S → Out (List PyData)} {js : List Nat} {g : PyData → S → Option S} {q : S → Option PyData} {te : S → Out D}
/-- a step in the middle: the dict stays -/
theorem midD_step {F1 H1 F H F' H' : Hs} {A1 A A' : List Addr} {p : Addr} {ho : HO} (g1 : Good F1 H1 A1) (st : Step F1 H1 A1 F H (A ++ [p])) (hp : H p = some ho) (t : Step F H A F' H' A') : Step F1 H1 A1 F' H' (A' ++ [p]) ∧ H' p = some ho := by
  have ht : ∀ a ∈ [p], H a ≠ none := fun a ha => by rw [List.mem_singleton.mp ha, hp]; simp
  have nin : p ∉ A := fun h => (List.nodup_append.mp st.nd).2.2 p h p (by simp) rfl
  exact ⟨st.trans g1 (t.frame st.good ht), (t.kp p (ht p (by simp)) nin).trans hp⟩
theorem ev_dc (hj : ∀ j ∈ js, j ∈ own.map (·.2)) {σ : L2.St} {H : Hs} {Q : VK} : EvD C (dcD (own.map (·.2)) fi g q te) σ H Q → eDc C.X.prog C.X.w (EvI C fi) (EvG C.nox js g) (EvQ C.nox q) (EvD C.nox te) (own.map (·.2)) σ H Q := fun ⟨F, A, s, at0, h⟩ => by
  refine evI_bind at0 h fun ds s1 F1 H1 A1 J at1 _ wk h1 => ?_
  generalize own.map (·.2) = vs at *
  intro p o0 hp
  cases eL : dcLoop vs g q te ds [] s1 with
  | ok kvs s2 =>
    rw [eL] at h1
    have h1' : (pkD C σ Q).at (.ok (.d kvs) (wipeS s2 vs)) F1 H1 A1 := h1
    obtain ⟨st0, r0⟩ := Step.own1 (s1 := s1) (o := dO C.X.prog C.X.w p o0 []) at1 hp
    refine ⟨fun i m H => m = ds.length - i ∧ i ≤ ds.length ∧ ∃ s acc, MidD C F1 H1 A1 F1 p σ vs H s acc ∧ dcLoop vs g q te (ds.drop i) acc s = .ok kvs s2, ⟨ds.length, rfl, Nat.zero_le _, s1, [], ⟨F1, A1, σ, o0, [], Le.refl _, st0, rfl, r0, upd_same, .nil⟩, eL⟩, ?_⟩
    rintro i m H2 ⟨rfl, hil, s3, acc, mid, eq⟩
    obtain ⟨F4, A4, σx, o4, xs4, l4, st4, hw4, r4, hp4, ents4⟩ := mid
    obtain ⟨w1, w2⟩ := wk i F4 H2 l4 st4.fh
    by_cases hl : i < ds.length
    · right
      obtain ⟨hgo, hy⟩ := w1 ds[i] (List.getElem?_eq_getElem hl)
      rw [List.drop_eq_getElem_cons hl] at eq
      obtain ⟨s5, kd, k, x0, s6, e1, e2, e3, e5, hlen, eq'⟩ := dcLoop_cons eq
      refine ⟨hgo, fun H' => ∃ s acc, MidD C F1 H1 A1 F1 p σ vs H' s acc ∧ dcLoop vs g q te (ds.drop (i + 1)) acc s = .ok kvs s2, fun H' qq => ⟨ds.length - (i + 1), by omega, rfl, by omega, qq⟩, fun x H' y => ?_⟩
      obtain ⟨F5, gr, z⟩ := hy x H' y
      have thr : ∀ a ∈ A4 ++ [p], H2 a ≠ none := fun a ha => by
        rcases List.mem_append.mp ha with ha | ha
        · exact SR.there r4 a ha
        · rw [List.mem_singleton.mp ha, hp4]; simp
      have st5 := st4.trans at1.g (gr.step st4.good thr)
      have keepH : ∀ a ∈ A4 ++ [p], H' a = H2 a := fun a ha => by
        cases e : H2 a with
        | none => exact absurd e (thr a ha)
        | some o => exact gr.hh a o e
      obtain ⟨B, hB, rB⟩ := SR.wipe (SR.mono gr.ff (fun a ha => keepH a (by simp [ha])) r4) vs
      rw [hw4] at rB
      have st6 := st5.subl (hB.append (List.Sublist.refl [p]))
      have hp6 : H' p = some (dO C.X.prog C.X.w p o4 xs4) := (keepH p (by simp)).trans hp4
      refine ⟨F5, B, wipeS s3 vs, ds[i], ⟨st6.sub.good, rB⟩, z, ?_⟩
      rw [e1]
      intro F7 H7 A7 σ7 t7 r7 ag7
      obtain ⟨q7, hp7⟩ := midD_step at1.g st6 hp6 t7
      have hw7 : L2.wipe σ7 vs = L2.wipe σ vs := (ag7.wiped hj).trans (wipe_wipe σ vs)
      have at7 : At C.nox σ7 H7 s5 F7 A7 := ⟨q7.sub.good, r7⟩
      refine ⟨hw7, F7, A7, s5, kd, at7, e2, fun F8 H8 v8 w8 z8 => ?_⟩
      have at8 := at7.grown w8
      have t8 := at7.grow w8
      obtain ⟨q8, hp8⟩ := midD_step at1.g q7 hp7 t8
      refine ⟨F8, A7, s5, at8, ?_⟩
      rw [e5]
      intro F9 H9 A9 T9 u t9 r9 re9
      obtain ⟨rfl, z9⟩ := Rep.p_iff.mp re9
      rw [List.append_nil] at t9
      obtain ⟨q9, hp9⟩ := midD_step at1.g q8 hp8 t9
      obtain ⟨b, rfl, kb, kd8⟩ := keyT_at (z8.to t9.ff) e3
      have lx : Le F4 F9 := ((gr.ff.trans t7.ff).trans t8.ff).trans t9.ff
      have ents9 : Paired (EntF F9) xs4 acc := L2.Paired.mapP ents4 fun _ _ z => z.mono lx
      have hxl : xs4.length < sizeLine := by rw [ents_len ents9]; exact cap_lt (Nat.le_of_lt hlen)
      refine ⟨b, xs4, k, rfl, ⟨o4, hp9, ents_at q9.fh ents9⟩, ⟨F9, q9.fh, kb, kd8⟩, hxl, fun o' => ⟨s6, putP acc k x0, ⟨F9, A9, σ7, o', putX xs4 k b u, l4.trans lx, ?_, hw7, ?_, upd_same, ents_put kb kd8 z9 ents9⟩, eq'⟩⟩
      · have hF : F9 p = none := q9.ap p (by simp)
        refine ⟨q9.ff, fun a oo e => ?_, q9.nd, q9.ap, fun a h1 h2 => ?_, q9.nw⟩
        · rw [upd_ne]
          · exact q9.fh a oo e
          · intro ee; subst ee; rw [hF] at e; cases e
        · have e := q9.kp a h1 h2
          rw [upd_ne]
          · exact e
          · intro ee
            subst ee
            rcases q9.nw a (.inl (by simp)) h1 with z | z
            · exact h2 z
            · exact z (q9.ff.nn hF)
      · exact SR.mono (Le.refl _) (fun a ha => upd_ne fun e => by subst e; exact (List.nodup_append.mp q9.nd).2.2 a ha a (by simp) rfl) r9
    · left
      rw [List.drop_eq_nil_of_le (by omega)] at eq
      cases eq
      refine ⟨w2 (by omega), ?_⟩
      obtain ⟨B, hB, rB⟩ := SR.wipe r4 vs
      rw [hw4] at rB
      refine h1' F4 H2 B [p] (.ref p) (st4.subl (hB.append (List.Sublist.refl _))) rB.unwipe ?_
      simp only [Rep]
      exact ⟨p, o4, xs4, rfl, rfl, hp4, ents4⟩
  | ex c s2 => rw [eL] at h1; exact h1.elim
  | er => rw [eL] at h1; exact h1.elim
theorem ce_dc (hu : C.X.A.units + 9 < cLine) (hc : C.X.calm = true) (hN : C.X.N.Nodup) (hi : CI C tg iter fi) (ok : BlkOk C.X.N C.X.env.scope scope own) (hj : ∀ j ∈ js, j ∈ own.map (·.2))
    (hg : ∀ (s : Shared) (H : Hs) (c : Addr) (cl : List (Str × Addr)) (fp : List Addr), CG (C.blk s H scope (compEnvC scope cl c C.X.env) fp) tg js g)
    (hk : ∀ (s : Shared) (H : Hs) (c : Addr) (cl : List (Str × Addr)) (fp : List Addr), CQ (C.blk s H scope (compEnvC scope cl c C.X.env) fp) kx q)
    (he : ∀ (s : Shared) (H : Hs) (c : Addr) (cl : List (Str × Addr)) (fp : List Addr), CE (C.blk s H scope (compEnvC scope cl c C.X.env) fp) vx te) (hs : ∀ x, foldedSetIterable iter C.X.env x = pure x := by intro _; rfl) :
    CE C (.DictComp kx vx [⟨tg, iter, [], 0⟩] scope pos) (dcD (own.map (·.2)) fi g q te) :=
  ⟨PE.imp (ee_dc (g := EvG C.nox js g) (tk := EvQ C.nox q) (tv := EvD C.nox te) hu hc hN hi.run ok (fun s H c cl fp => (hg s H c cl fp).run) (fun s H c cl fp => (hk s H c cl fp).run) (fun s H c cl fp => (he s H c cl fp).run) hs) fun σ H Q => ev_dc hj⟩
end

/-! ### instances made -/
def makeE (c0 : Nat) (fm : Fn) (as : List Ar) : S → Out D := fun s => (runAr as s).bind fun ds s1 => match fm (.o c0 [] [] :: ds) with
  | .ok (.p .none) (o :: outs) => match giveAr as outs s1 with
    | some s2 => .ok o s2
    | none => .er
  | .ex c (_ :: outs) => match giveAr as outs s1 with
    | some s2 => .ex c s2
    | none => .er
  | _ => .er
structure CalC (G : Gv) (k : Nat) (x : Str) (c n : Nat) (fm : Fn) : Prop where
  ex : ∃ f, G.mg x = some (.ref (G.ca c)) ∧ Mk G.K (G.ca c) f ∧ CalF G k f n fm
theorem CalC.mono {G : Gv} {j k : Nat} {x : Str} {c n : Nat} {fm : Fn} (y : CalC G j x c n fm) (h : j ≤ k) : CalC G k x c n fm := ⟨let ⟨f, a, b, c⟩ := y.ex; ⟨f, a, b, c.mono h⟩⟩
section
variable {X : Cx} {CX : CXT} {k : Nat} {f C : Addr} {fd : FuncData} {ps : List Str} {sp : Sp} {E : L2.St → XK} {x : Str} {p pos : Pos} {e : Expr} {es : List Expr} {t : TA}
theorem pe_makes (M : Mk X.K C f) (F : FnOk X.prog X.w X.K X.mg X.base CX k f fd ps sp) (hr : Room (k + 1) X.A) (hg : Gl X x) (hm : X.mg x = some (.ref C)) (hb : Binds X.K fd ps []) (hx : ∀ σ, PassesAt CX X σ (E σ))
    (ha : PA X (e :: es) t) (hdb : (x == ("__debug__" : Str)) = false := by decide) (he : starEach (e :: es) X.env = (false, eval e X.env) :: starEach es X.env := by rfl) (hpl : (backTo pos (starEach es X.env)).any (·.1) = false := by rfl) :
    PE X (.Call (.Name x p) (e :: es) [] pos) (fun σ H Q => t σ H fun vs H1 => ∀ y dx, H1 y = none → H1 dx = none → dx ≠ y → sp (.ref y :: vs) (upd (upd H1 dx (.own y)) y (.ins C dx [])) (fun v H2 => v = .non ∧ Q (.ref y) H2) (E σ)) :=
  ⟨fun pins s σ H Q I h => wpAny_Call_Name_kw (ld_glob I hg hm (PySem.W.callWith_K (h₀ := X.base) I.ok.mod.kin M.kp (thn (ha.run pos pins s σ H _ I h) fun us s1 ⟨vs, H1, I1, r, q⟩ => ⟨I1.kIn, by
    have hq := q (s1.heap.objs.size + 1) s1.heap.objs.size (I1.hok.fresh (Nat.le_succ _)) (I1.hok.fresh (Nat.le_refl _)) (Nat.ne_of_lt (Nat.lt_succ_self _))
    have I2 := Inv.made (C := C) I1
    have r2 : Vals (V.ref (s1.heap.objs.size + 1) :: vs) (Value.ref (s1.heap.objs.size + 1) :: us) := .cons rfl r
    have hl : (Value.ref (s1.heap.objs.size + 1) :: us).length = ps.length := by rw [← r2.length]; exact F.len _ _ _ _ hq
    have b2 := hb _ (Value.ref (s1.heap.objs.size + 1) :: us) I2.kIn (by rw [List.append_nil]; exact hl)
    rw [List.append_nil] at b2
    refine wpAny_call (make_map (f := f) I1.kIn M.makes M.init (beq_iff_eq.mp M.fn) (codeAny_mono (F.run _ X.stack _ _ ⟨Value.ref (s1.heap.objs.size + 1) :: us, []⟩ (Value.ref (s1.heap.objs.size + 1) :: us) _ _ (E σ) (hr.make C us [])
      (I2.env0.make C us []) b2 r2 hq) fun r s' hq' => ?_))
    cases r with
    | error e => exact hx σ pins _ _ e s' I2 hq'
    | ok fl =>
      cases fl with
      | ret u =>
        obtain ⟨v, H', I3, rv, ev, q3⟩ := I2.after hq'
        subst ev
        exact ⟨rv, ⟨V.ref (s1.heap.objs.size + 1), H', I3, rfl, q3⟩⟩
      | next => exact False.elim hq'
      | brk => exact False.elim hq'
      | cont => exact False.elim hq'⟩) he hpl) hdb)⟩
end
section
variable {C : Cn} {e : Expr} {es : List Expr} {as : List Ar} {pos p : Pos} {G : Gv} {k j n c0 : Nat} {x : Str} {fm : Fn}
theorem ce_make (I : In C G k) (c : CalC G j x c0 n fm) (hj : j + 1 ≤ k) (hg : Gl C.X x) (ha : CAr C (e :: es) as) (hn : as.length + 1 = n := by rfl) (hdb : (x == ("__debug__" : Str)) = false := by decide)
    (he : starEach (e :: es) C.X.env = (false, eval e C.X.env) :: starEach es C.X.env := by rfl) (hpl : (backTo pos (starEach es C.X.env)).any (·.1) = false := by rfl) : CE C (.Call (.Name x p) (e :: es) [] pos) (makeE c0 fm as) := by
  obtain ⟨X, ca, bv, W⟩ := C
  obtain ⟨gP, gw, gK, gmg, gbase, gca⟩ := G
  obtain ⟨i1, i2, i3, i4, i5, i6, tk, rm⟩ := I
  dsimp only at i1 i2 i3 i4 i5 i6 tk rm
  subst i1 i2 i3 i4 i5 i6
  obtain ⟨f, hm, M, fd, ps, F, hb⟩ := c.ex
  refine ⟨PE.imp (pe_makes M F (rm.mono hj) hg hm hb (fun σ => passAt tk σ) ha.run hdb he hpl) fun σ H Q ⟨F0, A, s, at0, h⟩ => ⟨F0, A, s, at0, ?_⟩⟩
  unfold makeE at h
  cases er : runAr as s with
  | ex c s1 => rw [er] at h; exact h
  | er => rw [er] at h; exact h
  | ok ds s1 =>
    rw [er] at h
    intro F1 H1 A1 T vs st1 r1 q1 ar1 y dx hy hdx hne
    have th : ∀ b ∈ A1 ++ T, H1 b ≠ none := fun b hb => by
      rcases List.mem_append.mp hb with hb | hb
      · exact SR.there r1 b hb
      · exact RepL.there ds vs T q1 b hb
    have stA := own_new (o := .own y) st1 hdx th
    have stB := own_new (o := .ins (ca c0) dx []) stA (by rw [upd_ne (Ne.symm hne)]; exact hy) (fun b hb => by
      by_cases hbd : b = dx
      · rw [hbd, upd_same]; simp
      · rw [upd_ne hbd]
        refine th b ?_
        simp only [List.mem_append, List.mem_cons] at hb ⊢
        rcases hb with hb | hb | hb
        · exact .inl hb
        · exact absurd hb hbd
        · exact .inr hb)
    have keep : ∀ b ∈ A1 ++ T, (upd (upd H1 dx (.own y)) y (.ins (ca c0) dx [])) b = H1 b := fun b hb => by
      rw [upd_ne fun e => th b hb (by rw [e]; exact hy), upd_ne fun e => th b hb (by rw [e]; exact hdx)]
    have g0 := at0.g
    have q2 : RepL (Cn.Z ⟨X, ca, bv, W⟩) F1 (upd (upd H1 dx (.own y)) y (.ins (ca c0) dx [])) (.o c0 [] [] :: ds) (.ref y :: vs) (y :: dx :: T) := by
      simp only [RepL]
      refine ⟨.ref y, vs, [y, dx], T, rfl, rfl, ?_, RepL.mono (Le.refl _) ds vs T (fun b hb => keep b (by simp [hb])) q1⟩
      simp only [Rep, RepL]
      exact ⟨y, dx, [], [], rfl, rfl, rfl, upd_same, by rw [upd_ne hne, upd_same], rfl, rfl⟩
    have r2 : SR (Cn.Z ⟨X, ca, bv, W⟩) bv F1 (upd (upd H1 dx (.own y)) y (.ins (ca c0) dx [])) 0 σ s1 A1 := SR.mono (Le.refl _) (fun b hb => keep b (by simp [hb])) r1
    have stp := stB.perm (C := (y :: dx :: T) ++ A1) List.perm_append_comm
    refine ⟨by rw [RepL.length q2, List.length_cons, runAr_len er]; exact hn, F1, _, _, stB.sub2.good, q2, ?_⟩
    have h' : (pkD ⟨X, ca, bv, W⟩ σ Q).at (match fm (.o c0 [] [] :: ds) with
      | .ok (.p .none) (o :: outs) => match giveAr as outs s1 with
        | some s2 => (.ok o s2 : Out D)
        | none => .er
      | .ex c (_ :: outs) => match giveAr as outs s1 with
        | some s2 => .ex c s2
        | none => .er
      | _ => .er) F0 H A := h
    cases ef : fm (.o c0 [] [] :: ds) with
    | er => rw [ef] at h'; exact h'.elim
    | ok r outs =>
      rw [ef] at h'
      intro F2 H2 B Tr v st2 q3 qr
      cases outs with
      | nil =>
        cases r with
        | p d => cases d <;> exact h'.elim
        | _ => exact h'.elim
      | cons o outs =>
        cases r with
        | p d =>
          cases d with
          | none =>
            obtain ⟨rfl, zr⟩ := Rep.p_iff.mp qr
            cases zr
            rw [List.append_nil] at st2
            simp only [RepL] at q3
            obtain ⟨v0, vs', B1, B2, ev, rfl, q31, q32⟩ := q3
            obtain ⟨rfl, rfl⟩ := List.cons.inj ev
            have h2 : (pkD ⟨X, ca, bv, W⟩ σ Q).at (match giveAr as outs s1 with
              | some s2 => (.ok o s2 : Out D)
              | none => .er) F0 H A := h'
            cases eg : giveAr as outs s1 with
            | none => rw [eg] at h2; exact h2.elim
            | some s2 =>
              rw [eg] at h2
              have fr := st2.frame stp.good (SR.there r2)
              have r3 : SR (Cn.Z ⟨X, ca, bv, W⟩) bv F2 H2 0 σ s1 A1 := SR.mono st2.ff (fun a ha => st2.kp a (SR.there r2 a ha) fun z => (List.nodup_append.mp stp.nd).2.2 a z a ha rfl) r2
              obtain ⟨A2, k1, k2⟩ := give_sr (C := ⟨X, ca, bv, W⟩) r3 q32 ar1 eg
              refine ⟨rfl, h2 F2 H2 A2 B1 (.ref y) ((stp.trans g0 fr).sb fun a => ?_) k2 q31⟩
              have := k1 a
              simp only [List.count_append] at this ⊢
              omega
          | _ => exact h'.elim
        | _ => exact h'.elim
    | ex c outs =>
      rw [ef] at h'
      intro F2 H2 B st2 q3
      cases outs with
      | nil => exact h'.elim
      | cons o outs =>
        simp only [RepL] at q3
        obtain ⟨v0, vs', B1, B2, ev, rfl, q31, q32⟩ := q3
        obtain ⟨rfl, rfl⟩ := List.cons.inj ev
        have h2 : (pkD ⟨X, ca, bv, W⟩ σ Q).at (match giveAr as outs s1 with
          | some s2 => (.ex c s2 : Out D)
          | none => .er) F0 H A := h'
        cases eg : giveAr as outs s1 with
        | none => rw [eg] at h2; exact h2.elim
        | some s2 =>
          rw [eg] at h2
          have h3 : Xw ⟨X, ca, bv, W⟩ σ c s2 F0 H A := h2
          have fr := st2.frame stp.good (SR.there r2)
          have r3 : SR (Cn.Z ⟨X, ca, bv, W⟩) bv F2 H2 0 σ s1 A1 := SR.mono st2.ff (fun a ha => st2.kp a (SR.there r2 a ha) fun z => (List.nodup_append.mp stp.nd).2.2 a z a ha rfl) r2
          obtain ⟨A2, k1, k2⟩ := give_sr (C := ⟨X, ca, bv, W⟩) r3 q32 ar1 eg
          refine h3 F2 H2 A2 ((stp.trans g0 fr).sb fun a => ?_) k2
          have := k1 a
          simp only [List.count_append] at this ⊢
          omega
end
end Dl

set_option Elab.async false
set_option linter.all false
set_option maxRecDepth 100000
set_option maxHeartbeats 4000000
namespace Dl
open PySem PySem.Spec PyProof.Rows L2

/-! ### try: .. except E as e: .., the exception kept -/
theorem xO_ok {P : Program} {w : World} {H : Hs} {h : Heap} {a : Addr} {cls : Value} {oe : Obj} {vs : Array Value} (e : h.get? a = some oe) (z : Zc cls none oe) (d : oe.data = .fields vs) : ObjOk P w H h a (xO cls a) :=
  ⟨⟨oe, vs, e, z, d⟩, ⟨oe, e⟩, fun _ _ ⟨o, v, q, r⟩ k => ⟨o, v, k o q, r⟩⟩
/-- what the clause wishes of an exception of the body -/
def wKeep (K : PySem.W.Frag) (c : Value) (i : Nat) (ts : TS) (Wout : WX) (D : Ends) : WX := fun cls d σ H =>
  ∃ b, PySem.W.exmOne K cls c = some b ∧ (b = true → d = none ∧ ∀ a, H a = none → ts { nx := fun σ' H' => D.nx (σ'.set i none) H', rt := D.rt, bk := fun σ' H' => D.bk (σ'.set i none) H', ct := fun σ' H' => D.ct (σ'.set i none) H' } (σ.set i (some (.ref a))) (upd H a (xO cls a))) ∧ (b = false → Wout cls d σ H)
section
variable {X : Cx} {x n : Str} {c : Value} {i : Nat} {body suite : List Stmt} {b₀ : Stmt} {np pos pos' : Pos} {tb : WX → TS} {ts : TS} {Wout : WX}
theorem ps_keep (hs : X.stack = X.env :: X.outer) (hf : X.env.frame = some X.env.locals) (hN : X.N.Nodup) (hi : X.N[i]? = some n) (hln : X.env.kindOf n = some .local) (hc : Names X x c) (tk : Takes X Wout)
    (hb : ∀ (W : WX) (pn : List (Addr × Obj)) (xe : Value → Shared → Prop), Takes (X.tr pn xe) W → PassesOwn (model X.prog X.w) X.A X.env xe → PSs (X.tr pn xe) body (tb W))
    (hsu : ∀ (a : Addr) (pn : List (Addr × Obj)), PSs (X.suite a pn) (b₀ :: suite) ts) :
    PS X (.Try body [.ExceptHandler (some (.Name x np)) (some n) (b₀ :: suite) pos'] [] [] pos) (fun D σ H => tb (wKeep X.K c i ts Wout D) D σ H) := ⟨fun pins s σ H D I h => by
  have ok := I.ok
  have hfr : X.A.frames = some (X.env :: X.outer) := by rw [ok.frames, hs]
  refine wpAny_Try_except (wpAny_mono ((hb (wKeep X.K c i ts Wout D) (X.pn ++ pins) (fun e s₁ => wpAny (model X.prog X.w) X.A (noteFrame e X.env) (fun _ s₂ => wpAny (model X.prog X.w) X.A (setFlight e none) (fun _ s₃ =>
    wpAny (model X.prog X.w) X.A (handleBy e X.env [.ExceptHandler (some (.Name x np)) (some n) (b₀ :: suite) pos']) (SP X pins D) X.xe s₃) X.xe s₂) X.xe s₁) (fun u s' xx => ?_) PassesOwn.looking).run [] s σ H D (I.toTry _) h) (fun f s1 hsp => ?_) (fun e s1 he => he))
  · obtain ⟨a, B, sI, pins', σ', H', cls, d, rfl, J', nb, up, sky, na, os, ag, b, hb1, hyes, hno⟩ := xx
    have J : Inv X pins σ' H' sI := J'.ofTry ok
    have sky' : Sky B (X.env :: X.outer) a (Zc cls d) X.env.locals s'.heap := by rw [← hs]; exact sky
    show wpAny (model X.prog X.w) X.A (noteFrame (.ref a) X.env) _ _ _
    refine Sky.land Zc.steady hfr hf sky' fun h3 fl3 up3 => ?_
    have J3 : Inv X pins σ' H' { s' with heap := h3 } := J.landed nb fl3.1 (up.trans up3) os ag
    obtain ⟨oe3, vs3, he3, hz3, hd3⟩ := fl3.there
    have nfr : a ∉ frs (X.env :: X.outer) := fun hm => by
      obtain ⟨_, o', e', hnf⟩ := fl3.2.2.1.mem hm
      rw [he3] at e'
      cases e'
      exact hnf _ hd3
    have nL : a ≠ X.env.locals := fun z => nfr (List.mem_filterMap.mpr ⟨X.env, List.mem_cons_self, by rw [hf, z]⟩)
    have nF : a ∉ X.fs := fun hm => by
      obtain ⟨e, he, q⟩ := List.mem_filterMap.mp hm
      exact nfr (List.mem_filterMap.mpr ⟨e, List.mem_cons_of_mem _ he, q⟩)
    have S3 := J3.suite he3 hd3 na nL nF
    refine wpAny_handleBy_cons (codeAny_handlers_test ?_) (by intro q; cases q)
    have LT : PySem.W.Looks (model X.prog X.w) h3 (typeOf (.ref a)) cls := fun A Q E s k q => wpAny_typeOf_ref (k _ _ he3) (by rw [hz3.1]; exact q)
    have LM := PySem.W.exm_one (M := model X.prog X.w) (J3.kIn) LT hb1
    have test : ∀ {Q : Value → Shared → Prop} {E : Value → Shared → Prop}, Q c { s' with heap := h3 } → wpAny (model X.prog X.w) (X.A.mark (some (.ref a))) (eval (.Name x np) X.env) Q E { s' with heap := h3 } := fun {Q E} q => by
      obtain ⟨hg, hdbg, hm | ⟨hm, hv, hnn⟩⟩ := hc
      · exact ld_glob (X := X.suite a ((a, oe3) :: (X.pn ++ pins))) S3 hg hm q hdbg
      · exact ld_blt (X := X.suite a ((a, oe3) :: (X.pn ++ pins))) S3 hg hm hv q hnn hdbg
    refine test (LM.here ?_)
    cases b with
    | true =>
      obtain ⟨rfl, hy2⟩ := hyes rfl
      refine codeAny_handlers_suite_as (HandSPX.lands_againZ fl3 fun h4 fl4 up4 => ?_)
      obtain ⟨oe4, vs4, he4, hz4, hd4⟩ := fl4.there
      -- without the exception, then with it, tracked
      have naI : sI.heap.get? a = none := by
        cases e : sI.heap.get? a with
        | none => rfl
        | some o =>
          have := nb a o e (by show a ∉ frs X.stack; rw [hs]; exact nfr)
          rw [fl4.2.1] at this
          cases this
      obtain ⟨G, g1, g2⟩ := restrict h4 fun b => decide (b ≠ a)
      have gk : ∀ b o, b ≠ a → h4.get? b = some o → G.get? b = some o := fun b o hb e => (g1 b (by simpa using hb)).trans e
      have ga : G.get? a = none := g2 a (by simp)
      have gl : ∀ b o, G.get? b = some o → h4.get? b = some o := fun b o e => by
        have hb : b ≠ a := fun z => by rw [z, ga] at e; cases e
        rw [← g1 b (by simpa using hb)]
        exact e
      have JG : Inv X pins σ' H' { s' with heap := G } := J.landed nb (fun b o e => gk b o (fun z => by rw [z, fl4.2.1] at e; cases e) (fl4.1 b o e)) (fun b o e hn => by
        obtain ⟨sl, q⟩ := ((up.trans up3).trans up4) b o e hn
        exact ⟨sl, gk b _ (fun z => by rw [z, naI] at e; cases e) q⟩) os ag
      have JT : Inv X pins σ' (upd H' a (xO cls a)) { s' with heap := h4 } := JG.laidN (h' := h4) (t' := s'.toks) gl ga na (xO_ok he4 hz4 hd4)
      have S4 : Inv (X.suite a (X.pn ++ pins)) [] σ' (upd H' a (xO cls a)) { s' with heap := h4 } :=
        ⟨ok.suite _ _, JT.os, JT.bare, JT.base, JT.loc, JT.cell, JT.free, JT.freeC, fun p hp => JT.pin p (by rw [List.append_nil] at hp; exact hp), JT.hok, JT.len⟩
      have back : ∀ {σ6 : L2.St} {H6 : Hs} {s6 : Shared}, Inv (X.suite a (X.pn ++ pins)) [] σ6 H6 s6 → Inv X pins σ6 H6 s6 := fun {σ6 H6 s6} S6 =>
        ⟨ok, S6.os, S6.bare, S6.base, S6.loc, S6.cell, S6.free, S6.freeC, fun p hp => S6.pin p (List.mem_append_left _ hp), S6.hok, S6.len⟩
      refine store_ok (X := X.suite a (X.pn ++ pins)) (v := .ref a) S4 hN hi (.inl hln) rfl (fun s5 S5 => wpAny_mono ((hsu a (X.pn ++ pins)).run [] s5 _ _ _ S5 (hy2 a na)) (fun f s6 hsp => ?_) (fun _ _ z => False.elim z)) (.inr hln)
      have end_ : ∀ {σ6 : L2.St} {H6 : Hs} {Q : Shared → Prop}, Inv (X.suite a (X.pn ++ pins)) [] σ6 H6 s6 → (∀ s7, Inv X pins (σ6.set i none) H6 s7 → Q s7) → wpAny (model X.prog X.w) X.A (do bindName X.env n .none; unbindBehindTheSuite X.env n pos') (fun _ s7 => Q s7) X.xe s6 := fun {σ6 H6 Q} S6 hq => gone_ok (back S6) hN hi hln hq
      cases f with
      | next =>
        obtain ⟨σ6, H6, S6, q6⟩ := hsp
        exact end_ S6 fun s7 J7 => ⟨_, _, J7, q6⟩
      | brk =>
        obtain ⟨σ6, H6, S6, q6⟩ := hsp
        exact end_ S6 fun s7 J7 => ⟨_, _, J7, q6⟩
      | cont =>
        obtain ⟨σ6, H6, S6, q6⟩ := hsp
        exact end_ S6 fun s7 J7 => ⟨_, _, J7, q6⟩
      | ret u =>
        obtain ⟨v6, σ6, H6, S6, r6, q6⟩ := hsp
        exact end_ S6 fun s7 J7 => ⟨_, _, _, J7, r6, q6⟩
    | false =>
      show wpAny _ X.A (handleBy (.ref a) X.env []) _ _ _
      refine wpAny_handleBy_nil ?_
      obtain ⟨k1, k2, k3, oe, vs, T, oT, ts', he, hz, hd, h1, hr⟩ := id fl3
      unfold PySem.passOn
      refine wpAny_bind (wpAny_field he hd h1 ?_)
      rw [if_neg (show ¬ ((Value.ref T == Value.none) = true) from by simp)]
      have fin : wpAny (model X.prog X.w) X.A (setFlight (.ref a) X.env.frame) (fun _ s4 => wpAny (model X.prog X.w) X.A (throw (.ref a) : Sem Flow) (SP X pins D) X.xe s4) X.xe { s' with heap := h3 } := by
        rw [hf]
        refine HandSPX.setFlight_upZ fl3 fun h4 hh4 up4 => wpAny_throw (tk _ _ ?_)
        exact ⟨a, B, sI, pins, σ', H', cls, d, rfl, J, nb, (up.trans up3).trans up4, .inr (.inr (by rw [hs]; exact hh4)), na, os, ag, hno rfl⟩
      first
        | exact wpAny_bind (wpAny_pure (wpAny_bind fin))
        | exact wpAny_bind fin
  · cases f with
    | next =>
      obtain ⟨σ', H', J', q⟩ := hsp
      exact wpAny_execs_nil ⟨σ', H', J'.ofTry ok, q⟩
    | brk =>
      obtain ⟨σ', H', J', q⟩ := hsp
      exact ⟨σ', H', J'.ofTry ok, q⟩
    | cont =>
      obtain ⟨σ', H', J', q⟩ := hsp
      exact ⟨σ', H', J'.ofTry ok, q⟩
    | ret u =>
      obtain ⟨v, σ', H', J', r, q⟩ := hsp
      exact ⟨v, σ', H', J'.ofTry ok, r, q⟩⟩
end

/-! ### by values -/
/-- the name i is bound to the exception, gone behind the suite -/
def tryS (nc i : Nat) (fb fh : S → SOut) : S → SOut := fun s => match fb s with
  | .ok o s1 => .ok o s1
  | .ex c s1 => if c < nc then match putSl i (.x c) s1 with
    | some s2 => match fh s2 with
      | .ok none s3 => .ok none (s3.set i .n)
      | _ => .er
    | none => .er
    else .er
  | .er => .er
section
variable {C : Cn} {x n : Str} {cv : Value} {i nc : Nat} {body suite : List Stmt} {b₀ : Stmt} {np pos pos' : Pos} {fb fh : S → SOut}
theorem cs_try (hs : C.X.stack = C.X.env :: C.X.outer) (hf : C.X.env.frame = some C.X.env.locals) (hN : C.X.N.Nodup) (hi : C.X.N[i]? = some n) (hln : C.X.env.kindOf n = some .local) (hc : Names C.X x cv) (tk : Takes C.X C.W)
    (hx : ∀ c, c < nc → PySem.W.exmOne C.X.K (.ref (C.ca c)) cv = some true)
    (hb : ∀ (W : WX) (pn : List (Addr × Obj)) (xe : Value → Shared → Prop), Takes (C.X.tr pn xe) W → PassesOwn (model C.X.prog C.X.w) C.X.A C.X.env xe → CSs ⟨C.X.tr pn xe, C.ca, C.bv, W⟩ body fb)
    (hsu : ∀ (a : Addr) (pn : List (Addr × Obj)), CSs ⟨C.X.suite a pn, C.ca, C.bv, fun _ _ _ _ => False⟩ (b₀ :: suite) fh) :
    CS C (.Try body [.ExceptHandler (some (.Name x np)) (some n) (b₀ :: suite) pos'] [] [] pos) (tryS nc i fb fh) :=
  ⟨PS.imp (ps_keep (tb := fun W => EvS ⟨C.X, C.ca, C.bv, W⟩ fb) (ts := EvS ⟨C.X, C.ca, C.bv, fun _ _ _ _ => False⟩ fh) hs hf hN hi hln hc tk (fun W pn xe h1 h2 => (hb W pn xe h1 h2).run) (fun a pn => (hsu a pn).run)) fun Dn σ H ⟨F, A, s, at0, h⟩ => by
    refine ⟨F, A, s, at0, ?_⟩
    unfold tryS at h
    cases e : fb s with
    | ok o s1 => rw [e] at h; cases o <;> exact h
    | er => rw [e] at h; exact h
    | ex c s1 =>
      rw [e] at h
      have h' : (pkS C Dn σ).at (if c < nc then match putSl i (.x c) s1 with
        | some s2 => match fh s2 with
          | .ok none s3 => (.ok none (s3.set i .n) : SOut)
          | _ => .er
        | none => .er
        else .er) F H A := h
      by_cases hcn : c < nc
      · rw [if_pos hcn] at h'
        cases ep : putSl i (.x c) s1 with
        | none => rw [ep] at h'; exact h'.elim
        | some s2 =>
          rw [ep] at h'
          dsimp only at h'
          intro F1 H1 A1 σ1 st1 r1
          refine ⟨true, hx c hcn, fun _ => ⟨rfl, fun a ha => ?_⟩, fun z => nomatch z⟩
          have gr : Grow F1 H1 (upd F1 a (xO (.ref (C.ca c)) a)) (upd H1 a (xO (.ref (C.ca c)) a)) := Grow.new st1.fh ha
          have at1 : At C σ1 H1 s1 F1 A1 := ⟨st1.good, r1⟩
          have at2 := at1.grown gr
          obtain ⟨L, A0, R, rfl, r3⟩ := put_sr (C := C) (T := []) (v := .ref a) at2.r (by simp only [Rep]; exact ⟨a, rfl, trivial, upd_same⟩) ep
          have hsub : (L ++ ([] ++ R)).Sublist (L ++ (A0 ++ R)) := (List.Sublist.refl L).append (List.sublist_append_right A0 R)
          have st3 := ((at1.grow gr).subl hsub)
          have stF := st1.trans at0.g st3
          refine ⟨_, _, s2, ⟨stF.good, r3⟩, ?_⟩
          cases eh : fh s2 with
          | ok o s3 =>
            rw [eh] at h'
            cases o with
            | none =>
              intro F4 H4 A4 σ4 st4 r4
              obtain ⟨B, hB, rB⟩ := SR.forget i r4
              exact h' F4 H4 B (σ4.set i none) ((stF.trans at0.g st4).subl hB) rB
            | some d => exact h'.elim
          | ex c3 s3 => rw [eh] at h'; exact h'.elim
          | er => rw [eh] at h'; exact h'.elim
      · rw [if_neg hcn] at h'
        exact h'.elim⟩
/-- a caught exception read -/
def xE (j : Nat) : S → Out D := fun s => match s[j]? with
  | some (.v (.x c)) => .ok (.x c) s
  | _ => .er
theorem ce_x {j : Nat} {y : Str} {p : Pos} (h : PE C.X (.Name y p) (tVar j)) : CE C (.Name y p) (xE j) := ⟨PE.imp h fun σ H Q ⟨F, A, s, at0, h⟩ => by
  unfold xE at h
  cases es : s[j]? with
  | none => rw [es] at h; exact h.elim
  | some sl =>
    rw [es] at h
    cases sl with
    | v d =>
      cases d with
      | x c =>
        obtain ⟨so, L, A1, R, e1, rfl, ⟨v, rfl, r⟩, _⟩ := at0.get es
        have r' := r
        simp only [Rep] at r'
        obtain ⟨a, rfl, rfl, eF⟩ := r'
        exact ⟨_, e1, h F H _ [] _ (by rw [List.append_nil]; exact at0.g.step) at0.r r⟩
      | _ => exact h.elim
    | _ => exact h.elim⟩
/-- x is None, x an exception or None -/
def isNxT (j : Nat) : S → Out Bool := fun s => match s[j]? with
  | some (.v (.x _)) => .ok false s
  | some (.v (.p d)) => .ok (match d with
    | .none => true
    | _ => false) s
  | _ => .er
theorem ct_isNx {j : Nat} {y : Str} {p p2 pos : Pos} {k : Nat} (h : PE C.X (.Name y p) (tVar j)) : CT C (.Compare (.Name y p) [.Is] [.Constant .none k p2] pos) (isNxT j) := ⟨PT.imp (pt_cmp (pc_isN h) (by first | exact nobehind _ (by decide) (by decide) | rfl)) fun σ H Q ⟨F, A, s, at0, h⟩ => by
  unfold isNxT at h
  cases es : s[j]? with
  | none => rw [es] at h; exact h.elim
  | some sl =>
    rw [es] at h
    cases sl with
    | v d =>
      obtain ⟨so, L, A1, R, e1, rfl, ⟨v, rfl, r⟩, _⟩ := at0.get es
      cases d with
      | x c =>
        simp only [Rep] at r
        obtain ⟨a, rfl, rfl, eF⟩ := r
        exact ⟨_, e1, false, by simp, h F H _ at0.g.step at0.r⟩
      | p d =>
        obtain ⟨rfl, z⟩ := Rep.p_iff.mp r
        cases z <;> exact ⟨_, e1, _, rfl, h F H _ at0.g.step at0.r⟩
      | _ => exact h.elim
    | _ => exact h.elim⟩
end
end Dl

set_option Elab.async false
set_option linter.all false
set_option maxRecDepth 100000
set_option maxHeartbeats 4000000
namespace Dl
open PySem PySem.Spec PyProof.Rows L2

/-! ### isinstance of a caught exception -/
def rIsX (K : PySem.W.Frag) : List V → Hs → VK → Prop := fun xs H Q => ∃ (a D : Addr) (c : V) (cv : Value) (b : Bool), xs = [.ref a, c] ∧ H a = some (xO (.ref D) a) ∧ ExcC K D ∧ (∀ u, RelV c u → u = cv) ∧ PySem.W.kitOne K (.ref D) cv = some b ∧ Q (.bl b) H
theorem call_isX {X : Cx} : CallR X (.builtin "isinstance") (rIsX X.K) := by
  intro pins s σ H xs us Q I r h
  obtain ⟨a, D, c, cv, b, rfl, ea, C, hcv, e, q⟩ := h
  obtain ⟨u1, u2, rfl, rx, rt⟩ := r.two
  cases rx
  have ec := hcv _ rt
  subst ec
  obtain ⟨⟨oe, vs, hget, hz, hv⟩, _, _⟩ := (show ObjOk X.prog X.w H s.heap a (xO (.ref D) a) from I.hok a _ ea)
  have J : PySem.W.InstAt s.heap a oe D none := by
    obtain ⟨oc, od, oda, osl⟩ := oe
    obtain ⟨h1, h2⟩ := hz
    dsimp only at h1 h2 hv
    subst h1 h2 hv
    exact ⟨hget, rfl, rfl, trivial⟩
  exact PySem.W.kia_one (PySem.W.handS_kitx_exc C.hg C.hk C.hs C.hd C.ha C.hn C.ht C.hm) I.kIn J e (fun z => nomatch z) fun tk => ⟨.bl b, H, I.kept (t' := tk) fun _ _ z => z, rfl, q⟩
def isXE (nc : Nat) (b : Nat → Bool) (j : Nat) : S → Out D := fun s => match s[j]? with
  | some (.v (.x c)) => if c < nc then .ok (.p (.bool (b c))) s else .er
  | _ => .er
section
variable {C : Cn} {e a : Expr} {f fb : S → Out D} {x y : Str} {p p1 p2 pos apos cpos : Pos} {j nc : Nat} {bt : Nat → Bool} {cv : Value} {c : V}
theorem ce_isX (hk : ∀ i, i < nc → ExcC C.X.K (C.ca i) ∧ PySem.W.kitOne C.X.K (.ref (C.ca i)) cv = some (bt i)) (hx : PE C.X (.Name x p1) (tVar j)) (hy : PE C.X (.Name y p2) (tC c)) (hc : ∀ u, RelV c u → u = cv) (hg : Gl C.X "isinstance") (hm : C.X.mg "isinstance" = none)
    (hs1 : starEach (.Name x p1 :: [.Name y p2]) C.X.env = (false, eval (.Name x p1) C.X.env) :: starEach [.Name y p2] C.X.env := by rfl) (hs2 : starEach (.Name y p2 :: []) C.X.env = (false, eval (.Name y p2) C.X.env) :: starEach [] C.X.env := by rfl)
    (hpl : (backTo pos (starEach [.Name y p2] C.X.env)).any (·.1) = false := by rfl) : CE C (.Call (.Name "isinstance" p) [.Name x p1, .Name y p2] [] pos) (isXE nc bt j) :=
  ⟨PE.imp (pe_callB call_isX hg hm boot_isinstance (pa_cons hx (pa_cons hy pa_nil hs2) hs1) (he := hs1) (hpl := hpl)) fun σ H Q ⟨F, A, s, at0, h⟩ => by
    unfold isXE at h
    cases es : s[j]? with
    | none => rw [es] at h; exact h.elim
    | some sl =>
      rw [es] at h
      cases sl with
      | v d =>
        cases d with
        | x i =>
          have h' : (pkD C σ Q).at (if i < nc then .ok (.p (.bool (bt i))) s else .er) F H A := h
          by_cases hi : i < nc
          · rw [if_pos hi] at h'
            obtain ⟨so, L, A1, R, e1, rfl, ⟨v, rfl, r⟩, _⟩ := at0.get es
            simp only [Rep] at r
            obtain ⟨a, rfl, rfl, eF⟩ := r
            exact ⟨_, e1, a, C.ca i, c, cv, bt i, rfl, at0.g.fh _ _ eF, (hk i hi).1, hc, (hk i hi).2, pkD_p at0 (.bl _) h'⟩
          · rw [if_neg hi] at h'
            exact h'.elim
        | _ => exact h.elim
      | _ => exact h.elim⟩

/-! ### l.count(x), l.index(x) -/
def rCountD (K : PySem.W.Frag) : V → List V → Hs → VK → Prop := fun x xs H Q => ∃ (a : Addr) (y : V) (d : PyData) (ds : List PyData), x = V.ref a ∧ xs = [y] ∧ Dp K H (V.ref a) (.list ds) ∧ Dp K H y d ∧ SeqAt.shaped (.list ds) = true ∧ SeqAt.shaped d = true ∧ Q (.int (ds.countP fun z => PyData.eqv z d : Nat)) H
theorem mt_countD {X : Cx} (hu : X.A.units + 65 < cLine) : MtR X "list.count" (rCountD X.K) := by
  intro pins s σ H x xs v us Q I rx rxs h
  obtain ⟨a, y, d, ds, rfl, rfl, hl, hy, sl, sd, q⟩ := h
  cases rx
  obtain ⟨uy, rfl, ry⟩ := rxs.one
  obtain ⟨bs, r1⟩ := Dp.reads I d y uy hy ry
  have hxs : PyData.canLayAll0 ds = true := SeqAt.canLay_of_shaped sl
  have hroom : X.A.units + 1 + min (PyData.depthAll ds) d.depth < cLine := room_in_shaped sd hu
  cases hl with
  | lst hs ha =>
    obtain ⟨its, rv, ⟨⟨oc, od, odt, osl⟩, n, ho, hc, _, hd⟩, _⟩ := I.list hs
    dsimp only at hc hd
    subst hc hd
    obtain ⟨as, h4⟩ := Dp.readsAll I ds _ its ha rv
    have hmap : its.map (SeqAt.readOf s.heap) = ds := SeqAt.readsAll_map ds its as hxs h4
    refine call_meets PySem.F.slot_list_count ⟨_, ho, rfl⟩ PySem.F.entry_list_count (PySem.F.args_list_count_2 _ _) (SeqAt.list_countAt a its.toArray n od osl uy (fun u => PyData.eqv (SeqAt.readOf s.heap u) d)) ⟨ho, SeqAt.items_eqAt (vs := its.toArray) (show ReadsAll s.heap its.toArray.toList ds as from h4) r1 hxs (SeqAt.canLay_of_shaped sd) hroom, ?_⟩
    refine ⟨.int (ds.countP fun z => PyData.eqv z d : Nat), H, I.tok _, ⟨s.toks, ?_⟩, q⟩
    have ec : its.toArray.toList.countP (fun u => PyData.eqv (SeqAt.readOf s.heap u) d) = ds.countP fun z => PyData.eqv z d := by
      rw [← hmap, List.countP_map]
      rfl
    rw [ec]
def countE (fa fb : S → Out D) : S → Out D := fun s => (fa s).bindP fun d s1 => match d with
  | .list ds => (fb s1).bindP fun y s2 => if SeqAt.shaped (.list ds) = true ∧ SeqAt.shaped y = true then .ok (.p (.int (ds.countP fun z => PyData.eqv z y : Nat))) s2 else .er
  | _ => .er
theorem ce_count (hu : C.X.A.units + 65 < cLine) (ha : CE C a f) (hb : CE C e fb) (hbase : attributeBase a "count" C.X.env (eval a C.X.env) = eval a C.X.env := by rfl)
    (hfew : ((backTo cpos (starEach [e] C.X.env)).all (fun x => !x.1) && (backToKw cpos (keywordEach [] C.X.env)).all (fun x => x.1.isSome)
      && decide (([e] : List Expr).length + ([] : List Keyword).length + (if ([] : List Keyword).isEmpty then 0 else 1) < 30)) = true := by rfl)
    (hline : (apos.endLine == cpos.line) = true := by rfl) (hs : starEach [e] C.X.env = (false, eval e C.X.env) :: starEach [] C.X.env := by rfl) : CE C (.Call (.Attribute a "count" apos) [e] [] cpos) (countE f fb) :=
  ⟨PE.imp (pe_bm F.plainAttrs_list F.slot_list_count F.type_list_count (mt_countD hu) ha.run (pa_cons hb.run pa_nil hs) hbase hfew hline hs) fun σ H Q ⟨F, A, s, at0, h⟩ => evD_bindP at0 h fun d s1 F1 H1 A1 v at1 _ z1 h1 => by
    cases d with
    | list ds =>
      have z1' := z1
      cases z1 with
      | @lst l vs _ hx rx =>
        refine ⟨.inl ⟨rfl, vs, SqL.of (at1.g.fh _ _ hx)⟩, evD_bindP at1 h1 fun y s2 F2 H2 A2 u at2 t2 z2 h2 => ?_⟩
        by_cases ok : SeqAt.shaped (.list ds) = true ∧ SeqAt.shaped y = true
        · rw [if_pos ok] at h2
          exact ⟨l, u, y, ds, rfl, rfl, Fz.dp (t2.ff.trans t2.fh) _ _ z1', Fz.dp t2.fh _ _ z2, ok.1, ok.2, pkD_p at2 (.int _) h2⟩
        · rw [if_neg ok] at h2
          exact h2.elim
    | _ => exact h1.elim⟩
def idxD (y : PyData) : List PyData → Nat → Option Nat
  | [], _ => none
  | z :: zs, n => if PyData.eqv z y = true then some n else idxD y zs (n + 1)
theorem idxD_some {y : PyData} : ∀ {ds : List PyData} {n j : Nat}, idxD y ds n = some j → ∃ k z, j = n + k ∧ ds[k]? = some z ∧ PyData.eqv z y = true ∧ ∀ (m : Nat) z', m < k → ds[m]? = some z' → PyData.eqv z' y = false
  | [], _, _, e => by cases e
  | z :: zs, n, j, e => by
    unfold idxD at e
    split at e
    · rename_i h
      cases e
      exact ⟨0, z, rfl, rfl, h, fun m z' hm => absurd hm (Nat.not_lt_zero m)⟩
    · rename_i h
      obtain ⟨k, z2, h1, h2, h3, h4⟩ := idxD_some e
      refine ⟨k + 1, z2, by omega, by simpa using h2, h3, fun m z' hm hz => ?_⟩
      cases m with
      | zero =>
        simp at hz
        subst hz
        cases h5 : PyData.eqv z y with
        | false => rfl
        | true => exact absurd h5 h
      | succ m => exact h4 m z' (by omega) (by simpa using hz)
def indexE (fa fb : S → Out D) : S → Out D := fun s => (fa s).bindP fun d s1 => match d with
  | .list ds => (fb s1).bindP fun y s2 => if SeqAt.shaped (.list ds) = true ∧ SeqAt.shaped y = true then Out.opt ((idxD y ds 0).map fun j => .p (.int (j : Nat))) s2 else .er
  | _ => .er
theorem ce_index (hu : C.X.A.units + 65 < cLine) (ha : CE C a f) (hb : CE C e fb) (hbase : attributeBase a "index" C.X.env (eval a C.X.env) = eval a C.X.env := by rfl)
    (hfew : ((backTo cpos (starEach [e] C.X.env)).all (fun x => !x.1) && (backToKw cpos (keywordEach [] C.X.env)).all (fun x => x.1.isSome)
      && decide (([e] : List Expr).length + ([] : List Keyword).length + (if ([] : List Keyword).isEmpty then 0 else 1) < 30)) = true := by rfl)
    (hline : (apos.endLine == cpos.line) = true := by rfl) (hs : starEach [e] C.X.env = (false, eval e C.X.env) :: starEach [] C.X.env := by rfl) : CE C (.Call (.Attribute a "index" apos) [e] [] cpos) (indexE f fb) :=
  ⟨PE.imp (pe_bm F.plainAttrs_list F.slot_list_index F.type_list_index (mt_indexD hu) ha.run (pa_cons hb.run pa_nil hs) hbase hfew hline hs) fun σ H Q ⟨F, A, s, at0, h⟩ => evD_bindP at0 h fun d s1 F1 H1 A1 v at1 _ z1 h1 => by
    cases d with
    | list ds =>
      have z1' := z1
      cases z1 with
      | @lst l vs _ hx rx =>
        refine ⟨.inl ⟨rfl, vs, SqL.of (at1.g.fh _ _ hx)⟩, evD_bindP at1 h1 fun y s2 F2 H2 A2 u at2 t2 z2 h2 => ?_⟩
        by_cases ok : SeqAt.shaped (.list ds) = true ∧ SeqAt.shaped y = true
        · rw [if_pos ok] at h2
          cases ei : idxD y ds 0 with
          | none => rw [ei] at h2; exact h2.elim
          | some j =>
            rw [ei] at h2
            obtain ⟨k, z, e1, e2, e3, e4⟩ := idxD_some ei
            rw [Nat.zero_add] at e1
            subst e1
            exact ⟨l, u, y, ds, j, z, rfl, rfl, Fz.dp (t2.ff.trans t2.fh) _ _ z1', Fz.dp t2.fh _ _ z2, ok.1, ok.2, e2, e3, e4, pkD_p at2 (.int _) h2⟩
        · rw [if_neg ok] at h2
          exact h2.elim
    | _ => exact h1.elim⟩
end
end Dl

set_option Elab.async false
set_option linter.all false
set_option maxRecDepth 100000
set_option maxHeartbeats 4000000
namespace Dl
open PySem PySem.Spec PyProof.Rows L2

/-! ### where a def's text runs -/
section
variable {G : Gv} {N : List Str} {qual : Str} {scope : Scope} {f : Addr} {cdv : Value} {A : Around} {outer : List Env} {s : Shared} {H : Hs} {E : XK} {bv : Nat → V} {k : Nat} {C : Cn}
theorem In.fn (r : Room k (A.deeper (envOfC qual scope s.heap.objs.size f cdv))) : In (G.cn N qual scope f cdv A outer s H E bv) G k :=
  ⟨rfl, rfl, rfl, rfl, rfl, rfl, takes_of rfl rfl rfl rfl, r⟩
theorem In.blk {s : Shared} {H : Hs} {scope : Scope} {cenv : Env} {fp : List Addr} (I : In C G k) : In (C.blk s H scope cenv fp) G k :=
  ⟨I.P, I.w, I.K, I.mg, I.base, I.ca, takes0, I.rm⟩
theorem In.tr {W : WX} {pn : List (Addr × Obj)} {xe : Value → Shared → Prop} (I : In C G k) (tk : Takes (C.X.tr pn xe) W) : In ⟨C.X.tr pn xe, C.ca, C.bv, W⟩ G k :=
  ⟨I.P, I.w, I.K, I.mg, I.base, I.ca, tk, I.rm⟩
theorem In.u9 (I : In C G k) : C.X.A.units + 9 < cLine := by have := I.rm.un; omega
theorem In.u64 (I : In C G k) : C.X.A.units + 64 < cLine := by have := I.rm.un; omega
theorem In.u65 (I : In C G k) : C.X.A.units + 65 < cLine := by have := I.rm.un; omega
end
end Dl

set_option Elab.async false
set_option linter.all false
set_option maxRecDepth 100000
set_option maxHeartbeats 4000000
namespace Dl
open PySem PySem.Spec PyProof.Rows L2

/-! ### a tuple taken once, not at all, or an empty one -/
theorem tuple_mulS (l : Addr) (items : Array Value) (n : Nat) (dd : Option Addr) (sl : Array (Option Value)) (x : Int) (u : Tok) (c0 : (decide (x < -(2 ^ 63)) || decide (x ≥ 2 ^ 63)) = false) (c1 : (items.isEmpty || x == 1) = true) :
    Meets (Builtin.«tuple.__mul__» ⟨[.ref l, .int x u], []⟩) (fun _ R s => s.heap.get? l = some { cls := .type "tuple", dict := dd, data := .seq items n, slots := sl } ∧
      R (.ok (.ret (Value.ref l))) s) :=
  .of_wp fun prog w A R s h => by
    obtain ⟨hp, g, d, tk, os⟩ := s
    obtain ⟨hl, h⟩ := h
    have f1 := AutoSeq1.idx_int
    wp_walk using wpAny_loadPart' hl
    repeat (first
      | (refine wpAny_ite_false (decide_eq_false (by rw [c0]; exact Bool.false_ne_true)) ?_; wp_walk using wpAny_loadPart' hl)
      | (refine wpAny_ite_true (decide_eq_true (by rw [c1])) ?_; wp_walk using wpAny_loadPart' hl))
    exact ⟨_, rfl, h⟩
theorem tuple_mul0 (l : Addr) (items : Array Value) (n : Nat) (dd : Option Addr) (sl : Array (Option Value)) (x : Int) (u : Tok) (c0 : (decide (x < -(2 ^ 63)) || decide (x ≥ 2 ^ 63)) = false) (c1 : (items.isEmpty || x == 1) = false) (c2 : (decide (x ≤ 0) || items.isEmpty) = true) :
    Meets (Builtin.«tuple.__mul__» ⟨[.ref l, .int x u], []⟩) (fun _ R s => s.heap.get? l = some { cls := .type "tuple", dict := dd, data := .seq items n, slots := sl } ∧
      R (.ok (.ret (Value.ref s.heap.objs.size))) { s with heap := s.heap.push { cls := Value.type "tuple", data := Data.seq #[] }, toks := s.toks }) :=
  .of_wp fun prog w A R s h => by
    obtain ⟨hp, g, d, tk, os⟩ := s
    obtain ⟨hl, h⟩ := h
    have f1 := AutoSeq1.idx_int
    wp_walk using wpAny_loadPart' hl
    repeat (first
      | (refine wpAny_ite_false (decide_eq_false (by rw [c0]; exact Bool.false_ne_true)) ?_; wp_walk using wpAny_loadPart' hl)
      | (refine wpAny_ite_false (decide_eq_false (by rw [c1]; exact Bool.false_ne_true)) ?_; wp_walk using wpAny_loadPart' hl)
      | (refine wpAny_ite_true (decide_eq_true (by rw [c2])) ?_; wp_walk using wpAny_loadPart' hl))
    exact ⟨_, rfl, h⟩
def rRep1 (K : PySem.W.Frag) : R2 := fun x y H Q => ∃ l k xs, x = .ref l ∧ y = .int k ∧ SqT K H l xs ∧ (-1000 ≤ k ∧ k ≤ 1000) ∧ (xs = [] ∨ k = 1) ∧ Q (.ref l) H
def rRep0 (K : PySem.W.Frag) : R2 := fun x y H Q => ∃ l k xs, x = .ref l ∧ y = .int k ∧ SqT K H l xs ∧ (-1000 ≤ k ∧ k ≤ 0) ∧ xs ≠ [] ∧ ∀ p, H p = none → Q (.ref p) (upd H p (.tup []))
section
variable {X : Cx}
theorem op_rep1 : OpR X (binaryOp .Mult) (rRep1 X.K) := by
  intro pins s σ H x y v u Q I rx ry h
  obtain ⟨l, k, xs, rfl, rfl, hT, hk, hne, q⟩ := h
  cases rx
  obtain ⟨t, rfl⟩ := ry
  obtain ⟨its, r, ⟨⟨cls, dd, data, sl⟩, ho, hc, n, hd⟩, hs⟩ := I.tuple hT
  simp only at hc hd
  subst hc hd
  have c0 : (decide (k < -(2 ^ 63)) || decide (k ≥ 2 ^ 63)) = false := by
    rw [decide_eq_false (by omega), decide_eq_false (by omega)] <;> rfl
  have c1 : (its.toArray.isEmpty || k == 1) = true := by
    rcases hne with e | e
    · subst e
      cases r
      rfl
    · subst e
      simp
  exact wpAny_binaryOp_repeat_ref (T := "tuple") (U := "int") (by decide) ⟨_, ho, rfl⟩ (fun s' => typeIs_int s' k t) noFill_tuple_mul F.fills_int_mul F.slot_int_rmul repeat_tuple F.slot_int_index.lookup
    (call_meets F.slot_int_rmul (typeIs_int s k t) F.entry_int_rmul (F.args_int_rmul_2 _ _) (int_rmul_tuple k t l its.toArray n dd sl)
      ⟨ho, rfl, ⟨_, ho, rfl⟩, call_meets F.slot_tuple_mul ⟨_, ho, rfl⟩ F.entry_tuple_mul (F.args_tuple_mul_2 _ _) (tuple_mulS l its.toArray n dd sl k t c0 c1) ⟨ho, ⟨.ref l, _, I, rfl, q⟩⟩⟩)
theorem op_rep0 : OpR X (binaryOp .Mult) (rRep0 X.K) := by
  intro pins s σ H x y v u Q I rx ry h
  obtain ⟨l, k, xs, rfl, rfl, hT, hk, hne, q⟩ := h
  cases rx
  obtain ⟨t, rfl⟩ := ry
  obtain ⟨its, r, ⟨⟨cls, dd, data, sl⟩, ho, hc, n, hd⟩, hs⟩ := I.tuple hT
  simp only at hc hd
  subst hc hd
  have hle : its.length = xs.length := r.length.symm
  have hn : its ≠ [] := fun e => hne (by
    rw [e] at hle
    exact List.eq_nil_of_length_eq_zero hle.symm)
  have hi : its.toArray.isEmpty = false := by
    cases its with
    | nil => exact absurd rfl hn
    | cons a b => rfl
  have c0 : (decide (k < -(2 ^ 63)) || decide (k ≥ 2 ^ 63)) = false := by
    rw [decide_eq_false (by omega), decide_eq_false (by omega)] <;> rfl
  have c1 : (its.toArray.isEmpty || k == 1) = false := by
    rw [hi, Bool.false_or]
    exact beq_eq_false_iff_ne.mpr (by omega)
  have c2 : (decide (k ≤ 0) || its.toArray.isEmpty) = true := by
    rw [decide_eq_true hk.2]; rfl
  refine wpAny_binaryOp_repeat_ref (T := "tuple") (U := "int") (by decide) ⟨_, ho, rfl⟩ (fun s' => typeIs_int s' k t) noFill_tuple_mul F.fills_int_mul F.slot_int_rmul repeat_tuple F.slot_int_index.lookup
    (call_meets F.slot_int_rmul (typeIs_int s k t) F.entry_int_rmul (F.args_int_rmul_2 _ _) (int_rmul_tuple k t l its.toArray n dd sl)
      ⟨ho, rfl, ⟨_, ho, rfl⟩, call_meets F.slot_tuple_mul ⟨_, ho, rfl⟩ F.entry_tuple_mul (F.args_tuple_mul_2 _ _) (tuple_mul0 l its.toArray n dd sl k t c0 c1 c2) ⟨ho, ?_⟩⟩)
  refine ⟨.ref s.heap.objs.size, _, I.laid (t' := s.toks) (o := .tup []) (fun b ob q => Heap.get?_push_of_some _ q) (Nat.le_refl _) ?_, rfl, q _ (I.hok.fresh (Nat.le_refl _))⟩
  exact ⟨Nat.zero_le _, _, .nil, IsTup.new _ _⟩
end
/-- a tuple taken k times, whatever k -/
def pyMulT : PyData → PyData → Option PyData
  | .tuple xs, .int k => if -1000 ≤ k ∧ k ≤ 1000 ∧ xs.length ≤ 1000 then some (.tuple (List.replicate k.toNat xs).flatten) else none
  | _, _ => none
theorem or_mulT {X : Cx} : OpR X (binaryOp .Mult) (rD pyMulT) := OpR.imp (op_repT.or (op_rep1.or op_rep0)) fun x y H Q ⟨F, d, e, w, l, zx, zy, ew, k⟩ => by
  cases d with
  | tuple xs =>
    cases e with
    | int j =>
      cases zy
      have zx0 := zx
      cases zx with
      | @tup a vs _ hx rx =>
        simp only [pyMulT] at ew
        split at ew
        · rename_i hl
          cases ew
          by_cases h1 : vs = [] ∨ j = 1
          · refine .inr (.inl ⟨a, j, vs, rfl, rfl, SqT.of (l _ _ hx), ⟨hl.1, hl.2.1⟩, h1, ?_⟩)
            have hz : (List.replicate j.toNat xs).flatten = xs := by
              rcases h1 with e | e
              · subst e
                cases rx
                simp
              · subst e
                simp
            rw [hz] at k
            exact k F H _ (Grow.refl l) zx0
          · have hne : vs ≠ [] := fun e => h1 (.inl e)
            by_cases h2 : 2 ≤ j
            · exact .inl ⟨a, j, vs, rfl, rfl, SqT.of (l _ _ hx), hne, h2, hl.2.1, by rw [rx.length]; exact hl.2.2, fun p hp => k _ _ _ (Grow.new l hp) (.tup upd_same ((rx.to (Le.new (l.nn hp))).rep _))⟩
            · have h3 : j ≤ 0 := by
                have : j ≠ 1 := fun e => h1 (.inr e)
                omega
              have hz : (List.replicate j.toNat xs).flatten = [] := by rw [show j.toNat = 0 by omega]; rfl
              rw [hz] at k
              exact .inr (.inr ⟨a, j, vs, rfl, rfl, SqT.of (l _ _ hx), ⟨hl.1, h3⟩, hne, fun p hp => k _ _ _ (Grow.new l hp) (.tup upd_same .nil)⟩)
        · cases ew
    | _ => cases ew
  | _ => cases e <;> cases ew
end Dl

set_option Elab.async false
set_option linter.all false
set_option maxRecDepth 100000
set_option maxHeartbeats 4000000
namespace Dl
open PySem PySem.Spec PyProof.Rows L2

section
variable {C : Cn} {e b : Expr} {es : List Expr} {f fb : S → Out D} {fs : List (S → Out D)} {pos : Pos} {x : Str}
/-! ### ints that stand at the top -/
theorem ce_gint {i : Int} {u : Value} (hg : Gl C.X x) (hm : C.X.mg x = some u) (r : RelV (.int i) u) (hd : (x == ("__debug__" : Str)) = false := by decide) : CE C (.Name x pos) (cE (.int i)) :=
  ⟨PE.imp (pe_glob hg hm r hd) fun _ _ _ ⟨_, _, _, a, h⟩ => pkD_p a (.int i) h⟩
theorem cq_gint {i : Int} {u : Value} (hg : Gl C.X x) (hm : C.X.mg x = some u) (r : RelV (.int i) u) (hd : (x == ("__debug__" : Str)) = false := by decide) : CQ C (.Name x pos) (cQ (.int i)) :=
  ⟨PE.imp (pe_glob hg hm r hd) fun σ H Q ⟨F, A, s, d, a, e, k⟩ => by
    cases e
    exact k F H _ (Grow.refl a.g.fh) (.int i)⟩

/-! ### texts -/
def pyStr : List PyData → Option PyData
  | [.int i] => if i.natAbs.log2 < 1920 then some (.str (toString i)) else none
  | [.str a] => some (.str a)
  | _ => none
theorem crd_str {X : Cx} : CallR X (.type "str") (rC pyStr) := CallR.imp (call_str_int.or SkE.call_str_str) fun xs H Q ⟨F, ds, w, l, z, ew, k⟩ => by
  match ds, z, ew with
  | [.int i], .cons (.int _) .nil, ew =>
    simp only [pyStr] at ew
    split at ew
    · rename_i h
      cases ew
      exact .inl ⟨i, rfl, h, k F H _ (Grow.refl l) (.str _)⟩
    · cases ew
  | [.str a], .cons (.str _) .nil, ew =>
    cases ew
    exact .inr ⟨a, rfl, k F H _ (Grow.refl l) (.str _)⟩
def strsOf : List PyData → Option (List Str)
  | [] => some []
  | .str a :: ds => (strsOf ds).map (a :: ·)
  | _ :: _ => none
theorem strsOf_fz {F : Hs} : ∀ {ds : List PyData} {vs : List V} {ns : List Str}, Fzs F vs ds → strsOf ds = some ns → vs = ns.map V.str
  | [], _, _, .nil, e => by cases e; rfl
  | d :: ds, _, _, .cons h t, e => by
    cases d with
    | str a =>
      cases h
      simp only [strsOf] at e
      cases e1 : strsOf ds with
      | none => rw [e1] at e; cases e
      | some ns =>
        rw [e1] at e
        cases e
        rw [strsOf_fz t e1]; rfl
    | _ => cases e
def pyJoin : PyData → PyData → Option PyData
  | .str a, .list ds => (strsOf ds).bind fun ys => if (ys.map (·.length)).sum + ys.length * a.length ≤ cap then some (.str (Txt.join a ys)) else none
  | .str a, .tuple ds => (strsOf ds).bind fun ys => if (ys.map (·.length)).sum + ys.length * a.length ≤ cap then some (.str (Txt.join a ys)) else none
  | _, _ => none
theorem pyJoin_str {d e w : PyData} (h : pyJoin d e = some w) : ∃ a ys, d = .str a ∧ (e = .list ys ∨ e = .tuple ys) := by
  cases d with
  | str a => cases e with
    | list ys => exact ⟨a, ys, rfl, .inl rfl⟩
    | tuple ys => exact ⟨a, ys, rfl, .inr rfl⟩
    | _ => cases h
  | _ => cases e <;> cases h
/-- sep.join(parts): sep a text that stands there -/
def joinE (a : Str) (fb : S → Out D) : S → Out D := fun s => (fb s).bindP fun e s1 => Out.opt ((pyJoin (.str a) e).map .p) s1
theorem ce_join {a : Str} {j : Nat} {ps apos : Pos} (hb : CE C e fb) (hs : starEach [e] C.X.env = [(false, eval e C.X.env)] := by rfl) (hbase : attributeBase (.Constant (.str a) j ps) "join" C.X.env (eval (.Constant (.str a) j ps) C.X.env) = eval (.Constant (.str a) j ps) C.X.env := by rfl) (hline : (apos.endLine == pos.line) = true := by rfl) :
    CE C (.Call (.Attribute (.Constant (.str a) j ps) "join" apos) [e] [] pos) (joinE a fb) :=
  ⟨PE.imp (pe_join pe_str hb.run hs hbase hline) fun σ H Q ⟨F, A, s, at0, h⟩ => by
    refine ⟨⟨a, rfl⟩, evD_bindP at0 h fun d s1 F1 H1 A1 v at1 _ z1 h1 => ?_⟩
    cases ew : pyJoin (.str a) d with
    | none => rw [ew] at h1; exact h1.elim
    | some w =>
      rw [ew] at h1
      cases d with
      | list ds =>
        cases z1 with
        | @lst l vs _ hx rx =>
          obtain ⟨ys, e1, e2⟩ := Option.bind_eq_some_iff.mp ew
          split at e2
          · rename_i hl
            cases e2
            refine ⟨a, l, ys, rfl, rfl, .inl (SqL.of (at1.g.fh _ _ (by rw [← strsOf_fz rx e1]; exact hx))), Nat.le_trans hl (by decide), pkD_p at1 (.str _) h1⟩
          · cases e2
      | tuple ds =>
        cases z1 with
        | @tup l vs _ hx rx =>
          obtain ⟨ys, e1, e2⟩ := Option.bind_eq_some_iff.mp ew
          split at e2
          · rename_i hl
            cases e2
            refine ⟨a, l, ys, rfl, rfl, .inr (SqT.of (at1.g.fh _ _ (by rw [← strsOf_fz rx e1]; exact hx))), Nat.le_trans hl (by decide), pkD_p at1 (.str _) h1⟩
          · cases e2
      | _ => cases ew⟩
/-! ### f-strings -/
def fmtE (f : S → Out D) : S → Out D := fun s => (f s).bindP fun d s1 => match d with
  | .str y => if y.length ≤ cap then .ok (.p (.str y)) s1 else .er
  | .int i => if i.natAbs.log2 < 1920 then .ok (.p (.str (toString i))) s1 else .er
  | _ => .er
theorem ce_fmt (h : CE C e f) : CE C (.FormattedValue e (-1) none pos) (fmtE f) :=
  ⟨PE.imp (pe_fmt h.run) fun σ H Q ⟨F, A, s, at0, h⟩ => evD_bindP at0 h fun d s1 F1 H1 A1 v at1 _ z1 h1 => by
    cases d with
    | str y =>
      cases z1
      dsimp only at h1
      split at h1
      · rename_i hl
        exact .inl ⟨y, rfl, cap_le hl, pkD_p at1 (.str y) h1⟩
      · exact h1.elim
    | int i =>
      cases z1
      dsimp only at h1
      split at h1
      · rename_i hl
        exact .inr ⟨i, rfl, hl, pkD_p at1 (.str _) h1⟩
      · exact h1.elim
    | _ => exact h1.elim⟩
def jsE : List (S → Out D) → Str → S → Out D
  | [], acc, s => .ok (.p (.str acc)) s
  | f :: fs, acc, s => (f s).bindP fun d s1 => match d with
    | .str y => if (acc ++ y).length ≤ cap then jsE fs (acc ++ y) s1 else .er
    | _ => .er
/-- the parts of an f-string -/
inductive CJ (C : Cn) : List Expr → List (S → Out D) → Prop where
  | nil : CJ C [] []
  | cons {e : Expr} {f : S → Out D} {es : List Expr} {fs : List (S → Out D)} (h : CE C e f) (r : CJ C es fs) : CJ C (e :: es) (f :: fs)
theorem CJ.pj (h : CJ C es fs) : PJ C.X es (fs.map (EvD C)) := by
  induction h with
  | nil => exact .nil
  | cons h _ ih => exact .cons h.run ih
theorem ev_js {σ : L2.St} {Q : VK} : ∀ {fs : List (S → Out D)} {acc : Str} {H : Hs} {F : Hs} {A : List Addr} {s : S}, At C σ H s F A → (pkD C σ Q).at (jsE fs acc s) F H A → tJs (fs.map (EvD C)) acc σ H fun out H1 => Q (.str out) H1
  | [], acc, H, F, A, s, at0, h => pkD_p at0 (.str acc) h
  | f :: fs, acc, H, F, A, s, at0, h => by
    refine evD_bindP at0 h fun d s1 F1 H1 A1 v at1 _ z1 h1 => ?_
    cases d with
    | str y =>
      cases z1
      dsimp only at h1
      split at h1
      · rename_i hl
        exact ⟨y, rfl, cap_le hl, ev_js at1 h1⟩
      · exact h1.elim
    | _ => exact h1.elim
theorem ce_joined {v1 v2 : Expr} {rest : List Expr} (h : CJ C (v1 :: v2 :: rest) fs) : CE C (.JoinedStr (v1 :: v2 :: rest) pos) (jsE fs Str.empty) :=
  ⟨PE.imp (pe_joined h.pj) fun σ H Q ⟨F, A, s, at0, h⟩ => ev_js at0 h⟩

/-! ### a, b = x, y -/
def parS (i j : Nat) (fa : S → Out (List PyData)) : S → SOut := fun s => (fa s).bind fun ds s1 => match ds with
  | [d, e] => match (putSl i (.p d) s1).bind (putSl j (.p e)) with
    | some s2 => .ok none s2
    | none => .er
  | _ => .er
theorem put_at {σ : L2.St} {H : Hs} {s s1 : S} {F : Hs} {A : List Addr} {i : Nat} {d : PyData} {v : V} (at0 : At C σ H s F A) (z : Fz F v d) (e : putSl i (.p d) s = some s1) : ∃ A1, At C (σ.set i (some v)) H s1 F A1 ∧ Step F H A F H A1 := by
  obtain ⟨L, A0, R, rfl, r2⟩ := put_sr at0.r (Rep.p_iff.mpr ⟨rfl, z⟩) e
  have st : Step F H (L ++ (A0 ++ R)) F H (L ++ ([] ++ R)) := at0.g.step.of (nd_swap (T := []) (by rw [List.append_nil]; exact at0.g.nd)) (by
    intro x hx
    simp at hx ⊢
    rcases hx with hx | hx <;> simp [hx])
  exact ⟨_, ⟨st.good, r2⟩, st⟩
theorem cs_par {i j : Nat} {x y : Str} {a b : Expr} {fa : S → Out (List PyData)} {px py pt pt2 : Pos} {kt k2} (hc : C.X.calm = true) (hN : C.X.N.Nodup) (hi : C.X.N[i]? = some x) (hj : C.X.N[j]? = some y) (hij : i ≠ j)
    (hx : C.X.env.scope.names.lookup x = some .local) (hy : C.X.env.scope.names.lookup y = some .local) (ha : CA C [a, b] fa)
    (hw : swappedStores [.Tuple [.Name x px, .Name y py] kt pt] (.Tuple [a, b] k2 pt2) C.X.env = pure (some [x, y]))
    (hs : swapsWithSole [.Tuple [.Name x px, .Name y py] kt pt] (.Tuple [a, b] k2 pt2) pos.line C.X.env = pure false := by rfl) :
    CS C (.Assign [.Tuple [.Name x px, .Name y py] kt pt] (.Tuple [a, b] k2 pt2) pos) (parS i j fa) :=
  ⟨PS.imp (ps_par hc hN hi hj hij hx hy ha.run hw hs) fun Dn σ H ⟨F, A, s, at0, h⟩ => evL_bind at0 h fun ds s1 F1 H1 A1 vs at1 _ z1 h1 => by
    match ds, z1, h1 with
    | [d, e], .cons (v := v) zd (.cons (v := w) ze .nil), h1 =>
      dsimp only at h1
      cases e1 : putSl i (.p d) s1 with
      | none => rw [e1] at h1; exact h1.elim
      | some s2 =>
        rw [e1] at h1
        dsimp only [Option.bind] at h1
        cases e2 : putSl j (.p e) s2 with
        | none => rw [e2] at h1; exact h1.elim
        | some s3 =>
          rw [e2] at h1
          obtain ⟨A2, at2, st2⟩ := put_at at1 zd e1
          obtain ⟨A3, at3, st3⟩ := put_at at2 ze e2
          exact ⟨v, w, rfl, h1 F1 H1 A3 _ (st2.trans at1.g st3) at3.r⟩
    | [], _, h1 => exact h1.elim
    | [_], _, h1 => exact h1.elim
    | _ :: _ :: _ :: _, _, h1 => exact h1.elim⟩

/-! ### x += e -/
def augNS (i : Nat) (g : Int → Int → Int) (f : S → Out D) : S → SOut := fun s => match nE i s with
  | .ok (.p (.int n)) _ => (f s).bindP fun d s1 => match d with
    | .int m => match putSl i (.p (.int (g n m))) s1 with
      | some s2 => .ok none s2
      | none => .er
    | _ => .er
  | _ => .er
theorem cs_augN {i : Nat} {op : Operator} {g : Int → Int → Int} {pos' : Pos} (hN : C.X.N.Nodup) (hi : C.X.N[i]? = some x) (hx : Loc C.X.env.scope x) (he : CE C e f) (ho : PIp C.X op (rI g)) (hf : C.X.fn x = true ∨ C.X.env.scope.names.lookup x = some .local := by first | exact .inl rfl | exact .inr rfl | assumption) :
    CS C (.AugAssign (.Name x pos') op e pos) (augNS i g f) :=
  ⟨PS.imp (ps_aug hN hi hx he.run ho hf) fun Dn σ H ⟨F, A, s, at0, h⟩ => by
    unfold augNS at h
    cases en : nE i s with
    | ok d0 s0 =>
      rw [en] at h
      cases d0 with
      | p p0 =>
        cases p0 with
        | int n =>
          unfold nE at en
          split at en
          · rename_i d1 e1
            cases en
            obtain ⟨so, L, A1, R, e2, rfl, ⟨v, rfl, r⟩, _⟩ := at0.get e1
            obtain ⟨rfl, z⟩ := Rep.p_iff.mp r
            cases z
            refine ⟨_, e2, evD_bindP at0 h fun d s1 F1 H1 A1 v at1 _ z1 h1 => ?_⟩
            cases d with
            | int m =>
              cases z1
              dsimp only at h1
              refine ⟨n, m, rfl, rfl, ?_⟩
              cases e3 : putSl i (.p (.int (g n m))) s1 with
              | none => rw [e3] at h1; exact h1.elim
              | some s2 =>
                rw [e3] at h1
                obtain ⟨A2, at2, st2⟩ := put_at at1 (.int _) e3
                exact h1 F1 H1 A2 _ st2 at2.r
            | _ => exact h1.elim
          · cases en
        | _ => exact h.elim
      | _ => exact h.elim
    | _ => rw [en] at h; exact h.elim⟩
/-! ### a call of nothing -/
theorem pe_callS0 {X : Cx} {CX : CXT} {k : Nat} {f : Addr} {fd : FuncData} {ps : List Str} {sp : Sp} {E : L2.St → XK} {x : Str} {p pos : Pos} (F : FnOk X.prog X.w X.K X.mg X.base CX k f fd ps sp) (hr : Room k X.A) (hg : Gl X x) (hm : X.mg x = some (.ref f)) (hk : PySem.W.keepIn X.K (.ref f) = true) (hb : Binds X.K fd ps []) (hx : ∀ σ, PassesAt CX X σ (E σ))
    (hdb : (x == ("__debug__" : Str)) = false := by decide) : PE X (.Call (.Name x p) [] [] pos) (fun σ H Q => sp [] H Q (E σ)) := by
  refine ⟨fun pins s σ H Q I h => ?_⟩
  refine wpAny_Call_Name_kw (ld_glob I hg hm ?_ hdb)
  exact PySem.W.callWith_K0 I.kIn hk (run_fnS (us := []) F hr hb (hx σ) I .nil h)
theorem ce_call0 {G : Gv} {k j : Nat} {x : Str} {fm : Fn} {p : Pos} (I : In C G k) (c : Cal G j x 0 fm) (hj : j ≤ k) (hg : Gl C.X x) (hdb : (x == ("__debug__" : Str)) = false := by decide) : CE C (.Call (.Name x p) [] [] pos) (callD fm []) := by
  obtain ⟨X, ca, bv, W⟩ := C
  obtain ⟨gP, gw, gK, gmg, gbase, gca⟩ := G
  obtain ⟨i1, i2, i3, i4, i5, i6, tk, rm⟩ := I
  dsimp only at i1 i2 i3 i4 i5 i6 tk rm
  subst i1 i2 i3 i4 i5 i6
  obtain ⟨f, fd, ps, F, hm, hk, hb⟩ := c.ex
  refine ⟨PE.imp (pe_callS0 F (rm.mono hj) hg hm hk hb (fun σ => passAt tk σ) hdb) fun σ H Q ⟨F0, A, s, at0, h⟩ => ?_⟩
  exact sp_here (C := ⟨X, ca, bv, W⟩) (as := []) at0.g (T := []) (by rw [List.append_nil]; exact at0.g.step) at0.r (by simp only [RepL]; exact ⟨trivial, trivial⟩) trivial rfl h
end
end Dl

set_option Elab.async false
set_option linter.all false
set_option maxRecDepth 100000
set_option maxHeartbeats 4000000
namespace Dl
open PySem PySem.Spec PyProof.Rows L2

section
variable {C : Cn} {e b : Expr} {pos : Pos} {pl : Pl} {x : Str} {G : Gv} {k : Nat} {sts : List Stmt}
/-- no way leads here -/
theorem css_er : CSs C sts (fun _ => .er) := ⟨⟨fun pins s σ H D I ⟨F, A, s0, a, h⟩ => h.elim⟩⟩
/-- the length of a list of one's own -/
def lenQ (pl : Pl) : S → Option PyData := fun s => ((pl.get s).bind ownL).map fun ds => .int ds.length
theorem cq_lenP {p : Pos} (hg : Gl C.X "len") (hm : C.X.mg "len" = none) (h : CPl C e pl) (he : starEach [e] C.X.env = (false, eval e C.X.env) :: starEach [] C.X.env := by rfl) (hpl : (backTo pos (starEach [] C.X.env)).any (·.1) = false := by rfl) : CQ C (.Call (.Name "len" p) [e] [] pos) (lenQ pl) :=
  ⟨PE.imp (pe_callB call_len hg hm boot_len (pa_cons h.run pa_nil he) (by decide) (by decide) he hpl) fun σ H Q ⟨F, A, s, d, at0, hd, kk⟩ => by
    obtain ⟨ds, h1, rfl⟩ := Option.map_eq_some_iff.mp hd
    obtain ⟨d1, h2, h3⟩ := Option.bind_eq_some_iff.mp h1
    obtain rfl := ownL_some h3
    refine ⟨F, A, s, _, at0, h2, fun F1 H1 v gr fo => ?_⟩
    obtain ⟨L, A1, R, rfl, rp, _⟩ := fo
    simp only [Rep] at rp
    obtain ⟨a, vs, A2, rfl, rfl, ha, rl⟩ := rp
    refine ⟨.ref a, vs.length, rfl, .inl ⟨vs, SqL.of ha, rfl⟩, ?_⟩
    have e := kk F1 H1 (.int vs.length) gr (by rw [← RepL.length rl]; exact .int _)
    exact e⟩
end
/-! ### a block's own names, looked at by a computation -/
def blkB (N : List Str) (sc scope : Scope) (own : List (Str × Nat)) : Bool :=
  decide (scope.kind = .function) && (scope.names.all fun y => decide (scope.names.lookup y.1 = some y.2)) && (own.all fun p => decide (N[p.2]? = some p.1)) &&
  (scope.names.all fun y => !decide (y.2 = .free) || (decide (sc.names.lookup y.1 = some .cell) || decide (sc.names.lookup y.1 = some .free))) &&
  (scope.names.all fun y => !(decide (y.2 = .local) || decide (y.2 = .cell)) || ((own.map (·.1)).any (fun z => decide (y.1 = z)) || N.all fun z => !decide (y.1 = z)))
theorem blk_of {N : List Str} {sc scope : Scope} {own : List (Str × Nat)} (h : blkB N sc scope own = true) : BlkOk N sc scope own := by
  unfold blkB at h
  simp only [Bool.and_eq_true, List.all_eq_true, decide_eq_true_eq, Bool.or_eq_true, Bool.not_eq_true', decide_eq_false_iff_not, List.any_eq_true] at h
  obtain ⟨⟨⟨⟨h1, h2⟩, h3⟩, h4⟩, h5⟩ := h
  refine ⟨h1, h2, h3, fun y hy e => ?_, fun y hy e => ?_⟩
  · rcases h4 y hy with h | h
    · exact absurd e h
    · exact h
  · rcases h5 y hy with h | h | h
    · rcases e with e | e
      · exact absurd e (by intro e2; simp [e2] at h)
      · exact absurd e (by intro e2; simp [e2] at h)
    · obtain ⟨z, hz, e2⟩ := h
      exact .inl (by rw [e2]; exact hz)
    · exact .inr fun hn => h _ hn rfl
end Dl

set_option Elab.async false
set_option linter.all false
set_option maxRecDepth 100000
set_option maxHeartbeats 4000000
namespace Dl
open PySem PySem.Spec PyProof.Rows L2

/-! ### a dict by a comprehension, stored at a name -/
theorem dc_core {X : Cx} {pins : List (Addr × Obj)} {s : Shared} {σ : L2.St} {H : Hs} {Q : VK} {kx vx tg iter : Expr} {scope : Scope} {own : List (Str × Nat)} {pos pos' : Pos} {wi : TI} {g : TG} {tk tv : TE} {use : Option (Value → Sem Unit)} {Qf : Value → Shared → Prop} (hu : X.A.units + 9 < cLine) (hc : X.calm = true) (hN : X.N.Nodup) (I : Inv X pins σ H s) (hi : PI X tg iter wi) (ok : BlkOk X.N X.env.scope scope own)
    (hg : ∀ (s : Shared) (H : Hs) (C : Addr) (cl : List (Str × Addr)) (fp : List Addr), PG (X.blk s H scope (compEnvC scope cl C X.env) fp) tg g)
    (hk : ∀ (s : Shared) (H : Hs) (C : Addr) (cl : List (Str × Addr)) (fp : List Addr), PE (X.blk s H scope (compEnvC scope cl C X.env) fp) kx tk)
    (he : ∀ (s : Shared) (H : Hs) (C : Addr) (cl : List (Str × Addr)) (fp : List Addr), PE (X.blk s H scope (compEnvC scope cl C X.env) fp) vx tv) (hs : ∀ x, foldedSetIterable iter X.env x = pure x)
    (h : eDc X.prog X.w wi g tk tv (own.map (·.2)) σ H Q)
    (hRR : ∀ D C s' m H', Inv X pins σ H' s' → Q (.ref D) H' → s'.heap.Ns C m → FpOk X pins H' C → compPost (model X.prog X.w) X.A X.xe use Qf (.ref D) C (.ok .next) s') :
    wpAny (model X.prog X.w) X.A (comprehension (.DictComp kx vx [⟨tg, iter, [], 0⟩] scope pos) scope X.env pos' newDict false (eval iter X.env) use) Qf X.xe s := by
  have free : ∀ y ∈ scope.names, y.2 = .free → ∃ c, X.env.cells.lookup y.1 = some c := fun y hy e => (ok.free y hy e).elim (fun k => I.ok.has _ (.inl k)) (fun k => I.ok.has _ (.inr k))
  refine wpAny_comprehension_free (use := use) rfl hs (closure_ok free) ok.kind (fun y hy e => by rw [ok.uniq y hy, e]) (thn (hi.run pins s σ H _ I h) fun xv s1 hx => thn hx fun itv s2 ⟨it, fp, tn, J, H2, ei, I2, T, st2, f2, q⟩ => ?_)
  subst ei
  refine wpAny_newObj_type (newEnv_comp ?_)
  obtain ⟨D, hD⟩ : ∃ D, s2.heap.objs.size = D := ⟨_, rfl⟩
  rw [hD]
  have hDn : H2 D = none := I2.hok.fresh (Nat.le_of_eq hD)
  obtain ⟨o, okD⟩ := dO_new (P := X.prog) (w := X.w) (H' := H2) (h' := s2.heap.push { cls := .type "dict", data := .dict #[] }) (a := D) (xs := []) (by rw [← hD]; exact beq_eq_false_iff_ne.mpr (Ne.symm (Nat.ne_of_lt I2.big))) (Nat.zero_le _) .nil (by rw [← hD]; exact Heap.DictOfH.new s2.heap)
  obtain ⟨W, ⟨m0, w0⟩, turn⟩ := q D o hDn
  obtain ⟨s3, hs3⟩ : ∃ s3 : Shared, ({ s2 with heap := s2.heap.push { cls := .type "dict", data := .dict #[] } } : Shared) = s3 := ⟨_, rfl⟩
  have h3 : s3.heap = s2.heap.push { cls := .type "dict", data := .dict #[] } := by rw [← hs3]
  obtain ⟨H3, hH3⟩ : ∃ H3 : Hs, upd H2 D (dO X.prog X.w D o []) = H3 := ⟨_, rfl⟩
  have I3 : Inv X pins σ H3 s3 := by
    rw [← hs3, ← hH3]
    exact I2.laid (t' := s2.toks) (fun b o e => Heap.get?_push_of_some _ e) (Nat.le_of_eq hD) okD
  rw [hs3]
  have low : ∀ b ∈ fp, b < s2.heap.objs.size := fun b hb => let ⟨o, e, _⟩ := T.obj _ _ st2 b hb; Heap.lt_size e
  have f3 : ∀ b ∈ fp, FpOk X pins H3 b ∧ b < s3.heap.objs.size := fun b hb => by
    refine ⟨⟨?_, (f2 b hb).2⟩, by rw [h3, Heap.size_push]; exact Nat.lt_succ_of_lt (low b hb)⟩
    rw [← hH3, upd_ne (by rw [← hD]; exact Nat.ne_of_lt (low b hb))]
    exact (f2 b hb).1
  have n3 : ∀ b ∈ fp, H3 b = none := fun b hb => (f3 b hb).1.1
  have st3 : tn 0 s3.heap := T.keep _ _ _ st2 fun b _ o e => by rw [h3]; exact Heap.get?_push_of_some _ e
  have I4 := block_start I3 ok hN f3
  have pg := hg s3 H3 s3.heap.objs.size (cellsFrom (s3.heap.objs.size + 1) scope.names (cloFrom X.env.cells scope.names [])) fp
  have pk := hk s3 H3 s3.heap.objs.size (cellsFrom (s3.heap.objs.size + 1) scope.names (cloFrom X.env.cells scope.names [])) fp
  have pe := he s3 H3 s3.heap.objs.size (cellsFrom (s3.heap.objs.size + 1) scope.names (cloFrom X.env.cells scope.names [])) fp
  show codeAny _ _ (.compStart (.DictComp kx vx [⟨tg, iter, [], 0⟩] scope pos) 0 (.ref it) (.ref D) (compEnvC scope (cellsFrom (s3.heap.objs.size + 1) scope.names (cloFrom X.env.cells scope.names [])) s3.heap.objs.size X.env)) _ { s3 with heap := pushCells (s3.heap.push { cls := .type "dict", data := .dict #[] }) scope.names }
  obtain ⟨ce, hce⟩ : ∃ ce, compEnvC scope (cellsFrom (s3.heap.objs.size + 1) scope.names (cloFrom X.env.cells scope.names [])) s3.heap.objs.size X.env = ce := ⟨_, rfl⟩
  rw [hce] at I4 pg pk pe ⊢
  have cL : ce.locals = s3.heap.objs.size := by rw [← hce]; rfl
  obtain ⟨s4, hs4⟩ : ∃ s4 : Shared, ({ s3 with heap := pushCells (s3.heap.push { cls := .type "dict", data := .dict #[] }) scope.names } : Shared) = s4 := ⟨_, rfl⟩
  rw [hs4] at I4 ⊢
  have st4 : tn 0 s4.heap := T.keep _ _ _ st3 fun b _ o e => by rw [← hs4]; exact pushCells_keeps _ _ _ _ (Heap.get?_push_of_some _ e)
  have stat : ∀ {σ' : L2.St} {H' : Hs} {s' : Shared}, Inv (X.blk s3 H3 scope ce fp) [] σ' H' s' → (∀ b ∈ fp, H' b = none) → ∀ b ∈ fp, FpOk (X.blk s3 H3 scope ce fp) [] H' b := fun {σ' H' s'} I' hn b hb =>
    ⟨hn b hb, (I'.ok.exf b hb).1, I'.ok.exfs b hb, .inl hb, fun x c e => (I'.ok.exf b hb).2 x c e, fun p hp => absurd (show p ∈ ([] : List (Addr × Obj)) ++ [] from hp) (by simp)⟩
  have loop : codeAny (model X.prog X.w) X.A (.compLoop (.DictComp kx vx [⟨tg, iter, [], 0⟩] scope pos) 0 (.ref it) (.ref D) ce) (compPost (model X.prog X.w) X.A X.xe use Qf (.ref D) s3.heap.objs.size) s4 := by
    refine compLoop_anyD (fun n s' => ∃ i H', Inv (X.blk s3 H3 scope ce fp) [] (L2.wipe σ (own.map (·.2))) H' s' ∧ tn i s'.heap ∧ (∀ b ∈ fp, H' b = none) ∧ W i n H') ?_ m0 ⟨0, H3, I4, st4, n3, by rw [← hH3]; exact w0⟩
    rintro n s5 ⟨i, H5, I5, st5, n5, w5⟩
    rcases turn i n H5 w5 with ⟨stop, qq⟩ | ⟨go, Nx, hNx, step⟩
    · refine thnF (T.done (X.blk s3 H3 scope ce fp) rfl rfl rfl hc i [] s5 _ H5 (fun _ _ => False) I5 (stat I5 n5) st5 stop) fun r s6 ⟨hr, I6⟩ => ?_
      subst hr
      have I7 : Inv X pins σ H5 s6 := I3.call' (ch := fp) I6.os I6.base I6.hok I6.bare fun b hb => ⟨(f3 b hb).1.2.2.2.1, (f3 b hb).1.2.1, (f3 b hb).1.2.2.2.2.1, (f3 b hb).1.2.2.2.2.2⟩
      obtain ⟨m, hn, _⟩ := I6.loc
      have hn' : s6.heap.Ns s3.heap.objs.size m := by rw [← cL]; exact hn
      have nC : H5 s3.heap.objs.size = none := by rw [← cL]; exact I6.free
      exact hRR D s3.heap.objs.size s6 m H5 I7 qq hn' (I3.fpOk (Nat.le_refl s3.heap.objs.size) nC)
    · refine thnF (T.item (X.blk s3 H3 scope ce fp) rfl rfl rfl hc i [] s5 _ H5 (fun _ _ => False) I5 (stat I5 n5) st5 go) fun r s6 ⟨u, hr, h6⟩ => ?_
      subst hr
      refine thnF h6 fun _ s7 ⟨x, H7, I7, r7, y7, st7, n7⟩ => ?_
      refine thnF (pg.run _ s7 _ H7 x u _ (I7.pinned (stat I7 n7) (T.obj _ _ st7)) r7 (step x H7 y7)) fun _ s8 ⟨σ8, H8, I8, hw8, q8⟩ => ?_
      rw [List.forIn_nil]
      refine wpAny_pure ?_
      simp only [if_true]
      refine thnF (pk.run _ s8 σ8 H8 _ I8 q8) fun z s10 ⟨yk, H10, I10, r10, q10⟩ => thnF (pe.run _ s10 σ8 H10 _ I10 q10) fun z2 s11 ⟨yv, H11, I11, r11, b, xs, k, ek, dat, kat, hz11, nx⟩ => ?_
      subst ek
      obtain rfl : z = Value.ref b := r10
      refine e_dictSet (X := X.blk s3 H3 scope ce fp) hu I11 dat kat hz11 r11 fun o' s12 I12 => ?_
      obtain ⟨m', hm, w'⟩ := hNx _ (nx o')
      have pin' : ∀ c ∈ fp, ∀ oc, s7.heap.get? c = some oc → s12.heap.get? c = some oc ∧ upd H11 D (dO (X.blk s3 H3 scope ce fp).prog (X.blk s3 H3 scope ce fp).w D o' (putX xs k b yv)) c = none := fun c hc oc e =>
        let z := I12.pin (c, oc) (List.mem_append_right _ (List.mem_append_right _ (mem_pinsAt hc e)))
        ⟨z.1, z.2.1⟩
      have hl : (L2.wipe σ (own.map (·.2))).length = σ8.length := by rw [← hw8, wipe_length]
      refine ⟨m', hm, i + 1, _, (I12.unpinned (pins := [])).weak hl (fun j v e => by rw [← hw8] at e; exact (wipe_some e).1), T.keep _ _ _ st7 fun c hc oc e => (pin' c hc oc e).1, fun c hc => ?_, w'⟩
      obtain ⟨oc, e, _⟩ := T.obj _ _ st7 c hc
      exact (pin' c hc oc e).2
  exact codeAny_compStart_dict loop (T.self X.A 0 _ _ _ st4 loop)
theorem pe_setDc {X : Cx} {i : Nat} {y : Str} {py spos : Pos} {kx vx tg iter : Expr} {scope : Scope} {own : List (Str × Nat)} {pos : Pos} {wi : TI} {g : TG} {tk tv : TE} (hu : X.A.units + 9 < cLine) (hc : X.calm = true) (hN : X.N.Nodup) (hy : X.N[i]? = some y) (hyl : X.env.scope.names.lookup y = some .local)
    (hsw : swapsWith (.DictComp kx vx [⟨tg, iter, [], 0⟩] scope pos) (some (.Name y py)) spos.line X.env = pure true) (hi : PI X tg iter wi) (ok : BlkOk X.N X.env.scope scope own)
    (hg : ∀ (s : Shared) (H : Hs) (C : Addr) (cl : List (Str × Addr)) (fp : List Addr), PG (X.blk s H scope (compEnvC scope cl C X.env) fp) tg g)
    (hk : ∀ (s : Shared) (H : Hs) (C : Addr) (cl : List (Str × Addr)) (fp : List Addr), PE (X.blk s H scope (compEnvC scope cl C X.env) fp) kx tk)
    (he : ∀ (s : Shared) (H : Hs) (C : Addr) (cl : List (Str × Addr)) (fp : List Addr), PE (X.blk s H scope (compEnvC scope cl C X.env) fp) vx tv) (hs : ∀ x, foldedSetIterable iter X.env x = pure x := by intro _; rfl) :
    PS X (.Assign [.Name y py] (.DictComp kx vx [⟨tg, iter, [], 0⟩] scope pos) spos) (tAsg (eDc X.prog X.w wi g tk tv (own.map (·.2))) (gName i)) := by
  refine ⟨fun pins s σ H D I h => ?_⟩
  rw [exec_Assign_Name_used _ _ _ _ hsw]
  refine wpAny_bind (wpAny_standAt (wpAny_bind ?_))
  show wpAny _ X.A (do let _ ← comprehension (.DictComp kx vx [⟨tg, iter, [], 0⟩] scope pos) scope X.env (firstIterPos [⟨tg, iter, [], 0⟩] pos) newDict false (eval iter X.env) (some (assign (.Name y py) X.env))) _ _ s
  have h : eDc X.prog X.w wi g tk tv (own.map (·.2)) σ H (fun x H1 => gName i x σ H1 D.nx) := h
  refine wpAny_bind (thn (dc_core (Qf := fun _ s' => SP X pins D .next s') hu hc hN I hi ok hg hk he hs h fun L C s' m H' I' q hn f => ?_) fun _ s' hq => wpAny_pure (wpAny_pure hq))
  show wpAny _ _ (assign (.Name y py) X.env (.ref L)) _ _ _
  refine wpAny_assign_Name (store_ok2 (v := V.ref L) I' hN hy (.inl hyl) rfl (fun s2 I2 ⟨a, sb, ha⟩ => ?_) (.inr hyl))
  obtain ⟨f0, f1, f2, f3, f4, f5⟩ := f
  have haC : C ≠ a := by
    rcases ha with z | z
    · rw [z]; exact f1
    · exact fun e => f4 y a z e.symm
  refine ⟨m, hn.sameBut sb haC, fun h3 sb3 => ?_⟩
  exact ⟨_, H', I2.turned (t' := s2.toks) (fun b o hb e => (sb3.2 b hb).trans e) f0 f1 f3 f4 f5, q⟩
theorem swd_true {kx vx : Expr} {gs : List Comprehension} {scope : Scope} {pos py : Pos} {y : Str} {l : Nat} {env : Env} (hk : env.scope.kind = .function) (hy : env.scope.names.lookup y = some .local) (hl : (py.line == pos.line) = true)
    (ha : (scope.names.any fun (n, k) => n == y && (k == .local || k == .cell)) = false) : swapsWith (.DictComp kx vx gs scope pos) (some (.Name y py)) l env = pure true := by
  have ky : env.kindOf y = some .local := hy
  have hb : env.blockKind = .function := by unfold Env.blockKind; rw [hk]; rfl
  unfold swapsWith
  simp only [hb, ky, ha, Expr.pos, hl]
  rfl
section
variable {C : Cn} {kx vx tg iter : Expr} {scope : Scope} {own : List (Str × Nat)} {pos spos : Pos} {fi : S → Out (List PyData)} {js : List Nat} {g : PyData → S → Option S} {q : S → Option PyData} {te : S → Out D}
theorem cs_setDc {i : Nat} {y : Str} {py : Pos} (hu : C.X.A.units + 9 < cLine) (hc : C.X.calm = true) (hN : C.X.N.Nodup) (hy : C.X.N[i]? = some y) (hyl : C.X.env.scope.names.lookup y = some .local)
    (hsw : swapsWith (.DictComp kx vx [⟨tg, iter, [], 0⟩] scope pos) (some (.Name y py)) spos.line C.X.env = pure true) (hi : CI C tg iter fi) (ok : BlkOk C.X.N C.X.env.scope scope own) (hj : ∀ j ∈ js, j ∈ own.map (·.2))
    (hg : ∀ (s : Shared) (H : Hs) (c : Addr) (cl : List (Str × Addr)) (fp : List Addr), CG (C.blk s H scope (compEnvC scope cl c C.X.env) fp) tg js g)
    (hk : ∀ (s : Shared) (H : Hs) (c : Addr) (cl : List (Str × Addr)) (fp : List Addr), CQ (C.blk s H scope (compEnvC scope cl c C.X.env) fp) kx q)
    (he : ∀ (s : Shared) (H : Hs) (c : Addr) (cl : List (Str × Addr)) (fp : List Addr), CE (C.blk s H scope (compEnvC scope cl c C.X.env) fp) vx te) (hs : ∀ x, foldedSetIterable iter C.X.env x = pure x := by intro _; rfl) :
    CS C (.Assign [.Name y py] (.DictComp kx vx [⟨tg, iter, [], 0⟩] scope pos) spos) (setS i (dcD (own.map (·.2)) fi g q te)) :=
  cs_setT (pe_setDc (g := EvG C.nox js g) (tk := EvQ C.nox q) (tv := EvD C.nox te) hu hc hN hy hyl hsw hi.run ok (fun s H c cl fp => (hg s H c cl fp).run) (fun s H c cl fp => (hk s H c cl fp).run) (fun s H c cl fp => (he s H c cl fp).run) hs) fun σ H Q => ev_dc hj
end
end Dl

set_option Elab.async false
set_option linter.all false
set_option maxRecDepth 100000
set_option maxHeartbeats 4000000
namespace Dl
open PySem PySem.Spec PyProof.Rows L2

/-! ### the law's own draw: the town is [numbers, count], numbers is read under a second name -/
abbrev rLenV (K : PySem.W.Frag) : List V → Hs → VK → Prop := fun xs H Q => ∃ x n, xs = [x] ∧ LenV K x H n ∧ Q (.int n) H
def tDraw (K : PySem.W.Frag) : TS :=
  tSeq (tAsg (tOp (rIxL K) (tVar 0) (tC (.int 0))) (gName 2)) <|
  tSeq (tAsg (tOp (rI0 fun i j => .int (i + j)) (tOp (rIxL K) (tVar 0) (tC (.int 1))) (tC (.int 1))) (gSub (tVar 0) (tC (.int 1)) rSetL)) <|
  tSeq (tAsg (tOp (L2.rI (fun _ j => 0 < j) fun i j => .int (i % j)) (tOp (rIxL K) (tVar 0) (tC (.int 1))) (tCB (rLenV K) (tCons (tVar 2) tNil))) (gName 3)) <|
  tSeq (tAsg (tOp (rIxL K) (tVar 2) (tVar 3)) (gName 4)) <|
  tSeq (tIfS (tB (tOp (rI0 fun i j => .bl (decide (j ≤ i))) (tVar 4) (tC (.int 1000000000000000000))))
    (tSeq (tAsg (tOp (L2.rI CDiv fun i j => .int (i / j)) (tVar 4) (tVar 1)) (gSub (tVar 2) (tVar 3) rSetL)) (tRet (tOp (L2.rI (fun _ j => 0 < j) fun i j => .int (i % j)) (tVar 4) (tVar 1)))) tNext) <|
  tSeq (tAsg (tOp (L2.rI (fun _ j => 0 < j) fun i j => .int (i % j)) (tOp (rI0 fun i j => .int (i + j)) (tVar 4) (tOp (L2.rI CMul fun i j => .int (i * j)) (tC (.int 104729)) (tOp (rIxL K) (tVar 0) (tC (.int 1))))) (tC (.int 4294967291))) (gName 5)) <|
  tSeq (tAsg (tOp (L2.rI (fun _ j => 0 < j) fun i j => .int (i % j)) (tOp (L2.rI CPow fun i j => .int (i ^ j.toNat)) (tVar 5) (tC (.int 5))) (tC (.int 4294967279))) (gName 5)) <|
  tRet (tOp (L2.rI (fun _ j => 0 < j) fun i j => .int (i % j)) (tOp (L2.rI CDiv fun i j => .int (i / j)) (tOp (L2.rI (fun _ j => 0 < j) fun i j => .int (i % j))
    (tOp (rI0 fun i j => .int (i + j)) (tOp (L2.rI CMul fun i j => .int (i * j)) (tOp (L2.rI CDiv fun i j => .int (i / j)) (tVar 5) (tC (.int 64))) (tC (.int 69621))) (tVar 5)) (tC (.int 4294967231))) (tC (.int 8))) (tVar 1))
def mixI (cell k : Int) : Int :=
  let m := (cell + 104729 * k) % 4294967291
  let m := m ^ 5 % 4294967279
  (m / 64 * 69621 + m) % 4294967231 / 8
theorem atI_map {ns : List Int} {i : Int} {k : Nat} {c : Int} (h : i = k) (e : ns[k]? = some c) : atI (ns.map V.int) i = some (.int c) := by
  have hk1 : k < ns.length := by
    rcases Nat.lt_or_ge k ns.length with h | h
    · exact h
    · rw [List.getElem?_eq_none h] at e; cases e
  subst h
  unfold atI ixN
  rw [if_pos (by omega), if_pos (by rw [List.length_map]; omega), Option.bind_some, List.getElem?_map, Int.toNat_natCast, e]
  rfl
theorem ite_t {p q : Prop} (h : p) : if true = true then p else q := by rw [if_pos rfl]; exact h
theorem ite_f {p q : Prop} (h : q) : if false = true then p else q := by rw [if_neg Bool.false_ne_true]; exact h
theorem draw_walk {K : PySem.W.Frag} {Dn : Ends} {H : Hs} {a b : Addr} {ns : List Int} {t c cell : Int} {k : Nat} (ha : H a = some (.lst [.ref b, .int t])) (hb : H b = some (.lst (ns.map V.int))) (hab : a ≠ b) (hk : (t + 1) % ns.length = k) (hc : ns[k]? = some cell) (h0 : 0 < c) (h1 : c < 1073741824)
    (q1 : 1000000000000000000 ≤ cell → Dn.rt (.int (cell % c)) (upd (upd H a (.lst [.ref b, .int (t + 1)])) b (.lst ((ns.set k (cell / c)).map V.int))))
    (q2 : cell < 1000000000000000000 → Dn.rt (.int (mixI cell (t + 1) % c)) (upd H a (.lst [.ref b, .int (t + 1)]))) :
    tDraw K Dn [some (.ref a), some (.int c), none, none, none, none] H := by
  have hk1 : k < ns.length := by
    rcases Nat.lt_or_ge k ns.length with h | h
    · exact h
    · rw [List.getElem?_eq_none h] at hc; cases hc
  obtain ⟨H1, hH1⟩ : ∃ H1, upd H a (.lst [.ref b, .int (t + 1)]) = H1 := ⟨_, rfl⟩
  have ha1 : H1 a = some (.lst [.ref b, .int (t + 1)]) := by rw [← hH1]; exact upd_same
  have hb1 : H1 b = some (.lst (ns.map V.int)) := by rw [← hH1, upd_ne (Ne.symm hab)]; exact hb
  rw [hH1] at q1 q2
  have i1 : tOp (rIxL K) (tVar 0) (tC (.int 1)) = tOp (rIxL K) (tVar 0) (tC (.int 1)) := rfl
  refine ⟨.ref a, rfl, a, _, 0, .ref b, rfl, rfl, SqL.of ha, rfl, ?_⟩
  refine ⟨.ref a, rfl, a, _, 1, .int t, rfl, rfl, SqL.of ha, rfl, t, 1, rfl, rfl, ?_⟩
  refine ⟨.ref a, rfl, a, _, 1, 1, rfl, rfl, ha, rfl, ?_⟩
  show tSeq _ _ Dn [some (.ref a), some (.int c), some (.ref b), none, none, none] (upd H a (.lst [.ref b, .int (t + 1)]))
  rw [hH1]
  refine ⟨.ref a, rfl, a, _, 1, .int (t + 1), rfl, rfl, SqL.of ha1, rfl, .ref b, rfl, .ref b, ns.length, rfl, .inl ⟨_, SqL.of hb1, by simp⟩, t + 1, ns.length, rfl, rfl, by omega, ?_⟩
  show tSeq _ _ Dn [some (.ref a), some (.int c), some (.ref b), some (.int ((t + 1) % (ns.length : Int))), none, none] H1
  rw [hk]
  refine ⟨.ref b, rfl, .int k, rfl, b, _, k, .int cell, rfl, rfl, SqL.of hb1, atI_map rfl hc, ?_⟩
  by_cases hge : (1000000000000000000 : Int) ≤ cell
  · refine ⟨.int cell, rfl, cell, 1000000000000000000, rfl, rfl, true, congrArg V.bl (decide_eq_true hge), ?_⟩
    refine ite_t ?_
    refine ⟨.int cell, rfl, .int c, rfl, cell, c, rfl, rfl, ⟨h0, h1⟩, .ref b, rfl, .int k, rfl, b, _, k, k, rfl, rfl, hb1, ?_, ?_⟩
    · rw [List.length_map]
      unfold ixN
      rw [if_pos (by omega), if_pos (by omega), Int.toNat_natCast]
    · refine ⟨.int cell, rfl, .int c, rfl, cell, c, rfl, rfl, h0, ?_⟩
      have q := q1 hge
      rw [List.map_set] at q
      exact q
  · refine ⟨.int cell, rfl, cell, 1000000000000000000, rfl, rfl, false, congrArg V.bl (decide_eq_false hge), ?_⟩
    refine ite_f ?_
    refine ⟨.int cell, rfl, .ref a, rfl, a, _, 1, .int (t + 1), rfl, rfl, SqL.of ha1, rfl, 104729, t + 1, rfl, rfl, .inl (by decide), cell, _, rfl, rfl, _, 4294967291, rfl, rfl, (by show (0 : Int) < 4294967291; decide), ?_⟩
    have m0 : 0 ≤ (cell + 104729 * (t + 1)) % 4294967291 := Int.emod_nonneg _ (by decide)
    have m1 : (cell + 104729 * (t + 1)) % 4294967291 < 4294967291 := Int.emod_lt_of_pos _ (by decide)
    refine ⟨.int _, rfl, _, 5, rfl, rfl, ⟨by decide, by decide, by omega⟩, _, 4294967279, rfl, rfl, (by show (0 : Int) < 4294967279; decide), ?_⟩
    have n0 : 0 ≤ ((cell + 104729 * (t + 1)) % 4294967291) ^ 5 % 4294967279 := Int.emod_nonneg _ (by decide)
    refine ⟨.int _, rfl, _, 64, rfl, rfl, ⟨by decide, by decide⟩, _, 69621, rfl, rfl, .inr (by decide), .int _, rfl, _, _, rfl, rfl, _, 4294967231, rfl, rfl, (by show (0 : Int) < 4294967231; decide), _, 8, rfl, rfl, ⟨by decide, by decide⟩, .int c, rfl, _, c, rfl, rfl, h0, ?_⟩
    exact q2 (by omega)
/-! ### the town by value -/
def intsDs : List D → Option (List Int)
  | [] => some []
  | .p (.int i) :: ds => (intsDs ds).map (i :: ·)
  | _ :: _ => none
theorem intsDs_map : ∀ ns : List Int, intsDs (ns.map fun i => .p (.int i)) = some ns
  | [] => rfl
  | n :: ns => by rw [List.map_cons]; unfold intsDs; rw [intsDs_map ns]; rfl
theorem intsDs_rep {Z : Env0} {F H : Hs} : ∀ {ds : List D} {vs : List V} {A : List Addr} {ns : List Int}, RepL Z F H ds vs A → intsDs ds = some ns → vs = ns.map V.int ∧ A = []
  | [], vs, A, ns, r, e => by
    simp only [RepL] at r
    cases e
    exact ⟨r.1, r.2⟩
  | d :: ds, vs, A, ns, r, e => by
    simp only [RepL] at r
    obtain ⟨v, vs', A1, A2, rfl, rfl, r1, r2⟩ := r
    cases d with
    | p p0 =>
      cases p0 with
      | int i =>
        simp only [intsDs] at e
        obtain ⟨ns', e1, rfl⟩ := Option.map_eq_some_iff.mp e
        obtain ⟨rfl, rfl⟩ := intsDs_rep r2 e1
        obtain ⟨rfl, z⟩ := Rep.p_iff.mp r1
        cases z
        exact ⟨rfl, rfl⟩
      | _ => cases e
    | _ => cases e
theorem rep_ints {Z : Env0} {F H : Hs} : ∀ ns : List Int, RepL Z F H (ns.map fun i => .p (.int i)) (ns.map V.int) []
  | [] => by simp only [List.map_nil, RepL]; exact ⟨trivial, trivial⟩
  | n :: ns => by
    simp only [List.map_cons, RepL]
    exact ⟨_, _, [], [], rfl, rfl, Rep.p_iff.mpr ⟨rfl, .int n⟩, rep_ints ns⟩
def townD (ns : List Int) (t : Int) : D := .l [.l (ns.map fun i => .p (.int i)), .p (.int t)]
/-- what one draw does -/
def drawF : Fn
  | [.l [.l nd, .p (.int t)], .p (.int c)] => match intsDs nd with
    | some ns => if 0 < c ∧ c < 1073741824 then match ns[((t + 1) % (ns.length : Int)).toNat]? with
      | some cell => if 1000000000000000000 ≤ cell then .ok (.p (.int (cell % c))) [townD (ns.set ((t + 1) % (ns.length : Int)).toNat (cell / c)) (t + 1), .p (.int c)]
        else .ok (.p (.int (mixI cell (t + 1) % c))) [townD ns (t + 1), .p (.int c)]
      | none => .er
      else .er
    | none => .er
  | _ => .er
theorem drawF_some {ds : List D} (h : drawF ds ≠ .er) : ∃ nd t c ns cell, ds = [.l [.l nd, .p (.int t)], .p (.int c)] ∧ intsDs nd = some ns ∧ (0 < c ∧ c < 1073741824) ∧ ns[((t + 1) % (ns.length : Int)).toNat]? = some cell := by
  unfold drawF at h
  split at h
  · rename_i nd t c
    split at h
    · rename_i ns e
      split at h
      · rename_i hc
        split at h
        · rename_i cell e2
          exact ⟨nd, t, c, ns, cell, rfl, e, hc, e2⟩
        · exact absurd rfl h
      · exact absurd rfl h
    · exact absurd rfl h
  · exact absurd rfl h
theorem drawF_is {nd : List D} {t c cell : Int} {ns : List Int} (e : intsDs nd = some ns) (hc : 0 < c ∧ c < 1073741824) (e2 : ns[((t + 1) % (ns.length : Int)).toNat]? = some cell) :
    drawF [.l [.l nd, .p (.int t)], .p (.int c)] = if 1000000000000000000 ≤ cell then .ok (.p (.int (cell % c))) [townD (ns.set ((t + 1) % (ns.length : Int)).toNat (cell / c)) (t + 1), .p (.int c)]
        else .ok (.p (.int (mixI cell (t + 1) % c))) [townD ns (t + 1), .p (.int c)] := by
  unfold drawF
  simp only [e, if_pos hc, e2]
theorem draw_sp {Z : Env0} {vs : List V} {H : Hs} {Q : VK} {E : XK} {N : List Str} (hN : N.length = 6) (h : spOf Z 2 drawF vs H Q E) : tDraw Z.K { nx := fun _ H' => Q .non H', rt := Q } (L2.start N vs) H := by
  obtain ⟨hl, F, ds, A, g, r, hm⟩ := h
  obtain ⟨nd, t, c, ns, cell, rfl, e, hc, e2⟩ := drawF_some (ds := ds) (by intro e; rw [e] at hm; exact hm)
  rw [drawF_is e hc e2] at hm
  simp only [RepL, Rep] at r
  obtain ⟨v1, vs1, A1, A2, rfl, rfl, ⟨a, us, B1, rfl, rfl, ha, w1, us1, C1, C2, rfl, rfl, ⟨b, ws, E1, rfl, rfl, hb, rb⟩, w2, us2, C3, C4, rfl, rfl, ⟨rfl, zt⟩, rfl, rfl⟩, v2, vs2, A3, A4, rfl, rfl, ⟨rfl, zc⟩, rfl, rfl⟩ := r
  obtain ⟨rfl, rfl⟩ := intsDs_rep rb e
  cases zt
  cases zc
  simp only [List.append_nil, List.cons_append, List.nil_append] at g hm
  have hab : a ≠ b := by
    intro e
    have := g.nd
    simp [e] at this
  have hns : ns ≠ [] := by
    intro e0
    subst e0
    simp at e2
  have hpos : (0 : Int) < ns.length := by
    have := List.length_pos_iff.mpr hns
    omega
  have hk : (t + 1) % (ns.length : Int) = (((t + 1) % (ns.length : Int)).toNat : Int) := (Int.toNat_of_nonneg (Int.emod_nonneg _ (by omega))).symm
  have fin : ∀ (ms : List Int) (H2 : Hs), H2 a = some (.lst [.ref b, .int (t + 1)]) → H2 b = some (.lst (ms.map V.int)) → (∀ x, x ≠ a → x ≠ b → H2 x = H x) → ∀ r : Int,
      (∀ F' H' B T v, Step F H [a, b] F' H' (B ++ T) → RepL Z F' H' [townD ms (t + 1), .p (.int c)] [.ref a, .int c] B → Rep Z F' H' (.p (.int r)) v T → Q v H') → Q (.int r) H2 := by
    intro ms H2 h1 h2 h3 r q
    refine q F H2 [a, b] [] (.int r) ?_ ?_ (Rep.p_iff.mpr ⟨rfl, .int r⟩)
    · rw [List.append_nil]
      refine ⟨Le.refl _, fun x o ex => ?_, g.nd, g.ap, fun x hx hn => h3 x (fun e => hn (by simp [e])) (fun e => hn (by simp [e])), fun x hx _ => hx⟩
      have n1 : x ≠ a := fun e => by have := g.ap a (by simp); rw [e, this] at ex; cases ex
      have n2 : x ≠ b := fun e => by have := g.ap b (by simp); rw [e, this] at ex; cases ex
      rw [h3 x n1 n2]
      exact g.fh x o ex
    · unfold townD
      simp only [RepL, Rep]
      exact ⟨_, _, [a, b], [], rfl, rfl, ⟨a, _, [b], rfl, rfl, h1, _, _, [b], [], rfl, rfl, ⟨b, _, [], rfl, rfl, h2, rep_ints ms⟩, _, _, [], [], rfl, rfl, ⟨rfl, .int _⟩, rfl, rfl⟩, _, _, [], [], rfl, rfl, ⟨rfl, .int c⟩, rfl, rfl⟩
  have est : L2.start N [V.ref a, V.int c] = [some (.ref a), some (.int c), none, none, none, none] := by
    unfold L2.start
    rw [hN]; rfl
  rw [est]
  refine draw_walk ha hb hab hk e2 hc.1 hc.2 (fun hge => ?_) (fun hlt => ?_)
  · rw [if_pos hge] at hm
    exact fin _ _ (by rw [upd_ne hab, upd_same]) upd_same (fun x n1 n2 => by rw [upd_ne n2, upd_ne n1]) _ hm
  · rw [if_neg (by omega)] at hm
    exact fin _ _ upd_same (by rw [upd_ne (Ne.symm hab)]; exact hb) (fun x n1 n2 => by rw [upd_ne n1]) _ hm
end Dl

set_option Elab.async false
set_option linter.all false
set_option maxRecDepth 100000
set_option maxHeartbeats 4000000
namespace Dl
open PySem PySem.Spec PyProof.Rows L2

/-! ### the law's script -/
section
variable {C : Cn} {e b : Expr} {es : List Expr} {f fb : S → Out D} {pos : Pos} {x : Str} {j : Nat}
def scriptAt (j : Nat) (s : S) : Option (List Int) := match s[j]? with
  | some (.v (.s ns)) => some ns
  | _ => none
theorem script_get {σ : L2.St} {H : Hs} {s : S} {F : Hs} {A : List Addr} {ns : List Int} (at0 : At C σ H s F A) (e : scriptAt j s = some ns) : ∃ a, σ[j]? = some (some (.ref a)) ∧ SqL C.X.K F a (ns.map V.int) := by
  unfold scriptAt at e
  split at e
  · rename_i ns' e1
    cases e
    obtain ⟨so, L, A1, R, e2, rfl, ⟨v, rfl, r⟩, _⟩ := at0.get e1
    simp only [Rep] at r
    obtain ⟨a, rfl, rfl, h⟩ := r
    exact ⟨a, e2, h⟩
  · cases e
/-- script != [] -/
def sNeT (j : Nat) : S → Out Bool := fun s => match scriptAt j s with
  | some ns => if SeqAt.shaped (.list (ns.map .int)) = true then .ok (!ns.isEmpty) s else .er
  | none => .er
theorem dp_ints {K : PySem.W.Frag} {H : Hs} : ∀ ns : List Int, DpAll K H (ns.map V.int) (ns.map .int)
  | [] => .nil
  | n :: ns => .cons (.int n) (dp_ints ns)
theorem ct_sNe {p p2 : Pos} (hu : C.X.A.units + 64 < cLine) (h : PE C.X (.Name x p) (tVar j)) : CT C (.Compare (.Name x p) [.NotEq] [.List [] p2] pos) (sNeT j) :=
  ⟨PT.imp (pt_cmpR (op_neD hu) h (pe_lst pa_nil) (nomark _)) fun σ H Q ⟨F, A, s, at0, h⟩ => by
    unfold sNeT at h
    cases e : scriptAt j s with
    | none => rw [e] at h; exact h.elim
    | some ns =>
      rw [e] at h
      dsimp only at h
      split at h
      · rename_i hs
        obtain ⟨a, e1, e2⟩ := script_get at0 e
        refine ⟨_, e1, Nat.zero_le _, fun p hp => ?_⟩
        have g := Grow.new (o := .lst []) at0.g.fh hp
        have at1 := at0.grown g
        refine ⟨.list (ns.map .int), .list [], .lst (g.fh.sqL (g.ff.sqL e2)) (dp_ints ns), .lst (SqL.of upd_same) .nil, hs, rfl, ?_⟩
        refine ⟨_, rfl, ?_⟩
        have q := h _ _ A (at0.grow g) at1.r
        have e3 : (!PyData.eqv (.list (ns.map .int)) (.list [])) = !ns.isEmpty := by
          cases ns <;> rfl
        rw [e3]
        exact q
      · exact h.elim⟩
/-- list(script), a list of one's own -/
def sListE (j : Nat) : S → Out D := fun s => match scriptAt j s with
  | some ns => .ok (.l (ns.map fun i => .p (.int i))) s
  | none => .er
theorem fz_ints {F : Hs} : ∀ ns : List Int, Fzs F (ns.map V.int) (ns.map .int)
  | [] => .nil
  | n :: ns => .cons (.int n) (fz_ints ns)
theorem ce_sList {y : Str} {p p2 : Pos} (hg : Gl C.X "list") (hm : C.X.mg "list" = none) (hv : bootBuiltins ("list" : Str) = some (.type "list")) (h : PE C.X (.Name y p2) (tVar j))
    (he : starEach (.Name y p2 :: []) C.X.env = (false, eval (.Name y p2) C.X.env) :: starEach [] C.X.env := by rfl) (hpl : (backTo pos (starEach [] C.X.env)).any (·.1) = false := by rfl) : CE C (.Call (.Name "list" p) [.Name y p2] [] pos) (sListE j) :=
  ⟨PE.imp (pe_callTy call_list_of hg hm hv (pa_cons h pa_nil he) (by decide) (by decide) he hpl) fun σ H Q ⟨F, A, s, at0, h⟩ => by
    unfold sListE at h
    cases e : scriptAt j s with
    | none => rw [e] at h; exact h.elim
    | some ns =>
      rw [e] at h
      obtain ⟨a, e1, e2⟩ := script_get at0 e
      refine ⟨_, e1, a, _, rfl, .inl (at0.g.fh.sqL e2), fun p hp => ?_⟩
      exact pkD_own at0 hp (fz_ints ns) (by rw [List.map_map]; exact h)⟩
/-- [x, y, ..], a list of one's own with parts of one's own -/
def lnewAE (fs : List (S → Out D)) : S → Out D := fun s => (runAr (fs.map .e) s).bind fun ds s1 => if ds.length ≤ cap then .ok (.l ds) s1 else .er
theorem ce_lnewA {fs : List (S → Out D)} (ha : CAr C es (fs.map .e)) : CE C (.List es pos) (lnewAE fs) :=
  ⟨PE.imp (pe_lst ha.run) fun σ H Q ⟨F, A, s, at0, h⟩ => by
    refine ⟨F, A, s, at0, ?_⟩
    unfold lnewAE at h
    cases e : runAr (fs.map .e) s with
    | ok ds s1 =>
      rw [e] at h
      intro F1 H1 A1 T vs st1 r1 q1 _
      dsimp only [Out.bind] at h
      by_cases hl : ds.length ≤ cap
      · rw [if_pos hl] at h
        refine ⟨by rw [RepL.length q1]; exact cap_le hl, fun p hp => ?_⟩
        have pT : ∀ x ∈ T, x ≠ p := fun x hx e => RepL.there ds vs T q1 x hx (by rw [e]; exact hp)
        have pA : ∀ x ∈ A1, x ≠ p := fun x hx e => SR.there r1 x hx (by rw [e]; exact hp)
        have pF : F1 p = none := by
          cases e : F1 p with
          | none => rfl
          | some o => have := st1.fh p o e; rw [hp] at this; cases this
        refine h F1 (upd H1 p (.lst vs)) A1 (p :: T) (.ref p) ?_ (SR.mono (Le.refl _) (fun x hx => upd_ne (pA x hx)) r1) ?_
        · refine ⟨st1.ff, fun x o ex => ?_, ?_, fun x hx => ?_, fun x h1 h2 => ?_, fun x h1 h2 => ?_⟩
          · rw [upd_ne (by intro e; rw [e, pF] at ex; cases ex)]
            exact st1.fh x o ex
          · have nd := st1.nd
            rw [List.nodup_append] at nd ⊢
            refine ⟨nd.1, List.nodup_cons.mpr ⟨fun hx => pT p hx rfl, nd.2.1⟩, fun x hx y hy => ?_⟩
            rcases List.mem_cons.mp hy with rfl | hy
            · exact pA x hx
            · exact nd.2.2 x hx y hy
          · simp only [List.mem_append, List.mem_cons] at hx
            rcases hx with hx | rfl | hx
            · exact st1.ap x (by simp [hx])
            · exact pF
            · exact st1.ap x (by simp [hx])
          · have k := st1.kp x h1 h2
            rw [upd_ne (by intro e; subst e; rw [hp] at k; exact h1 k.symm)]
            exact k
          · by_cases hA : x ∈ A
            · exact .inl hA
            have hx : x ≠ p := by
              intro e
              subst e
              have k := st1.kp x h2 hA
              rw [hp] at k
              exact h2 k.symm
            refine st1.nw x ?_ h2
            rcases h1 with h1 | h1
            · simp only [List.mem_append, List.mem_cons] at h1
              rcases h1 with h1 | h1 | h1
              · exact .inl (by simp [h1])
              · exact absurd h1 hx
              · exact .inl (by simp [h1])
            · exact .inr h1
        · simp only [Rep]
          exact ⟨p, vs, T, rfl, rfl, upd_same, RepL.mono (Le.refl _) ds vs T (fun x hx => upd_ne (pT x hx)) q1⟩
      · rw [if_neg hl] at h
        exact h.elim
    | ex c s1 => rw [e] at h; exact h
    | er => rw [e] at h; exact h.elim⟩
/-- the script, handed on -/
def sE (j : Nat) : S → Out D := fun s => match scriptAt j s with
  | some ns => .ok (.s ns) s
  | none => .er
theorem ce_s {y : Str} {p : Pos} (h : PE C.X (.Name y p) (tVar j)) : CE C (.Name y p) (sE j) :=
  ⟨PE.imp h fun σ H Q ⟨F, A, s, at0, h⟩ => by
    unfold sE at h
    cases e : scriptAt j s with
    | none => rw [e] at h; exact h.elim
    | some ns =>
      rw [e] at h
      obtain ⟨a, e1, e2⟩ := script_get at0 e
      refine ⟨_, e1, h F H A [] (.ref a) (by rw [List.append_nil]; exact at0.g.step) at0.r ?_⟩
      simp only [Rep]
      exact ⟨a, rfl, trivial, e2⟩⟩
end
end Dl

set_option Elab.async false
set_option linter.all false
set_option maxRecDepth 100000
set_option maxHeartbeats 4000000
namespace Dl
open PySem PySem.Spec PyProof.Rows L2

/-! ### sum of a tuple of ints -/
section
variable {prog : Program} {w : World} {A : Around} {E : Value → Shared → Prop} {s : Shared} {l : Addr} {xs : Array (Int × Tok)}
theorem iter_intTup {Q : Value → Shared → Prop} (hl : s.heap.IsTuple l (intItems xs))
    (h : ∀ s₂ : Shared, s₂ = { s with heap := s.heap.push { cls := .type "tuple_iterator", data := .fields #[.ref l, .int 0 0] } } →
      (s₂.heap.IsTupleIter s.heap.objs.size l 0 ∧ s₂.heap.IsTuple l (intItems xs)) → (∀ b ∈ [s.heap.objs.size, l], b < s₂.heap.objs.size) → l ≠ s.heap.objs.size → Q (.ref s.heap.objs.size) s₂) :
    wpAny (model prog w) A (pyIter (.ref l)) Q E s := by
  have hlt : l < s.heap.objs.size := by obtain ⟨_, e, _⟩ := hl; exact Heap.lt_size e
  refine wpAny_pyIter_tuple hl (h _ rfl ⟨⟨_, Heap.get?_push_size _ rfl, rfl, rfl⟩, hl.push _⟩ (fun b hb => ?_) (Nat.ne_of_lt hlt))
  show b < (s.heap.push _).objs.size
  rw [Heap.size_push]
  rcases List.mem_cons.mp hb with rfl | hb
  · exact Nat.lt_succ_self _
  · rcases List.mem_cons.mp hb with rfl | hb
    · exact Nat.lt_succ_of_lt hlt
    · cases hb
theorem old_keptT {h' : Heap} (hk : ∀ b o, b ∉ [s.heap.objs.size] → (s.heap.push { cls := .type "tuple_iterator", data := .fields #[.ref l, .int 0 0] }).get? b = some o → h'.get? b = some o) :
    ∀ b o, s.heap.get? b = some o → h'.get? b = some o := fun b o e => hk b o (fun hb => by
      rcases List.mem_cons.mp hb with rfl | hb
      · exact absurd (Heap.lt_size e) (Nat.lt_irrefl _)
      · cases hb) (Heap.get?_push_of_some _ e)
theorem sum_intTupG {Q : Value → Shared → Prop} (hh : A.handled = none) (hl : s.heap.IsTuple l (intItems xs))
    (h : ∀ h' tk t', (∀ b o, s.heap.get? b = some o → h'.get? b = some o) → Q (.int (preSum (numAt xs) xs.size) t') { s with heap := h', toks := tk }) :
    wpAny (model prog w) A (call (.builtin "sum") [.ref l]) Q E s := by
  refine call_sum_walkG (iter_intTup hl fun s₂ e st hfp hlI => ?_)
  subst e
  refine ⟨_, _, _, _, _, _, numAt xs, rfl, Walks.tuple (A := A.in1) hh _ l hlI (intItems xs), st, hfp, (fun _ _ => intItems_at), fun h' tk t' hk => ?_⟩
  have := h h' tk t' (old_keptT hk)
  simpa [intItems] using this
theorem sum_rawT {ns : List Int} {its : List Value} {Q : Value → Shared → Prop} (hh : A.handled = none) (hl : s.heap.IsTuple l its.toArray) (hi : IntsAre its ns)
    (h : ∀ h' tk t', (∀ b o, s.heap.get? b = some o → h'.get? b = some o) → Q (.int ns.sum t') { s with heap := h', toks := tk }) : wpAny (model prog w) A (call (.builtin "sum") [.ref l]) Q E s := by
  obtain ⟨xs, e⟩ := hi.allInts.items
  have hn : numsOf (intItems xs).toList = ns := by rw [← e]; exact hi.numsOf
  rw [nums_intItems] at hn
  rw [e] at hl
  refine sum_intTupG hh hl fun h' tk t' hk => ?_
  have := h h' tk t' hk
  rw [preSum_eq, List.take_of_length_le (by simp), hn]; exact this
end
section
variable {X : Cx}
def rSumT (K : PySem.W.Frag) : List V → Hs → VK → Prop := fun vs H Q => ∃ (a : Addr) (ns : List Int), vs = [V.ref a] ∧ SqT K H a (ns.map V.int) ∧ Q (.int ns.sum) H
theorem cr_sumT (hc : X.calm = true) : CallR X (.builtin "sum") (rSumT X.K) := by
  intro pins s σ H vs us Q I r h
  obtain ⟨a, ns, rfl, hs, q⟩ := h
  obtain ⟨its, rv, hl, _⟩ := I.tuple hs
  rw [Vals.ref1 r]
  exact sum_rawT (I.ok.hd hc) hl rv.ints fun h' tk t' hk => ⟨.int _, H, I.kept hk, ⟨_, rfl⟩, q⟩
def pySumA : List PyData → Option PyData
  | [.list xs] => (intsOf xs).map fun ns => .int ns.sum
  | [.tuple xs] => (intsOf xs).map fun ns => .int ns.sum
  | _ => none
theorem crd_sumA (hc : X.calm = true) : CallR X (.builtin "sum") (rC pySumA) := CallR.imp ((cr_sum hc).or (cr_sumT hc)) fun xs H Q ⟨F, ds, w, l, z, ew, k⟩ => by
  match ds, z, ew with
  | [.list ys], .cons (@Fz.lst _ a vs _ hx rx) .nil, ew =>
    obtain ⟨ns, e1, rfl⟩ := Option.map_eq_some_iff.mp ew
    have ev := intsOf_fz rx e1
    subst ev
    exact .inl ⟨a, ns, rfl, SqL.of (l _ _ hx), k F H _ (Grow.refl l) (.int _)⟩
  | [.tuple ys], .cons (@Fz.tup _ a vs _ hx rx) .nil, ew =>
    obtain ⟨ns, e1, rfl⟩ := Option.map_eq_some_iff.mp ew
    have ev := intsOf_fz rx e1
    subst ev
    exact .inr ⟨a, ns, rfl, SqT.of (l _ _ hx), k F H _ (Grow.refl l) (.int _)⟩
end
end Dl

set_option Elab.async false
set_option linter.all false
set_option maxRecDepth 100000
set_option maxHeartbeats 4000000
namespace Gn
open PySem PySem.Spec PyProof.Rows L2 Dl
abbrev FnP (K : PySem.W.Frag) (x : Str) (st : Stmt) (f : Addr) (fd : FuncData) : Prop := FunD K x x (defArgs st) (defBody st) (defScope st) [] [] f fd
structure Free (mg : Str → Option Value) : Prop where
  isinstance : mg "isinstance" = none
  int : mg "int" = none
  bool : mg "bool" = none
  tuple : mg "tuple" = none
  list : mg "list" = none
  str : mg "str" = none
  len : mg "len" = none
  sum : mg "sum" = none
  all : mg "all" = none
  any : mg "any" = none
  max : mg "max" = none
  min : mg "min" = none
  range : mg "range" = none
  zip : mg "zip" = none
  enumerate : mg "enumerate" = none
  sorted : mg "sorted" = none
  ValueError : mg "ValueError" = none
structure Ev (G : Gv) : Prop where
  fr : Free G.mg
  i_MOST_FOLK : ∃ t, G.mg "MOST_FOLK" = some (.int 9 t)
  i_MOST_LOT : ∃ t, G.mg "MOST_LOT" = some (.int 4 t)
  i_MOST_EVENINGS : ∃ t, G.mg "MOST_EVENINGS" = some (.int 126 t)
  x_DealError : ExcF G.K G.mg "DealError" (G.ca 0)
  x_BadHouse : ExcF G.K G.mg "BadHouse" (G.ca 1)
  x_BadFolk : ExcF G.K G.mg "BadFolk" (G.ca 2)
  x_BadEvening : ExcF G.K G.mg "BadEvening" (G.ca 3)
  x_BadDeal : ExcF G.K G.mg "BadDeal" (G.ca 4)
  x_BadText : ExcF G.K G.mg "BadText" (G.ca 5)
  x_NoneSuch : ExcF G.K G.mg "NoneSuch" (G.ca 6)
  exm0 : ∀ c, c < 7 → PySem.W.exmOne G.K (.ref (G.ca c)) (.ref (G.ca 0)) = some true
  exc : ∀ c, c < 7 → ExcC G.K (G.ca c)
  kit : ∀ j, j < 7 → ∀ c, c < 7 → PySem.W.kitOne G.K (.ref (G.ca c)) (.ref (G.ca j)) = some (decide (j = 0) || decide (c = j))
  kitv : ∀ c, c < 7 → PySem.W.kitOne G.K (.ref (G.ca c)) (.type "ValueError") = some true
  h_law_town : ∃ f fd, FnP G.K "_law_town" (top 61) f fd ∧ G.mg "_law_town" = some (.ref f)
  h_is_whole : ∃ f fd, FnP G.K "is_whole" (top 9) f fd ∧ G.mg "is_whole" = some (.ref f)
  h_chosen : ∃ f fd, FnP G.K "chosen" (top 14) f fd ∧ G.mg "chosen" = some (.ref f)
  h_is_house : ∃ f fd, FnP G.K "is_house" (top 16) f fd ∧ G.mg "is_house" = some (.ref f)
  h_law_kinds : ∃ f fd, FnP G.K "_law_kinds" (top 67) f fd ∧ G.mg "_law_kinds" = some (.ref f)
  h_look_numbers : ∃ f fd, FnP G.K "look_numbers" (top 47) f fd ∧ G.mg "look_numbers" = some (.ref f)
  h_common : ∃ f fd, FnP G.K "common" (top 48) f fd ∧ G.mg "common" = some (.ref f)
  h_least_alike : ∃ f fd, FnP G.K "least_alike" (top 49) f fd ∧ G.mg "least_alike" = some (.ref f)
  h_alike_house : ∃ f fd, FnP G.K "alike_house" (top 50) f fd ∧ G.mg "alike_house" = some (.ref f)
  h_even_house : ∃ f fd, FnP G.K "even_house" (top 51) f fd ∧ G.mg "even_house" = some (.ref f)
  h_look_house : ∃ f fd, FnP G.K "look_house" (top 17) f fd ∧ G.mg "look_house" = some (.ref f)
  h_few_of : ∃ f fd, FnP G.K "few_of" (top 15) f fd ∧ G.mg "few_of" = some (.ref f)
  h_lots : ∃ f fd, FnP G.K "lots" (top 21) f fd ∧ G.mg "lots" = some (.ref f)
  h_counts_of : ∃ f fd, FnP G.K "counts_of" (top 26) f fd ∧ G.mg "counts_of" = some (.ref f)
  h_open_places : ∃ f fd, FnP G.K "open_places" (top 39) f fd ∧ G.mg "open_places" = some (.ref f)
  h_stepped : ∃ f fd, FnP G.K "stepped" (top 40) f fd ∧ G.mg "stepped" = some (.ref f)
  h_run_on : ∃ f fd, FnP G.K "run_on" (top 42) f fd ∧ G.mg "run_on" = some (.ref f)
  h_empty_half : ∃ f fd, FnP G.K "empty_half" (top 44) f fd ∧ G.mg "empty_half" = some (.ref f)
  h_deal_of : ∃ f fd, FnP G.K "deal_of" (top 45) f fd ∧ G.mg "deal_of" = some (.ref f)
  h_is_alike : ∃ f fd, FnP G.K "is_alike" (top 52) f fd ∧ G.mg "is_alike" = some (.ref f)
  h_sitting_bounds : ∃ f fd, FnP G.K "sitting_bounds" (top 53) f fd ∧ G.mg "sitting_bounds" = some (.ref f)
  h_house_text : ∃ f fd, FnP G.K "house_text" (top 57) f fd ∧ G.mg "house_text" = some (.ref f)
  h_look_told : ∃ f fd, FnP G.K "look_told" (top 19) f fd ∧ G.mg "look_told" = some (.ref f)
  h_is_few : ∃ f fd, FnP G.K "is_few" (top 18) f fd ∧ G.mg "is_few" = some (.ref f)
  h_half_fits : ∃ f fd, FnP G.K "half_fits" (top 23) f fd ∧ G.mg "half_fits" = some (.ref f)
  h_look_half : ∃ f fd, FnP G.K "look_half" (top 25) f fd ∧ G.mg "look_half" = some (.ref f)
  h_cut_to : ∃ f fd, FnP G.K "cut_to" (top 35) f fd ∧ G.mg "cut_to" = some (.ref f)
  h_cut : ∃ f fd, FnP G.K "cut" (top 36) f fd ∧ G.mg "cut" = some (.ref f)
  h_law_refusal : ∃ f fd, FnP G.K "_law_refusal" (top 63) f fd ∧ G.mg "_law_refusal" = some (.ref f)
  h_law_plan : ∃ f fd, FnP G.K "_law_plan" (top 66) f fd ∧ G.mg "_law_plan" = some (.ref f)
  h_law_plans : ∃ f fd, FnP G.K "_law_plans" (top 68) f fd ∧ G.mg "_law_plans" = some (.ref f)
  h_is_half : ∃ f fd, FnP G.K "is_half" (top 24) f fd ∧ G.mg "is_half" = some (.ref f)
  h_wrong_parts : ∃ f fd, FnP G.K "wrong_parts" (top 28) f fd ∧ G.mg "wrong_parts" = some (.ref f)
  h_quotas : ∃ f fd, FnP G.K "quotas" (top 20) f fd ∧ G.mg "quotas" = some (.ref f)
  h_sittings : ∃ f fd, FnP G.K "sittings" (top 27) f fd ∧ G.mg "sittings" = some (.ref f)
  h_wrong_sittings : ∃ f fd, FnP G.K "wrong_sittings" (top 29) f fd ∧ G.mg "wrong_sittings" = some (.ref f)
  h_wrong_rests : ∃ f fd, FnP G.K "wrong_rests" (top 30) f fd ∧ G.mg "wrong_rests" = some (.ref f)
  h_bars : ∃ f fd, FnP G.K "bars" (top 31) f fd ∧ G.mg "bars" = some (.ref f)
  h_runs_on : ∃ f fd, FnP G.K "runs_on" (top 32) f fd ∧ G.mg "runs_on" = some (.ref f)
  h_goes_on : ∃ f fd, FnP G.K "goes_on" (top 33) f fd ∧ G.mg "goes_on" = some (.ref f)
  h_look_going : ∃ f fd, FnP G.K "look_going" (top 34) f fd ∧ G.mg "look_going" = some (.ref f)
  h_next_half : ∃ f fd, FnP G.K "next_half" (top 41) f fd ∧ G.mg "next_half" = some (.ref f)
  h_finished : ∃ f fd, FnP G.K "finished" (top 43) f fd ∧ G.mg "finished" = some (.ref f)
  h_part_text : ∃ f fd, FnP G.K "part_text" (top 58) f fd ∧ G.mg "part_text" = some (.ref f)
  h_half_text : ∃ f fd, FnP G.K "half_text" (top 59) f fd ∧ G.mg "half_text" = some (.ref f)
  h_law_does : ∃ f fd, FnP G.K "_law_does" (top 64) f fd ∧ G.mg "_law_does" = some (.ref f)
  h_law_asked : ∃ f fd, FnP G.K "_law_asked" (top 65) f fd ∧ G.mg "_law_asked" = some (.ref f)
  h_law_draw : ∃ f fd, FnP G.K "_law_draw" (top 62) f fd ∧ G.mg "_law_draw" = some (.ref f)
  h_law : ∃ f fd, FnP G.K "law" (top 69) f fd ∧ G.mg "law" = some (.ref f)
  c_Stream : Cls G.K (G.ca 7)
  g_Stream : G.mg "Stream" = some (.ref (G.ca 7))
  n_Stream_lot : NoAttr G.K (G.ca 7) "lot"
  n_Stream_left : NoAttr G.K (G.ca 7) "left"
  n_Stream_kinds : NoAttr G.K (G.ca 7) "kinds"
  n_Stream_often : NoAttr G.K (G.ca 7) "often"
  n_Stream_more : NoAttr G.K (G.ca 7) "more"
  n_Stream_wants : NoAttr G.K (G.ca 7) "wants"
  m_Stream_down : ∃ f fd, FunD G.K "down" "Stream.down" (defArgs (sub 38 1)) (defBody (sub 38 1)) (defScope (sub 38 1)) [] [] f fd ∧ Meth G.K (G.ca 7) "down" f
  m_Stream_init : ∃ f fd, FunD G.K "__init__" "Stream.__init__" (defArgs (sub 38 0)) (defBody (sub 38 0)) (defScope (sub 38 0)) [] [] f fd ∧ Mk G.K (G.ca 7) f
  m_Stream_given : ∃ f fd, FunD G.K "given" "Stream.given" (defArgs (sub 38 3)) (defBody (sub 38 3)) (defScope (sub 38 3)) [] [] f fd ∧ Meth G.K (G.ca 7) "given" f
  m_Stream_is_broken : ∃ f fd, FunD G.K "is_broken" "Stream.is_broken" (defArgs (sub 38 2)) (defBody (sub 38 2)) (defScope (sub 38 2)) [] [] f fd ∧ Meth G.K (G.ca 7) "is_broken" f
  m_Stream_lead : ∃ f fd, FunD G.K "lead" "Stream.lead" (defArgs (sub 38 4)) (defBody (sub 38 4)) (defScope (sub 38 4)) [] [] f fd ∧ Meth G.K (G.ca 7) "lead" f
  m_Stream_fill : ∃ f fd, FunD G.K "fill" "Stream.fill" (defArgs (sub 38 5)) (defBody (sub 38 5)) (defScope (sub 38 5)) [] [] f fd ∧ Meth G.K (G.ca 7) "fill" f
  m_Stream_takes : ∃ f fd, FunD G.K "takes" "Stream.takes" (defArgs (sub 38 6)) (defBody (sub 38 6)) (defScope (sub 38 6)) [] [] f fd ∧ Meth G.K (G.ca 7) "takes" f
  c_Growing : Cls G.K (G.ca 8)
  g_Growing : G.mg "Growing" = some (.ref (G.ca 8))
  n_Growing_house : NoAttr G.K (G.ca 8) "house"
  n_Growing_told : NoAttr G.K (G.ca 8) "told"
  n_Growing_half : NoAttr G.K (G.ca 8) "half"
  n_Growing_past : NoAttr G.K (G.ca 8) "past"
  m_Growing_init : ∃ f fd, FunD G.K "__init__" "Growing.__init__" (defArgs (sub 55 0)) (defBody (sub 55 0)) (defScope (sub 55 0)) [] [] f fd ∧ Mk G.K (G.ca 8) f
section
variable {G : Gv} {C : Cn} {k : Nat}
theorem Ev.exm (V : Ev G) (I : In C G k) : ∀ c, c < 7 → PySem.W.exmOne C.X.K (.ref (C.ca c)) (.ref (G.ca 0)) = some true := by rw [I.K, I.ca]; exact V.exm0
theorem Ev.kit0 (V : Ev G) (I : In C G k) : ∀ c, c < 7 → ExcC C.X.K (C.ca c) ∧ PySem.W.kitOne C.X.K (.ref (C.ca c)) (.ref (G.ca 0)) = some true := by rw [I.K, I.ca]; exact fun c h => ⟨V.exc c h, V.kit 0 (by decide) c h⟩
theorem Ev.kit1 (V : Ev G) (I : In C G k) : ∀ c, c < 7 → ExcC C.X.K (C.ca c) ∧ PySem.W.kitOne C.X.K (.ref (C.ca c)) (.ref (G.ca 1)) = some (decide (c = 1)) := by rw [I.K, I.ca]; exact fun c h => ⟨V.exc c h, by have := V.kit 1 (by decide) c h; simpa using this⟩
theorem Ev.kit2 (V : Ev G) (I : In C G k) : ∀ c, c < 7 → ExcC C.X.K (C.ca c) ∧ PySem.W.kitOne C.X.K (.ref (C.ca c)) (.ref (G.ca 2)) = some (decide (c = 2)) := by rw [I.K, I.ca]; exact fun c h => ⟨V.exc c h, by have := V.kit 2 (by decide) c h; simpa using this⟩
theorem Ev.kit3 (V : Ev G) (I : In C G k) : ∀ c, c < 7 → ExcC C.X.K (C.ca c) ∧ PySem.W.kitOne C.X.K (.ref (C.ca c)) (.ref (G.ca 3)) = some (decide (c = 3)) := by rw [I.K, I.ca]; exact fun c h => ⟨V.exc c h, by have := V.kit 3 (by decide) c h; simpa using this⟩
theorem Ev.kit4 (V : Ev G) (I : In C G k) : ∀ c, c < 7 → ExcC C.X.K (C.ca c) ∧ PySem.W.kitOne C.X.K (.ref (C.ca c)) (.ref (G.ca 4)) = some (decide (c = 4)) := by rw [I.K, I.ca]; exact fun c h => ⟨V.exc c h, by have := V.kit 4 (by decide) c h; simpa using this⟩
theorem Ev.kit5 (V : Ev G) (I : In C G k) : ∀ c, c < 7 → ExcC C.X.K (C.ca c) ∧ PySem.W.kitOne C.X.K (.ref (C.ca c)) (.ref (G.ca 5)) = some (decide (c = 5)) := by rw [I.K, I.ca]; exact fun c h => ⟨V.exc c h, by have := V.kit 5 (by decide) c h; simpa using this⟩
theorem Ev.kit6 (V : Ev G) (I : In C G k) : ∀ c, c < 7 → ExcC C.X.K (C.ca c) ∧ PySem.W.kitOne C.X.K (.ref (C.ca c)) (.ref (G.ca 6)) = some (decide (c = 6)) := by rw [I.K, I.ca]; exact fun c h => ⟨V.exc c h, by have := V.kit 6 (by decide) c h; simpa using this⟩
theorem Ev.kitV (V : Ev G) (I : In C G k) : ∀ c, c < 7 → ExcC C.X.K (C.ca c) ∧ PySem.W.kitOne C.X.K (.ref (C.ca c)) (.type "ValueError") = some true := by rw [I.K, I.ca]; exact fun c h => ⟨V.exc c h, V.kitv c h⟩
end
theorem sc_law_town : FnScope ["_law_script"] ["_law_script"] (defScope (top 61)) := ⟨rfl, rfl, rfl, by decide +kernel, rfl, by decide +kernel, by decide +kernel⟩
def b_law_town : S → SOut := retS (lnewAE [ifE (sNeT 0) (sListE 0) (lnewE (argsE [cE (.int 0)])), cE (.int 0)])
def m_law_town : Fn := fnD 1 b_law_town
theorem ok_law_town {G : Gv} (V : Ev G) : Cal G 1 "_law_town" 1 m_law_town := by
  obtain ⟨f, fd, F, hm⟩ := V.h_law_town
  refine ⟨f, fd, _, fn_ok F sc_law_town (by decide) (k := 0) fun cdv A outer s H E bv hr => ?_, hm, F.kp, F.bindsN fun _ _ _ _ _ _ us hl => match us, hl with | [_], _ => rfl⟩
  have I := In.fn (G := G) (N := ["_law_script"]) (qual := "_law_town") (scope := defScope (top 61)) (f := f) (cdv := cdv) (outer := outer) (H := H) (E := E) (bv := bv) hr
  exact css_one (cs_ret (ce_lnewA (car_e (ce_if (ct_sNe I.u64 (pv 0)) (ce_sList rfl V.fr.list rfl (pv 0)) (ce_lnew (ca_cons ce_int ca_nil))) (car_e ce_int car_nil))))
theorem sc_is_whole : FnScope ["thing", "low", "high"] ["thing", "low", "high"] (defScope (top 9)) := ⟨rfl, rfl, rfl, by decide +kernel, rfl, by decide +kernel, by decide +kernel⟩
def b_is_whole : S → SOut := retS (andE (isE .int (nE 0)) (andE (notE (isE .bool (nE 0))) (chainE pyLe pyLe (nE 1) (nE 0) (nE 2))))
def m_is_whole : Fn := fnD 3 b_is_whole
theorem ok_is_whole {G : Gv} (V : Ev G) : Cal G 1 "is_whole" 3 m_is_whole := by
  obtain ⟨f, fd, F, hm⟩ := V.h_is_whole
  refine ⟨f, fd, _, fn_ok F sc_is_whole (by decide) (k := 0) fun cdv A outer s H E bv hr => ?_, hm, F.kp, F.bindsN fun _ _ _ _ _ _ us hl => match us, hl with | [_, _, _], _ => rfl⟩
  have I := In.fn (G := G) (N := ["thing", "low", "high"]) (qual := "is_whole") (scope := defScope (top 9)) (f := f) (cdv := cdv) (outer := outer) (H := H) (E := E) (bv := bv) hr
  exact css_one (cs_ret (ce_and (ce_isinst .int (ce_name (pv 0)) rfl V.fr.isinstance rfl V.fr.int (by decide +kernel)) (ce_and (ce_not (ce_isinst .bool (ce_name (pv 0)) rfl V.fr.isinstance rfl V.fr.bool (by decide +kernel))) (ce_one (ce_chain or_le or_le (ce_name (pv 1)) (ce_name (pv 0)) (ce_name (pv 2)))))))
theorem sc_chosen : FnScope ["folk", "size", "found", "k"] ["folk", "size"] (defScope (top 14)) := ⟨rfl, rfl, rfl, by decide +kernel, rfl, by decide +kernel, by decide +kernel⟩
def b_chosen : S → SOut := seqS (ifS (notB (toB (chainE pyLe pyLe (cE (.int 0)) (nE 1) (nE 0)))) (retS (cE (.int 0))) onS) (seqS (setS 2 (cE (.int 1))) (seqS (loopS (rng1E (argsE [nE 1])) (nameG 3) (setS 2 (binE pyFloorDiv (binE pyMul (nE 2) (binE pySub (nE 0) (nE 3))) (binE pyAdd (nE 3) (cE (.int 1)))))) (retS (nE 2))))
def m_chosen : Fn := fnD 4 b_chosen
theorem ok_chosen {G : Gv} (V : Ev G) : Cal G 1 "chosen" 2 m_chosen := by
  obtain ⟨f, fd, F, hm⟩ := V.h_chosen
  refine ⟨f, fd, _, fn_ok F sc_chosen (by decide) (k := 0) fun cdv A outer s H E bv hr => ?_, hm, F.kp, F.bindsN fun _ _ _ _ _ _ us hl => match us, hl with | [_, _], _ => rfl⟩
  have I := In.fn (G := G) (N := ["folk", "size", "found", "k"]) (qual := "chosen") (scope := defScope (top 14)) (f := f) (cdv := cdv) (outer := outer) (H := H) (E := E) (bv := bv) hr
  exact css_cons (cs_if (ct_not (ct_chain or_le or_le ce_int (ce_name (pv 1)) (ce_name (pv 0)))) (css_one (cs_ret ce_int)) css_nil) (css_cons (cs_set sc_chosen.nd rfl (.inl rfl) ce_int) (css_cons (cs_for (passes_of rfl) rfl (ci_range1 rfl V.fr.range (ca_cons (ce_name (pv 1)) ca_nil)) (cg_name sc_chosen.nd rfl (.inl rfl)) (css_one (cs_set sc_chosen.nd rfl (.inl rfl) (ce_bin or_fdiv (ce_bin or_mul (ce_name (pv 2)) (ce_bin or_sub (ce_name (pv 0)) (ce_name (pv 3)))) (ce_bin or_add (ce_name (pv 3)) ce_int))))) (css_one (cs_ret (ce_name (pv 2))))))
theorem sc_is_house : FnScope ["thing", "sizes", "whole", "one"] ["thing"] (defScope (top 16)) := ⟨rfl, rfl, rfl, by decide +kernel, rfl, by decide +kernel, by decide +kernel⟩
def b_is_house : S → SOut := seqS (ifS (orB (notB (toB (isE .tuple (nE 0)))) (orB (toB (binE pyNe (callE pyLen (argsE [nE 0])) (cE (.int 3)))) (notB (toB (callD m_is_whole [.e (binE pyItem (nE 0) (cE (.int 0))), .e (cE (.int 1)), .e (cE (.int 9))]))))) (retS (cE (.bool false))) onS) (seqS (ifS (orB (notB (toB (callD m_is_whole [.e (binE pyItem (nE 0) (cE (.int 1))), .e (cE (.int 1)), .e (cE (.int 4))]))) (toB (binE pyGt (binE pyItem (nE 0) (cE (.int 1))) (binE pyItem (nE 0) (cE (.int 0)))))) (retS (cE (.bool false))) onS) (seqS (setS 1 (binE pyItem (nE 0) (cE (.int 2)))) (seqS (ifS (orB (notB (toB (isE .tuple (nE 1)))) (notB (toB (chainE pyLe pyLe (cE (.int 1)) (callE pyLen (argsE [nE 1])) (cE (.int 126)))))) (retS (cE (.bool false))) onS) (seqS (setS 2 (callD m_chosen [.e (binE pyItem (nE 0) (cE (.int 0))), .e (binE pyItem (nE 0) (cE (.int 1)))])) (retS (andE (callE pyAll (argsE [frzE (lcD ([3]) (itemsE (nE 1)) (nameG 3) yesB (callD m_is_whole [.e (nE 3), .e (cE (.int 0)), .e (nE 2)]))])) (binE pyEq (callE pySumA (argsE [nE 1])) (nE 2))))))))
def m_is_house : Fn := fnD 4 b_is_house
theorem ok_is_house {G : Gv} (V : Ev G) : Cal G 2 "is_house" 1 m_is_house := by
  obtain ⟨f, fd, F, hm⟩ := V.h_is_house
  refine ⟨f, fd, _, fn_ok F sc_is_house (by decide) (k := 1) fun cdv A outer s H E bv hr => ?_, hm, F.kp, F.bindsN fun _ _ _ _ _ _ us hl => match us, hl with | [_], _ => rfl⟩
  have I := In.fn (G := G) (N := ["thing", "sizes", "whole", "one"]) (qual := "is_house") (scope := defScope (top 16)) (f := f) (cdv := cdv) (outer := outer) (H := H) (E := E) (bv := bv) hr
  exact css_cons (cs_if (CW.ct (cw_or (ct_not (ct_val (ce_isinst .tuple (ce_name (pv 0)) rfl V.fr.isinstance rfl V.fr.tuple (by decide +kernel)))) (cw_or (ct_cmp (or_ne I.u64) (ce_callB cr_len rfl V.fr.len rfl (ca_cons (ce_name (pv 0)) ca_nil)) ce_int (nomark _)) (cw_or1 (ct_not (ct_val (ce_call I (ok_is_whole V) (by decide) rfl (car_e (ce_ix (ce_name (pv 0)) ce_int) (car_e ce_int (car_e (ce_gint rfl V.i_MOST_FOLK.choose_spec ⟨_, rfl⟩) car_nil)))))))))) (css_one (cs_ret ce_bl)) css_nil) (css_cons (cs_if (CW.ct (cw_or (ct_not (ct_val (ce_call I (ok_is_whole V) (by decide) rfl (car_e (ce_ix (ce_name (pv 0)) ce_int) (car_e ce_int (car_e (ce_gint rfl V.i_MOST_LOT.choose_spec ⟨_, rfl⟩) car_nil)))))) (cw_or1 (ct_cmp or_gt (ce_ix (ce_name (pv 0)) ce_int) (ce_ix (ce_name (pv 0)) ce_int) (nomark _))))) (css_one (cs_ret ce_bl)) css_nil) (css_cons (cs_set sc_is_house.nd rfl (.inl rfl) (ce_ix (ce_name (pv 0)) ce_int)) (css_cons (cs_if (CW.ct (cw_or (ct_not (ct_val (ce_isinst .tuple (ce_name (pv 1)) rfl V.fr.isinstance rfl V.fr.tuple (by decide +kernel)))) (cw_or1 (ct_not (ct_chain or_le or_le ce_int (ce_callB cr_len rfl V.fr.len rfl (ca_cons (ce_name (pv 1)) ca_nil)) (ce_gint rfl V.i_MOST_EVENINGS.choose_spec ⟨_, rfl⟩)))))) (css_one (cs_ret ce_bl)) css_nil) (css_cons (cs_set sc_is_house.nd rfl (.inr rfl) (ce_call I (ok_chosen V) (by decide) rfl (car_e (ce_ix (ce_name (pv 0)) ce_int) (car_e (ce_ix (ce_name (pv 0)) ce_int) car_nil)))) (css_one (cs_ret (ce_and (ce_callB (crd_all rfl) rfl V.fr.all rfl (ca_cons (ce_frz (ce_lc rfl sc_is_house.nd (own := [("one", 3)]) (blk_of (by kernel_rfl)) (by decide) (ci_seq (ce_name (pv 1))) (fun _ _ _ _ _ => cg_name sc_is_house.nd rfl (.inl rfl)) (fun _ _ _ _ _ => cts_nil) (fun _ _ _ _ _ => ce_call (In.blk I) (ok_is_whole V) (by decide) rfl (car_e (ce_name (pv 3)) (car_e ce_int (car_e (ce_name (pv 2)) car_nil)))))) ca_nil)) (ce_one (ce_cmp (or_eq I.u64) (ce_callB (crd_sumA rfl) rfl V.fr.sum rfl (ca_cons (ce_name (pv 1)) ca_nil)) (ce_name (pv 2)) (nomark _))))))))))
theorem sc_law_kinds : FnScope ["_law_good", "_law_bad", "_law_one"] [] (defScope (top 67)) := ⟨rfl, rfl, rfl, by decide +kernel, rfl, by decide +kernel, by decide +kernel⟩
def b_law_kinds : S → SOut := seqS (setS 0 (lstE ([tupE ([cE (.int 1), cE (.int 1), tupE ([cE (.int 1)])]), tupE ([cE (.int 9), cE (.int 4), binE pyMulT (tupE ([cE (.int 1)])) (cE (.int 126))]), tupE ([cE (.int 9), cE (.int 1), tupE ([cE (.int 9)])]), tupE ([cE (.int 4), cE (.int 4), tupE ([cE (.int 0), cE (.int 1)])]), tupE ([cE (.int 3), cE (.int 2), tupE ([cE (.int 0), cE (.int 3), cE (.int 0)])])]))) (seqS (setS 1 (lstE ([cE .none, cE (.int 5), tupE ([]), tupE ([cE (.int 3), cE (.int 2)]), tupE ([cE (.int 0), cE (.int 1), tupE ([cE (.int 0)])]), tupE ([cE (.int 10), cE (.int 1), tupE ([cE (.int 10)])]), tupE ([cE (.int 3), cE (.int 4), tupE ([cE (.int 1)])]), tupE ([cE (.int 5), cE (.int 5), tupE ([cE (.int 1)])]), tupE ([cE (.int 3), cE (.int 0), tupE ([cE (.int 1)])]), tupE ([cE (.int 3), cE (.int 2), tupE ([cE (.int 2)])]), tupE ([cE (.int 3), cE (.int 2), tupE ([cE (.int 4)])]), tupE ([cE (.int 3), cE (.int 2), lstE ([cE (.int 3)])])]))) (seqS (setS 1 (binE pyAdd (nE 1) (lstE ([lstE ([cE (.int 3), cE (.int 2), tupE ([cE (.int 3)])]), tupE ([cE (.int 3), cE (.int 2), tupE ([])]), tupE ([cE (.int 3), cE (.int 2), tupE ([cE (.int 4), binE pySub (cE (.int 0)) (cE (.int 1))])]), tupE ([cE (.int 3), cE (.int 2), binE pyAdd (tupE ([cE (.int 3)])) (binE pyMulT (tupE ([cE (.int 0)])) (cE (.int 126)))]), tupE ([cE (.bool true), cE (.int 1), tupE ([cE (.int 1)])]), tupE ([cE (.int 3), cE (.bool true), tupE ([cE (.int 3)])]), tupE ([cE (.int 3), cE (.int 2), tupE ([cE (.bool true), cE (.int 2)])]), tupE ([cE (.int 3), cE (.int 2), tupE ([cE (.int 3), cE .none])])])))) (retS (andE (binE pyEq (frzE (lcD ([2]) (itemsE (nE 0)) (nameG 2) yesB (callD m_is_house [.e (nE 2)]))) (binE pyMul (lstE ([cE (.bool true)])) (cE (.int 5)))) (binE pyEq (frzE (lcD ([2]) (itemsE (nE 1)) (nameG 2) yesB (callD m_is_house [.e (nE 2)]))) (binE pyMul (lstE ([cE (.bool false)])) (cE (.int 20))))))))
def m_law_kinds : Fn := fnD 3 b_law_kinds
theorem ok_law_kinds {G : Gv} (V : Ev G) : Cal G 3 "_law_kinds" 0 m_law_kinds := by
  obtain ⟨f, fd, F, hm⟩ := V.h_law_kinds
  refine ⟨f, fd, _, fn_ok F sc_law_kinds (by decide) (k := 2) fun cdv A outer s H E bv hr => ?_, hm, F.kp, F.bindsN fun _ _ _ _ _ _ us hl => match us, hl with | [], _ => rfl⟩
  have I := In.fn (G := G) (N := ["_law_good", "_law_bad", "_law_one"]) (qual := "_law_kinds") (scope := defScope (top 67)) (f := f) (cdv := cdv) (outer := outer) (H := H) (E := E) (bv := bv) hr
  exact css_cons (cs_set sc_law_kinds.nd rfl (.inl rfl) (ce_lst (ca_cons (ce_tup (ca_cons ce_int (ca_cons ce_int (ca_cons (ce_tup (ca_cons ce_int ca_nil)) ca_nil)))) (ca_cons (ce_tup (ca_cons ce_int (ca_cons ce_int (ca_cons (ce_bin or_mulT (ce_tup (ca_cons ce_int ca_nil)) ce_int) ca_nil)))) (ca_cons (ce_tup (ca_cons ce_int (ca_cons ce_int (ca_cons (ce_tup (ca_cons ce_int ca_nil)) ca_nil)))) (ca_cons (ce_tup (ca_cons ce_int (ca_cons ce_int (ca_cons (ce_tup (ca_cons ce_int (ca_cons ce_int ca_nil))) ca_nil)))) (ca_cons (ce_tup (ca_cons ce_int (ca_cons ce_int (ca_cons (ce_tup (ca_cons ce_int (ca_cons ce_int (ca_cons ce_int ca_nil)))) ca_nil)))) ca_nil))))))) (css_cons (cs_set sc_law_kinds.nd rfl (.inl rfl) (ce_lst (ca_cons ce_non (ca_cons ce_int (ca_cons (ce_tup ca_nil) (ca_cons (ce_tup (ca_cons ce_int (ca_cons ce_int ca_nil))) (ca_cons (ce_tup (ca_cons ce_int (ca_cons ce_int (ca_cons (ce_tup (ca_cons ce_int ca_nil)) ca_nil)))) (ca_cons (ce_tup (ca_cons ce_int (ca_cons ce_int (ca_cons (ce_tup (ca_cons ce_int ca_nil)) ca_nil)))) (ca_cons (ce_tup (ca_cons ce_int (ca_cons ce_int (ca_cons (ce_tup (ca_cons ce_int ca_nil)) ca_nil)))) (ca_cons (ce_tup (ca_cons ce_int (ca_cons ce_int (ca_cons (ce_tup (ca_cons ce_int ca_nil)) ca_nil)))) (ca_cons (ce_tup (ca_cons ce_int (ca_cons ce_int (ca_cons (ce_tup (ca_cons ce_int ca_nil)) ca_nil)))) (ca_cons (ce_tup (ca_cons ce_int (ca_cons ce_int (ca_cons (ce_tup (ca_cons ce_int ca_nil)) ca_nil)))) (ca_cons (ce_tup (ca_cons ce_int (ca_cons ce_int (ca_cons (ce_tup (ca_cons ce_int ca_nil)) ca_nil)))) (ca_cons (ce_tup (ca_cons ce_int (ca_cons ce_int (ca_cons (ce_lst (ca_cons ce_int ca_nil)) ca_nil)))) ca_nil)))))))))))))) (css_cons (cs_set sc_law_kinds.nd rfl (.inl rfl) (ce_bin or_add (ce_name (pv 1)) (ce_lst (ca_cons (ce_lst (ca_cons ce_int (ca_cons ce_int (ca_cons (ce_tup (ca_cons ce_int ca_nil)) ca_nil)))) (ca_cons (ce_tup (ca_cons ce_int (ca_cons ce_int (ca_cons (ce_tup ca_nil) ca_nil)))) (ca_cons (ce_tup (ca_cons ce_int (ca_cons ce_int (ca_cons (ce_tup (ca_cons ce_int (ca_cons (ce_bin or_sub ce_int ce_int) ca_nil))) ca_nil)))) (ca_cons (ce_tup (ca_cons ce_int (ca_cons ce_int (ca_cons (ce_bin or_add (ce_tup (ca_cons ce_int ca_nil)) (ce_bin or_mulT (ce_tup (ca_cons ce_int ca_nil)) ce_int)) ca_nil)))) (ca_cons (ce_tup (ca_cons ce_bl (ca_cons ce_int (ca_cons (ce_tup (ca_cons ce_int ca_nil)) ca_nil)))) (ca_cons (ce_tup (ca_cons ce_int (ca_cons ce_bl (ca_cons (ce_tup (ca_cons ce_int ca_nil)) ca_nil)))) (ca_cons (ce_tup (ca_cons ce_int (ca_cons ce_int (ca_cons (ce_tup (ca_cons ce_bl (ca_cons ce_int ca_nil))) ca_nil)))) (ca_cons (ce_tup (ca_cons ce_int (ca_cons ce_int (ca_cons (ce_tup (ca_cons ce_int (ca_cons ce_non ca_nil))) ca_nil)))) ca_nil))))))))))) (css_one (cs_ret (ce_and (ce_cmp (or_eq I.u64) (ce_frz (ce_lc rfl sc_law_kinds.nd (own := [("_law_one", 2)]) (blk_of (by kernel_rfl)) (by decide) (ci_seq (ce_name (pv 0))) (fun _ _ _ _ _ => cg_name sc_law_kinds.nd rfl (.inl rfl)) (fun _ _ _ _ _ => cts_nil) (fun _ _ _ _ _ => ce_call (In.blk I) (ok_is_house V) (by decide) rfl (car_e (ce_name (pv 2)) car_nil)))) (ce_bin or_mul (ce_lst (ca_cons ce_bl ca_nil)) ce_int) (nomark _)) (ce_one (ce_cmp (or_eq I.u64) (ce_frz (ce_lc rfl sc_law_kinds.nd (own := [("_law_one", 2)]) (blk_of (by kernel_rfl)) (by decide) (ci_seq (ce_name (pv 1))) (fun _ _ _ _ _ => cg_name sc_law_kinds.nd rfl (.inl rfl)) (fun _ _ _ _ _ => cts_nil) (fun _ _ _ _ _ => ce_call (In.blk I) (ok_is_house V) (by decide) rfl (car_e (ce_name (pv 2)) car_nil)))) (ce_bin or_mul (ce_lst (ca_cons ce_bl ca_nil)) ce_int) (nomark _))))))))
theorem sc_look_numbers : FnScope ["folk", "lot"] ["folk", "lot"] (defScope (top 47)) := ⟨rfl, rfl, rfl, by decide +kernel, rfl, by decide +kernel, by decide +kernel⟩
def b_look_numbers : S → SOut := ifS (orB (notB (toB (callD m_is_whole [.e (nE 0), .e (cE (.int 1)), .e (cE (.int 9))]))) (orB (notB (toB (callD m_is_whole [.e (nE 1), .e (cE (.int 1)), .e (cE (.int 4))]))) (toB (binE pyGt (nE 1) (nE 0))))) (raiseS 1) onS
def m_look_numbers : Fn := fnD 2 b_look_numbers
theorem ok_look_numbers {G : Gv} (V : Ev G) : Cal G 2 "look_numbers" 2 m_look_numbers := by
  obtain ⟨f, fd, F, hm⟩ := V.h_look_numbers
  refine ⟨f, fd, _, fn_ok F sc_look_numbers (by decide) (k := 1) fun cdv A outer s H E bv hr => ?_, hm, F.kp, F.bindsN fun _ _ _ _ _ _ us hl => match us, hl with | [_, _], _ => rfl⟩
  have I := In.fn (G := G) (N := ["folk", "lot"]) (qual := "look_numbers") (scope := defScope (top 47)) (f := f) (cdv := cdv) (outer := outer) (H := H) (E := E) (bv := bv) hr
  exact css_one (cs_if (CW.ct (cw_or (ct_not (ct_val (ce_call I (ok_is_whole V) (by decide) rfl (car_e (ce_name (pv 0)) (car_e ce_int (car_e (ce_gint rfl V.i_MOST_FOLK.choose_spec ⟨_, rfl⟩) car_nil)))))) (cw_or (ct_not (ct_val (ce_call I (ok_is_whole V) (by decide) rfl (car_e (ce_name (pv 1)) (car_e ce_int (car_e (ce_gint rfl V.i_MOST_LOT.choose_spec ⟨_, rfl⟩) car_nil)))))) (cw_or1 (ct_cmp or_gt (ce_name (pv 1)) (ce_name (pv 0)) (nomark _)))))) (css_one (cs_raise rfl I.tk V.x_BadHouse rfl)) css_nil)
theorem sc_common : FnScope ["one", "other"] ["one", "other"] (defScope (top 48)) := ⟨rfl, rfl, rfl, by decide +kernel, rfl, by decide +kernel, by decide +kernel⟩
def b_common : S → SOut := seqS (whileS (toB (binE pyNe (nE 1) (cE (.int 0)))) (parS 0 1 (argsE [nE 1, binE pyMod (nE 0) (nE 1)])) 40) (retS (nE 0))
def m_common : Fn := fnD 2 b_common
theorem ok_common {G : Gv} (V : Ev G) : Cal G 1 "common" 2 m_common := by
  obtain ⟨f, fd, F, hm⟩ := V.h_common
  refine ⟨f, fd, _, fn_ok F sc_common (by decide) (k := 0) fun cdv A outer s H E bv hr => ?_, hm, F.kp, F.bindsN fun _ _ _ _ _ _ us hl => match us, hl with | [_, _], _ => rfl⟩
  have I := In.fn (G := G) (N := ["one", "other"]) (qual := "common") (scope := defScope (top 48)) (f := f) (cdv := cdv) (outer := outer) (H := H) (E := E) (bv := bv) hr
  exact css_cons (cs_while 40 (passes_of rfl) (ct_cmp (or_ne I.u64) (ce_name (pv 1)) ce_int (nomark _)) (css_one (cs_par rfl sc_common.nd rfl rfl (by decide) rfl rfl (ca_cons (ce_name (pv 1)) (ca_cons (ce_bin or_mod (ce_name (pv 0)) (ce_name (pv 1))) ca_nil)) rfl))) (css_one (cs_ret (ce_name (pv 0))))
theorem sc_least_alike : FnScope ["folk", "lot"] ["folk", "lot"] (defScope (top 49)) := ⟨rfl, rfl, rfl, by decide +kernel, rfl, by decide +kernel, by decide +kernel⟩
def b_least_alike : S → SOut := seqS (dropS (callD m_look_numbers [.e (nE 0), .e (nE 1)])) (retS (binE pyFloorDiv (nE 0) (callD m_common [.e (nE 0), .e (nE 1)])))
def m_least_alike : Fn := fnD 2 b_least_alike
theorem ok_least_alike {G : Gv} (V : Ev G) : Cal G 3 "least_alike" 2 m_least_alike := by
  obtain ⟨f, fd, F, hm⟩ := V.h_least_alike
  refine ⟨f, fd, _, fn_ok F sc_least_alike (by decide) (k := 2) fun cdv A outer s H E bv hr => ?_, hm, F.kp, F.bindsN fun _ _ _ _ _ _ us hl => match us, hl with | [_, _], _ => rfl⟩
  have I := In.fn (G := G) (N := ["folk", "lot"]) (qual := "least_alike") (scope := defScope (top 49)) (f := f) (cdv := cdv) (outer := outer) (H := H) (E := E) (bv := bv) hr
  exact css_cons (cs_expr (ce_call I (ok_look_numbers V) (by decide) rfl (car_e (ce_name (pv 0)) (car_e (ce_name (pv 1)) car_nil)))) (css_one (cs_ret (ce_bin or_fdiv (ce_name (pv 0)) (ce_call I (ok_common V) (by decide) rfl (car_e (ce_name (pv 0)) (car_e (ce_name (pv 1)) car_nil))))))
theorem sc_alike_house : FnScope ["folk", "lot", "size"] ["folk", "lot"] (defScope (top 50)) := ⟨rfl, rfl, rfl, by decide +kernel, rfl, by decide +kernel, by decide +kernel⟩
def b_alike_house : S → SOut := seqS (dropS (callD m_look_numbers [.e (nE 0), .e (nE 1)])) (seqS (setS 2 (binE pyFloorDiv (nE 0) (callD m_common [.e (nE 0), .e (nE 1)]))) (retS (tupE ([nE 0, nE 1, binE pyMulT (tupE ([nE 2])) (binE pyFloorDiv (callD m_chosen [.e (nE 0), .e (nE 1)]) (nE 2))]))))
def m_alike_house : Fn := fnD 3 b_alike_house
theorem ok_alike_house {G : Gv} (V : Ev G) : Cal G 3 "alike_house" 2 m_alike_house := by
  obtain ⟨f, fd, F, hm⟩ := V.h_alike_house
  refine ⟨f, fd, _, fn_ok F sc_alike_house (by decide) (k := 2) fun cdv A outer s H E bv hr => ?_, hm, F.kp, F.bindsN fun _ _ _ _ _ _ us hl => match us, hl with | [_, _], _ => rfl⟩
  have I := In.fn (G := G) (N := ["folk", "lot", "size"]) (qual := "alike_house") (scope := defScope (top 50)) (f := f) (cdv := cdv) (outer := outer) (H := H) (E := E) (bv := bv) hr
  exact css_cons (cs_expr (ce_call I (ok_look_numbers V) (by decide) rfl (car_e (ce_name (pv 0)) (car_e (ce_name (pv 1)) car_nil)))) (css_cons (cs_set sc_alike_house.nd rfl (.inl rfl) (ce_bin or_fdiv (ce_name (pv 0)) (ce_call I (ok_common V) (by decide) rfl (car_e (ce_name (pv 0)) (car_e (ce_name (pv 1)) car_nil))))) (css_one (cs_ret (ce_tup (ca_cons (ce_name (pv 0)) (ca_cons (ce_name (pv 1)) (ca_cons (ce_bin or_mulT (ce_tup (ca_cons (ce_name (pv 2)) ca_nil)) (ce_bin or_fdiv (ce_call I (ok_chosen V) (by decide) rfl (car_e (ce_name (pv 0)) (car_e (ce_name (pv 1)) car_nil))) (ce_name (pv 2)))) ca_nil)))))))
theorem sc_even_house : FnScope ["folk", "lot", "evenings", "whole", "least", "more"] ["folk", "lot", "evenings"] (defScope (top 51)) := ⟨rfl, rfl, rfl, by decide +kernel, rfl, by decide +kernel, by decide +kernel⟩
def b_even_house : S → SOut := seqS (dropS (callD m_look_numbers [.e (nE 0), .e (nE 1)])) (seqS (ifS (notB (toB (callD m_is_whole [.e (nE 2), .e (cE (.int 1)), .e (cE (.int 126))]))) (raiseS 1) onS) (seqS (setS 3 (callD m_chosen [.e (nE 0), .e (nE 1)])) (seqS (parS 4 5 (argsE [binE pyFloorDiv (nE 3) (nE 2), binE pyMod (nE 3) (nE 2)])) (retS (tupE ([nE 0, nE 1, binE pyAdd (binE pyMulT (tupE ([binE pyAdd (nE 4) (cE (.int 1))])) (nE 5)) (binE pyMulT (tupE ([nE 4])) (binE pySub (nE 2) (nE 5)))]))))))
def m_even_house : Fn := fnD 6 b_even_house
theorem ok_even_house {G : Gv} (V : Ev G) : Cal G 3 "even_house" 3 m_even_house := by
  obtain ⟨f, fd, F, hm⟩ := V.h_even_house
  refine ⟨f, fd, _, fn_ok F sc_even_house (by decide) (k := 2) fun cdv A outer s H E bv hr => ?_, hm, F.kp, F.bindsN fun _ _ _ _ _ _ us hl => match us, hl with | [_, _, _], _ => rfl⟩
  have I := In.fn (G := G) (N := ["folk", "lot", "evenings", "whole", "least", "more"]) (qual := "even_house") (scope := defScope (top 51)) (f := f) (cdv := cdv) (outer := outer) (H := H) (E := E) (bv := bv) hr
  exact css_cons (cs_expr (ce_call I (ok_look_numbers V) (by decide) rfl (car_e (ce_name (pv 0)) (car_e (ce_name (pv 1)) car_nil)))) (css_cons (cs_if (ct_not (ct_val (ce_call I (ok_is_whole V) (by decide) rfl (car_e (ce_name (pv 2)) (car_e ce_int (car_e (ce_gint rfl V.i_MOST_EVENINGS.choose_spec ⟨_, rfl⟩) car_nil)))))) (css_one (cs_raise rfl I.tk V.x_BadHouse rfl)) css_nil) (css_cons (cs_set sc_even_house.nd rfl (.inl rfl) (ce_call I (ok_chosen V) (by decide) rfl (car_e (ce_name (pv 0)) (car_e (ce_name (pv 1)) car_nil)))) (css_cons (cs_par rfl sc_even_house.nd rfl rfl (by decide) rfl rfl (ca_cons (ce_bin or_fdiv (ce_name (pv 3)) (ce_name (pv 2))) (ca_cons (ce_bin or_mod (ce_name (pv 3)) (ce_name (pv 2))) ca_nil)) rfl) (css_one (cs_ret (ce_tup (ca_cons (ce_name (pv 0)) (ca_cons (ce_name (pv 1)) (ca_cons (ce_bin or_add (ce_bin or_mulT (ce_tup (ca_cons (ce_bin or_add (ce_name (pv 4)) ce_int) ca_nil)) (ce_name (pv 5))) (ce_bin or_mulT (ce_tup (ca_cons (ce_name (pv 4)) ca_nil)) (ce_bin or_sub (ce_name (pv 2)) (ce_name (pv 5))))) ca_nil)))))))))
theorem sc_look_house : FnScope ["house"] ["house"] (defScope (top 17)) := ⟨rfl, rfl, rfl, by decide +kernel, rfl, by decide +kernel, by decide +kernel⟩
def b_look_house : S → SOut := ifS (notB (toB (callD m_is_house [.e (nE 0)]))) (raiseS 1) onS
def m_look_house : Fn := fnD 1 b_look_house
theorem ok_look_house {G : Gv} (V : Ev G) : Cal G 3 "look_house" 1 m_look_house := by
  obtain ⟨f, fd, F, hm⟩ := V.h_look_house
  refine ⟨f, fd, _, fn_ok F sc_look_house (by decide) (k := 2) fun cdv A outer s H E bv hr => ?_, hm, F.kp, F.bindsN fun _ _ _ _ _ _ us hl => match us, hl with | [_], _ => rfl⟩
  have I := In.fn (G := G) (N := ["house"]) (qual := "look_house") (scope := defScope (top 17)) (f := f) (cdv := cdv) (outer := outer) (H := H) (E := E) (bv := bv) hr
  exact css_one (cs_if (ct_not (ct_val (ce_call I (ok_is_house V) (by decide) rfl (car_e (ce_name (pv 0)) car_nil)))) (css_one (cs_raise rfl I.tk V.x_BadHouse rfl)) css_nil)
theorem sc_few_of : FnScope ["folk", "size", "found", "turn", "one", "who"] ["folk", "size"] (defScope (top 15)) := ⟨rfl, rfl, rfl, by decide +kernel, rfl, by decide +kernel, by decide +kernel⟩
def b_few_of : S → SOut := seqS (setS 2 (lstE ([tupE ([])]))) (seqS (loopS (rng1E (argsE [nE 1])) (nameG 3) (setS 2 (frzE (lc2D ([4, 5]) ([5]) (itemsE (nE 2)) (nameG 4) yesB (rng2E (argsE [ifE (toB (binE pyNe (nE 4) (tupE ([])))) (binE pyAdd (binE pyItem (nE 4) (negE (cE (.int 1)))) (cE (.int 1))) (cE (.int 0)), nE 0])) (nameG 5) yesB (binE pyAdd (nE 4) (tupE ([nE 5]))))))) (retS (nE 2)))
def m_few_of : Fn := fnD 6 b_few_of
theorem ok_few_of {G : Gv} (V : Ev G) : Cal G 1 "few_of" 2 m_few_of := by
  obtain ⟨f, fd, F, hm⟩ := V.h_few_of
  refine ⟨f, fd, _, fn_ok F sc_few_of (by decide) (k := 0) fun cdv A outer s H E bv hr => ?_, hm, F.kp, F.bindsN fun _ _ _ _ _ _ us hl => match us, hl with | [_, _], _ => rfl⟩
  have I := In.fn (G := G) (N := ["folk", "size", "found", "turn", "one", "who"]) (qual := "few_of") (scope := defScope (top 15)) (f := f) (cdv := cdv) (outer := outer) (H := H) (E := E) (bv := bv) hr
  exact css_cons (cs_set sc_few_of.nd rfl (.inl rfl) (ce_lst (ca_cons (ce_tup ca_nil) ca_nil))) (css_cons (cs_for (passes_of rfl) rfl (ci_range1 rfl V.fr.range (ca_cons (ce_name (pv 1)) ca_nil)) (cg_name sc_few_of.nd rfl (.inl rfl)) (css_one (cs_setLc2 rfl sc_few_of.nd rfl rfl (sw_true rfl rfl rfl rfl) (fun _ _ _ => ev_frz) (own := [("one", 4), ("who", 5)]) (vs1 := [5]) (blk_of (by kernel_rfl)) (by decide) (by decide) (by decide) (ci_seq (ce_name (pv 2))) (fun _ _ _ _ _ => cg_name sc_few_of.nd rfl (.inl rfl)) (fun _ _ _ _ _ => cts_nil) (fun _ _ _ _ _ => ci_range2 rfl V.fr.range (ca_cons (ce_if (ct_cmp (or_ne (In.blk I).u64) (ce_name (pv 4)) (ce_tup ca_nil) (nomark _)) (ce_bin or_add (ce_ix (ce_name (pv 4)) (ce_neg ce_int)) ce_int) ce_int) (ca_cons (ce_name (pv 0)) ca_nil))) (fun _ _ _ _ _ => cg_name sc_few_of.nd rfl (.inl rfl)) (fun _ _ _ _ _ => cts_nil) (fun _ _ _ _ _ => ce_bin or_add (ce_name (pv 4)) (ce_tup (ca_cons (ce_name (pv 5)) ca_nil)))))) (css_one (cs_ret (ce_name (pv 2)))))
theorem sc_lots : FnScope ["house"] ["house"] (defScope (top 21)) := ⟨rfl, rfl, rfl, by decide +kernel, rfl, by decide +kernel, by decide +kernel⟩
def b_lots : S → SOut := seqS (dropS (callD m_look_house [.e (nE 0)])) (retS (callD m_few_of [.e (binE pyItem (nE 0) (cE (.int 0))), .e (binE pyItem (nE 0) (cE (.int 1)))]))
def m_lots : Fn := fnD 1 b_lots
theorem ok_lots {G : Gv} (V : Ev G) : Cal G 4 "lots" 1 m_lots := by
  obtain ⟨f, fd, F, hm⟩ := V.h_lots
  refine ⟨f, fd, _, fn_ok F sc_lots (by decide) (k := 3) fun cdv A outer s H E bv hr => ?_, hm, F.kp, F.bindsN fun _ _ _ _ _ _ us hl => match us, hl with | [_], _ => rfl⟩
  have I := In.fn (G := G) (N := ["house"]) (qual := "lots") (scope := defScope (top 21)) (f := f) (cdv := cdv) (outer := outer) (H := H) (E := E) (bv := bv) hr
  exact css_cons (cs_expr (ce_call I (ok_look_house V) (by decide) rfl (car_e (ce_name (pv 0)) car_nil))) (css_one (cs_ret (ce_call I (ok_few_of V) (by decide) rfl (car_e (ce_ix (ce_name (pv 0)) ce_int) (car_e (ce_ix (ce_name (pv 0)) ce_int) car_nil)))))
theorem sc_counts_of : FnScope ["half", "found", "row", "one"] ["half"] (defScope (top 26)) := ⟨rfl, rfl, rfl, by decide +kernel, rfl, by decide +kernel, by decide +kernel⟩
def b_counts_of : S → SOut := seqS (setS 1 newDE) (seqS (loopS (itemsE (nE 0)) (nameG 2) (loopS (itemsE (nE 2)) (nameG 3) (asgS (dsetG (slotPl 1) (nQ 3)) (binE pyAdd (qE (dgetQ (slotPl 1) (nQ 3) (cQ (.int 0)))) (cE (.int 1)))))) (retS (fzE 1)))
def m_counts_of : Fn := fnD 4 b_counts_of
theorem ok_counts_of {G : Gv} (V : Ev G) : Cal G 1 "counts_of" 1 m_counts_of := by
  obtain ⟨f, fd, F, hm⟩ := V.h_counts_of
  refine ⟨f, fd, _, fn_ok F sc_counts_of (by decide) (k := 0) fun cdv A outer s H E bv hr => ?_, hm, F.kp, F.bindsN fun _ _ _ _ _ _ us hl => match us, hl with | [_], _ => rfl⟩
  have I := In.fn (G := G) (N := ["half", "found", "row", "one"]) (qual := "counts_of") (scope := defScope (top 26)) (f := f) (cdv := cdv) (outer := outer) (H := H) (E := E) (bv := bv) hr
  exact css_cons (cs_set sc_counts_of.nd rfl (.inl rfl) ce_dnew) (css_cons (cs_for (passes_of rfl) rfl (ci_seq (ce_name (pv 0))) (cg_name sc_counts_of.nd rfl (.inl rfl)) (css_one (cs_for (passes_of rfl) rfl (ci_seq (ce_name (pv 2))) (cg_name sc_counts_of.nd rfl (.inl rfl)) (css_one (cs_asg (ce_bin or_add (ce_q (cq_dget I.u9 (cpl_name (pv 1)) (cq_name (pv 3)) cq_int (⟨rfl, rfl, rfl, rfl⟩))) ce_int) (cg_dsub I.u9 (cpl_name (pv 1)) (cq_name (pv 3)))))))) (css_one (cs_ret (ce_fz (pv 1)))))
theorem sc_Stream_down : FnScope ["self", "evening", "kind"] ["self", "evening", "kind"] (defScope (sub 38 1)) := ⟨rfl, rfl, rfl, by decide +kernel, rfl, by decide +kernel, by decide +kernel⟩
def b_Stream_down : S → SOut := retS (binE pyFloorDiv (binE pyMul (qE (dgetQ (itemPl (fldPl (slotPl 0) 7 ("often")) (nQ 1)) (nQ 2) (cQ (.int 0)))) (binE pySub (qE (plQ (fldPl (slotPl 0) 7 ("lot")))) (callE pyLen (argsE [nE 2])))) (qE (plQ (fldPl (slotPl 0) 7 ("left")))))
def m_Stream_down : Fn := fnD 3 b_Stream_down
theorem ok_Stream_down {G : Gv} (V : Ev G) : CalM G 1 7 "down" 3 m_Stream_down := by
  obtain ⟨f, fd, F, hm⟩ := V.m_Stream_down
  refine ⟨V.c_Stream, f, hm, fd, _, fn_ok F sc_Stream_down (by decide) (k := 0) fun cdv A outer s H E bv hr => ?_, F.bindsN fun _ _ _ _ _ _ us hl => match us, hl with | [_, _, _], _ => rfl⟩
  have I := In.fn (G := G) (N := ["self", "evening", "kind"]) (qual := "Stream.down") (scope := defScope (sub 38 1)) (f := f) (cdv := cdv) (outer := outer) (H := H) (E := E) (bv := bv) hr
  exact css_one (cs_ret (ce_bin or_fdiv (ce_bin or_mul (ce_q (cq_dget I.u9 (cpl_item (cpl_fld V.c_Stream V.n_Stream_often (cpl_name (pv 0))) (cq_name (pv 1))) (cq_name (pv 2)) cq_int (⟨rfl, rfl, rfl, rfl⟩))) (ce_bin or_sub (ce_q (cq_pl (cpl_fld V.c_Stream V.n_Stream_lot (cpl_name (pv 0))))) (ce_callB cr_len rfl V.fr.len rfl (ca_cons (ce_name (pv 2)) ca_nil)))) (ce_q (cq_pl (cpl_fld V.c_Stream V.n_Stream_left (cpl_name (pv 0)))))))
theorem sc_Stream_init : FnScope ["self", "house", "told", "half", "row", "own", "one", "kind", "due", "evening"] ["self", "house", "told", "half"] (defScope (sub 38 0)) := ⟨rfl, rfl, rfl, by decide +kernel, rfl, by decide +kernel, by decide +kernel⟩
def b_Stream_init : S → SOut := seqS (fldS (slotPl 0) 7 ("lot") (binE pyItem (nE 1) (cE (.int 1)))) (seqS (fldS (slotPl 0) 7 ("left") (binE pySub (binE pyItem (nE 1) (cE (.int 0))) (nE 2))) (seqS (fldS (slotPl 0) 7 ("kinds") (sortedE (callD m_counts_of [.e (nE 3)]))) (seqS (fldS (slotPl 0) 7 ("often") (lnewE (argsE []))) (seqS (loopS (itemsE (nE 3)) (nameG 4) (seqS (setS 5 newDE) (seqS (loopS (itemsE (nE 4)) (nameG 6) (asgS (dsetG (slotPl 5) (nQ 6)) (binE pyAdd (qE (dgetQ (slotPl 5) (nQ 6) (cQ (.int 0)))) (cE (.int 1))))) (dropS (appM (fldPl (slotPl 0) 7 ("often")) (takeF 5)))))) (seqS (fldS (slotPl 0) 7 ("more") newDE) (seqS (fldS (slotPl 0) 7 ("wants") newDE) (loopS (itemsE (qE (plQ (fldPl (slotPl 0) 7 ("kinds"))))) (nameG 7) (seqS (setS 8 (callD m_chosen [.e (binE pySub (qE (plQ (fldPl (slotPl 0) 7 ("left")))) (cE (.int 1))), .e (binE pySub (binE pySub (qE (plQ (fldPl (slotPl 0) 7 ("lot")))) (callE pyLen (argsE [nE 7]))) (cE (.int 1)))])) (asgS (dsetG (fldPl (slotPl 0) 7 ("wants")) (nQ 7)) (binE pySub (nE 8) (callE pySumA (argsE [frzE (lcD ([9]) (rng1E (argsE [callE pyLen (argsE [nE 3])])) (nameG 9) yesB (methE 7 "down" m_Stream_down (.b 0) 0 [.e (nE 9), .e (nE 7)]))]))))))))))))
def m_Stream_init : Fn := fnD 10 b_Stream_init
theorem ok_Stream_init {G : Gv} (V : Ev G) : CalC G 2 "Stream" 7 4 m_Stream_init := by
  obtain ⟨f, fd, F, hm⟩ := V.m_Stream_init
  refine ⟨f, V.g_Stream, hm, fd, _, fn_ok F sc_Stream_init (by decide) (k := 1) fun cdv A outer s H E bv hr => ?_, F.bindsN fun _ _ _ _ _ _ us hl => match us, hl with | [_, _, _, _], _ => rfl⟩
  have I := In.fn (G := G) (N := ["self", "house", "told", "half", "row", "own", "one", "kind", "due", "evening"]) (qual := "Stream.__init__") (scope := defScope (sub 38 0)) (f := f) (cdv := cdv) (outer := outer) (H := H) (E := E) (bv := bv) hr
  exact css_cons (cs_fld V.c_Stream V.n_Stream_lot (cpl_name (pv 0)) (ce_ix (ce_name (pv 1)) ce_int)) (css_cons (cs_fld V.c_Stream V.n_Stream_left (cpl_name (pv 0)) (ce_bin or_sub (ce_ix (ce_name (pv 1)) ce_int) (ce_name (pv 2)))) (css_cons (cs_fld V.c_Stream V.n_Stream_kinds (cpl_name (pv 0)) (ce_sorted rfl I.u64 (ce_call I (ok_counts_of V) (by decide) rfl (car_e (ce_name (pv 3)) car_nil)) rfl V.fr.sorted)) (css_cons (cs_fld V.c_Stream V.n_Stream_often (cpl_name (pv 0)) (ce_lnew ca_nil)) (css_cons (cs_for (passes_of rfl) rfl (ci_seq (ce_name (pv 3))) (cg_name sc_Stream_init.nd rfl (.inl rfl)) (css_cons (cs_set sc_Stream_init.nd rfl (.inl rfl) ce_dnew) (css_cons (cs_for (passes_of rfl) rfl (ci_seq (ce_name (pv 4))) (cg_name sc_Stream_init.nd rfl (.inl rfl)) (css_one (cs_asg (ce_bin or_add (ce_q (cq_dget I.u9 (cpl_name (pv 5)) (cq_name (pv 6)) cq_int (⟨rfl, rfl, rfl, rfl⟩))) ce_int) (cg_dsub I.u9 (cpl_name (pv 5)) (cq_name (pv 6)))))) (css_one (cs_expr (ce_appendM (cpl_fld V.c_Stream V.n_Stream_often (cpl_name (pv 0))) (pv 5) tk_fz)))))) (css_cons (cs_fld V.c_Stream V.n_Stream_more (cpl_name (pv 0)) ce_dnew) (css_cons (cs_fld V.c_Stream V.n_Stream_wants (cpl_name (pv 0)) ce_dnew) (css_one (cs_for (passes_of rfl) rfl (ci_seq (ce_q (cq_pl (cpl_fld V.c_Stream V.n_Stream_kinds (cpl_name (pv 0)))))) (cg_name sc_Stream_init.nd rfl (.inr rfl)) (css_cons (cs_set sc_Stream_init.nd rfl (.inl rfl) (ce_call I (ok_chosen V) (by decide) rfl (car_e (ce_bin or_sub (ce_q (cq_pl (cpl_fld V.c_Stream V.n_Stream_left (cpl_name (pv 0))))) ce_int) (car_e (ce_bin or_sub (ce_bin or_sub (ce_q (cq_pl (cpl_fld V.c_Stream V.n_Stream_lot (cpl_name (pv 0))))) (ce_callB cr_len rfl V.fr.len rfl (ca_cons (ce_name (pv 7)) ca_nil))) ce_int) car_nil)))) (css_one (cs_asg (ce_bin or_sub (ce_name (pv 8)) (ce_callB (crd_sumA rfl) rfl V.fr.sum rfl (ca_cons (ce_frz (ce_lc rfl sc_Stream_init.nd (own := [("evening", 9)]) (blk_of (by kernel_rfl)) (by decide) (ci_range1 rfl V.fr.range (ca_cons (ce_callB cr_len rfl V.fr.len rfl (ca_cons (ce_name (pv 3)) ca_nil)) ca_nil)) (fun _ _ _ _ _ => cg_name sc_Stream_init.nd rfl (.inl rfl)) (fun _ _ _ _ _ => cts_nil) (fun _ _ _ _ _ => ce_meth (In.blk I) (ok_Stream_down V) (by decide) (pv 0) lend_b (car_e (ce_name (pv 9)) (car_e (ce_name (pv 7)) car_nil))))) ca_nil))) (cg_dsub I.u9 (cpl_fld V.c_Stream V.n_Stream_wants (cpl_name (pv 0))) (cq_name (pv 7))))))))))))))
theorem sc_open_places : FnScope ["house", "half", "evening", "part"] ["house", "half", "evening"] (defScope (top 39)) := ⟨rfl, rfl, rfl, by decide +kernel, rfl, by decide +kernel, by decide +kernel⟩
def b_open_places : S → SOut := retS (callE pySumA (argsE [frzE (lcD ([3]) (itemsE (binE pyItem (nE 1) (nE 2))) (nameG 3) yesB (binE pySub (binE pyItem (nE 0) (cE (.int 1))) (callE pyLen (argsE [nE 3]))))]))
def m_open_places : Fn := fnD 4 b_open_places
theorem ok_open_places {G : Gv} (V : Ev G) : Cal G 1 "open_places" 3 m_open_places := by
  obtain ⟨f, fd, F, hm⟩ := V.h_open_places
  refine ⟨f, fd, _, fn_ok F sc_open_places (by decide) (k := 0) fun cdv A outer s H E bv hr => ?_, hm, F.kp, F.bindsN fun _ _ _ _ _ _ us hl => match us, hl with | [_, _, _], _ => rfl⟩
  have I := In.fn (G := G) (N := ["house", "half", "evening", "part"]) (qual := "open_places") (scope := defScope (top 39)) (f := f) (cdv := cdv) (outer := outer) (H := H) (E := E) (bv := bv) hr
  exact css_one (cs_ret (ce_callB (crd_sumA rfl) rfl V.fr.sum rfl (ca_cons (ce_frz (ce_lc rfl sc_open_places.nd (own := [("part", 3)]) (blk_of (by kernel_rfl)) (by decide) (ci_seq (ce_ix (ce_name (pv 1)) (ce_name (pv 2)))) (fun _ _ _ _ _ => cg_name sc_open_places.nd rfl (.inl rfl)) (fun _ _ _ _ _ => cts_nil) (fun _ _ _ _ _ => ce_bin or_sub (ce_ix (ce_name (pv 0)) ce_int) (ce_callB cr_len rfl V.fr.len rfl (ca_cons (ce_name (pv 3)) ca_nil))))) ca_nil)))
theorem sc_Stream_given : FnScope ["self", "evening", "kind"] ["self", "evening"] (defScope (sub 38 3)) := ⟨rfl, rfl, rfl, by decide +kernel, rfl, by decide +kernel, by decide +kernel⟩
def b_Stream_given : S → SOut := retS (callE pyLen (argsE [frzE (lcD ([2]) (itemsE (qE (plQ (fldPl (slotPl 0) 7 ("kinds"))))) (nameG 2) (toB (qE (dinQ false (tupQ (consQ (nQ 1) (consQ (nQ 2) (fun _ => some [])))) (fldPl (slotPl 0) 7 ("more"))))) (nE 2))]))
def m_Stream_given : Fn := fnD 3 b_Stream_given
theorem ok_Stream_given {G : Gv} (V : Ev G) : CalM G 1 7 "given" 2 m_Stream_given := by
  obtain ⟨f, fd, F, hm⟩ := V.m_Stream_given
  refine ⟨V.c_Stream, f, hm, fd, _, fn_ok F sc_Stream_given (by decide) (k := 0) fun cdv A outer s H E bv hr => ?_, F.bindsN fun _ _ _ _ _ _ us hl => match us, hl with | [_, _], _ => rfl⟩
  have I := In.fn (G := G) (N := ["self", "evening", "kind"]) (qual := "Stream.given") (scope := defScope (sub 38 3)) (f := f) (cdv := cdv) (outer := outer) (H := H) (E := E) (bv := bv) hr
  exact css_one (cs_ret (ce_callB cr_len rfl V.fr.len rfl (ca_cons (ce_frz (ce_lc rfl sc_Stream_given.nd (own := [("kind", 2)]) (blk_of (by kernel_rfl)) (by decide) (ci_seq (ce_q (cq_pl (cpl_fld V.c_Stream V.n_Stream_kinds (cpl_name (pv 0)))))) (fun _ _ _ _ _ => cg_name sc_Stream_given.nd rfl (.inl rfl)) (fun _ _ _ _ _ => cts_one (ct_din ((In.blk I).u9) (cq_tup (cqs_cons (cq_name (pv 1)) (cqs_cons (cq_name (pv 2)) cqs_nil)) (fun s ds h => by rw [(cqs_len (cqs_len cqs_nil_len rfl) rfl) s ds h]; decide)) (cpl_fld V.c_Stream V.n_Stream_more (cpl_name (pv 0))))) (fun _ _ _ _ _ => ce_name (pv 2)))) ca_nil)))
theorem sc_Stream_is_broken : FnScope ["self", "evening", "kind"] ["self", "evening", "kind"] (defScope (sub 38 2)) := ⟨rfl, rfl, rfl, by decide +kernel, rfl, by decide +kernel, by decide +kernel⟩
def b_Stream_is_broken : S → SOut := retS (binE pyNe (binE pyMod (binE pyMul (qE (dgetQ (itemPl (fldPl (slotPl 0) 7 ("often")) (nQ 1)) (nQ 2) (cQ (.int 0)))) (binE pySub (qE (plQ (fldPl (slotPl 0) 7 ("lot")))) (callE pyLen (argsE [nE 2])))) (qE (plQ (fldPl (slotPl 0) 7 ("left"))))) (cE (.int 0)))
def m_Stream_is_broken : Fn := fnD 3 b_Stream_is_broken
theorem ok_Stream_is_broken {G : Gv} (V : Ev G) : CalM G 1 7 "is_broken" 3 m_Stream_is_broken := by
  obtain ⟨f, fd, F, hm⟩ := V.m_Stream_is_broken
  refine ⟨V.c_Stream, f, hm, fd, _, fn_ok F sc_Stream_is_broken (by decide) (k := 0) fun cdv A outer s H E bv hr => ?_, F.bindsN fun _ _ _ _ _ _ us hl => match us, hl with | [_, _, _], _ => rfl⟩
  have I := In.fn (G := G) (N := ["self", "evening", "kind"]) (qual := "Stream.is_broken") (scope := defScope (sub 38 2)) (f := f) (cdv := cdv) (outer := outer) (H := H) (E := E) (bv := bv) hr
  exact css_one (cs_ret (ce_cmp (or_ne I.u64) (ce_bin or_mod (ce_bin or_mul (ce_q (cq_dget I.u9 (cpl_item (cpl_fld V.c_Stream V.n_Stream_often (cpl_name (pv 0))) (cq_name (pv 1))) (cq_name (pv 2)) cq_int (⟨rfl, rfl, rfl, rfl⟩))) (ce_bin or_sub (ce_q (cq_pl (cpl_fld V.c_Stream V.n_Stream_lot (cpl_name (pv 0))))) (ce_callB cr_len rfl V.fr.len rfl (ca_cons (ce_name (pv 2)) ca_nil)))) (ce_q (cq_pl (cpl_fld V.c_Stream V.n_Stream_left (cpl_name (pv 0)))))) ce_int (nomark _)))
theorem sc_Stream_lead : FnScope ["self", "evening", "seen", "kind", "other"] ["self", "evening", "seen"] (defScope (sub 38 4)) := ⟨rfl, rfl, rfl, by decide +kernel, rfl, by decide +kernel, by decide +kernel⟩
def b_Stream_lead (m_Stream_lead : Fn) : S → SOut := seqS (loopS (itemsE (qE (plQ (fldPl (slotPl 0) 7 ("kinds"))))) (nameG 3) (ifS (andB (toB (qE (dinQ true (nQ 3) (slotPl 2)))) (andB (toB (methE 7 "is_broken" m_Stream_is_broken (.b 0) 0 [.e (nE 1), .e (nE 3)])) (toB (qE (dinQ true (tupQ (consQ (nQ 1) (consQ (nQ 3) (fun _ => some [])))) (fldPl (slotPl 0) 7 ("more"))))))) (seqS (asgS (dsetG (slotPl 2) (nQ 3)) (cE (.bool true))) (seqS (ifS (toB (binE pyGt (qE (dixQ (fldPl (slotPl 0) 7 ("wants")) (nQ 3))) (cE (.int 0)))) (seqS (daugS (fldPl (slotPl 0) 7 ("wants")) (nQ 3) (· - ·) (cQ (.int 1))) (seqS (asgS (dsetG (fldPl (slotPl 0) 7 ("more")) (tupQ (consQ (nQ 1) (consQ (nQ 3) (fun _ => some []))))) (cE (.bool true))) (retS (cE (.bool true))))) onS) (loopS (rng1E (argsE [qE (lenQ (fldPl (slotPl 0) 7 ("often")))])) (nameG 4) (ifS (toB (qE (dinQ false (tupQ (consQ (nQ 4) (consQ (nQ 3) (fun _ => some [])))) (fldPl (slotPl 0) 7 ("more"))))) (seqS (dropS (dpopD (fldPl (slotPl 0) 7 ("more")) (tupQ (consQ (nQ 4) (consQ (nQ 3) (fun _ => some [])))))) (seqS (ifS (toB (methE 7 "lead" m_Stream_lead (.b 0) 0 [.e (nE 4), .b 2])) (seqS (asgS (dsetG (fldPl (slotPl 0) 7 ("more")) (tupQ (consQ (nQ 1) (consQ (nQ 3) (fun _ => some []))))) (cE (.bool true))) (retS (cE (.bool true)))) onS) (asgS (dsetG (fldPl (slotPl 0) 7 ("more")) (tupQ (consQ (nQ 4) (consQ (nQ 3) (fun _ => some []))))) (cE (.bool true))))) onS)))) onS)) (retS (cE (.bool false)))
def m_Stream_lead : Nat → Fn
  | 0 => fnD 5 (fun _ => .er)
  | n + 1 => fnD 5 (b_Stream_lead (m_Stream_lead n))
theorem ok_Stream_lead {G : Gv} (V : Ev G) : ∀ n : Nat, CalM G (2 + n) 7 "lead" 3 (m_Stream_lead n) := fun n => by
  induction n with
  | zero =>
    obtain ⟨f, fd, F, hm⟩ := V.m_Stream_lead
    exact ⟨V.c_Stream, f, hm, fd, _, fn_ok F sc_Stream_lead (by decide) (k := 1) (fun cdv A outer s H E bv hr => css_er), F.bindsN fun _ _ _ _ _ _ us hl => match us, hl with | [_, _, _], _ => rfl⟩
  | succ n ih =>
    obtain ⟨f, fd, F, hm⟩ := V.m_Stream_lead
    refine ⟨V.c_Stream, f, hm, fd, _, fn_ok F sc_Stream_lead (by decide) (k := 2 + n) (fun cdv A outer s H E bv hr => ?_), F.bindsN fun _ _ _ _ _ _ us hl => match us, hl with | [_, _, _], _ => rfl⟩
    have I := In.fn (G := G) (N := ["self", "evening", "seen", "kind", "other"]) (qual := "Stream.lead") (scope := defScope (sub 38 4)) (f := f) (cdv := cdv) (outer := outer) (H := H) (E := E) (bv := bv) hr
    exact css_cons (cs_for (passes_of rfl) rfl (ci_seq (ce_q (cq_pl (cpl_fld V.c_Stream V.n_Stream_kinds (cpl_name (pv 0)))))) (cg_name sc_Stream_lead.nd rfl (.inl rfl)) (css_one (cs_if (CW.ct (cw_and (ct_dnotin I.u9 (cq_name (pv 3)) (cpl_name (pv 2))) (cw_and (ct_val (ce_meth I (ok_Stream_is_broken V) (by omega) (pv 0) lend_b (car_e (ce_name (pv 1)) (car_e (ce_name (pv 3)) car_nil)))) (cw_and1 (ct_dnotin I.u9 (cq_tup (cqs_cons (cq_name (pv 1)) (cqs_cons (cq_name (pv 3)) cqs_nil)) (fun s ds h => by rw [(cqs_len (cqs_len cqs_nil_len rfl) rfl) s ds h]; decide)) (cpl_fld V.c_Stream V.n_Stream_more (cpl_name (pv 0)))))))) (css_cons (cs_asg ce_bl (cg_dsub I.u9 (cpl_name (pv 2)) (cq_name (pv 3)))) (css_cons (cs_if (ct_cmp or_gt (ce_q (cq_dix I.u9 (cpl_fld V.c_Stream V.n_Stream_wants (cpl_name (pv 0))) (cq_name (pv 3)))) ce_int (nomark _)) (css_cons (cs_daug I.u9 (cpl_fld V.c_Stream V.n_Stream_wants (cpl_name (pv 0))) (cq_name (pv 3)) cq_int in_subI) (css_cons (cs_asg ce_bl (cg_dsub I.u9 (cpl_fld V.c_Stream V.n_Stream_more (cpl_name (pv 0))) (cq_tup (cqs_cons (cq_name (pv 1)) (cqs_cons (cq_name (pv 3)) cqs_nil)) (fun s ds h => by rw [(cqs_len (cqs_len cqs_nil_len rfl) rfl) s ds h]; decide)))) (css_one (cs_ret ce_bl)))) css_nil) (css_one (cs_for (passes_of rfl) rfl (ci_range1 rfl V.fr.range (ca_cons (ce_q (cq_lenP rfl V.fr.len (cpl_fld V.c_Stream V.n_Stream_often (cpl_name (pv 0))))) ca_nil)) (cg_name sc_Stream_lead.nd rfl (.inl rfl)) (css_one (cs_if (ct_din I.u9 (cq_tup (cqs_cons (cq_name (pv 4)) (cqs_cons (cq_name (pv 3)) cqs_nil)) (fun s ds h => by rw [(cqs_len (cqs_len cqs_nil_len rfl) rfl) s ds h]; decide)) (cpl_fld V.c_Stream V.n_Stream_more (cpl_name (pv 0)))) (css_cons (cs_expr (ce_dpop I.u9 (cpl_fld V.c_Stream V.n_Stream_more (cpl_name (pv 0))) (cq_tup (cqs_cons (cq_name (pv 4)) (cqs_cons (cq_name (pv 3)) cqs_nil)) (fun s ds h => by rw [(cqs_len (cqs_len cqs_nil_len rfl) rfl) s ds h]; decide)) (⟨rfl, rfl, rfl, rfl⟩))) (css_cons (cs_if (ct_val (ce_meth I ih (Nat.le_refl _) (pv 0) lend_b (car_e (ce_name (pv 4)) (car_b (pv 2) car_nil)))) (css_cons (cs_asg ce_bl (cg_dsub I.u9 (cpl_fld V.c_Stream V.n_Stream_more (cpl_name (pv 0))) (cq_tup (cqs_cons (cq_name (pv 1)) (cqs_cons (cq_name (pv 3)) cqs_nil)) (fun s ds h => by rw [(cqs_len (cqs_len cqs_nil_len rfl) rfl) s ds h]; decide)))) (css_one (cs_ret ce_bl))) css_nil) (css_one (cs_asg ce_bl (cg_dsub I.u9 (cpl_fld V.c_Stream V.n_Stream_more (cpl_name (pv 0))) (cq_tup (cqs_cons (cq_name (pv 4)) (cqs_cons (cq_name (pv 3)) cqs_nil)) (fun s ds h => by rw [(cqs_len (cqs_len cqs_nil_len rfl) rfl) s ds h]; decide))))))) css_nil)))))) css_nil))) (css_one (cs_ret ce_bl))
theorem sc_Stream_fill : FnScope ["self", "evening", "most"] ["self", "evening", "most"] (defScope (sub 38 5)) := ⟨rfl, rfl, rfl, by decide +kernel, rfl, by decide +kernel, by decide +kernel⟩
def b_Stream_fill : S → SOut := whileS (andB (toB (binE pyLt (methE 7 "given" m_Stream_given (.b 0) 0 [.e (nE 1)]) (nE 2))) (toB (methE 7 "lead" (m_Stream_lead 170) (.b 0) 0 [.e (nE 1), .e newDE]))) onS 400
def m_Stream_fill : Fn := fnD 3 b_Stream_fill
theorem ok_Stream_fill {G : Gv} (V : Ev G) : CalM G 173 7 "fill" 3 m_Stream_fill := by
  obtain ⟨f, fd, F, hm⟩ := V.m_Stream_fill
  refine ⟨V.c_Stream, f, hm, fd, _, fn_ok F sc_Stream_fill (by decide) (k := 172) fun cdv A outer s H E bv hr => ?_, F.bindsN fun _ _ _ _ _ _ us hl => match us, hl with | [_, _, _], _ => rfl⟩
  have I := In.fn (G := G) (N := ["self", "evening", "most"]) (qual := "Stream.fill") (scope := defScope (sub 38 5)) (f := f) (cdv := cdv) (outer := outer) (H := H) (E := E) (bv := bv) hr
  exact css_one (cs_while 400 (passes_of rfl) (CW.ct (cw_and (ct_cmp or_lt (ce_meth I (ok_Stream_given V) (by decide) (pv 0) lend_b (car_e (ce_name (pv 1)) car_nil)) (ce_name (pv 2)) (nomark _)) (cw_and1 (ct_val (ce_meth I (ok_Stream_lead V 170) (by decide) (pv 0) lend_b (car_e (ce_name (pv 1)) (car_e ce_dnew car_nil))))))) (css_one cs_pass))
theorem sc_Stream_takes : FnScope ["self", "evening", "kind"] ["self", "evening", "kind"] (defScope (sub 38 6)) := ⟨rfl, rfl, rfl, by decide +kernel, rfl, by decide +kernel, by decide +kernel⟩
def b_Stream_takes : S → SOut := retS (binE pyAdd (methE 7 "down" m_Stream_down (.b 0) 0 [.e (nE 1), .e (nE 2)]) (ifE (toB (qE (dinQ false (tupQ (consQ (nQ 1) (consQ (nQ 2) (fun _ => some [])))) (fldPl (slotPl 0) 7 ("more"))))) (cE (.int 1)) (cE (.int 0))))
def m_Stream_takes : Fn := fnD 3 b_Stream_takes
theorem ok_Stream_takes {G : Gv} (V : Ev G) : CalM G 2 7 "takes" 3 m_Stream_takes := by
  obtain ⟨f, fd, F, hm⟩ := V.m_Stream_takes
  refine ⟨V.c_Stream, f, hm, fd, _, fn_ok F sc_Stream_takes (by decide) (k := 1) fun cdv A outer s H E bv hr => ?_, F.bindsN fun _ _ _ _ _ _ us hl => match us, hl with | [_, _, _], _ => rfl⟩
  have I := In.fn (G := G) (N := ["self", "evening", "kind"]) (qual := "Stream.takes") (scope := defScope (sub 38 6)) (f := f) (cdv := cdv) (outer := outer) (H := H) (E := E) (bv := bv) hr
  exact css_one (cs_ret (ce_bin or_add (ce_meth I (ok_Stream_down V) (by decide) (pv 0) lend_b (car_e (ce_name (pv 1)) (car_e (ce_name (pv 2)) car_nil))) (ce_if (ct_din I.u9 (cq_tup (cqs_cons (cq_name (pv 1)) (cqs_cons (cq_name (pv 2)) cqs_nil)) (fun s ds h => by rw [(cqs_len (cqs_len cqs_nil_len rfl) rfl) s ds h]; decide)) (cpl_fld V.c_Stream V.n_Stream_more (cpl_name (pv 0)))) ce_int ce_int)))
theorem sc_stepped : FnScope ["house", "told", "half", "stream", "left", "bounds", "evening", "places", "sure", "found", "row", "rest", "fresh", "part", "kind"] ["house", "told", "half"] (defScope (top 40)) := ⟨rfl, rfl, rfl, by decide +kernel, rfl, by decide +kernel, by decide +kernel⟩
def b_stepped : S → SOut := seqS (setS 3 (makeE 7 m_Stream_init [.e (nE 0), .e (nE 1), .e (nE 2)])) (seqS (setS 4 (binE pySub (binE pyItem (nE 0) (cE (.int 0))) (nE 1))) (seqS (setS 5 (lnewE (argsE []))) (seqS (loopS (rng1E (argsE [callE pyLen (argsE [nE 2])])) (nameG 6) (seqS (setS 7 (callD m_open_places [.e (nE 0), .e (nE 2), .e (nE 6)])) (seqS (setS 8 (callE pySumA (argsE [frzE (lcD ([14]) (fdE (itemPl (fldPl (slotPl 3) 7 ("often")) (nQ 6))) (nameG 14) yesB (methE 7 "down" m_Stream_down (.w 3) 3 [.e (nE 6), .e (nE 14)]))]))) (dropS (appE 5 (tupE ([binE pySub (binE pyFloorDiv (nE 7) (nE 4)) (nE 8), binE pySub (negE (binE pyFloorDiv (negE (nE 7)) (nE 4))) (nE 8)]))))))) (seqS (loopS (rng1E (argsE [callE pyLen (argsE [nE 2])])) (nameG 6) (dropS (methE 7 "fill" m_Stream_fill (.w 3) 3 [.e (nE 6), .e (binE pyItem (qE (plQ (itemPl (slotPl 5) (nQ 6)))) (cE (.int 0)))]))) (seqS (loopS (rng1E (argsE [callE pyLen (argsE [nE 2])])) (nameG 6) (dropS (methE 7 "fill" m_Stream_fill (.w 3) 3 [.e (nE 6), .e (binE pyItem (qE (plQ (itemPl (slotPl 5) (nQ 6)))) (cE (.int 1)))]))) (seqS (setS 9 (lnewE (argsE []))) (seqS (loopS (enumE (argsE [nE 2])) (tupG (consG (nameG 6) (consG (nameG 10) nilG)) 2) (seqS (setS 11 (dcD ([14]) (fdE (itemPl (fldPl (slotPl 3) 7 ("often")) (nQ 6))) (nameG 14) (nQ 14) (methE 7 "takes" m_Stream_takes (.w 3) 3 [.e (nE 6), .e (nE 14)]))) (seqS (setS 12 (lnewE (argsE []))) (seqS (loopS (itemsE (nE 10)) (nameG 13) (ifS (toB (binE pyGt (qE (dixQ (slotPl 11) (nQ 13))) (cE (.int 0)))) (seqS (daugS (slotPl 11) (nQ 13) (· - ·) (cQ (.int 1))) (dropS (appE 12 (binE pyAdd (nE 13) (tupE ([nE 1])))))) (dropS (appE 12 (nE 13))))) (dropS (appM (slotPl 9) (takeF 12))))))) (retS (fzE 9)))))))))
def m_stepped : Fn := fnD 15 b_stepped
theorem ok_stepped {G : Gv} (V : Ev G) : Cal G 174 "stepped" 3 m_stepped := by
  obtain ⟨f, fd, F, hm⟩ := V.h_stepped
  refine ⟨f, fd, _, fn_ok F sc_stepped (by decide) (k := 173) fun cdv A outer s H E bv hr => ?_, hm, F.kp, F.bindsN fun _ _ _ _ _ _ us hl => match us, hl with | [_, _, _], _ => rfl⟩
  have I := In.fn (G := G) (N := ["house", "told", "half", "stream", "left", "bounds", "evening", "places", "sure", "found", "row", "rest", "fresh", "part", "kind"]) (qual := "stepped") (scope := defScope (top 40)) (f := f) (cdv := cdv) (outer := outer) (H := H) (E := E) (bv := bv) hr
  exact css_cons (cs_set sc_stepped.nd rfl (.inr rfl) (ce_make I (ok_Stream_init V) (by decide) rfl (car_e (ce_name (pv 0)) (car_e (ce_name (pv 1)) (car_e (ce_name (pv 2)) car_nil))))) (css_cons (cs_set sc_stepped.nd rfl (.inl rfl) (ce_bin or_sub (ce_ix (ce_name (pv 0)) ce_int) (ce_name (pv 1)))) (css_cons (cs_set sc_stepped.nd rfl (.inl rfl) (ce_lnew ca_nil)) (css_cons (cs_for (passes_of rfl) rfl (ci_range1 rfl V.fr.range (ca_cons (ce_callB cr_len rfl V.fr.len rfl (ca_cons (ce_name (pv 2)) ca_nil)) ca_nil)) (cg_name sc_stepped.nd rfl (.inr rfl)) (css_cons (cs_set sc_stepped.nd rfl (.inl rfl) (ce_call I (ok_open_places V) (by decide) rfl (car_e (ce_name (pv 0)) (car_e (ce_name (pv 2)) (car_e (ce_name (pv 6)) car_nil))))) (css_cons (cs_set sc_stepped.nd rfl (.inl rfl) (ce_callB (crd_sumA rfl) rfl V.fr.sum rfl (ca_cons (ce_frz (ce_lc rfl sc_stepped.nd (own := [("kind", 14)]) (blk_of (by kernel_rfl)) (by decide) (ci_fd (cpl_item (cpl_fld V.c_Stream V.n_Stream_often (cpl_name (pv 3))) (cq_name (pv 6)))) (fun _ _ _ _ _ => cg_name sc_stepped.nd rfl (.inl rfl)) (fun _ _ _ _ _ => cts_nil) (fun _ _ _ _ _ => ce_meth (In.blk I) (ok_Stream_down V) (by decide) (pv 3) lend_w (car_e (ce_name (pv 6)) (car_e (ce_name (pv 14)) car_nil))))) ca_nil))) (css_one (cs_expr (ce_appendE (pv 5) (ce_tup (ca_cons (ce_bin or_sub (ce_bin or_fdiv (ce_name (pv 7)) (ce_name (pv 4))) (ce_name (pv 8))) (ca_cons (ce_bin or_sub (ce_neg (ce_bin or_fdiv (ce_neg (ce_name (pv 7))) (ce_name (pv 4)))) (ce_name (pv 8))) ca_nil))))))))) (css_cons (cs_for (passes_of rfl) rfl (ci_range1 rfl V.fr.range (ca_cons (ce_callB cr_len rfl V.fr.len rfl (ca_cons (ce_name (pv 2)) ca_nil)) ca_nil)) (cg_name sc_stepped.nd rfl (.inr rfl)) (css_one (cs_expr (ce_meth I (ok_Stream_fill V) (by decide) (pv 3) lend_w (car_e (ce_name (pv 6)) (car_e (ce_ix (ce_q (cq_pl (cpl_item (cpl_name (pv 5)) (cq_name (pv 6))))) ce_int) car_nil)))))) (css_cons (cs_for (passes_of rfl) rfl (ci_range1 rfl V.fr.range (ca_cons (ce_callB cr_len rfl V.fr.len rfl (ca_cons (ce_name (pv 2)) ca_nil)) ca_nil)) (cg_name sc_stepped.nd rfl (.inr rfl)) (css_one (cs_expr (ce_meth I (ok_Stream_fill V) (by decide) (pv 3) lend_w (car_e (ce_name (pv 6)) (car_e (ce_ix (ce_q (cq_pl (cpl_item (cpl_name (pv 5)) (cq_name (pv 6))))) ce_int) car_nil)))))) (css_cons (cs_set sc_stepped.nd rfl (.inl rfl) (ce_lnew ca_nil)) (css_cons (cs_for (passes_of rfl) rfl (ci_enum rfl V.fr.enumerate (ca_cons (ce_name (pv 2)) ca_nil)) (cg_tup rfl (cgs_cons (cg_name sc_stepped.nd rfl (.inr rfl)) (cgs_cons (cg_name sc_stepped.nd rfl (.inl rfl)) cgs_nil))) (css_cons (cs_setDc I.u9 rfl sc_stepped.nd rfl rfl (swd_true rfl rfl rfl rfl) (own := [("kind", 14)]) (ci_fd (cpl_item (cpl_fld V.c_Stream V.n_Stream_often (cpl_name (pv 3))) (cq_name (pv 6)))) (blk_of (by kernel_rfl)) (by decide) (fun _ _ _ _ _ => cg_name sc_stepped.nd rfl (.inl rfl)) (fun _ _ _ _ _ => cq_name (pv 14)) (fun _ _ _ _ _ => ce_meth (In.blk I) (ok_Stream_takes V) (by decide) (pv 3) lend_w (car_e (ce_name (pv 6)) (car_e (ce_name (pv 14)) car_nil)))) (css_cons (cs_set sc_stepped.nd rfl (.inl rfl) (ce_lnew ca_nil)) (css_cons (cs_for (passes_of rfl) rfl (ci_seq (ce_name (pv 10))) (cg_name sc_stepped.nd rfl (.inl rfl)) (css_one (cs_if (ct_cmp or_gt (ce_q (cq_dix I.u9 (cpl_name (pv 11)) (cq_name (pv 13)))) ce_int (nomark _)) (css_cons (cs_daug I.u9 (cpl_name (pv 11)) (cq_name (pv 13)) cq_int in_subI) (css_one (cs_expr (ce_appendE (pv 12) (ce_bin or_add (ce_name (pv 13)) (ce_tup (ca_cons (ce_name (pv 1)) ca_nil))))))) (css_one (cs_expr (ce_appendE (pv 12) (ce_name (pv 13)))))))) (css_one (cs_expr (ce_appendM (cpl_name (pv 9)) (pv 12) tk_fz))))))) (css_one (cs_ret (ce_fz (pv 9)))))))))))
theorem sc_run_on : FnScope ["house", "told", "half"] ["house", "told", "half"] (defScope (top 42)) := ⟨rfl, rfl, rfl, by decide +kernel, rfl, by decide +kernel, by decide +kernel⟩
def b_run_on : S → SOut := seqS (whileS (toB (binE pyLt (nE 1) (binE pyItem (nE 0) (cE (.int 0))))) (seqS (setS 2 (callD m_stepped [.e (nE 0), .e (nE 1), .e (nE 2)])) (augNS 1 (· + ·) (cE (.int 1)))) 20) (retS (nE 2))
def m_run_on : Fn := fnD 3 b_run_on
theorem ok_run_on {G : Gv} (V : Ev G) : Cal G 175 "run_on" 3 m_run_on := by
  obtain ⟨f, fd, F, hm⟩ := V.h_run_on
  refine ⟨f, fd, _, fn_ok F sc_run_on (by decide) (k := 174) fun cdv A outer s H E bv hr => ?_, hm, F.kp, F.bindsN fun _ _ _ _ _ _ us hl => match us, hl with | [_, _, _], _ => rfl⟩
  have I := In.fn (G := G) (N := ["house", "told", "half"]) (qual := "run_on") (scope := defScope (top 42)) (f := f) (cdv := cdv) (outer := outer) (H := H) (E := E) (bv := bv) hr
  exact css_cons (cs_while 20 (passes_of rfl) (ct_cmp or_lt (ce_name (pv 1)) (ce_ix (ce_name (pv 0)) ce_int) (nomark _)) (css_cons (cs_set sc_run_on.nd rfl (.inl rfl) (ce_call I (ok_stepped V) (by decide) rfl (car_e (ce_name (pv 0)) (car_e (ce_name (pv 1)) (car_e (ce_name (pv 2)) car_nil))))) (css_one (cs_augN sc_run_on.nd rfl (.inl rfl) ce_int ip_add)))) (css_one (cs_ret (ce_name (pv 2))))
theorem sc_empty_half : FnScope ["house", "size"] ["house"] (defScope (top 44)) := ⟨rfl, rfl, rfl, by decide +kernel, rfl, by decide +kernel, by decide +kernel⟩
def b_empty_half : S → SOut := retS (frzE (lcD ([1]) (itemsE (binE pyItem (nE 0) (cE (.int 2)))) (nameG 1) yesB (binE pyMul (lstE ([tupE ([])])) (nE 1))))
def m_empty_half : Fn := fnD 2 b_empty_half
theorem ok_empty_half {G : Gv} (V : Ev G) : Cal G 1 "empty_half" 1 m_empty_half := by
  obtain ⟨f, fd, F, hm⟩ := V.h_empty_half
  refine ⟨f, fd, _, fn_ok F sc_empty_half (by decide) (k := 0) fun cdv A outer s H E bv hr => ?_, hm, F.kp, F.bindsN fun _ _ _ _ _ _ us hl => match us, hl with | [_], _ => rfl⟩
  have I := In.fn (G := G) (N := ["house", "size"]) (qual := "empty_half") (scope := defScope (top 44)) (f := f) (cdv := cdv) (outer := outer) (H := H) (E := E) (bv := bv) hr
  exact css_one (cs_ret (ce_frz (ce_lc rfl sc_empty_half.nd (own := [("size", 1)]) (blk_of (by kernel_rfl)) (by decide) (ci_seq (ce_ix (ce_name (pv 0)) ce_int)) (fun _ _ _ _ _ => cg_name sc_empty_half.nd rfl (.inl rfl)) (fun _ _ _ _ _ => cts_nil) (fun _ _ _ _ _ => ce_bin or_mul (ce_lst (ca_cons (ce_tup ca_nil) ca_nil)) (ce_name (pv 1))))))
theorem sc_deal_of : FnScope ["house"] ["house"] (defScope (top 45)) := ⟨rfl, rfl, rfl, by decide +kernel, rfl, by decide +kernel, by decide +kernel⟩
def b_deal_of : S → SOut := seqS (dropS (callD m_look_house [.e (nE 0)])) (retS (callD m_run_on [.e (nE 0), .e (cE (.int 0)), .e (callD m_empty_half [.e (nE 0)])]))
def m_deal_of : Fn := fnD 1 b_deal_of
theorem ok_deal_of {G : Gv} (V : Ev G) : Cal G 176 "deal_of" 1 m_deal_of := by
  obtain ⟨f, fd, F, hm⟩ := V.h_deal_of
  refine ⟨f, fd, _, fn_ok F sc_deal_of (by decide) (k := 175) fun cdv A outer s H E bv hr => ?_, hm, F.kp, F.bindsN fun _ _ _ _ _ _ us hl => match us, hl with | [_], _ => rfl⟩
  have I := In.fn (G := G) (N := ["house"]) (qual := "deal_of") (scope := defScope (top 45)) (f := f) (cdv := cdv) (outer := outer) (H := H) (E := E) (bv := bv) hr
  exact css_cons (cs_expr (ce_call I (ok_look_house V) (by decide) rfl (car_e (ce_name (pv 0)) car_nil))) (css_one (cs_ret (ce_call I (ok_run_on V) (by decide) rfl (car_e (ce_name (pv 0)) (car_e ce_int (car_e (ce_call I (ok_empty_half V) (by decide) rfl (car_e (ce_name (pv 0)) car_nil)) car_nil))))))
theorem sc_is_alike : FnScope ["house", "size"] ["house"] (defScope (top 52)) := ⟨rfl, rfl, rfl, by decide +kernel, rfl, by decide +kernel, by decide +kernel⟩
def b_is_alike : S → SOut := seqS (dropS (callD m_look_house [.e (nE 0)])) (retS (callE pyAll (argsE [frzE (lcD ([1]) (itemsE (binE pyItem (nE 0) (cE (.int 2)))) (nameG 1) yesB (binE pyEq (binE pyMod (binE pyMul (binE pyItem (nE 0) (cE (.int 1))) (nE 1)) (binE pyItem (nE 0) (cE (.int 0)))) (cE (.int 0))))])))
def m_is_alike : Fn := fnD 2 b_is_alike
theorem ok_is_alike {G : Gv} (V : Ev G) : Cal G 4 "is_alike" 1 m_is_alike := by
  obtain ⟨f, fd, F, hm⟩ := V.h_is_alike
  refine ⟨f, fd, _, fn_ok F sc_is_alike (by decide) (k := 3) fun cdv A outer s H E bv hr => ?_, hm, F.kp, F.bindsN fun _ _ _ _ _ _ us hl => match us, hl with | [_], _ => rfl⟩
  have I := In.fn (G := G) (N := ["house", "size"]) (qual := "is_alike") (scope := defScope (top 52)) (f := f) (cdv := cdv) (outer := outer) (H := H) (E := E) (bv := bv) hr
  exact css_cons (cs_expr (ce_call I (ok_look_house V) (by decide) rfl (car_e (ce_name (pv 0)) car_nil))) (css_one (cs_ret (ce_callB (crd_all rfl) rfl V.fr.all rfl (ca_cons (ce_frz (ce_lc rfl sc_is_alike.nd (own := [("size", 1)]) (blk_of (by kernel_rfl)) (by decide) (ci_seq (ce_ix (ce_name (pv 0)) ce_int)) (fun _ _ _ _ _ => cg_name sc_is_alike.nd rfl (.inl rfl)) (fun _ _ _ _ _ => cts_nil) (fun _ _ _ _ _ => ce_cmp (or_eq (In.blk I).u64) (ce_bin or_mod (ce_bin or_mul (ce_ix (ce_name (pv 0)) ce_int) (ce_name (pv 1))) (ce_ix (ce_name (pv 0)) ce_int)) ce_int (nomark _)))) ca_nil))))
theorem sc_sitting_bounds : FnScope ["house", "found", "size", "places"] ["house"] (defScope (top 53)) := ⟨rfl, rfl, rfl, by decide +kernel, rfl, by decide +kernel, by decide +kernel⟩
def b_sitting_bounds : S → SOut := seqS (dropS (callD m_look_house [.e (nE 0)])) (seqS (setS 1 (lnewE (argsE []))) (seqS (loopS (itemsE (binE pyItem (nE 0) (cE (.int 2)))) (nameG 2) (seqS (setS 3 (binE pyMul (binE pyItem (nE 0) (cE (.int 1))) (nE 2))) (dropS (appE 1 (tupE ([binE pyFloorDiv (nE 3) (binE pyItem (nE 0) (cE (.int 0))), negE (binE pyFloorDiv (negE (nE 3)) (binE pyItem (nE 0) (cE (.int 0))))])))))) (retS (fzE 1))))
def m_sitting_bounds : Fn := fnD 4 b_sitting_bounds
theorem ok_sitting_bounds {G : Gv} (V : Ev G) : Cal G 4 "sitting_bounds" 1 m_sitting_bounds := by
  obtain ⟨f, fd, F, hm⟩ := V.h_sitting_bounds
  refine ⟨f, fd, _, fn_ok F sc_sitting_bounds (by decide) (k := 3) fun cdv A outer s H E bv hr => ?_, hm, F.kp, F.bindsN fun _ _ _ _ _ _ us hl => match us, hl with | [_], _ => rfl⟩
  have I := In.fn (G := G) (N := ["house", "found", "size", "places"]) (qual := "sitting_bounds") (scope := defScope (top 53)) (f := f) (cdv := cdv) (outer := outer) (H := H) (E := E) (bv := bv) hr
  exact css_cons (cs_expr (ce_call I (ok_look_house V) (by decide) rfl (car_e (ce_name (pv 0)) car_nil))) (css_cons (cs_set sc_sitting_bounds.nd rfl (.inl rfl) (ce_lnew ca_nil)) (css_cons (cs_for (passes_of rfl) rfl (ci_seq (ce_ix (ce_name (pv 0)) ce_int)) (cg_name sc_sitting_bounds.nd rfl (.inl rfl)) (css_cons (cs_set sc_sitting_bounds.nd rfl (.inl rfl) (ce_bin or_mul (ce_ix (ce_name (pv 0)) ce_int) (ce_name (pv 2)))) (css_one (cs_expr (ce_appendE (pv 1) (ce_tup (ca_cons (ce_bin or_fdiv (ce_name (pv 3)) (ce_ix (ce_name (pv 0)) ce_int)) (ca_cons (ce_neg (ce_bin or_fdiv (ce_neg (ce_name (pv 3))) (ce_ix (ce_name (pv 0)) ce_int))) ca_nil)))))))) (css_one (cs_ret (ce_fz (pv 1))))))
theorem sc_house_text : FnScope ["house", "size"] ["house"] (defScope (top 57)) := ⟨rfl, rfl, rfl, by decide +kernel, rfl, by decide +kernel, by decide +kernel⟩
def b_house_text : S → SOut := seqS (ifS (notB (toB (callD m_is_house [.e (nE 0)]))) (raiseS 1) onS) (retS (binE pyAdd (jsE [fmtE (binE pyItem (nE 0) (cE (.int 0))), cE (.str " of "), fmtE (binE pyItem (nE 0) (cE (.int 1))), cE (.str ": ")] Str.empty) (joinE (" ") (frzE (lcD ([1]) (itemsE (binE pyItem (nE 0) (cE (.int 2)))) (nameG 1) yesB (callE pyStr (argsE [nE 1])))))))
def m_house_text : Fn := fnD 2 b_house_text
theorem ok_house_text {G : Gv} (V : Ev G) : Cal G 3 "house_text" 1 m_house_text := by
  obtain ⟨f, fd, F, hm⟩ := V.h_house_text
  refine ⟨f, fd, _, fn_ok F sc_house_text (by decide) (k := 2) fun cdv A outer s H E bv hr => ?_, hm, F.kp, F.bindsN fun _ _ _ _ _ _ us hl => match us, hl with | [_], _ => rfl⟩
  have I := In.fn (G := G) (N := ["house", "size"]) (qual := "house_text") (scope := defScope (top 57)) (f := f) (cdv := cdv) (outer := outer) (H := H) (E := E) (bv := bv) hr
  exact css_cons (cs_if (ct_not (ct_val (ce_call I (ok_is_house V) (by decide) rfl (car_e (ce_name (pv 0)) car_nil)))) (css_one (cs_raise rfl I.tk V.x_BadHouse rfl)) css_nil) (css_one (cs_ret (ce_bin or_add (ce_joined (CJ.cons (ce_fmt (ce_ix (ce_name (pv 0)) ce_int)) (CJ.cons ce_str (CJ.cons (ce_fmt (ce_ix (ce_name (pv 0)) ce_int)) (CJ.cons ce_str CJ.nil))))) (ce_join (ce_frz (ce_lc rfl sc_house_text.nd (own := [("size", 1)]) (blk_of (by kernel_rfl)) (by decide) (ci_seq (ce_ix (ce_name (pv 0)) ce_int)) (fun _ _ _ _ _ => cg_name sc_house_text.nd rfl (.inl rfl)) (fun _ _ _ _ _ => cts_nil) (fun _ _ _ _ _ => ce_callTy crd_str rfl V.fr.str rfl (ca_cons (ce_name (pv 1)) ca_nil))))))))
theorem sc_look_told : FnScope ["house", "told"] ["house", "told"] (defScope (top 19)) := ⟨rfl, rfl, rfl, by decide +kernel, rfl, by decide +kernel, by decide +kernel⟩
def b_look_told : S → SOut := seqS (dropS (callD m_look_house [.e (nE 0)])) (ifS (notB (toB (callD m_is_whole [.e (nE 1), .e (cE (.int 0)), .e (binE pyItem (nE 0) (cE (.int 0)))]))) (raiseS 2) onS)
def m_look_told : Fn := fnD 2 b_look_told
theorem ok_look_told {G : Gv} (V : Ev G) : Cal G 4 "look_told" 2 m_look_told := by
  obtain ⟨f, fd, F, hm⟩ := V.h_look_told
  refine ⟨f, fd, _, fn_ok F sc_look_told (by decide) (k := 3) fun cdv A outer s H E bv hr => ?_, hm, F.kp, F.bindsN fun _ _ _ _ _ _ us hl => match us, hl with | [_, _], _ => rfl⟩
  have I := In.fn (G := G) (N := ["house", "told"]) (qual := "look_told") (scope := defScope (top 19)) (f := f) (cdv := cdv) (outer := outer) (H := H) (E := E) (bv := bv) hr
  exact css_cons (cs_expr (ce_call I (ok_look_house V) (by decide) rfl (car_e (ce_name (pv 0)) car_nil))) (css_one (cs_if (ct_not (ct_val (ce_call I (ok_is_whole V) (by decide) rfl (car_e (ce_name (pv 1)) (car_e ce_int (car_e (ce_ix (ce_name (pv 0)) ce_int) car_nil)))))) (css_one (cs_raise rfl I.tk V.x_BadFolk rfl)) css_nil))
theorem sc_is_few : FnScope ["thing", "below", "most", "one", "k"] ["thing", "below", "most"] (defScope (top 18)) := ⟨rfl, rfl, rfl, by decide +kernel, rfl, by decide +kernel, by decide +kernel⟩
def b_is_few : S → SOut := seqS (ifS (orB (notB (toB (isE .tuple (nE 0)))) (orB (toB (binE pyGt (callE pyLen (argsE [nE 0])) (nE 2))) (notB (toB (callE pyAll (argsE [frzE (lcD ([3]) (itemsE (nE 0)) (nameG 3) yesB (callD m_is_whole [.e (nE 3), .e (cE (.int 0)), .e (binE pySub (nE 1) (cE (.int 1)))]))])))))) (retS (cE (.bool false))) onS) (retS (callE pyAll (argsE [frzE (lcD ([4]) (rng1E (argsE [binE pySub (callE pyLen (argsE [nE 0])) (cE (.int 1))])) (nameG 4) yesB (binE pyLt (binE pyItem (nE 0) (nE 4)) (binE pyItem (nE 0) (binE pyAdd (nE 4) (cE (.int 1))))))])))
def m_is_few : Fn := fnD 5 b_is_few
theorem ok_is_few {G : Gv} (V : Ev G) : Cal G 2 "is_few" 3 m_is_few := by
  obtain ⟨f, fd, F, hm⟩ := V.h_is_few
  refine ⟨f, fd, _, fn_ok F sc_is_few (by decide) (k := 1) fun cdv A outer s H E bv hr => ?_, hm, F.kp, F.bindsN fun _ _ _ _ _ _ us hl => match us, hl with | [_, _, _], _ => rfl⟩
  have I := In.fn (G := G) (N := ["thing", "below", "most", "one", "k"]) (qual := "is_few") (scope := defScope (top 18)) (f := f) (cdv := cdv) (outer := outer) (H := H) (E := E) (bv := bv) hr
  exact css_cons (cs_if (CW.ct (cw_or (ct_not (ct_val (ce_isinst .tuple (ce_name (pv 0)) rfl V.fr.isinstance rfl V.fr.tuple (by decide +kernel)))) (cw_or (ct_cmp or_gt (ce_callB cr_len rfl V.fr.len rfl (ca_cons (ce_name (pv 0)) ca_nil)) (ce_name (pv 2)) (nomark _)) (cw_or1 (ct_not (ct_val (ce_callB (crd_all rfl) rfl V.fr.all rfl (ca_cons (ce_frz (ce_lc rfl sc_is_few.nd (own := [("one", 3)]) (blk_of (by kernel_rfl)) (by decide) (ci_seq (ce_name (pv 0))) (fun _ _ _ _ _ => cg_name sc_is_few.nd rfl (.inl rfl)) (fun _ _ _ _ _ => cts_nil) (fun _ _ _ _ _ => ce_call (In.blk I) (ok_is_whole V) (by decide) rfl (car_e (ce_name (pv 3)) (car_e ce_int (car_e (ce_bin or_sub (ce_name (pv 1)) ce_int) car_nil)))))) ca_nil)))))))) (css_one (cs_ret ce_bl)) css_nil) (css_one (cs_ret (ce_callB (crd_all rfl) rfl V.fr.all rfl (ca_cons (ce_frz (ce_lc rfl sc_is_few.nd (own := [("k", 4)]) (blk_of (by kernel_rfl)) (by decide) (ci_range1 rfl V.fr.range (ca_cons (ce_bin or_sub (ce_callB cr_len rfl V.fr.len rfl (ca_cons (ce_name (pv 0)) ca_nil)) ce_int) ca_nil)) (fun _ _ _ _ _ => cg_name sc_is_few.nd rfl (.inl rfl)) (fun _ _ _ _ _ => cts_nil) (fun _ _ _ _ _ => ce_cmp or_lt (ce_ix (ce_name (pv 0)) (ce_name (pv 4))) (ce_ix (ce_name (pv 0)) (ce_bin or_add (ce_name (pv 4)) ce_int)) (nomark _)))) ca_nil))))
theorem sc_half_fits : FnScope ["house", "told", "thing", "row", "size", "one"] ["house", "told", "thing"] (defScope (top 23)) := ⟨rfl, rfl, rfl, by decide +kernel, rfl, by decide +kernel, by decide +kernel⟩
def b_half_fits : S → SOut := seqS (ifS (orB (notB (toB (isE .list (nE 2)))) (orB (toB (binE pyNe (callE pyLen (argsE [nE 2])) (callE pyLen (argsE [binE pyItem (nE 0) (cE (.int 2))])))) (notB (toB (callE pyAll (argsE [frzE (lcD ([3]) (itemsE (nE 2)) (nameG 3) yesB (isE .list (nE 3)))])))))) (retS (cE (.bool false))) onS) (seqS (ifS (toB (callE pyAny (argsE [frzE (lcD ([3, 4]) (zipE (argsE [nE 2, binE pyItem (nE 0) (cE (.int 2))])) (tupG (consG (nameG 3) (consG (nameG 4) nilG)) 2) yesB (binE pyNe (callE pyLen (argsE [nE 3])) (nE 4)))]))) (retS (cE (.bool false))) onS) (retS (callE pyAll (argsE [frzE (lc2D ([3, 5]) ([5]) (itemsE (nE 2)) (nameG 3) yesB (itemsE (nE 3)) (nameG 5) yesB (callD m_is_few [.e (nE 5), .e (nE 1), .e (binE pyItem (nE 0) (cE (.int 1)))]))]))))
def m_half_fits : Fn := fnD 6 b_half_fits
theorem ok_half_fits {G : Gv} (V : Ev G) : Cal G 3 "half_fits" 3 m_half_fits := by
  obtain ⟨f, fd, F, hm⟩ := V.h_half_fits
  refine ⟨f, fd, _, fn_ok F sc_half_fits (by decide) (k := 2) fun cdv A outer s H E bv hr => ?_, hm, F.kp, F.bindsN fun _ _ _ _ _ _ us hl => match us, hl with | [_, _, _], _ => rfl⟩
  have I := In.fn (G := G) (N := ["house", "told", "thing", "row", "size", "one"]) (qual := "half_fits") (scope := defScope (top 23)) (f := f) (cdv := cdv) (outer := outer) (H := H) (E := E) (bv := bv) hr
  exact css_cons (cs_if (CW.ct (cw_or (ct_not (ct_val (ce_isinst .list (ce_name (pv 2)) rfl V.fr.isinstance rfl V.fr.list (by decide +kernel)))) (cw_or (ct_cmp (or_ne I.u64) (ce_callB cr_len rfl V.fr.len rfl (ca_cons (ce_name (pv 2)) ca_nil)) (ce_callB cr_len rfl V.fr.len rfl (ca_cons (ce_ix (ce_name (pv 0)) ce_int) ca_nil)) (nomark _)) (cw_or1 (ct_not (ct_val (ce_callB (crd_all rfl) rfl V.fr.all rfl (ca_cons (ce_frz (ce_lc rfl sc_half_fits.nd (own := [("row", 3)]) (blk_of (by kernel_rfl)) (by decide) (ci_seq (ce_name (pv 2))) (fun _ _ _ _ _ => cg_name sc_half_fits.nd rfl (.inl rfl)) (fun _ _ _ _ _ => cts_nil) (fun _ _ _ _ _ => ce_isinst .list (ce_name (pv 3)) rfl V.fr.isinstance rfl V.fr.list (by decide +kernel)))) ca_nil)))))))) (css_one (cs_ret ce_bl)) css_nil) (css_cons (cs_if (ct_val (ce_callB (crd_any rfl) rfl V.fr.any rfl (ca_cons (ce_frz (ce_lc rfl sc_half_fits.nd (own := [("row", 3), ("size", 4)]) (blk_of (by kernel_rfl)) (by decide) (ci_zip rfl V.fr.zip (ca_cons (ce_name (pv 2)) (ca_cons (ce_ix (ce_name (pv 0)) ce_int) ca_nil))) (fun _ _ _ _ _ => cg_tup rfl (cgs_cons (cg_name sc_half_fits.nd rfl (.inl rfl)) (cgs_cons (cg_name sc_half_fits.nd rfl (.inl rfl)) cgs_nil))) (fun _ _ _ _ _ => cts_nil) (fun _ _ _ _ _ => ce_cmp (or_ne (In.blk I).u64) (ce_callB cr_len rfl V.fr.len rfl (ca_cons (ce_name (pv 3)) ca_nil)) (ce_name (pv 4)) (nomark _)))) ca_nil))) (css_one (cs_ret ce_bl)) css_nil) (css_one (cs_ret (ce_callB (crd_all rfl) rfl V.fr.all rfl (ca_cons (ce_frz (ce_lc2 rfl sc_half_fits.nd (own := [("row", 3), ("one", 5)]) (vs1 := [5]) (blk_of (by kernel_rfl)) (by decide) (by decide) (by decide) (ci_seq (ce_name (pv 2))) (fun _ _ _ _ _ => cg_name sc_half_fits.nd rfl (.inl rfl)) (fun _ _ _ _ _ => cts_nil) (fun _ _ _ _ _ => ci_seq (ce_name (pv 3))) (fun _ _ _ _ _ => cg_name sc_half_fits.nd rfl (.inl rfl)) (fun _ _ _ _ _ => cts_nil) (fun _ _ _ _ _ => ce_call (In.blk I) (ok_is_few V) (by decide) rfl (car_e (ce_name (pv 5)) (car_e (ce_name (pv 1)) (car_e (ce_ix (ce_name (pv 0)) ce_int) car_nil)))))) ca_nil)))))
theorem sc_look_half : FnScope ["house", "told", "half"] ["house", "told", "half"] (defScope (top 25)) := ⟨rfl, rfl, rfl, by decide +kernel, rfl, by decide +kernel, by decide +kernel⟩
def b_look_half : S → SOut := seqS (dropS (callD m_look_told [.e (nE 0), .e (nE 1)])) (ifS (notB (toB (callD m_half_fits [.e (nE 0), .e (nE 1), .e (nE 2)]))) (raiseS 4) onS)
def m_look_half : Fn := fnD 3 b_look_half
theorem ok_look_half {G : Gv} (V : Ev G) : Cal G 5 "look_half" 3 m_look_half := by
  obtain ⟨f, fd, F, hm⟩ := V.h_look_half
  refine ⟨f, fd, _, fn_ok F sc_look_half (by decide) (k := 4) fun cdv A outer s H E bv hr => ?_, hm, F.kp, F.bindsN fun _ _ _ _ _ _ us hl => match us, hl with | [_, _, _], _ => rfl⟩
  have I := In.fn (G := G) (N := ["house", "told", "half"]) (qual := "look_half") (scope := defScope (top 25)) (f := f) (cdv := cdv) (outer := outer) (H := H) (E := E) (bv := bv) hr
  exact css_cons (cs_expr (ce_call I (ok_look_told V) (by decide) rfl (car_e (ce_name (pv 0)) (car_e (ce_name (pv 1)) car_nil)))) (css_one (cs_if (ct_not (ct_val (ce_call I (ok_half_fits V) (by decide) rfl (car_e (ce_name (pv 0)) (car_e (ce_name (pv 1)) (car_e (ce_name (pv 2)) car_nil)))))) (css_one (cs_raise rfl I.tk V.x_BadDeal rfl)) css_nil))
theorem sc_cut_to : FnScope ["half", "told", "row", "part", "who"] ["half", "told"] (defScope (top 35)) := ⟨rfl, rfl, rfl, by decide +kernel, rfl, by decide +kernel, by decide +kernel⟩
def b_cut_to : S → SOut := retS (frzE (lcD ([2]) (itemsE (nE 0)) (nameG 2) yesB (frzE (lcD ([3]) (itemsE (nE 2)) (nameG 3) yesB (callE pyTuple (argsE [frzE (lcD ([4]) (itemsE (nE 3)) (nameG 4) (toB (binE pyLt (nE 4) (nE 1))) (nE 4))]))))))
def m_cut_to : Fn := fnD 5 b_cut_to
theorem ok_cut_to {G : Gv} (V : Ev G) : Cal G 1 "cut_to" 2 m_cut_to := by
  obtain ⟨f, fd, F, hm⟩ := V.h_cut_to
  refine ⟨f, fd, _, fn_ok F sc_cut_to (by decide) (k := 0) fun cdv A outer s H E bv hr => ?_, hm, F.kp, F.bindsN fun _ _ _ _ _ _ us hl => match us, hl with | [_, _], _ => rfl⟩
  have I := In.fn (G := G) (N := ["half", "told", "row", "part", "who"]) (qual := "cut_to") (scope := defScope (top 35)) (f := f) (cdv := cdv) (outer := outer) (H := H) (E := E) (bv := bv) hr
  exact css_one (cs_ret (ce_frz (ce_lc rfl sc_cut_to.nd (own := [("row", 2)]) (blk_of (by kernel_rfl)) (by decide) (ci_seq (ce_name (pv 0))) (fun _ _ _ _ _ => cg_name sc_cut_to.nd rfl (.inl rfl)) (fun _ _ _ _ _ => cts_nil) (fun _ _ _ _ _ => ce_frz (ce_lc rfl sc_cut_to.nd (own := [("part", 3)]) (blk_of (by kernel_rfl)) (by decide) (ci_seq (ce_name (pv 2))) (fun _ _ _ _ _ => cg_name sc_cut_to.nd rfl (.inl rfl)) (fun _ _ _ _ _ => cts_nil) (fun _ _ _ _ _ => ce_callTy crd_tuple rfl V.fr.tuple rfl (ca_cons (ce_frz (ce_lc rfl sc_cut_to.nd (own := [("who", 4)]) (blk_of (by kernel_rfl)) (by decide) (ci_seq (ce_name (pv 3))) (fun _ _ _ _ _ => cg_name sc_cut_to.nd rfl (.inl rfl)) (fun _ _ _ _ _ => cts_one (ct_cmp or_lt (ce_name (pv 4)) (ce_name (pv 1)) (nomark _))) (fun _ _ _ _ _ => ce_name (pv 4)))) ca_nil)))))))
theorem sc_cut : FnScope ["house", "told", "half", "fewer"] ["house", "told", "half", "fewer"] (defScope (top 36)) := ⟨rfl, rfl, rfl, by decide +kernel, rfl, by decide +kernel, by decide +kernel⟩
def b_cut : S → SOut := seqS (dropS (callD m_look_half [.e (nE 0), .e (nE 1), .e (nE 2)])) (seqS (dropS (callD m_look_told [.e (nE 0), .e (nE 3)])) (seqS (ifS (toB (binE pyGt (nE 3) (nE 1))) (raiseS 4) onS) (retS (callD m_cut_to [.e (nE 2), .e (nE 3)]))))
def m_cut : Fn := fnD 4 b_cut
theorem ok_cut {G : Gv} (V : Ev G) : Cal G 6 "cut" 4 m_cut := by
  obtain ⟨f, fd, F, hm⟩ := V.h_cut
  refine ⟨f, fd, _, fn_ok F sc_cut (by decide) (k := 5) fun cdv A outer s H E bv hr => ?_, hm, F.kp, F.bindsN fun _ _ _ _ _ _ us hl => match us, hl with | [_, _, _, _], _ => rfl⟩
  have I := In.fn (G := G) (N := ["house", "told", "half", "fewer"]) (qual := "cut") (scope := defScope (top 36)) (f := f) (cdv := cdv) (outer := outer) (H := H) (E := E) (bv := bv) hr
  exact css_cons (cs_expr (ce_call I (ok_look_half V) (by decide) rfl (car_e (ce_name (pv 0)) (car_e (ce_name (pv 1)) (car_e (ce_name (pv 2)) car_nil))))) (css_cons (cs_expr (ce_call I (ok_look_told V) (by decide) rfl (car_e (ce_name (pv 0)) (car_e (ce_name (pv 3)) car_nil)))) (css_cons (cs_if (ct_cmp or_gt (ce_name (pv 3)) (ce_name (pv 1)) (nomark _)) (css_one (cs_raise rfl I.tk V.x_BadDeal rfl)) css_nil) (css_one (cs_ret (ce_call I (ok_cut_to V) (by decide) rfl (car_e (ce_name (pv 2)) (car_e (ce_name (pv 3)) car_nil)))))))
theorem sc_Growing_init : FnScope ["self", "house"] ["self", "house"] (defScope (sub 55 0)) := ⟨rfl, rfl, rfl, by decide +kernel, rfl, by decide +kernel, by decide +kernel⟩
def b_Growing_init : S → SOut := seqS (dropS (callD m_look_house [.e (nE 1)])) (seqS (fldS (slotPl 0) 8 ("house") (nE 1)) (seqS (fldS (slotPl 0) 8 ("told") (cE (.int 0))) (seqS (fldS (slotPl 0) 8 ("half") (callD m_empty_half [.e (nE 1)])) (fldS (slotPl 0) 8 ("past") (lnewE (argsE []))))))
def m_Growing_init : Fn := fnD 2 b_Growing_init
theorem ok_Growing_init {G : Gv} (V : Ev G) : CalC G 4 "Growing" 8 2 m_Growing_init := by
  obtain ⟨f, fd, F, hm⟩ := V.m_Growing_init
  refine ⟨f, V.g_Growing, hm, fd, _, fn_ok F sc_Growing_init (by decide) (k := 3) fun cdv A outer s H E bv hr => ?_, F.bindsN fun _ _ _ _ _ _ us hl => match us, hl with | [_, _], _ => rfl⟩
  have I := In.fn (G := G) (N := ["self", "house"]) (qual := "Growing.__init__") (scope := defScope (sub 55 0)) (f := f) (cdv := cdv) (outer := outer) (H := H) (E := E) (bv := bv) hr
  exact css_cons (cs_expr (ce_call I (ok_look_house V) (by decide) rfl (car_e (ce_name (pv 1)) car_nil))) (css_cons (cs_fld V.c_Growing V.n_Growing_house (cpl_name (pv 0)) (ce_name (pv 1))) (css_cons (cs_fld V.c_Growing V.n_Growing_told (cpl_name (pv 0)) ce_int) (css_cons (cs_fld V.c_Growing V.n_Growing_half (cpl_name (pv 0)) (ce_call I (ok_empty_half V) (by decide) rfl (car_e (ce_name (pv 1)) car_nil))) (css_one (cs_fld V.c_Growing V.n_Growing_past (cpl_name (pv 0)) (ce_lnew ca_nil))))))
theorem sc_law_refusal : FnScope ["_law_caught", "_law_sorts"] ["_law_caught"] (defScope (top 63)) := ⟨rfl, rfl, rfl, by decide +kernel, rfl, by decide +kernel, by decide +kernel⟩
def b_law_refusal : S → SOut := seqS (setS 1 (lstE ([isXE 7 (fun i => decide (i = 1)) 0, isXE 7 (fun i => decide (i = 2)) 0, isXE 7 (fun i => decide (i = 3)) 0]))) (seqS (setS 1 (binE pyAdd (nE 1) (lstE ([isXE 7 (fun i => decide (i = 4)) 0, isXE 7 (fun i => decide (i = 5)) 0, isXE 7 (fun i => decide (i = 6)) 0])))) (seqS (ifS (orB (toB (binE pyNe (countE (nE 1) (cE (.bool true))) (cE (.int 1)))) (orB (notB (toB (isXE 7 (fun _ => true) 0))) (notB (toB (isXE 7 (fun _ => true) 0))))) (retS (cE (.str "odd"))) onS) (retS (binE pyItem (lstE ([cE (.str "house"), cE (.str "folk"), cE (.str "evening"), cE (.str "deal"), cE (.str "text"), cE (.str "none")])) (indexE (nE 1) (cE (.bool true)))))))
def m_law_refusal : Fn := fnD 2 b_law_refusal
theorem ok_law_refusal {G : Gv} (V : Ev G) : Cal G 1 "_law_refusal" 1 m_law_refusal := by
  obtain ⟨f, fd, F, hm⟩ := V.h_law_refusal
  refine ⟨f, fd, _, fn_ok F sc_law_refusal (by decide) (k := 0) fun cdv A outer s H E bv hr => ?_, hm, F.kp, F.bindsN fun _ _ _ _ _ _ us hl => match us, hl with | [_], _ => rfl⟩
  have I := In.fn (G := G) (N := ["_law_caught", "_law_sorts"]) (qual := "_law_refusal") (scope := defScope (top 63)) (f := f) (cdv := cdv) (outer := outer) (H := H) (E := E) (bv := bv) hr
  exact css_cons (cs_set sc_law_refusal.nd rfl (.inl rfl) (ce_lst (ca_cons (ce_isX (c := .ref (G.ca 1)) (V.kit1 I) (pv 0) (pe_glob rfl V.x_BadHouse.gC rfl) (fun _ h => h) rfl V.fr.isinstance) (ca_cons (ce_isX (c := .ref (G.ca 2)) (V.kit2 I) (pv 0) (pe_glob rfl V.x_BadFolk.gC rfl) (fun _ h => h) rfl V.fr.isinstance) (ca_cons (ce_isX (c := .ref (G.ca 3)) (V.kit3 I) (pv 0) (pe_glob rfl V.x_BadEvening.gC rfl) (fun _ h => h) rfl V.fr.isinstance) ca_nil))))) (css_cons (cs_set sc_law_refusal.nd rfl (.inl rfl) (ce_bin or_add (ce_name (pv 1)) (ce_lst (ca_cons (ce_isX (c := .ref (G.ca 4)) (V.kit4 I) (pv 0) (pe_glob rfl V.x_BadDeal.gC rfl) (fun _ h => h) rfl V.fr.isinstance) (ca_cons (ce_isX (c := .ref (G.ca 5)) (V.kit5 I) (pv 0) (pe_glob rfl V.x_BadText.gC rfl) (fun _ h => h) rfl V.fr.isinstance) (ca_cons (ce_isX (c := .ref (G.ca 6)) (V.kit6 I) (pv 0) (pe_glob rfl V.x_NoneSuch.gC rfl) (fun _ h => h) rfl V.fr.isinstance) ca_nil)))))) (css_cons (cs_if (CW.ct (cw_or (ct_cmp (or_ne I.u64) (ce_count I.u65 (ce_name (pv 1)) ce_bl) ce_int (nomark _)) (cw_or (ct_not (ct_val (ce_isX (c := .ref (G.ca 0)) (V.kit0 I) (pv 0) (pe_glob rfl V.x_DealError.gC rfl) (fun _ h => h) rfl V.fr.isinstance))) (cw_or1 (ct_not (ct_val (ce_isX (c := .ty "ValueError") (V.kitV I) (pv 0) (pe_bltn rfl V.fr.ValueError rfl rfl) (fun _ h => h) rfl V.fr.isinstance))))))) (css_one (cs_ret ce_str)) css_nil) (css_one (cs_ret (ce_ix (ce_lst (ca_cons ce_str (ca_cons ce_str (ca_cons ce_str (ca_cons ce_str (ca_cons ce_str (ca_cons ce_str ca_nil))))))) (ce_index I.u65 (ce_name (pv 1)) ce_bl))))))
theorem sc_law_plan : FnScope ["_law_sort_of", "_law_one", "_law_two", "_law_three", "_law_caught", "e"] ["_law_sort_of", "_law_one", "_law_two", "_law_three"] (defScope (top 66)) := ⟨rfl, rfl, rfl, by decide +kernel, rfl, by decide +kernel, by decide +kernel⟩
def b_law_plan : S → SOut := seqS (setS 4 (cE .none)) (seqS (tryS 7 5 (ifS (toB (binE pyEq (nE 0) (cE (.int 0)))) (dropS (callD m_least_alike [.e (nE 1), .e (nE 2)])) (ifS (toB (binE pyEq (nE 0) (cE (.int 1)))) (dropS (callD m_alike_house [.e (nE 1), .e (nE 2)])) (ifS (toB (binE pyEq (nE 0) (cE (.int 2)))) (dropS (callD m_even_house [.e (nE 1), .e (nE 2), .e (nE 3)])) (ifS (toB (binE pyEq (nE 0) (cE (.int 3)))) (dropS (callD m_lots [.e (nE 1)])) (ifS (toB (binE pyEq (nE 0) (cE (.int 4)))) (dropS (callD m_deal_of [.e (nE 1)])) (ifS (toB (binE pyEq (nE 0) (cE (.int 5)))) (dropS (callD m_is_alike [.e (nE 1)])) (ifS (toB (binE pyEq (nE 0) (cE (.int 6)))) (dropS (callD m_sitting_bounds [.e (nE 1)])) (ifS (toB (binE pyEq (nE 0) (cE (.int 7)))) (dropS (callD m_house_text [.e (nE 1)])) (ifS (toB (binE pyEq (nE 0) (cE (.int 8)))) (dropS (callD m_cut [.e (tupE ([cE (.int 3), cE (.int 2), tupE ([cE (.int 3)])])), .e (nE 1), .e (nE 2), .e (nE 3)])) (dropS (makeE 8 m_Growing_init [.e (nE 1)]))))))))))) (setS 4 (xE 5))) (retS (ifE (isNxT 4) (cE (.str "told")) (callD m_law_refusal [.e (xE 4)]))))
def m_law_plan : Fn := fnD 6 b_law_plan
theorem ok_law_plan {G : Gv} (V : Ev G) : Cal G 177 "_law_plan" 4 m_law_plan := by
  obtain ⟨f, fd, F, hm⟩ := V.h_law_plan
  refine ⟨f, fd, _, fn_ok F sc_law_plan (by decide) (k := 176) fun cdv A outer s H E bv hr => ?_, hm, F.kp, F.bindsN fun _ _ _ _ _ _ us hl => match us, hl with | [_, _, _, _], _ => rfl⟩
  have I := In.fn (G := G) (N := ["_law_sort_of", "_law_one", "_law_two", "_law_three", "_law_caught", "e"]) (qual := "_law_plan") (scope := defScope (top 66)) (f := f) (cdv := cdv) (outer := outer) (H := H) (E := E) (bv := bv) hr
  exact css_cons (cs_set sc_law_plan.nd rfl (.inl rfl) ce_non) (css_cons (cs_try rfl rfl sc_law_plan.nd rfl rfl ⟨rfl, rfl, .inl V.x_DealError.gC⟩ I.tk (V.exm I) (fun _ _ _ tk _ => css_one (cs_if (ct_cmp (or_eq (In.tr I tk).u64) (ce_name (pv 0)) ce_int (nomark _)) (css_one (cs_expr (ce_call (In.tr I tk) (ok_least_alike V) (by decide) rfl (car_e (ce_name (pv 1)) (car_e (ce_name (pv 2)) car_nil))))) (css_one (cs_if (ct_cmp (or_eq (In.tr I tk).u64) (ce_name (pv 0)) ce_int (nomark _)) (css_one (cs_expr (ce_call (In.tr I tk) (ok_alike_house V) (by decide) rfl (car_e (ce_name (pv 1)) (car_e (ce_name (pv 2)) car_nil))))) (css_one (cs_if (ct_cmp (or_eq (In.tr I tk).u64) (ce_name (pv 0)) ce_int (nomark _)) (css_one (cs_expr (ce_call (In.tr I tk) (ok_even_house V) (by decide) rfl (car_e (ce_name (pv 1)) (car_e (ce_name (pv 2)) (car_e (ce_name (pv 3)) car_nil)))))) (css_one (cs_if (ct_cmp (or_eq (In.tr I tk).u64) (ce_name (pv 0)) ce_int (nomark _)) (css_one (cs_expr (ce_call (In.tr I tk) (ok_lots V) (by decide) rfl (car_e (ce_name (pv 1)) car_nil)))) (css_one (cs_if (ct_cmp (or_eq (In.tr I tk).u64) (ce_name (pv 0)) ce_int (nomark _)) (css_one (cs_expr (ce_call (In.tr I tk) (ok_deal_of V) (by decide) rfl (car_e (ce_name (pv 1)) car_nil)))) (css_one (cs_if (ct_cmp (or_eq (In.tr I tk).u64) (ce_name (pv 0)) ce_int (nomark _)) (css_one (cs_expr (ce_call (In.tr I tk) (ok_is_alike V) (by decide) rfl (car_e (ce_name (pv 1)) car_nil)))) (css_one (cs_if (ct_cmp (or_eq (In.tr I tk).u64) (ce_name (pv 0)) ce_int (nomark _)) (css_one (cs_expr (ce_call (In.tr I tk) (ok_sitting_bounds V) (by decide) rfl (car_e (ce_name (pv 1)) car_nil)))) (css_one (cs_if (ct_cmp (or_eq (In.tr I tk).u64) (ce_name (pv 0)) ce_int (nomark _)) (css_one (cs_expr (ce_call (In.tr I tk) (ok_house_text V) (by decide) rfl (car_e (ce_name (pv 1)) car_nil)))) (css_one (cs_if (ct_cmp (or_eq (In.tr I tk).u64) (ce_name (pv 0)) ce_int (nomark _)) (css_one (cs_expr (ce_call (In.tr I tk) (ok_cut V) (by decide) rfl (car_e (ce_tup (ca_cons ce_int (ca_cons ce_int (ca_cons (ce_tup (ca_cons ce_int ca_nil)) ca_nil)))) (car_e (ce_name (pv 1)) (car_e (ce_name (pv 2)) (car_e (ce_name (pv 3)) car_nil))))))) (css_one (cs_expr (ce_make (In.tr I tk) (ok_Growing_init V) (by decide) rfl (car_e (ce_name (pv 1)) car_nil)))))))))))))))))))))) (fun _ _ => css_one (cs_set sc_law_plan.nd rfl (.inl rfl) (ce_x (pv 5))))) (css_one (cs_ret (ce_if (ct_isNx (pv 4)) ce_str (ce_call I (ok_law_refusal V) (by decide) rfl (car_e (ce_x (pv 4)) car_nil))))))
theorem sc_law_plans : FnScope ["_law_bad", "_law_one", "_law_two", "_law_half", "_law_told", "_law_k"] [] (defScope (top 68)) := ⟨rfl, rfl, rfl, by decide +kernel, rfl, by decide +kernel, by decide +kernel⟩
def b_law_plans : S → SOut := seqS (loopS (itemsE (lstE ([cE .none, cE (.int 5), tupE ([cE (.int 3), cE (.int 2), tupE ([cE (.int 2)])]), lstE ([cE (.int 3), cE (.int 2), tupE ([cE (.int 3)])])]))) (nameG 0) (ifS (toB (binE pyNe (frzE (lcD ([5]) (itemsE (lstE ([cE (.int 3), cE (.int 4), cE (.int 5), cE (.int 6), cE (.int 7), cE (.int 9)]))) (nameG 5) yesB (callD m_law_plan [.e (nE 5), .e (nE 0), .e (cE .none), .e (cE .none)]))) (binE pyMul (lstE ([cE (.str "house")])) (cE (.int 6))))) (retS (cE (.bool false))) onS)) (seqS (loopS (itemsE (lstE ([tupE ([cE .none, cE (.int 2)]), tupE ([cE (.int 0), cE (.int 1)]), tupE ([cE (.int 10), cE (.int 2)]), tupE ([cE (.int 3), cE (.int 0)]), tupE ([cE (.int 3), cE (.int 4)]), tupE ([cE (.int 6), cE (.int 5)]), tupE ([cE (.bool true), cE (.int 1)]), tupE ([cE (.int 3), cE .none]), tupE ([cE (.str "3"), cE (.int 2)])]))) (tupG (consG (nameG 1) (consG (nameG 2) nilG)) 2) (ifS (toB (binE pyNe (frzE (lcD ([5]) (rng1E (argsE [cE (.int 3)])) (nameG 5) yesB (callD m_law_plan [.e (nE 5), .e (nE 1), .e (nE 2), .e (cE (.int 1))]))) (binE pyMul (lstE ([cE (.str "house")])) (cE (.int 3))))) (retS (cE (.bool false))) onS)) (seqS (ifS (orB (toB (binE pyNe (frzE (lcD ([0]) (itemsE (tupE ([cE .none, cE (.int 0), cE (.int 127), cE (.bool true)]))) (nameG 0) yesB (callD m_law_plan [.e (cE (.int 2)), .e (cE (.int 3)), .e (cE (.int 2)), .e (nE 0)]))) (binE pyMul (lstE ([cE (.str "house")])) (cE (.int 4))))) (toB (binE pyNe (frzE (lcD ([1]) (itemsE (tupE ([cE (.int 1), cE (.int 126)]))) (nameG 1) yesB (callD m_law_plan [.e (cE (.int 2)), .e (cE (.int 3)), .e (cE (.int 2)), .e (nE 1)]))) (binE pyMul (lstE ([cE (.str "told")])) (cE (.int 2)))))) (retS (cE (.bool false))) onS) (seqS (setS 3 (lstE ([lstE ([tupE ([cE (.int 0)]), tupE ([cE (.int 1)]), tupE ([])])]))) (seqS (setS 4 (frzE (lcD ([0]) (itemsE (tupE ([cE .none, cE (.int 4), binE pySub (cE (.int 0)) (cE (.int 1)), cE (.bool true)]))) (nameG 0) yesB (callD m_law_plan [.e (cE (.int 8)), .e (cE (.int 2)), .e (nE 3), .e (nE 0)])))) (retS (andE (binE pyEq (nE 4) (binE pyMul (lstE ([cE (.str "folk")])) (cE (.int 4)))) (binE pyEq (frzE (lcD ([1]) (itemsE (tupE ([cE (.int 0), cE (.int 2), cE (.int 3)]))) (nameG 1) yesB (callD m_law_plan [.e (cE (.int 8)), .e (cE (.int 2)), .e (nE 3), .e (nE 1)]))) (lstE ([cE (.str "told"), cE (.str "told"), cE (.str "deal")])))))))))
def m_law_plans : Fn := fnD 6 b_law_plans
theorem ok_law_plans {G : Gv} (V : Ev G) : Cal G 178 "_law_plans" 0 m_law_plans := by
  obtain ⟨f, fd, F, hm⟩ := V.h_law_plans
  refine ⟨f, fd, _, fn_ok F sc_law_plans (by decide) (k := 177) fun cdv A outer s H E bv hr => ?_, hm, F.kp, F.bindsN fun _ _ _ _ _ _ us hl => match us, hl with | [], _ => rfl⟩
  have I := In.fn (G := G) (N := ["_law_bad", "_law_one", "_law_two", "_law_half", "_law_told", "_law_k"]) (qual := "_law_plans") (scope := defScope (top 68)) (f := f) (cdv := cdv) (outer := outer) (H := H) (E := E) (bv := bv) hr
  exact css_cons (cs_for (passes_of rfl) rfl (ci_seq (ce_lst (ca_cons ce_non (ca_cons ce_int (ca_cons (ce_tup (ca_cons ce_int (ca_cons ce_int (ca_cons (ce_tup (ca_cons ce_int ca_nil)) ca_nil)))) (ca_cons (ce_lst (ca_cons ce_int (ca_cons ce_int (ca_cons (ce_tup (ca_cons ce_int ca_nil)) ca_nil)))) ca_nil)))))) (cg_name sc_law_plans.nd rfl (.inr rfl)) (css_one (cs_if (ct_cmp (or_ne I.u64) (ce_frz (ce_lc rfl sc_law_plans.nd (own := [("_law_k", 5)]) (blk_of (by kernel_rfl)) (by decide) (ci_seq (ce_lst (ca_cons ce_int (ca_cons ce_int (ca_cons ce_int (ca_cons ce_int (ca_cons ce_int (ca_cons ce_int ca_nil)))))))) (fun _ _ _ _ _ => cg_name sc_law_plans.nd rfl (.inl rfl)) (fun _ _ _ _ _ => cts_nil) (fun _ _ _ _ _ => ce_call (In.blk I) (ok_law_plan V) (by decide) rfl (car_e (ce_name (pv 5)) (car_e (ce_name (pv 0)) (car_e ce_non (car_e ce_non car_nil))))))) (ce_bin or_mul (ce_lst (ca_cons ce_str ca_nil)) ce_int) (nomark _)) (css_one (cs_ret ce_bl)) css_nil))) (css_cons (cs_for (passes_of rfl) rfl (ci_seq (ce_lst (ca_cons (ce_tup (ca_cons ce_non (ca_cons ce_int ca_nil))) (ca_cons (ce_tup (ca_cons ce_int (ca_cons ce_int ca_nil))) (ca_cons (ce_tup (ca_cons ce_int (ca_cons ce_int ca_nil))) (ca_cons (ce_tup (ca_cons ce_int (ca_cons ce_int ca_nil))) (ca_cons (ce_tup (ca_cons ce_int (ca_cons ce_int ca_nil))) (ca_cons (ce_tup (ca_cons ce_int (ca_cons ce_int ca_nil))) (ca_cons (ce_tup (ca_cons ce_bl (ca_cons ce_int ca_nil))) (ca_cons (ce_tup (ca_cons ce_int (ca_cons ce_non ca_nil))) (ca_cons (ce_tup (ca_cons ce_str (ca_cons ce_int ca_nil))) ca_nil))))))))))) (cg_tup rfl (cgs_cons (cg_name sc_law_plans.nd rfl (.inr rfl)) (cgs_cons (cg_name sc_law_plans.nd rfl (.inr rfl)) cgs_nil))) (css_one (cs_if (ct_cmp (or_ne I.u64) (ce_frz (ce_lc rfl sc_law_plans.nd (own := [("_law_k", 5)]) (blk_of (by kernel_rfl)) (by decide) (ci_range1 rfl V.fr.range (ca_cons ce_int ca_nil)) (fun _ _ _ _ _ => cg_name sc_law_plans.nd rfl (.inl rfl)) (fun _ _ _ _ _ => cts_nil) (fun _ _ _ _ _ => ce_call (In.blk I) (ok_law_plan V) (by decide) rfl (car_e (ce_name (pv 5)) (car_e (ce_name (pv 1)) (car_e (ce_name (pv 2)) (car_e ce_int car_nil))))))) (ce_bin or_mul (ce_lst (ca_cons ce_str ca_nil)) ce_int) (nomark _)) (css_one (cs_ret ce_bl)) css_nil))) (css_cons (cs_if (CW.ct (cw_or (ct_cmp (or_ne I.u64) (ce_frz (ce_lc rfl sc_law_plans.nd (own := [("_law_bad", 0)]) (blk_of (by kernel_rfl)) (by decide) (ci_seq (ce_tup (ca_cons ce_non (ca_cons ce_int (ca_cons ce_int (ca_cons ce_bl ca_nil)))))) (fun _ _ _ _ _ => cg_name sc_law_plans.nd rfl (.inl rfl)) (fun _ _ _ _ _ => cts_nil) (fun _ _ _ _ _ => ce_call (In.blk I) (ok_law_plan V) (by decide) rfl (car_e ce_int (car_e ce_int (car_e ce_int (car_e (ce_name (pv 0)) car_nil))))))) (ce_bin or_mul (ce_lst (ca_cons ce_str ca_nil)) ce_int) (nomark _)) (cw_or1 (ct_cmp (or_ne I.u64) (ce_frz (ce_lc rfl sc_law_plans.nd (own := [("_law_one", 1)]) (blk_of (by kernel_rfl)) (by decide) (ci_seq (ce_tup (ca_cons ce_int (ca_cons ce_int ca_nil)))) (fun _ _ _ _ _ => cg_name sc_law_plans.nd rfl (.inl rfl)) (fun _ _ _ _ _ => cts_nil) (fun _ _ _ _ _ => ce_call (In.blk I) (ok_law_plan V) (by decide) rfl (car_e ce_int (car_e ce_int (car_e ce_int (car_e (ce_name (pv 1)) car_nil))))))) (ce_bin or_mul (ce_lst (ca_cons ce_str ca_nil)) ce_int) (nomark _))))) (css_one (cs_ret ce_bl)) css_nil) (css_cons (cs_set sc_law_plans.nd rfl (.inr rfl) (ce_lst (ca_cons (ce_lst (ca_cons (ce_tup (ca_cons ce_int ca_nil)) (ca_cons (ce_tup (ca_cons ce_int ca_nil)) (ca_cons (ce_tup ca_nil) ca_nil)))) ca_nil))) (css_cons (cs_setLc rfl sc_law_plans.nd rfl rfl (sw_true rfl rfl rfl rfl) (fun _ _ _ => ev_frz) (own := [("_law_bad", 0)]) (blk_of (by kernel_rfl)) (by decide) (ci_seq (ce_tup (ca_cons ce_non (ca_cons ce_int (ca_cons (ce_bin or_sub ce_int ce_int) (ca_cons ce_bl ca_nil)))))) (fun _ _ _ _ _ => cg_name sc_law_plans.nd rfl (.inl rfl)) (fun _ _ _ _ _ => cts_nil) (fun _ _ _ _ _ => ce_call (In.blk I) (ok_law_plan V) (by decide) rfl (car_e ce_int (car_e ce_int (car_e (ce_name (pv 3)) (car_e (ce_name (pv 0)) car_nil)))))) (css_one (cs_ret (ce_and (ce_cmp (or_eq I.u64) (ce_name (pv 4)) (ce_bin or_mul (ce_lst (ca_cons ce_str ca_nil)) ce_int) (nomark _)) (ce_one (ce_cmp (or_eq I.u64) (ce_frz (ce_lc rfl sc_law_plans.nd (own := [("_law_one", 1)]) (blk_of (by kernel_rfl)) (by decide) (ci_seq (ce_tup (ca_cons ce_int (ca_cons ce_int (ca_cons ce_int ca_nil))))) (fun _ _ _ _ _ => cg_name sc_law_plans.nd rfl (.inl rfl)) (fun _ _ _ _ _ => cts_nil) (fun _ _ _ _ _ => ce_call (In.blk I) (ok_law_plan V) (by decide) rfl (car_e ce_int (car_e ce_int (car_e (ce_name (pv 3)) (car_e (ce_name (pv 1)) car_nil))))))) (ce_lst (ca_cons ce_str (ca_cons ce_str (ca_cons ce_str ca_nil)))) (nomark _))))))))))
theorem sc_is_half : FnScope ["house", "told", "thing"] ["house", "told", "thing"] (defScope (top 24)) := ⟨rfl, rfl, rfl, by decide +kernel, rfl, by decide +kernel, by decide +kernel⟩
def b_is_half : S → SOut := seqS (dropS (callD m_look_told [.e (nE 0), .e (nE 1)])) (retS (callD m_half_fits [.e (nE 0), .e (nE 1), .e (nE 2)]))
def m_is_half : Fn := fnD 3 b_is_half
theorem ok_is_half {G : Gv} (V : Ev G) : Cal G 5 "is_half" 3 m_is_half := by
  obtain ⟨f, fd, F, hm⟩ := V.h_is_half
  refine ⟨f, fd, _, fn_ok F sc_is_half (by decide) (k := 4) fun cdv A outer s H E bv hr => ?_, hm, F.kp, F.bindsN fun _ _ _ _ _ _ us hl => match us, hl with | [_, _, _], _ => rfl⟩
  have I := In.fn (G := G) (N := ["house", "told", "thing"]) (qual := "is_half") (scope := defScope (top 24)) (f := f) (cdv := cdv) (outer := outer) (H := H) (E := E) (bv := bv) hr
  exact css_cons (cs_expr (ce_call I (ok_look_told V) (by decide) rfl (car_e (ce_name (pv 0)) (car_e (ce_name (pv 1)) car_nil)))) (css_one (cs_ret (ce_call I (ok_half_fits V) (by decide) rfl (car_e (ce_name (pv 0)) (car_e (ce_name (pv 1)) (car_e (ce_name (pv 2)) car_nil))))))
theorem sc_wrong_parts : FnScope ["house", "told", "half", "counts", "found", "size", "one", "due"] ["house", "told", "half"] (defScope (top 28)) := ⟨rfl, rfl, rfl, by decide +kernel, rfl, by decide +kernel, by decide +kernel⟩
def b_wrong_parts : S → SOut := seqS (setS 3 (callD m_counts_of [.e (nE 2)])) (seqS (setS 4 (lnewE (argsE []))) (seqS (loopS (rng1E (argsE [binE pyAdd (binE pyItem (nE 0) (cE (.int 1))) (cE (.int 1))])) (nameG 5) (loopS (itemsE (callD m_few_of [.e (nE 1), .e (nE 5)])) (nameG 6) (seqS (setS 7 (callD m_chosen [.e (binE pySub (binE pyItem (nE 0) (cE (.int 0))) (nE 1)), .e (binE pySub (binE pyItem (nE 0) (cE (.int 1))) (nE 5))])) (ifS (toB (binE pyNe (qE (dgetQ (slotPl 3) (nQ 6) (cQ (.int 0)))) (nE 7))) (dropS (appE 4 (tupE ([nE 6, qE (dgetQ (slotPl 3) (nQ 6) (cQ (.int 0))), nE 7])))) onS)))) (retS (sortedE (fzE 4)))))
def m_wrong_parts : Fn := fnD 8 b_wrong_parts
theorem ok_wrong_parts {G : Gv} (V : Ev G) : Cal G 2 "wrong_parts" 3 m_wrong_parts := by
  obtain ⟨f, fd, F, hm⟩ := V.h_wrong_parts
  refine ⟨f, fd, _, fn_ok F sc_wrong_parts (by decide) (k := 1) fun cdv A outer s H E bv hr => ?_, hm, F.kp, F.bindsN fun _ _ _ _ _ _ us hl => match us, hl with | [_, _, _], _ => rfl⟩
  have I := In.fn (G := G) (N := ["house", "told", "half", "counts", "found", "size", "one", "due"]) (qual := "wrong_parts") (scope := defScope (top 28)) (f := f) (cdv := cdv) (outer := outer) (H := H) (E := E) (bv := bv) hr
  exact css_cons (cs_set sc_wrong_parts.nd rfl (.inl rfl) (ce_call I (ok_counts_of V) (by decide) rfl (car_e (ce_name (pv 2)) car_nil))) (css_cons (cs_set sc_wrong_parts.nd rfl (.inl rfl) (ce_lnew ca_nil)) (css_cons (cs_for (passes_of rfl) rfl (ci_range1 rfl V.fr.range (ca_cons (ce_bin or_add (ce_ix (ce_name (pv 0)) ce_int) ce_int) ca_nil)) (cg_name sc_wrong_parts.nd rfl (.inl rfl)) (css_one (cs_for (passes_of rfl) rfl (ci_seq (ce_call I (ok_few_of V) (by decide) rfl (car_e (ce_name (pv 1)) (car_e (ce_name (pv 5)) car_nil)))) (cg_name sc_wrong_parts.nd rfl (.inl rfl)) (css_cons (cs_set sc_wrong_parts.nd rfl (.inl rfl) (ce_call I (ok_chosen V) (by decide) rfl (car_e (ce_bin or_sub (ce_ix (ce_name (pv 0)) ce_int) (ce_name (pv 1))) (car_e (ce_bin or_sub (ce_ix (ce_name (pv 0)) ce_int) (ce_name (pv 5))) car_nil)))) (css_one (cs_if (ct_cmp (or_ne I.u64) (ce_q (cq_dget I.u9 (cpl_name (pv 3)) (cq_name (pv 6)) cq_int (⟨rfl, rfl, rfl, rfl⟩))) (ce_name (pv 7)) (nomark _)) (css_one (cs_expr (ce_appendE (pv 4) (ce_tup (ca_cons (ce_name (pv 6)) (ca_cons (ce_q (cq_dget I.u9 (cpl_name (pv 3)) (cq_name (pv 6)) cq_int (⟨rfl, rfl, rfl, rfl⟩))) (ca_cons (ce_name (pv 7)) ca_nil))))))) css_nil)))))) (css_one (cs_ret (ce_sorted rfl I.u64 (ce_fz (pv 4)) rfl V.fr.sorted)))))
theorem sc_quotas : FnScope ["house", "evening", "places"] ["house", "evening"] (defScope (top 20)) := ⟨rfl, rfl, rfl, by decide +kernel, rfl, by decide +kernel, by decide +kernel⟩
def b_quotas : S → SOut := seqS (setS 2 (binE pyMul (binE pyItem (nE 0) (cE (.int 1))) (binE pyItem (binE pyItem (nE 0) (cE (.int 2))) (nE 1)))) (retS (tupE ([binE pyFloorDiv (nE 2) (binE pyItem (nE 0) (cE (.int 0))), binE pyMod (nE 2) (binE pyItem (nE 0) (cE (.int 0)))])))
def m_quotas : Fn := fnD 3 b_quotas
theorem ok_quotas {G : Gv} (V : Ev G) : Cal G 1 "quotas" 2 m_quotas := by
  obtain ⟨f, fd, F, hm⟩ := V.h_quotas
  refine ⟨f, fd, _, fn_ok F sc_quotas (by decide) (k := 0) fun cdv A outer s H E bv hr => ?_, hm, F.kp, F.bindsN fun _ _ _ _ _ _ us hl => match us, hl with | [_, _], _ => rfl⟩
  have I := In.fn (G := G) (N := ["house", "evening", "places"]) (qual := "quotas") (scope := defScope (top 20)) (f := f) (cdv := cdv) (outer := outer) (H := H) (E := E) (bv := bv) hr
  exact css_cons (cs_set sc_quotas.nd rfl (.inl rfl) (ce_bin or_mul (ce_ix (ce_name (pv 0)) ce_int) (ce_ix (ce_ix (ce_name (pv 0)) ce_int) (ce_name (pv 1))))) (css_one (cs_ret (ce_tup (ca_cons (ce_bin or_fdiv (ce_name (pv 2)) (ce_ix (ce_name (pv 0)) ce_int)) (ca_cons (ce_bin or_mod (ce_name (pv 2)) (ce_ix (ce_name (pv 0)) ce_int)) ca_nil)))))
theorem sc_sittings : FnScope ["row", "told", "found", "part", "who"] ["row", "told"] (defScope (top 27)) := ⟨rfl, rfl, rfl, by decide +kernel, rfl, by decide +kernel, by decide +kernel⟩
def b_sittings : S → SOut := seqS (setS 2 (mulOE (lstE ([cE (.int 0)])) (nE 1))) (seqS (loopS (itemsE (nE 0)) (nameG 3) (loopS (itemsE (nE 3)) (nameG 4) (laugS (slotPl 2) (nQ 4) (· + ·) (cQ (.int 1))))) (retS (fzE 2)))
def m_sittings : Fn := fnD 5 b_sittings
theorem ok_sittings {G : Gv} (V : Ev G) : Cal G 1 "sittings" 2 m_sittings := by
  obtain ⟨f, fd, F, hm⟩ := V.h_sittings
  refine ⟨f, fd, _, fn_ok F sc_sittings (by decide) (k := 0) fun cdv A outer s H E bv hr => ?_, hm, F.kp, F.bindsN fun _ _ _ _ _ _ us hl => match us, hl with | [_, _], _ => rfl⟩
  have I := In.fn (G := G) (N := ["row", "told", "found", "part", "who"]) (qual := "sittings") (scope := defScope (top 27)) (f := f) (cdv := cdv) (outer := outer) (H := H) (E := E) (bv := bv) hr
  exact css_cons (cs_set sc_sittings.nd rfl (.inl rfl) (ce_mulO (ce_lst (ca_cons ce_int ca_nil)) (ce_name (pv 1)))) (css_cons (cs_for (passes_of rfl) rfl (ci_seq (ce_name (pv 0))) (cg_name sc_sittings.nd rfl (.inl rfl)) (css_one (cs_for (passes_of rfl) rfl (ci_seq (ce_name (pv 3))) (cg_name sc_sittings.nd rfl (.inl rfl)) (css_one (cs_laug (cpl_name (pv 2)) (cq_name (pv 4)) cq_int ip_add))))) (css_one (cs_ret (ce_fz (pv 2)))))
theorem sc_wrong_sittings : FnScope ["house", "told", "half", "found", "evening", "row", "least", "who", "often"] ["house", "told", "half"] (defScope (top 29)) := ⟨rfl, rfl, rfl, by decide +kernel, rfl, by decide +kernel, by decide +kernel⟩
def b_wrong_sittings : S → SOut := seqS (setS 3 (lnewE (argsE []))) (seqS (loopS (enumE (argsE [nE 2])) (tupG (consG (nameG 4) (consG (nameG 5) nilG)) 2) (seqS (setS 6 (binE pyItem (callD m_quotas [.e (nE 0), .e (nE 4)]) (cE (.int 0)))) (loopS (enumE (argsE [callD m_sittings [.e (nE 5), .e (nE 1)]])) (tupG (consG (nameG 7) (consG (nameG 8) nilG)) 2) (ifS (toB (binE pyNotIn (nE 8) (tupE ([nE 6, binE pyAdd (nE 6) (cE (.int 1))])))) (dropS (appE 3 (tupE ([nE 4, nE 7, nE 8])))) onS)))) (retS (fzE 3)))
def m_wrong_sittings : Fn := fnD 9 b_wrong_sittings
theorem ok_wrong_sittings {G : Gv} (V : Ev G) : Cal G 2 "wrong_sittings" 3 m_wrong_sittings := by
  obtain ⟨f, fd, F, hm⟩ := V.h_wrong_sittings
  refine ⟨f, fd, _, fn_ok F sc_wrong_sittings (by decide) (k := 1) fun cdv A outer s H E bv hr => ?_, hm, F.kp, F.bindsN fun _ _ _ _ _ _ us hl => match us, hl with | [_, _, _], _ => rfl⟩
  have I := In.fn (G := G) (N := ["house", "told", "half", "found", "evening", "row", "least", "who", "often"]) (qual := "wrong_sittings") (scope := defScope (top 29)) (f := f) (cdv := cdv) (outer := outer) (H := H) (E := E) (bv := bv) hr
  exact css_cons (cs_set sc_wrong_sittings.nd rfl (.inl rfl) (ce_lnew ca_nil)) (css_cons (cs_for (passes_of rfl) rfl (ci_enum rfl V.fr.enumerate (ca_cons (ce_name (pv 2)) ca_nil)) (cg_tup rfl (cgs_cons (cg_name sc_wrong_sittings.nd rfl (.inl rfl)) (cgs_cons (cg_name sc_wrong_sittings.nd rfl (.inl rfl)) cgs_nil))) (css_cons (cs_set sc_wrong_sittings.nd rfl (.inl rfl) (ce_ix (ce_call I (ok_quotas V) (by decide) rfl (car_e (ce_name (pv 0)) (car_e (ce_name (pv 4)) car_nil))) ce_int)) (css_one (cs_for (passes_of rfl) rfl (ci_enum rfl V.fr.enumerate (ca_cons (ce_call I (ok_sittings V) (by decide) rfl (car_e (ce_name (pv 5)) (car_e (ce_name (pv 1)) car_nil))) ca_nil)) (cg_tup rfl (cgs_cons (cg_name sc_wrong_sittings.nd rfl (.inl rfl)) (cgs_cons (cg_name sc_wrong_sittings.nd rfl (.inl rfl)) cgs_nil))) (css_one (cs_if (ct_cmp (or_notIn I.u65) (ce_name (pv 8)) (ce_tup (ca_cons (ce_name (pv 6)) (ca_cons (ce_bin or_add (ce_name (pv 6)) ce_int) ca_nil))) rfl) (css_one (cs_expr (ce_appendE (pv 3) (ce_tup (ca_cons (ce_name (pv 4)) (ca_cons (ce_name (pv 7)) (ca_cons (ce_name (pv 8)) ca_nil))))))) css_nil)))))) (css_one (cs_ret (ce_fz (pv 3)))))
theorem sc_wrong_rests : FnScope ["house", "told", "half", "found", "evening", "row", "least", "rest", "more", "fewest", "most", "often"] ["house", "told", "half"] (defScope (top 30)) := ⟨rfl, rfl, rfl, by decide +kernel, rfl, by decide +kernel, by decide +kernel⟩
def b_wrong_rests : S → SOut := seqS (setS 3 (lnewE (argsE []))) (seqS (loopS (enumE (argsE [nE 2])) (tupG (consG (nameG 4) (consG (nameG 5) nilG)) 2) (seqS (asgS (tupG (consG (nameG 6) (consG (nameG 7) nilG)) 2) (callD m_quotas [.e (nE 0), .e (nE 4)])) (seqS (setS 8 (callE pyLen (argsE [frzE (lcD ([11]) (itemsE (callD m_sittings [.e (nE 5), .e (nE 1)])) (nameG 11) (toB (binE pyEq (nE 11) (binE pyAdd (nE 6) (cE (.int 1))))) (nE 11))]))) (seqS (setS 9 (callE pyMax (argsE [cE (.int 0), binE pySub (nE 7) (binE pySub (binE pyItem (nE 0) (cE (.int 0))) (nE 1))]))) (seqS (setS 10 (callE pyMin (argsE [nE 7, nE 1]))) (ifS (notB (toB (chainE pyLe pyLe (nE 9) (nE 8) (nE 10)))) (dropS (appE 3 (tupE ([nE 4, nE 8, nE 9, nE 10])))) onS)))))) (retS (fzE 3)))
def m_wrong_rests : Fn := fnD 12 b_wrong_rests
theorem ok_wrong_rests {G : Gv} (V : Ev G) : Cal G 2 "wrong_rests" 3 m_wrong_rests := by
  obtain ⟨f, fd, F, hm⟩ := V.h_wrong_rests
  refine ⟨f, fd, _, fn_ok F sc_wrong_rests (by decide) (k := 1) fun cdv A outer s H E bv hr => ?_, hm, F.kp, F.bindsN fun _ _ _ _ _ _ us hl => match us, hl with | [_, _, _], _ => rfl⟩
  have I := In.fn (G := G) (N := ["house", "told", "half", "found", "evening", "row", "least", "rest", "more", "fewest", "most", "often"]) (qual := "wrong_rests") (scope := defScope (top 30)) (f := f) (cdv := cdv) (outer := outer) (H := H) (E := E) (bv := bv) hr
  exact css_cons (cs_set sc_wrong_rests.nd rfl (.inl rfl) (ce_lnew ca_nil)) (css_cons (cs_for (passes_of rfl) rfl (ci_enum rfl V.fr.enumerate (ca_cons (ce_name (pv 2)) ca_nil)) (cg_tup rfl (cgs_cons (cg_name sc_wrong_rests.nd rfl (.inl rfl)) (cgs_cons (cg_name sc_wrong_rests.nd rfl (.inl rfl)) cgs_nil))) (css_cons (cs_asg (ce_call I (ok_quotas V) (by decide) rfl (car_e (ce_name (pv 0)) (car_e (ce_name (pv 4)) car_nil))) (cg_tup rfl (cgs_cons (cg_name sc_wrong_rests.nd rfl (.inr rfl)) (cgs_cons (cg_name sc_wrong_rests.nd rfl (.inl rfl)) cgs_nil)))) (css_cons (cs_set sc_wrong_rests.nd rfl (.inl rfl) (ce_callB cr_len rfl V.fr.len rfl (ca_cons (ce_frz (ce_lc rfl sc_wrong_rests.nd (own := [("often", 11)]) (blk_of (by kernel_rfl)) (by decide) (ci_seq (ce_call I (ok_sittings V) (by decide) rfl (car_e (ce_name (pv 5)) (car_e (ce_name (pv 1)) car_nil)))) (fun _ _ _ _ _ => cg_name sc_wrong_rests.nd rfl (.inl rfl)) (fun _ _ _ _ _ => cts_one (ct_cmp (or_eq (In.blk I).u64) (ce_name (pv 11)) (ce_bin or_add (ce_name (pv 6)) ce_int) (nomark _))) (fun _ _ _ _ _ => ce_name (pv 11)))) ca_nil))) (css_cons (cs_set sc_wrong_rests.nd rfl (.inl rfl) (ce_callB (crd_max rfl) rfl V.fr.max rfl (ca_cons ce_int (ca_cons (ce_bin or_sub (ce_name (pv 7)) (ce_bin or_sub (ce_ix (ce_name (pv 0)) ce_int) (ce_name (pv 1)))) ca_nil)))) (css_cons (cs_set sc_wrong_rests.nd rfl (.inl rfl) (ce_callB (crd_min rfl) rfl V.fr.min rfl (ca_cons (ce_name (pv 7)) (ca_cons (ce_name (pv 1)) ca_nil)))) (css_one (cs_if (ct_not (ct_chain or_le or_le (ce_name (pv 9)) (ce_name (pv 8)) (ce_name (pv 10)))) (css_one (cs_expr (ce_appendE (pv 3) (ce_tup (ca_cons (ce_name (pv 4)) (ca_cons (ce_name (pv 8)) (ca_cons (ce_name (pv 9)) (ca_cons (ce_name (pv 10)) ca_nil)))))))) css_nil))))))) (css_one (cs_ret (ce_fz (pv 3)))))
theorem sc_bars : FnScope ["house", "told", "half"] ["house", "told", "half"] (defScope (top 31)) := ⟨rfl, rfl, rfl, by decide +kernel, rfl, by decide +kernel, by decide +kernel⟩
def b_bars : S → SOut := seqS (dropS (callD m_look_half [.e (nE 0), .e (nE 1), .e (nE 2)])) (retS (tupE ([callD m_wrong_parts [.e (nE 0), .e (nE 1), .e (nE 2)], callD m_wrong_sittings [.e (nE 0), .e (nE 1), .e (nE 2)], callD m_wrong_rests [.e (nE 0), .e (nE 1), .e (nE 2)]])))
def m_bars : Fn := fnD 3 b_bars
theorem ok_bars {G : Gv} (V : Ev G) : Cal G 6 "bars" 3 m_bars := by
  obtain ⟨f, fd, F, hm⟩ := V.h_bars
  refine ⟨f, fd, _, fn_ok F sc_bars (by decide) (k := 5) fun cdv A outer s H E bv hr => ?_, hm, F.kp, F.bindsN fun _ _ _ _ _ _ us hl => match us, hl with | [_, _, _], _ => rfl⟩
  have I := In.fn (G := G) (N := ["house", "told", "half"]) (qual := "bars") (scope := defScope (top 31)) (f := f) (cdv := cdv) (outer := outer) (H := H) (E := E) (bv := bv) hr
  exact css_cons (cs_expr (ce_call I (ok_look_half V) (by decide) rfl (car_e (ce_name (pv 0)) (car_e (ce_name (pv 1)) (car_e (ce_name (pv 2)) car_nil))))) (css_one (cs_ret (ce_tup (ca_cons (ce_call I (ok_wrong_parts V) (by decide) rfl (car_e (ce_name (pv 0)) (car_e (ce_name (pv 1)) (car_e (ce_name (pv 2)) car_nil)))) (ca_cons (ce_call I (ok_wrong_sittings V) (by decide) rfl (car_e (ce_name (pv 0)) (car_e (ce_name (pv 1)) (car_e (ce_name (pv 2)) car_nil)))) (ca_cons (ce_call I (ok_wrong_rests V) (by decide) rfl (car_e (ce_name (pv 0)) (car_e (ce_name (pv 1)) (car_e (ce_name (pv 2)) car_nil)))) ca_nil))))))
theorem sc_runs_on : FnScope ["house", "told", "half"] ["house", "told", "half"] (defScope (top 32)) := ⟨rfl, rfl, rfl, by decide +kernel, rfl, by decide +kernel, by decide +kernel⟩
def b_runs_on : S → SOut := seqS (ifS (orB (toB (binE pyNe (callD m_wrong_parts [.e (nE 0), .e (nE 1), .e (nE 2)]) (lstE ([])))) (toB (binE pyNe (callD m_wrong_sittings [.e (nE 0), .e (nE 1), .e (nE 2)]) (lstE ([]))))) (retS (cE (.bool false))) onS) (retS (binE pyEq (callD m_wrong_rests [.e (nE 0), .e (nE 1), .e (nE 2)]) (lstE ([]))))
def m_runs_on : Fn := fnD 3 b_runs_on
theorem ok_runs_on {G : Gv} (V : Ev G) : Cal G 3 "runs_on" 3 m_runs_on := by
  obtain ⟨f, fd, F, hm⟩ := V.h_runs_on
  refine ⟨f, fd, _, fn_ok F sc_runs_on (by decide) (k := 2) fun cdv A outer s H E bv hr => ?_, hm, F.kp, F.bindsN fun _ _ _ _ _ _ us hl => match us, hl with | [_, _, _], _ => rfl⟩
  have I := In.fn (G := G) (N := ["house", "told", "half"]) (qual := "runs_on") (scope := defScope (top 32)) (f := f) (cdv := cdv) (outer := outer) (H := H) (E := E) (bv := bv) hr
  exact css_cons (cs_if (CW.ct (cw_or (ct_cmp (or_ne I.u64) (ce_call I (ok_wrong_parts V) (by decide) rfl (car_e (ce_name (pv 0)) (car_e (ce_name (pv 1)) (car_e (ce_name (pv 2)) car_nil)))) (ce_lst ca_nil) (nomark _)) (cw_or1 (ct_cmp (or_ne I.u64) (ce_call I (ok_wrong_sittings V) (by decide) rfl (car_e (ce_name (pv 0)) (car_e (ce_name (pv 1)) (car_e (ce_name (pv 2)) car_nil)))) (ce_lst ca_nil) (nomark _))))) (css_one (cs_ret ce_bl)) css_nil) (css_one (cs_ret (ce_cmp (or_eq I.u64) (ce_call I (ok_wrong_rests V) (by decide) rfl (car_e (ce_name (pv 0)) (car_e (ce_name (pv 1)) (car_e (ce_name (pv 2)) car_nil)))) (ce_lst ca_nil) (nomark _))))
theorem sc_goes_on : FnScope ["house", "told", "half"] ["house", "told", "half"] (defScope (top 33)) := ⟨rfl, rfl, rfl, by decide +kernel, rfl, by decide +kernel, by decide +kernel⟩
def b_goes_on : S → SOut := seqS (dropS (callD m_look_half [.e (nE 0), .e (nE 1), .e (nE 2)])) (retS (callD m_runs_on [.e (nE 0), .e (nE 1), .e (nE 2)]))
def m_goes_on : Fn := fnD 3 b_goes_on
theorem ok_goes_on {G : Gv} (V : Ev G) : Cal G 6 "goes_on" 3 m_goes_on := by
  obtain ⟨f, fd, F, hm⟩ := V.h_goes_on
  refine ⟨f, fd, _, fn_ok F sc_goes_on (by decide) (k := 5) fun cdv A outer s H E bv hr => ?_, hm, F.kp, F.bindsN fun _ _ _ _ _ _ us hl => match us, hl with | [_, _, _], _ => rfl⟩
  have I := In.fn (G := G) (N := ["house", "told", "half"]) (qual := "goes_on") (scope := defScope (top 33)) (f := f) (cdv := cdv) (outer := outer) (H := H) (E := E) (bv := bv) hr
  exact css_cons (cs_expr (ce_call I (ok_look_half V) (by decide) rfl (car_e (ce_name (pv 0)) (car_e (ce_name (pv 1)) (car_e (ce_name (pv 2)) car_nil))))) (css_one (cs_ret (ce_call I (ok_runs_on V) (by decide) rfl (car_e (ce_name (pv 0)) (car_e (ce_name (pv 1)) (car_e (ce_name (pv 2)) car_nil))))))
theorem sc_look_going : FnScope ["house", "told", "half"] ["house", "told", "half"] (defScope (top 34)) := ⟨rfl, rfl, rfl, by decide +kernel, rfl, by decide +kernel, by decide +kernel⟩
def b_look_going : S → SOut := seqS (dropS (callD m_look_half [.e (nE 0), .e (nE 1), .e (nE 2)])) (ifS (notB (toB (callD m_runs_on [.e (nE 0), .e (nE 1), .e (nE 2)]))) (raiseS 4) onS)
def m_look_going : Fn := fnD 3 b_look_going
theorem ok_look_going {G : Gv} (V : Ev G) : Cal G 6 "look_going" 3 m_look_going := by
  obtain ⟨f, fd, F, hm⟩ := V.h_look_going
  refine ⟨f, fd, _, fn_ok F sc_look_going (by decide) (k := 5) fun cdv A outer s H E bv hr => ?_, hm, F.kp, F.bindsN fun _ _ _ _ _ _ us hl => match us, hl with | [_, _, _], _ => rfl⟩
  have I := In.fn (G := G) (N := ["house", "told", "half"]) (qual := "look_going") (scope := defScope (top 34)) (f := f) (cdv := cdv) (outer := outer) (H := H) (E := E) (bv := bv) hr
  exact css_cons (cs_expr (ce_call I (ok_look_half V) (by decide) rfl (car_e (ce_name (pv 0)) (car_e (ce_name (pv 1)) (car_e (ce_name (pv 2)) car_nil))))) (css_one (cs_if (ct_not (ct_val (ce_call I (ok_runs_on V) (by decide) rfl (car_e (ce_name (pv 0)) (car_e (ce_name (pv 1)) (car_e (ce_name (pv 2)) car_nil)))))) (css_one (cs_raise rfl I.tk V.x_BadDeal rfl)) css_nil))
theorem sc_next_half : FnScope ["house", "told", "half"] ["house", "told", "half"] (defScope (top 41)) := ⟨rfl, rfl, rfl, by decide +kernel, rfl, by decide +kernel, by decide +kernel⟩
def b_next_half : S → SOut := seqS (dropS (callD m_look_going [.e (nE 0), .e (nE 1), .e (nE 2)])) (seqS (ifS (toB (binE pyEq (nE 1) (binE pyItem (nE 0) (cE (.int 0))))) (raiseS 6) onS) (retS (callD m_stepped [.e (nE 0), .e (nE 1), .e (nE 2)])))
def m_next_half : Fn := fnD 3 b_next_half
theorem ok_next_half {G : Gv} (V : Ev G) : Cal G 175 "next_half" 3 m_next_half := by
  obtain ⟨f, fd, F, hm⟩ := V.h_next_half
  refine ⟨f, fd, _, fn_ok F sc_next_half (by decide) (k := 174) fun cdv A outer s H E bv hr => ?_, hm, F.kp, F.bindsN fun _ _ _ _ _ _ us hl => match us, hl with | [_, _, _], _ => rfl⟩
  have I := In.fn (G := G) (N := ["house", "told", "half"]) (qual := "next_half") (scope := defScope (top 41)) (f := f) (cdv := cdv) (outer := outer) (H := H) (E := E) (bv := bv) hr
  exact css_cons (cs_expr (ce_call I (ok_look_going V) (by decide) rfl (car_e (ce_name (pv 0)) (car_e (ce_name (pv 1)) (car_e (ce_name (pv 2)) car_nil))))) (css_cons (cs_if (ct_cmp (or_eq I.u64) (ce_name (pv 1)) (ce_ix (ce_name (pv 0)) ce_int) (nomark _)) (css_one (cs_raise rfl I.tk V.x_NoneSuch rfl)) css_nil) (css_one (cs_ret (ce_call I (ok_stepped V) (by decide) rfl (car_e (ce_name (pv 0)) (car_e (ce_name (pv 1)) (car_e (ce_name (pv 2)) car_nil)))))))
theorem sc_finished : FnScope ["house", "told", "half"] ["house", "told", "half"] (defScope (top 43)) := ⟨rfl, rfl, rfl, by decide +kernel, rfl, by decide +kernel, by decide +kernel⟩
def b_finished : S → SOut := seqS (dropS (callD m_look_going [.e (nE 0), .e (nE 1), .e (nE 2)])) (retS (callD m_run_on [.e (nE 0), .e (nE 1), .e (nE 2)]))
def m_finished : Fn := fnD 3 b_finished
theorem ok_finished {G : Gv} (V : Ev G) : Cal G 176 "finished" 3 m_finished := by
  obtain ⟨f, fd, F, hm⟩ := V.h_finished
  refine ⟨f, fd, _, fn_ok F sc_finished (by decide) (k := 175) fun cdv A outer s H E bv hr => ?_, hm, F.kp, F.bindsN fun _ _ _ _ _ _ us hl => match us, hl with | [_, _, _], _ => rfl⟩
  have I := In.fn (G := G) (N := ["house", "told", "half"]) (qual := "finished") (scope := defScope (top 43)) (f := f) (cdv := cdv) (outer := outer) (H := H) (E := E) (bv := bv) hr
  exact css_cons (cs_expr (ce_call I (ok_look_going V) (by decide) rfl (car_e (ce_name (pv 0)) (car_e (ce_name (pv 1)) (car_e (ce_name (pv 2)) car_nil))))) (css_one (cs_ret (ce_call I (ok_run_on V) (by decide) rfl (car_e (ce_name (pv 0)) (car_e (ce_name (pv 1)) (car_e (ce_name (pv 2)) car_nil))))))
theorem sc_part_text : FnScope ["part", "who"] ["part"] (defScope (top 58)) := ⟨rfl, rfl, rfl, by decide +kernel, rfl, by decide +kernel, by decide +kernel⟩
def b_part_text : S → SOut := retS (ifE (toB (binE pyNe (nE 0) (tupE ([])))) (joinE ("") (frzE (lcD ([1]) (itemsE (nE 0)) (nameG 1) yesB (callE pyStr (argsE [nE 1]))))) (cE (.str "-")))
def m_part_text : Fn := fnD 2 b_part_text
theorem ok_part_text {G : Gv} (V : Ev G) : Cal G 1 "part_text" 1 m_part_text := by
  obtain ⟨f, fd, F, hm⟩ := V.h_part_text
  refine ⟨f, fd, _, fn_ok F sc_part_text (by decide) (k := 0) fun cdv A outer s H E bv hr => ?_, hm, F.kp, F.bindsN fun _ _ _ _ _ _ us hl => match us, hl with | [_], _ => rfl⟩
  have I := In.fn (G := G) (N := ["part", "who"]) (qual := "part_text") (scope := defScope (top 58)) (f := f) (cdv := cdv) (outer := outer) (H := H) (E := E) (bv := bv) hr
  exact css_one (cs_ret (ce_if (ct_cmp (or_ne I.u64) (ce_name (pv 0)) (ce_tup ca_nil) (nomark _)) (ce_join (ce_frz (ce_lc rfl sc_part_text.nd (own := [("who", 1)]) (blk_of (by kernel_rfl)) (by decide) (ci_seq (ce_name (pv 0))) (fun _ _ _ _ _ => cg_name sc_part_text.nd rfl (.inl rfl)) (fun _ _ _ _ _ => cts_nil) (fun _ _ _ _ _ => ce_callTy crd_str rfl V.fr.str rfl (ca_cons (ce_name (pv 1)) ca_nil))))) ce_str))
theorem sc_half_text : FnScope ["house", "told", "half", "row", "part"] ["house", "told", "half"] (defScope (top 59)) := ⟨rfl, rfl, rfl, by decide +kernel, rfl, by decide +kernel, by decide +kernel⟩
def b_half_text : S → SOut := seqS (dropS (callD m_look_half [.e (nE 0), .e (nE 1), .e (nE 2)])) (retS (joinE ("\n") (frzE (lcD ([3]) (itemsE (nE 2)) (nameG 3) yesB (joinE (" ") (frzE (lcD ([4]) (itemsE (nE 3)) (nameG 4) yesB (callD m_part_text [.e (nE 4)]))))))))
def m_half_text : Fn := fnD 5 b_half_text
theorem ok_half_text {G : Gv} (V : Ev G) : Cal G 6 "half_text" 3 m_half_text := by
  obtain ⟨f, fd, F, hm⟩ := V.h_half_text
  refine ⟨f, fd, _, fn_ok F sc_half_text (by decide) (k := 5) fun cdv A outer s H E bv hr => ?_, hm, F.kp, F.bindsN fun _ _ _ _ _ _ us hl => match us, hl with | [_, _, _], _ => rfl⟩
  have I := In.fn (G := G) (N := ["house", "told", "half", "row", "part"]) (qual := "half_text") (scope := defScope (top 59)) (f := f) (cdv := cdv) (outer := outer) (H := H) (E := E) (bv := bv) hr
  exact css_cons (cs_expr (ce_call I (ok_look_half V) (by decide) rfl (car_e (ce_name (pv 0)) (car_e (ce_name (pv 1)) (car_e (ce_name (pv 2)) car_nil))))) (css_one (cs_ret (ce_join (ce_frz (ce_lc rfl sc_half_text.nd (own := [("row", 3)]) (blk_of (by kernel_rfl)) (by decide) (ci_seq (ce_name (pv 2))) (fun _ _ _ _ _ => cg_name sc_half_text.nd rfl (.inl rfl)) (fun _ _ _ _ _ => cts_nil) (fun _ _ _ _ _ => ce_join (ce_frz (ce_lc rfl sc_half_text.nd (own := [("part", 4)]) (blk_of (by kernel_rfl)) (by decide) (ci_seq (ce_name (pv 3))) (fun _ _ _ _ _ => cg_name sc_half_text.nd rfl (.inl rfl)) (fun _ _ _ _ _ => cts_nil) (fun _ _ _ _ _ => ce_call (In.blk (In.blk I)) (ok_part_text V) (by decide) rfl (car_e (ce_name (pv 4)) car_nil))))))))))
theorem sc_law_does : FnScope ["_law_sort_of", "_law_house_here", "_law_told", "_law_half"] ["_law_sort_of", "_law_house_here", "_law_told", "_law_half"] (defScope (top 64)) := ⟨rfl, rfl, rfl, by decide +kernel, rfl, by decide +kernel, by decide +kernel⟩
def b_law_does : S → SOut := seqS (ifS (toB (binE pyEq (nE 0) (cE (.int 0)))) (retS (callD m_is_half [.e (nE 1), .e (nE 2), .e (nE 3)])) onS) (seqS (ifS (toB (binE pyEq (nE 0) (cE (.int 1)))) (retS (callD m_bars [.e (nE 1), .e (nE 2), .e (nE 3)])) onS) (seqS (ifS (toB (binE pyEq (nE 0) (cE (.int 2)))) (retS (callD m_goes_on [.e (nE 1), .e (nE 2), .e (nE 3)])) onS) (seqS (ifS (toB (binE pyEq (nE 0) (cE (.int 3)))) (retS (callD m_cut [.e (nE 1), .e (nE 2), .e (nE 3), .e (cE (.int 0))])) onS) (seqS (ifS (toB (binE pyEq (nE 0) (cE (.int 4)))) (retS (callD m_next_half [.e (nE 1), .e (nE 2), .e (nE 3)])) onS) (seqS (ifS (toB (binE pyEq (nE 0) (cE (.int 5)))) (retS (callD m_finished [.e (nE 1), .e (nE 2), .e (nE 3)])) onS) (retS (callD m_half_text [.e (nE 1), .e (nE 2), .e (nE 3)])))))))
def m_law_does : Fn := fnD 4 b_law_does
theorem ok_law_does {G : Gv} (V : Ev G) : Cal G 177 "_law_does" 4 m_law_does := by
  obtain ⟨f, fd, F, hm⟩ := V.h_law_does
  refine ⟨f, fd, _, fn_ok F sc_law_does (by decide) (k := 176) fun cdv A outer s H E bv hr => ?_, hm, F.kp, F.bindsN fun _ _ _ _ _ _ us hl => match us, hl with | [_, _, _, _], _ => rfl⟩
  have I := In.fn (G := G) (N := ["_law_sort_of", "_law_house_here", "_law_told", "_law_half"]) (qual := "_law_does") (scope := defScope (top 64)) (f := f) (cdv := cdv) (outer := outer) (H := H) (E := E) (bv := bv) hr
  exact css_cons (cs_if (ct_cmp (or_eq I.u64) (ce_name (pv 0)) ce_int (nomark _)) (css_one (cs_ret (ce_call I (ok_is_half V) (by decide) rfl (car_e (ce_name (pv 1)) (car_e (ce_name (pv 2)) (car_e (ce_name (pv 3)) car_nil)))))) css_nil) (css_cons (cs_if (ct_cmp (or_eq I.u64) (ce_name (pv 0)) ce_int (nomark _)) (css_one (cs_ret (ce_call I (ok_bars V) (by decide) rfl (car_e (ce_name (pv 1)) (car_e (ce_name (pv 2)) (car_e (ce_name (pv 3)) car_nil)))))) css_nil) (css_cons (cs_if (ct_cmp (or_eq I.u64) (ce_name (pv 0)) ce_int (nomark _)) (css_one (cs_ret (ce_call I (ok_goes_on V) (by decide) rfl (car_e (ce_name (pv 1)) (car_e (ce_name (pv 2)) (car_e (ce_name (pv 3)) car_nil)))))) css_nil) (css_cons (cs_if (ct_cmp (or_eq I.u64) (ce_name (pv 0)) ce_int (nomark _)) (css_one (cs_ret (ce_call I (ok_cut V) (by decide) rfl (car_e (ce_name (pv 1)) (car_e (ce_name (pv 2)) (car_e (ce_name (pv 3)) (car_e ce_int car_nil))))))) css_nil) (css_cons (cs_if (ct_cmp (or_eq I.u64) (ce_name (pv 0)) ce_int (nomark _)) (css_one (cs_ret (ce_call I (ok_next_half V) (by decide) rfl (car_e (ce_name (pv 1)) (car_e (ce_name (pv 2)) (car_e (ce_name (pv 3)) car_nil)))))) css_nil) (css_cons (cs_if (ct_cmp (or_eq I.u64) (ce_name (pv 0)) ce_int (nomark _)) (css_one (cs_ret (ce_call I (ok_finished V) (by decide) rfl (car_e (ce_name (pv 1)) (car_e (ce_name (pv 2)) (car_e (ce_name (pv 3)) car_nil)))))) css_nil) (css_one (cs_ret (ce_call I (ok_half_text V) (by decide) rfl (car_e (ce_name (pv 1)) (car_e (ce_name (pv 2)) (car_e (ce_name (pv 3)) car_nil)))))))))))
theorem sc_law_asked : FnScope ["_law_sort_of", "_law_house_here", "_law_told", "_law_half", "_law_caught", "e"] ["_law_sort_of", "_law_house_here", "_law_told", "_law_half"] (defScope (top 65)) := ⟨rfl, rfl, rfl, by decide +kernel, rfl, by decide +kernel, by decide +kernel⟩
def b_law_asked : S → SOut := seqS (setS 4 (cE .none)) (seqS (tryS 7 5 (dropS (callD m_law_does [.e (nE 0), .e (nE 1), .e (nE 2), .e (nE 3)])) (setS 4 (xE 5))) (retS (ifE (isNxT 4) (cE (.str "told")) (callD m_law_refusal [.e (xE 4)]))))
def m_law_asked : Fn := fnD 6 b_law_asked
theorem ok_law_asked {G : Gv} (V : Ev G) : Cal G 178 "_law_asked" 4 m_law_asked := by
  obtain ⟨f, fd, F, hm⟩ := V.h_law_asked
  refine ⟨f, fd, _, fn_ok F sc_law_asked (by decide) (k := 177) fun cdv A outer s H E bv hr => ?_, hm, F.kp, F.bindsN fun _ _ _ _ _ _ us hl => match us, hl with | [_, _, _, _], _ => rfl⟩
  have I := In.fn (G := G) (N := ["_law_sort_of", "_law_house_here", "_law_told", "_law_half", "_law_caught", "e"]) (qual := "_law_asked") (scope := defScope (top 65)) (f := f) (cdv := cdv) (outer := outer) (H := H) (E := E) (bv := bv) hr
  exact css_cons (cs_set sc_law_asked.nd rfl (.inl rfl) ce_non) (css_cons (cs_try rfl rfl sc_law_asked.nd rfl rfl ⟨rfl, rfl, .inl V.x_DealError.gC⟩ I.tk (V.exm I) (fun _ _ _ tk _ => css_one (cs_expr (ce_call (In.tr I tk) (ok_law_does V) (by decide) rfl (car_e (ce_name (pv 0)) (car_e (ce_name (pv 1)) (car_e (ce_name (pv 2)) (car_e (ce_name (pv 3)) car_nil))))))) (fun _ _ => css_one (cs_set sc_law_asked.nd rfl (.inl rfl) (ce_x (pv 5))))) (css_one (cs_ret (ce_if (ct_isNx (pv 4)) ce_str (ce_call I (ok_law_refusal V) (by decide) rfl (car_e (ce_x (pv 4)) car_nil))))))
theorem sc_law_draw : FnScope ["_law_town_here", "_law_count", "_law_numbers", "_law_at", "_law_cell", "_law_mixed"] ["_law_town_here", "_law_count"] (defScope (top 62)) := ⟨rfl, rfl, rfl, by decide +kernel, rfl, by decide +kernel, by decide +kernel⟩
def m_law_draw : Fn := drawF
theorem ok_law_draw {G : Gv} (V : Ev G) : Cal G 1 "_law_draw" 2 m_law_draw := by
  obtain ⟨f, fd, F, hm⟩ := V.h_law_draw
  refine ⟨f, fd, _, F.ok sc_law_draw (fun vs H Q E h => h.1) fun cdv A outer s H vs Q E hr h => ⟨tDraw G.K, ?_, draw_sp (Z := G.Z) (N := ["_law_town_here", "_law_count", "_law_numbers", "_law_at", "_law_cell", "_law_mixed"]) rfl h⟩, hm, F.kp, F.bindsN fun _ _ _ _ _ _ us hl => match us, hl with | [_, _], _ => rfl⟩
  exact pss_cons (ps_set sc_law_draw.nd rfl (.inl rfl) (pe_ix ix_list (pv 0) pe_int fun _ _ => rfl)) <|
    pss_cons (ps_asg (pe_op op_add (pe_ix ix_list (pv 0) pe_int fun _ _ => rfl) pe_int) (pg_sub (pv 0) pe_int set_list)) <|
    pss_cons (ps_set sc_law_draw.nd rfl (.inl rfl) (pe_op op_mod (pe_ix ix_list (pv 0) pe_int fun _ _ => rfl) (pe_callB call_len rfl V.fr.len boot_len (pa_cons (pv 2) pa_nil)))) <|
    pss_cons (ps_set sc_law_draw.nd rfl (.inl rfl) (pe_ix ix_list (pv 2) (pv 3) fun _ _ => rfl)) <|
    pss_cons (ps_if (pt_cmpR op_ge (pv 4) pe_int (nomark _)) (pss_cons (ps_asg (pe_op op_fdiv (pv 4) (pv 1)) (pg_sub (pv 2) (pv 3) set_list)) (pss_one (ps_ret (pe_op op_mod (pv 4) (pv 1))))) pss_nil) <|
    pss_cons (ps_set sc_law_draw.nd rfl (.inl rfl) (pe_op op_mod (pe_op op_add (pv 4) (pe_op op_mul pe_int (pe_ix ix_list (pv 0) pe_int fun _ _ => rfl))) pe_int)) <|
    pss_cons (ps_set sc_law_draw.nd rfl (.inl rfl) (pe_op op_mod (pe_op op_pow (pv 5) pe_int) pe_int)) <|
    pss_one (ps_ret (pe_op op_mod (pe_op op_fdiv (pe_op op_mod (pe_op op_add (pe_op op_mul (pe_op op_fdiv (pv 5) pe_int) pe_int) (pv 5)) pe_int) pe_int) (pv 1)))
theorem sc_law : FnScope ["_law_script", "_law_town_here", "_law_house_here", "_law_bad", "_law_odd", "_law_wide", "_law_barred", "_law_whole", "_law_k"] ["_law_script"] (defScope (top 69)) := ⟨rfl, rfl, rfl, by decide +kernel, rfl, by decide +kernel, by decide +kernel⟩
def b_law_0 (dr : Fn) : S → SOut := setS 1 (callD m_law_town [.e (sE 0)])
def b_law_1 (dr : Fn) : S → SOut := ifS (orB (notB (toB (callD m_law_kinds []))) (notB (toB (callD m_law_plans [])))) (retS (cE (.bool false))) onS
def b_law_2 (dr : Fn) : S → SOut := setS 2 (tupE ([cE (.int 3), cE (.int 2), tupE ([cE (.int 2), cE (.int 1)])]))
def b_law_3 (dr : Fn) : S → SOut := loopS (itemsE (lstE ([cE .none, cE (.int 5), tupE ([cE (.int 3), cE (.int 2), tupE ([cE (.int 2)])])]))) (nameG 3) (ifS (toB (binE pyNe (frzE (lcD ([8]) (rng1E (argsE [cE (.int 7)])) (nameG 8) yesB (callD m_law_asked [.e (nE 8), .e (nE 3), .e (cE .none), .e (cE .none)]))) (binE pyMul (lstE ([cE (.str "house")])) (cE (.int 7))))) (retS (cE (.bool false))) onS)
def b_law_4 (dr : Fn) : S → SOut := loopS (itemsE (lstE ([cE .none, cE (.int 4), binE pySub (cE (.int 0)) (cE (.int 1)), cE (.bool true), cE (.str "1")]))) (nameG 3) (ifS (toB (binE pyNe (frzE (lcD ([8]) (rng1E (argsE [cE (.int 7)])) (nameG 8) yesB (callD m_law_asked [.e (nE 8), .e (nE 2), .e (nE 3), .e (cE .none)]))) (binE pyMul (lstE ([cE (.str "folk")])) (cE (.int 7))))) (retS (cE (.bool false))) onS)
def b_law_5 (dr : Fn) : S → SOut := setS 4 (lstE ([cE .none, cE (.int 5), tupE ([]), lstE ([]), lstE ([lstE ([tupE ([cE (.int 0)]), tupE ([cE (.int 1)])])]), lstE ([lstE ([tupE ([cE (.int 0)]), tupE ([cE (.int 1)])]), lstE ([tupE ([]), tupE ([])])]), lstE ([lstE ([tupE ([cE (.int 0)]), tupE ([cE (.int 2)])]), lstE ([tupE ([])])]), lstE ([lstE ([tupE ([cE (.int 0)]), tupE ([cE (.int 1), cE (.int 0)])]), lstE ([tupE ([])])]), lstE ([lstE ([tupE ([cE (.int 0)]), tupE ([cE (.int 0), cE (.int 0)])]), lstE ([tupE ([])])]), lstE ([lstE ([tupE ([cE (.int 0)]), lstE ([cE (.int 1)])]), lstE ([tupE ([])])]), lstE ([lstE ([tupE ([cE (.int 0)]), tupE ([cE (.bool true)])]), lstE ([tupE ([])])]), tupE ([lstE ([tupE ([cE (.int 0)]), tupE ([cE (.int 1)])]), lstE ([tupE ([])])]), lstE ([tupE ([tupE ([cE (.int 0)]), tupE ([cE (.int 1)])]), lstE ([tupE ([])])])]))
def b_law_6 (dr : Fn) : S → SOut := loopS (itemsE (nE 4)) (nameG 3) (ifS (orB (toB (binE pyNe (frzE (lcD ([8]) (rng2E (argsE [cE (.int 1), cE (.int 7)])) (nameG 8) yesB (callD m_law_asked [.e (nE 8), .e (nE 2), .e (cE (.int 2)), .e (nE 3)]))) (binE pyMul (lstE ([cE (.str "deal")])) (cE (.int 6))))) (toB (binE pyIsNot (callD m_is_half [.e (nE 2), .e (cE (.int 2)), .e (nE 3)]) (cE (.bool false))))) (retS (cE (.bool false))) onS)
def b_law_7 (dr : Fn) : S → SOut := setS 5 (tupE ([cE (.int 4), cE (.int 2), tupE ([cE (.int 6)])]))
def b_law_8 (dr : Fn) : S → SOut := ifS (orB (toB (binE pyIsNot (callD m_is_half [.e (nE 5), .e (cE (.int 4)), .e (lstE ([binE pyAdd (lstE ([tupE ([cE (.int 0), cE (.int 1), cE (.int 2)])])) (binE pyMul (lstE ([tupE ([])])) (cE (.int 5)))]))]) (cE (.bool false)))) (toB (binE pyIsNot (callD m_is_half [.e (nE 5), .e (cE (.int 4)), .e (lstE ([binE pyMul (lstE ([tupE ([cE (.int 0), cE (.int 1)])])) (cE (.int 6))]))]) (cE (.bool true))))) (retS (cE (.bool false))) onS
def b_law_9 (dr : Fn) : S → SOut := setS 6 (lstE ([lstE ([tupE ([cE (.int 0)]), tupE ([cE (.int 0)])]), lstE ([tupE ([cE (.int 1)])])]))
def b_law_10 (dr : Fn) : S → SOut := ifS (toB (binE pyNe (frzE (lcD ([8]) (rng1E (argsE [cE (.int 7)])) (nameG 8) yesB (callD m_law_asked [.e (nE 8), .e (nE 2), .e (cE (.int 2)), .e (nE 6)]))) (binE pyAdd (binE pyMul (lstE ([cE (.str "told")])) (cE (.int 4))) (lstE ([cE (.str "deal"), cE (.str "deal"), cE (.str "told")]))))) (retS (cE (.bool false))) onS
def b_law_11 (dr : Fn) : S → SOut := setS 7 (lstE ([lstE ([tupE ([cE (.int 0), cE (.int 1)]), tupE ([cE (.int 0), cE (.int 2)])]), lstE ([tupE ([cE (.int 1), cE (.int 2)])])]))
def b_law_12 (dr : Fn) : S → SOut := ifS (toB (binE pyNe (frzE (lcD ([8]) (rng1E (argsE [cE (.int 7)])) (nameG 8) yesB (callD m_law_asked [.e (nE 8), .e (nE 2), .e (cE (.int 3)), .e (nE 7)]))) (binE pyAdd (binE pyMul (lstE ([cE (.str "told")])) (cE (.int 4))) (lstE ([cE (.str "none"), cE (.str "told"), cE (.str "told")]))))) (retS (cE (.bool false))) onS
def b_law_13 (dr : Fn) : S → SOut := retS (andE (binE pyEq (callD m_bars [.e (nE 2), .e (cE (.int 2)), .e (nE 6)]) (tupE ([lstE ([tupE ([tupE ([cE (.int 0)]), cE (.int 2), cE (.int 1)]), tupE ([tupE ([cE (.int 0), cE (.int 1)]), cE (.int 0), cE (.int 1)])]), lstE ([tupE ([cE (.int 0), cE (.int 1), cE (.int 0)])]), lstE ([])]))) (binE pyEq (callD m_law_asked [.e (callD dr [.w 1, .e (cE (.int 7))]), .e (nE 2), .e (cE (.int 0)), .e (lstE ([lstE ([tupE ([]), tupE ([])]), lstE ([tupE ([])])]))]) (cE (.str "told"))))
def b_law : S → SOut := seqS (b_law_0 m_law_draw) (seqS (b_law_1 m_law_draw) (seqS (b_law_2 m_law_draw) (seqS (b_law_3 m_law_draw) (seqS (b_law_4 m_law_draw) (seqS (b_law_5 m_law_draw) (seqS (b_law_6 m_law_draw) (seqS (b_law_7 m_law_draw) (seqS (b_law_8 m_law_draw) (seqS (b_law_9 m_law_draw) (seqS (b_law_10 m_law_draw) (seqS (b_law_11 m_law_draw) (seqS (b_law_12 m_law_draw) (b_law_13 m_law_draw)))))))))))))
def m_law : Fn := fnD 9 b_law
theorem fn_law {G : Gv} (V : Ev G) {f : Addr} {fd : FuncData} (F : FnP G.K "law" (top 69) f fd) : FnOk G.P G.w G.K G.mg G.base (L2.CX G.P G.w) 179 f fd ["_law_script"] (spOf G.Z 1 m_law) := by
  refine fn_ok F sc_law (by decide) (k := 178) fun cdv A outer s H E bv hr => ?_
  have I := In.fn (G := G) (N := ["_law_script", "_law_town_here", "_law_house_here", "_law_bad", "_law_odd", "_law_wide", "_law_barred", "_law_whole", "_law_k"]) (qual := "law") (scope := defScope (top 69)) (f := f) (cdv := cdv) (outer := outer) (H := H) (E := E) (bv := bv) hr
  exact css_cons (cs_set sc_law.nd rfl (.inl rfl) (ce_call I (ok_law_town V) (by decide) rfl (car_e (ce_s (pv 0)) car_nil))) (css_cons (cs_if (CW.ct (cw_or (ct_not (ct_val (ce_call0 I (ok_law_kinds V) (by decide) rfl))) (cw_or1 (ct_not (ct_val (ce_call0 I (ok_law_plans V) (by decide) rfl)))))) (css_one (cs_ret ce_bl)) css_nil) (css_cons (cs_set sc_law.nd rfl (.inr rfl) (ce_tup (ca_cons ce_int (ca_cons ce_int (ca_cons (ce_tup (ca_cons ce_int (ca_cons ce_int ca_nil))) ca_nil))))) (css_cons (cs_for (passes_of rfl) rfl (ci_seq (ce_lst (ca_cons ce_non (ca_cons ce_int (ca_cons (ce_tup (ca_cons ce_int (ca_cons ce_int (ca_cons (ce_tup (ca_cons ce_int ca_nil)) ca_nil)))) ca_nil))))) (cg_name sc_law.nd rfl (.inr rfl)) (css_one (cs_if (ct_cmp (or_ne I.u64) (ce_frz (ce_lc rfl sc_law.nd (own := [("_law_k", 8)]) (blk_of (by kernel_rfl)) (by decide) (ci_range1 rfl V.fr.range (ca_cons ce_int ca_nil)) (fun _ _ _ _ _ => cg_name sc_law.nd rfl (.inl rfl)) (fun _ _ _ _ _ => cts_nil) (fun _ _ _ _ _ => ce_call (In.blk I) (ok_law_asked V) (by decide) rfl (car_e (ce_name (pv 8)) (car_e (ce_name (pv 3)) (car_e ce_non (car_e ce_non car_nil))))))) (ce_bin or_mul (ce_lst (ca_cons ce_str ca_nil)) ce_int) (nomark _)) (css_one (cs_ret ce_bl)) css_nil))) (css_cons (cs_for (passes_of rfl) rfl (ci_seq (ce_lst (ca_cons ce_non (ca_cons ce_int (ca_cons (ce_bin or_sub ce_int ce_int) (ca_cons ce_bl (ca_cons ce_str ca_nil))))))) (cg_name sc_law.nd rfl (.inr rfl)) (css_one (cs_if (ct_cmp (or_ne I.u64) (ce_frz (ce_lc rfl sc_law.nd (own := [("_law_k", 8)]) (blk_of (by kernel_rfl)) (by decide) (ci_range1 rfl V.fr.range (ca_cons ce_int ca_nil)) (fun _ _ _ _ _ => cg_name sc_law.nd rfl (.inl rfl)) (fun _ _ _ _ _ => cts_nil) (fun _ _ _ _ _ => ce_call (In.blk I) (ok_law_asked V) (by decide) rfl (car_e (ce_name (pv 8)) (car_e (ce_name (pv 2)) (car_e (ce_name (pv 3)) (car_e ce_non car_nil))))))) (ce_bin or_mul (ce_lst (ca_cons ce_str ca_nil)) ce_int) (nomark _)) (css_one (cs_ret ce_bl)) css_nil))) (css_cons (cs_set sc_law.nd rfl (.inl rfl) (ce_lst (ca_cons ce_non (ca_cons ce_int (ca_cons (ce_tup ca_nil) (ca_cons (ce_lst ca_nil) (ca_cons (ce_lst (ca_cons (ce_lst (ca_cons (ce_tup (ca_cons ce_int ca_nil)) (ca_cons (ce_tup (ca_cons ce_int ca_nil)) ca_nil))) ca_nil)) (ca_cons (ce_lst (ca_cons (ce_lst (ca_cons (ce_tup (ca_cons ce_int ca_nil)) (ca_cons (ce_tup (ca_cons ce_int ca_nil)) ca_nil))) (ca_cons (ce_lst (ca_cons (ce_tup ca_nil) (ca_cons (ce_tup ca_nil) ca_nil))) ca_nil))) (ca_cons (ce_lst (ca_cons (ce_lst (ca_cons (ce_tup (ca_cons ce_int ca_nil)) (ca_cons (ce_tup (ca_cons ce_int ca_nil)) ca_nil))) (ca_cons (ce_lst (ca_cons (ce_tup ca_nil) ca_nil)) ca_nil))) (ca_cons (ce_lst (ca_cons (ce_lst (ca_cons (ce_tup (ca_cons ce_int ca_nil)) (ca_cons (ce_tup (ca_cons ce_int (ca_cons ce_int ca_nil))) ca_nil))) (ca_cons (ce_lst (ca_cons (ce_tup ca_nil) ca_nil)) ca_nil))) (ca_cons (ce_lst (ca_cons (ce_lst (ca_cons (ce_tup (ca_cons ce_int ca_nil)) (ca_cons (ce_tup (ca_cons ce_int (ca_cons ce_int ca_nil))) ca_nil))) (ca_cons (ce_lst (ca_cons (ce_tup ca_nil) ca_nil)) ca_nil))) (ca_cons (ce_lst (ca_cons (ce_lst (ca_cons (ce_tup (ca_cons ce_int ca_nil)) (ca_cons (ce_lst (ca_cons ce_int ca_nil)) ca_nil))) (ca_cons (ce_lst (ca_cons (ce_tup ca_nil) ca_nil)) ca_nil))) (ca_cons (ce_lst (ca_cons (ce_lst (ca_cons (ce_tup (ca_cons ce_int ca_nil)) (ca_cons (ce_tup (ca_cons ce_bl ca_nil)) ca_nil))) (ca_cons (ce_lst (ca_cons (ce_tup ca_nil) ca_nil)) ca_nil))) (ca_cons (ce_tup (ca_cons (ce_lst (ca_cons (ce_tup (ca_cons ce_int ca_nil)) (ca_cons (ce_tup (ca_cons ce_int ca_nil)) ca_nil))) (ca_cons (ce_lst (ca_cons (ce_tup ca_nil) ca_nil)) ca_nil))) (ca_cons (ce_lst (ca_cons (ce_tup (ca_cons (ce_tup (ca_cons ce_int ca_nil)) (ca_cons (ce_tup (ca_cons ce_int ca_nil)) ca_nil))) (ca_cons (ce_lst (ca_cons (ce_tup ca_nil) ca_nil)) ca_nil))) ca_nil))))))))))))))) (css_cons (cs_for (passes_of rfl) rfl (ci_seq (ce_name (pv 4))) (cg_name sc_law.nd rfl (.inr rfl)) (css_one (cs_if (CW.ct (cw_or (ct_cmp (or_ne I.u64) (ce_frz (ce_lc rfl sc_law.nd (own := [("_law_k", 8)]) (blk_of (by kernel_rfl)) (by decide) (ci_range2 rfl V.fr.range (ca_cons ce_int (ca_cons ce_int ca_nil))) (fun _ _ _ _ _ => cg_name sc_law.nd rfl (.inl rfl)) (fun _ _ _ _ _ => cts_nil) (fun _ _ _ _ _ => ce_call (In.blk I) (ok_law_asked V) (by decide) rfl (car_e (ce_name (pv 8)) (car_e (ce_name (pv 2)) (car_e ce_int (car_e (ce_name (pv 3)) car_nil))))))) (ce_bin or_mul (ce_lst (ca_cons ce_str ca_nil)) ce_int) (nomark _)) (cw_or1 (ct_cmp or_isNot (ce_call I (ok_is_half V) (by decide) rfl (car_e (ce_name (pv 2)) (car_e ce_int (car_e (ce_name (pv 3)) car_nil)))) ce_bl (nomark _))))) (css_one (cs_ret ce_bl)) css_nil))) (css_cons (cs_set sc_law.nd rfl (.inl rfl) (ce_tup (ca_cons ce_int (ca_cons ce_int (ca_cons (ce_tup (ca_cons ce_int ca_nil)) ca_nil))))) (css_cons (cs_if (CW.ct (cw_or (ct_cmp or_isNot (ce_call I (ok_is_half V) (by decide) rfl (car_e (ce_name (pv 5)) (car_e ce_int (car_e (ce_lst (ca_cons (ce_bin or_add (ce_lst (ca_cons (ce_tup (ca_cons ce_int (ca_cons ce_int (ca_cons ce_int ca_nil)))) ca_nil)) (ce_bin or_mul (ce_lst (ca_cons (ce_tup ca_nil) ca_nil)) ce_int)) ca_nil)) car_nil)))) ce_bl (nomark _)) (cw_or1 (ct_cmp or_isNot (ce_call I (ok_is_half V) (by decide) rfl (car_e (ce_name (pv 5)) (car_e ce_int (car_e (ce_lst (ca_cons (ce_bin or_mul (ce_lst (ca_cons (ce_tup (ca_cons ce_int (ca_cons ce_int ca_nil))) ca_nil)) ce_int) ca_nil)) car_nil)))) ce_bl (nomark _))))) (css_one (cs_ret ce_bl)) css_nil) (css_cons (cs_set sc_law.nd rfl (.inr rfl) (ce_lst (ca_cons (ce_lst (ca_cons (ce_tup (ca_cons ce_int ca_nil)) (ca_cons (ce_tup (ca_cons ce_int ca_nil)) ca_nil))) (ca_cons (ce_lst (ca_cons (ce_tup (ca_cons ce_int ca_nil)) ca_nil)) ca_nil)))) (css_cons (cs_if (ct_cmp (or_ne I.u64) (ce_frz (ce_lc rfl sc_law.nd (own := [("_law_k", 8)]) (blk_of (by kernel_rfl)) (by decide) (ci_range1 rfl V.fr.range (ca_cons ce_int ca_nil)) (fun _ _ _ _ _ => cg_name sc_law.nd rfl (.inl rfl)) (fun _ _ _ _ _ => cts_nil) (fun _ _ _ _ _ => ce_call (In.blk I) (ok_law_asked V) (by decide) rfl (car_e (ce_name (pv 8)) (car_e (ce_name (pv 2)) (car_e ce_int (car_e (ce_name (pv 6)) car_nil))))))) (ce_bin or_add (ce_bin or_mul (ce_lst (ca_cons ce_str ca_nil)) ce_int) (ce_lst (ca_cons ce_str (ca_cons ce_str (ca_cons ce_str ca_nil))))) (nomark _)) (css_one (cs_ret ce_bl)) css_nil) (css_cons (cs_set sc_law.nd rfl (.inr rfl) (ce_lst (ca_cons (ce_lst (ca_cons (ce_tup (ca_cons ce_int (ca_cons ce_int ca_nil))) (ca_cons (ce_tup (ca_cons ce_int (ca_cons ce_int ca_nil))) ca_nil))) (ca_cons (ce_lst (ca_cons (ce_tup (ca_cons ce_int (ca_cons ce_int ca_nil))) ca_nil)) ca_nil)))) (css_cons (cs_if (ct_cmp (or_ne I.u64) (ce_frz (ce_lc rfl sc_law.nd (own := [("_law_k", 8)]) (blk_of (by kernel_rfl)) (by decide) (ci_range1 rfl V.fr.range (ca_cons ce_int ca_nil)) (fun _ _ _ _ _ => cg_name sc_law.nd rfl (.inl rfl)) (fun _ _ _ _ _ => cts_nil) (fun _ _ _ _ _ => ce_call (In.blk I) (ok_law_asked V) (by decide) rfl (car_e (ce_name (pv 8)) (car_e (ce_name (pv 2)) (car_e ce_int (car_e (ce_name (pv 7)) car_nil))))))) (ce_bin or_add (ce_bin or_mul (ce_lst (ca_cons ce_str ca_nil)) ce_int) (ce_lst (ca_cons ce_str (ca_cons ce_str (ca_cons ce_str ca_nil))))) (nomark _)) (css_one (cs_ret ce_bl)) css_nil) (css_one (cs_ret (ce_and (ce_cmp (or_eq I.u64) (ce_call I (ok_bars V) (by decide) rfl (car_e (ce_name (pv 2)) (car_e ce_int (car_e (ce_name (pv 6)) car_nil)))) (ce_tup (ca_cons (ce_lst (ca_cons (ce_tup (ca_cons (ce_tup (ca_cons ce_int ca_nil)) (ca_cons ce_int (ca_cons ce_int ca_nil)))) (ca_cons (ce_tup (ca_cons (ce_tup (ca_cons ce_int (ca_cons ce_int ca_nil))) (ca_cons ce_int (ca_cons ce_int ca_nil)))) ca_nil))) (ca_cons (ce_lst (ca_cons (ce_tup (ca_cons ce_int (ca_cons ce_int (ca_cons ce_int ca_nil)))) ca_nil)) (ca_cons (ce_lst ca_nil) ca_nil)))) (nomark _)) (ce_one (ce_cmp (or_eq I.u64) (ce_call I (ok_law_asked V) (by decide) rfl (car_e (ce_call I (ok_law_draw V) (by decide) rfl (car_w (pv 1) (car_e ce_int car_nil))) (car_e (ce_name (pv 2)) (car_e ce_int (car_e (ce_lst (ca_cons (ce_lst (ca_cons (ce_tup ca_nil) (ca_cons (ce_tup ca_nil) ca_nil))) (ca_cons (ce_lst (ca_cons (ce_tup ca_nil) ca_nil)) ca_nil))) car_nil))))) ce_str (nomark _))))))))))))))))))
end Gn

set_option Elab.async false
set_option linter.all false
set_option maxRecDepth 100000
set_option maxHeartbeats 4000000
namespace Gn
open PySem PySem.Spec PyProof.Rows L2 Dl
/-! ### the plain law -/
def getS (o : SOut) : S := match o with
  | .ok _ s => s
  | _ => []
theorem seqS_ok {fs gs : S → SOut} {s s1 : S} (h : fs s = .ok none s1) : seqS fs gs s = gs s1 := by
  unfold seqS
  rw [h]
  rfl
def seqL : List (S → SOut) → (S → SOut) → S → SOut
  | [], g => g
  | a :: l, g => seqS a (seqL l g)
theorem seqL_ok : ∀ {l : List (S → SOut)} {g : S → SOut} {s s1 : S}, seqL l onS s = .ok none s1 → seqL l g s = g s1
  | [], g, s, s1, h => by
    have e : s = s1 := by
      have h' : Out.ok none s = (.ok none s1 : SOut) := h
      injection h'
    exact congrArg g e
  | a :: l, g, s, s1, h => by
    unfold seqL seqS at h ⊢
    cases e : a s with
    | ok o s2 =>
      rw [e] at h
      cases o with
      | none => exact seqL_ok (l := l) h
      | some d =>
        have h' : Out.ok (some d) s2 = (.ok none s1 : SOut) := h
        cases h'
    | ex c s2 => rw [e] at h; cases h
    | er => rw [e] at h; cases h
theorem ints_shaped : ∀ ns : List Int, SeqAt.shaped (.list (ns.map .int)) = true := by
  intro ns
  have h1 : ∀ ns : List Int, PyData.canLayAll0 (ns.map .int) = true := fun ns => by
    induction ns with
    | nil => rfl
    | cons n ns ih => simpa [PyData.canLayAll0, PyData.canLay0] using ih
  have h2 : ∀ ns : List Int, PyData.depth (.list (ns.map .int)) ≤ 64 := fun ns => by
    induction ns with
    | nil => decide +kernel
    | cons n ns ih => simp_all [PyData.depth, PyData.depthAll]
  unfold SeqAt.shaped
  rw [Bool.and_eq_true, decide_eq_true_eq]
  exact ⟨by simpa [PyData.canLay0] using h1 ns, h2 ns⟩
/-- the town that a script begins with -/
def ns0 (ns : List Int) : List Int := if ns = [] then [0] else ns
theorem ns0_ne (ns : List Int) : ns0 ns ≠ [] := by unfold ns0; split <;> simp_all
theorem town_ok (ns : List Int) : m_law_town [.s ns] = .ok (townD (ns0 ns) 0) [.s ns] := by
  cases ns with
  | nil => rfl
  | cons n ns =>
    have h := ints_shaped (n :: ns)
    have e : sNeT 0 [.v (.s (n :: ns))] = .ok true [.v (.s (n :: ns))] := by
      show (if SeqAt.shaped (.list ((n :: ns).map .int)) = true then (Out.ok (!(n :: ns).isEmpty) _ : Out Bool) else .er) = _
      rw [if_pos h]
      rfl
    have e2 : ifE (sNeT 0) (sListE 0) (lnewE (argsE [cE (.int 0)])) [.v (.s (n :: ns))] = .ok (.l ((n :: ns).map fun i => .p (.int i))) [.v (.s (n :: ns))] := by
      unfold ifE
      rw [e]
      rfl
    have e3 : b_law_town [.v (.s (n :: ns))] = .ok (some (townD (n :: ns) 0)) [.v (.s (n :: ns))] := by
      unfold b_law_town retS lnewAE
      simp only [List.map_cons, List.map_nil, runAr, e2]
      rfl
    have e4 : ns0 (n :: ns) = n :: ns := rfl
    rw [e4]
    show (match b_law_town [.v (.s (n :: ns))] with
    | .ok none s => FOut.ok (.p .none) (outsOf [.s (n :: ns)] s)
    | .ok (some d) s => .ok d (outsOf [.s (n :: ns)] s)
    | .ex c s => .ex c (outsOf [.s (n :: ns)] s)
    | .er => .er) = _
    rw [e3]
    rfl
/-- a draw: some number below c, the town goes on -/
theorem draw_ok (ns : List Int) (t c : Int) (h : ns ≠ []) (h0 : 0 < c) (h1 : c < 1073741824) : ∃ (r : Int) (ns' : List Int), 0 ≤ r ∧ r < c ∧ ns' ≠ [] ∧ drawF [townD ns t, .p (.int c)] = .ok (.p (.int r)) [townD ns' (t + 1), .p (.int c)] := by
  have hl : 0 < ns.length := List.length_pos_iff.mpr h
  have m0 : 0 ≤ (t + 1) % (ns.length : Int) := Int.emod_nonneg _ (by omega)
  have m1 : (t + 1) % (ns.length : Int) < ns.length := Int.emod_lt_of_pos _ (by omega)
  have hk : ((t + 1) % (ns.length : Int)).toNat < ns.length := by omega
  have e := drawF_is (t := t) (c := c) (intsDs_map ns) ⟨h0, h1⟩ (List.getElem?_eq_getElem hk)
  by_cases hge : 1000000000000000000 ≤ ns[((t + 1) % (ns.length : Int)).toNat]
  · rw [if_pos hge] at e
    exact ⟨_, _, Int.emod_nonneg _ (by omega), Int.emod_lt_of_pos _ h0, by simpa using h, e⟩
  · rw [if_neg hge] at e
    exact ⟨_, _, Int.emod_nonneg _ (by omega), Int.emod_lt_of_pos _ h0, h, e⟩
def isT (o : SOut) : Bool := match o with
  | .ok (some (.p (.bool true))) _ => true
  | _ => false
theorem isT_some {o : SOut} (h : isT o = true) : ∃ s, o = .ok (some (.p (.bool true))) s := by
  unfold isT at h
  split at h
  · exact ⟨_, rfl⟩
  · cases h
/-- a town -/
def Tw (X : D) : Prop := ∃ ns t, ns ≠ [] ∧ X = townD ns t
theorem draw_any {X : D} (h : Tw X) (c : Nat) (h0 : 0 < c) (h1 : c < 1073741824) : ∃ (r : Nat) (X' : D), r < c ∧ Tw X' ∧ drawF [X, .p (.int c)] = .ok (.p (.int r)) [X', .p (.int c)] := by
  obtain ⟨ns, t, hn, rfl⟩ := h
  obtain ⟨r, ns', a, b, hn', e⟩ := draw_ok ns t c hn (by omega) (by omega)
  obtain ⟨k, rfl⟩ := Int.eq_ofNat_of_zero_le a
  exact ⟨k, _, by omega, ⟨ns', _, hn', rfl⟩, e⟩
theorem nameG_any {i : Nat} {d : PyData} {s s1 : S} (h : nameG i d s = some s1) : putSl i (.p d) s = some s1 := h
end Gn

set_option Elab.async false
set_option linter.all false
set_option maxRecDepth 100000
set_option maxHeartbeats 4000000
namespace Gn
open PySem PySem.Spec PyProof.Rows L2 Dl
def pre (X : D) (ns : List Int) : S := [.v (.s ns), .v X, .n, .n, .n, .n, .n, .n, .n]
def mids : List (S → SOut) := [b_law_1 m_law_draw, b_law_2 m_law_draw, b_law_3 m_law_draw, b_law_4 m_law_draw, b_law_5 m_law_draw, b_law_6 m_law_draw, b_law_7 m_law_draw, b_law_8 m_law_draw, b_law_9 m_law_draw, b_law_10 m_law_draw, b_law_11 m_law_draw, b_law_12 m_law_draw]
def st (X : D) (ns : List Int) : S := getS (seqL mids onS (pre X ns))
theorem mid_ok (X : D) (ns : List Int) : seqL mids onS (pre X ns) = .ok none (st X ns) := by kernel_rfl
theorem last_eq (X : D) (ns : List Int) : b_law_13 m_law_draw (st X ns) = b_law_13 (fun _ => drawF [X, .p (.int 7)]) (st X ns) := by kernel_rfl
theorem last_r (X X' : D) (ns : List Int) : ∀ r : Nat, r < 7 → isT (b_law_13 (fun _ => .ok (.p (.int r)) [X', .p (.int 7)]) (st X ns)) = true
  | 0, _ => by kernel_rfl
  | 1, _ => by kernel_rfl
  | 2, _ => by kernel_rfl
  | 3, _ => by kernel_rfl
  | 4, _ => by kernel_rfl
  | 5, _ => by kernel_rfl
  | 6, _ => by kernel_rfl
  | n + 7, h => absurd h (by omega)
theorem law_true (ns : List Int) : ∃ s : S, b_law [.v (.s ns), .n, .n, .n, .n, .n, .n, .n, .n] = .ok (some (.p (.bool true))) s := by
  obtain ⟨r, ns', h0, h1, _, e⟩ := draw_ok (ns0 ns) 0 7 (ns0_ne ns) (by decide) (by decide)
  have e0 : b_law_0 m_law_draw [.v (.s ns), .n, .n, .n, .n, .n, .n, .n, .n] = .ok none (pre (townD (ns0 ns) 0) ns) := by
    unfold b_law_0 setS callD
    have ea : runAr [.e (sE 0)] [.v (.s ns), .n, .n, .n, .n, .n, .n, .n, .n] = .ok [.s ns] [.v (.s ns), .n, .n, .n, .n, .n, .n, .n, .n] := rfl
    rw [ea]
    simp only [Out.bind, town_ok]
    rfl
  have e1 : b_law [.v (.s ns), .n, .n, .n, .n, .n, .n, .n, .n] = b_law_13 m_law_draw (st (townD (ns0 ns) 0) ns) := by
    refine (seqS_ok (gs := seqL mids (b_law_13 m_law_draw)) e0).trans ?_
    exact seqL_ok (mid_ok _ _)
  rw [e1, last_eq, e]
  refine isT_some ?_
  obtain ⟨k, rfl⟩ := Int.eq_ofNat_of_zero_le h0
  exact last_r _ _ _ k (by omega)
theorem m_law_true (ns : List Int) : ∃ outs, m_law [.s ns] = .ok (.p (.bool true)) outs := by
  obtain ⟨s, e⟩ := law_true ns
  refine ⟨outsOf [.s ns] s, ?_⟩
  show (match b_law [.v (.s ns), .n, .n, .n, .n, .n, .n, .n, .n] with
    | .ok none s => FOut.ok (.p .none) (outsOf [.s ns] s)
    | .ok (some d) s => .ok d (outsOf [.s ns] s)
    | .ex c s => .ex c (outsOf [.s ns] s)
    | .er => .er) = _
  rw [e]
end Gn

set_option Elab.async false
set_option linter.all false
set_option maxRecDepth 100000
set_option maxHeartbeats 0
namespace Gn
open PySem PySem.Spec PyProof.Rows L2 Dl
def spL (K : PySem.W.Frag) : Sp := fun vs H Q _ => ∃ (a : Addr) (ns : List Int), vs = [.ref a] ∧ SqL K H a (ns.map V.int) ∧ ∀ H', Q (.bl true) H'
theorem fn_end {P : Program} {w : World} {K : PySem.W.Frag} {mg : Str → Option Value} {base : Heap} {k : Nat} {f : Addr} {fd : FuncData} {x : Str} {ca : Nat → Addr} {fm : Fn} (F : FnOk P w K mg base (L2.CX P w) k f fd [x] (spOf ⟨P, w, K, ca⟩ 1 fm)) (ht : ∀ ns : List Int, ∃ outs, fm [.s ns] = .ok (.p (.bool true)) outs) :
    FnOk P w K mg base L2.CX0 k f fd [x] (spL K) := by
  refine ⟨fun vs H Q E ⟨a, ns, e, _⟩ => by rw [e]; rfl, fun A outer s H args us vs Q E hr he hb hv hs => ?_⟩
  obtain ⟨a, ns, rfl, hS, hq⟩ := hs
  obtain ⟨outs, e⟩ := ht ns
  have h0 : spOf ⟨P, w, K, ca⟩ 1 fm [.ref a] H Q (fun _ _ _ => False) := by
    refine ⟨rfl, H, [.s ns], [], ⟨Le.refl _, List.nodup_nil, fun a ha => by cases ha⟩, ?_, ?_⟩
    · simp only [RepL, Rep]
      exact ⟨_, _, [], [], rfl, rfl, ⟨a, rfl, rfl, hS⟩, rfl, rfl⟩
    · rw [e]
      intro F' H' B T v st r rp
      obtain ⟨_, z⟩ := Rep.p_iff.mp rp
      cases z
      exact hq H'
  refine codeAny_mono (F.run A outer s H args us [.ref a] Q (fun _ _ _ => False) hr he hb hv h0) fun r s' hq => ?_
  cases r with
  | error u => 
    obtain ⟨a, B, H', cls, d, e1, e2, e3, e4, e5, e6, e7, e8⟩ := hq
    exact e8.elim
  | ok fl => cases fl <;> exact hq
end Gn

set_option Elab.async false
set_option linter.all false
set_option maxRecDepth 100000
set_option maxHeartbeats 0
namespace Gn
open PySem PySem.Spec PyProof.Rows L2 Dl
theorem ev {P : Program} {w : World} {K : PySem.W.Frag} {h : Heap} {mg : Str → Option Value} (X : K.In h) (G : h.Ns mainGlobals mg) (c : He.SaysD fa fn K) (ck : ckX K = true) (base : Heap) : Ev ⟨P, w, K, mg, base, fun i => He.ga K (exNm i)⟩ where
  fr := ⟨He.free_ok X G (c.fact 0 (f := .free "isinstance") rfl), He.free_ok X G (c.fact 1 (f := .free "int") rfl), He.free_ok X G (c.fact 2 (f := .free "bool") rfl), He.free_ok X G (c.fact 3 (f := .free "tuple") rfl), He.free_ok X G (c.fact 4 (f := .free "list") rfl), He.free_ok X G (c.fact 5 (f := .free "str") rfl), He.free_ok X G (c.fact 6 (f := .free "len") rfl), He.free_ok X G (c.fact 7 (f := .free "sum") rfl), He.free_ok X G (c.fact 8 (f := .free "all") rfl), He.free_ok X G (c.fact 9 (f := .free "any") rfl), He.free_ok X G (c.fact 10 (f := .free "max") rfl), He.free_ok X G (c.fact 11 (f := .free "min") rfl), He.free_ok X G (c.fact 12 (f := .free "range") rfl), He.free_ok X G (c.fact 13 (f := .free "zip") rfl), He.free_ok X G (c.fact 14 (f := .free "enumerate") rfl), He.free_ok X G (c.fact 15 (f := .free "sorted") rfl), He.free_ok X G (c.fact 16 (f := .free "ValueError") rfl)⟩
  i_MOST_FOLK := He.int_ok X G (c.fact 17 (f := .int "MOST_FOLK" 9) rfl)
  i_MOST_LOT := He.int_ok X G (c.fact 18 (f := .int "MOST_LOT" 4) rfl)
  i_MOST_EVENINGS := He.int_ok X G (c.fact 19 (f := .int "MOST_EVENINGS" 126) rfl)
  x_DealError := let e := He.exc_ok (c.fact 21 (f := .exc "DealError") rfl); ⟨He.glo_ok X G (c.fact 20 (f := .glo "DealError") rfl), e.1, e.2.1, e.2.2.1, e.2.2.2⟩
  x_BadHouse := let e := He.exc_ok (c.fact 24 (f := .exc "BadHouse") rfl); ⟨He.glo_ok X G (c.fact 23 (f := .glo "BadHouse") rfl), e.1, e.2.1, e.2.2.1, e.2.2.2⟩
  x_BadFolk := let e := He.exc_ok (c.fact 27 (f := .exc "BadFolk") rfl); ⟨He.glo_ok X G (c.fact 26 (f := .glo "BadFolk") rfl), e.1, e.2.1, e.2.2.1, e.2.2.2⟩
  x_BadEvening := let e := He.exc_ok (c.fact 30 (f := .exc "BadEvening") rfl); ⟨He.glo_ok X G (c.fact 29 (f := .glo "BadEvening") rfl), e.1, e.2.1, e.2.2.1, e.2.2.2⟩
  x_BadDeal := let e := He.exc_ok (c.fact 33 (f := .exc "BadDeal") rfl); ⟨He.glo_ok X G (c.fact 32 (f := .glo "BadDeal") rfl), e.1, e.2.1, e.2.2.1, e.2.2.2⟩
  x_BadText := let e := He.exc_ok (c.fact 36 (f := .exc "BadText") rfl); ⟨He.glo_ok X G (c.fact 35 (f := .glo "BadText") rfl), e.1, e.2.1, e.2.2.1, e.2.2.2⟩
  x_NoneSuch := let e := He.exc_ok (c.fact 39 (f := .exc "NoneSuch") rfl); ⟨He.glo_ok X G (c.fact 38 (f := .glo "NoneSuch") rfl), e.1, e.2.1, e.2.2.1, e.2.2.2⟩
  exm0 := fun i hi => match i, hi with
    | 0, _ => He.exm_ok (c.fact 22 (f := .exm "DealError" "DealError" true) rfl)
    | 1, _ => He.exm_ok (c.fact 25 (f := .exm "BadHouse" "DealError" true) rfl)
    | 2, _ => He.exm_ok (c.fact 28 (f := .exm "BadFolk" "DealError" true) rfl)
    | 3, _ => He.exm_ok (c.fact 31 (f := .exm "BadEvening" "DealError" true) rfl)
    | 4, _ => He.exm_ok (c.fact 34 (f := .exm "BadDeal" "DealError" true) rfl)
    | 5, _ => He.exm_ok (c.fact 37 (f := .exm "BadText" "DealError" true) rfl)
    | 6, _ => He.exm_ok (c.fact 40 (f := .exm "NoneSuch" "DealError" true) rfl)
    | n + 7, h => absurd h (by omega)
  exc := fun i hi => excsB_exc ck i hi
  kit := fun j hj i hi => excsB_kit ck j hj i hi
  kitv := fun i hi => excsB_kitv ck i hi
  h_law_town := let ⟨fd, F⟩ := c.def_ 0 (d := ⟨("_law_town", none), "_law_town", "_law_town", defArgs (top 61), defBody (top 61), defScope (top 61), [], []⟩) rfl; ⟨_, fd, F, He.glo_ok X G (c.fact 41 (f := .glo "_law_town") rfl)⟩
  h_is_whole := let ⟨fd, F⟩ := c.def_ 1 (d := ⟨("is_whole", none), "is_whole", "is_whole", defArgs (top 9), defBody (top 9), defScope (top 9), [], []⟩) rfl; ⟨_, fd, F, He.glo_ok X G (c.fact 42 (f := .glo "is_whole") rfl)⟩
  h_chosen := let ⟨fd, F⟩ := c.def_ 2 (d := ⟨("chosen", none), "chosen", "chosen", defArgs (top 14), defBody (top 14), defScope (top 14), [], []⟩) rfl; ⟨_, fd, F, He.glo_ok X G (c.fact 43 (f := .glo "chosen") rfl)⟩
  h_is_house := let ⟨fd, F⟩ := c.def_ 3 (d := ⟨("is_house", none), "is_house", "is_house", defArgs (top 16), defBody (top 16), defScope (top 16), [], []⟩) rfl; ⟨_, fd, F, He.glo_ok X G (c.fact 44 (f := .glo "is_house") rfl)⟩
  h_law_kinds := let ⟨fd, F⟩ := c.def_ 4 (d := ⟨("_law_kinds", none), "_law_kinds", "_law_kinds", defArgs (top 67), defBody (top 67), defScope (top 67), [], []⟩) rfl; ⟨_, fd, F, He.glo_ok X G (c.fact 45 (f := .glo "_law_kinds") rfl)⟩
  h_look_numbers := let ⟨fd, F⟩ := c.def_ 5 (d := ⟨("look_numbers", none), "look_numbers", "look_numbers", defArgs (top 47), defBody (top 47), defScope (top 47), [], []⟩) rfl; ⟨_, fd, F, He.glo_ok X G (c.fact 46 (f := .glo "look_numbers") rfl)⟩
  h_common := let ⟨fd, F⟩ := c.def_ 6 (d := ⟨("common", none), "common", "common", defArgs (top 48), defBody (top 48), defScope (top 48), [], []⟩) rfl; ⟨_, fd, F, He.glo_ok X G (c.fact 47 (f := .glo "common") rfl)⟩
  h_least_alike := let ⟨fd, F⟩ := c.def_ 7 (d := ⟨("least_alike", none), "least_alike", "least_alike", defArgs (top 49), defBody (top 49), defScope (top 49), [], []⟩) rfl; ⟨_, fd, F, He.glo_ok X G (c.fact 48 (f := .glo "least_alike") rfl)⟩
  h_alike_house := let ⟨fd, F⟩ := c.def_ 8 (d := ⟨("alike_house", none), "alike_house", "alike_house", defArgs (top 50), defBody (top 50), defScope (top 50), [], []⟩) rfl; ⟨_, fd, F, He.glo_ok X G (c.fact 49 (f := .glo "alike_house") rfl)⟩
  h_even_house := let ⟨fd, F⟩ := c.def_ 9 (d := ⟨("even_house", none), "even_house", "even_house", defArgs (top 51), defBody (top 51), defScope (top 51), [], []⟩) rfl; ⟨_, fd, F, He.glo_ok X G (c.fact 50 (f := .glo "even_house") rfl)⟩
  h_look_house := let ⟨fd, F⟩ := c.def_ 10 (d := ⟨("look_house", none), "look_house", "look_house", defArgs (top 17), defBody (top 17), defScope (top 17), [], []⟩) rfl; ⟨_, fd, F, He.glo_ok X G (c.fact 51 (f := .glo "look_house") rfl)⟩
  h_few_of := let ⟨fd, F⟩ := c.def_ 11 (d := ⟨("few_of", none), "few_of", "few_of", defArgs (top 15), defBody (top 15), defScope (top 15), [], []⟩) rfl; ⟨_, fd, F, He.glo_ok X G (c.fact 52 (f := .glo "few_of") rfl)⟩
  h_lots := let ⟨fd, F⟩ := c.def_ 12 (d := ⟨("lots", none), "lots", "lots", defArgs (top 21), defBody (top 21), defScope (top 21), [], []⟩) rfl; ⟨_, fd, F, He.glo_ok X G (c.fact 53 (f := .glo "lots") rfl)⟩
  h_counts_of := let ⟨fd, F⟩ := c.def_ 13 (d := ⟨("counts_of", none), "counts_of", "counts_of", defArgs (top 26), defBody (top 26), defScope (top 26), [], []⟩) rfl; ⟨_, fd, F, He.glo_ok X G (c.fact 54 (f := .glo "counts_of") rfl)⟩
  h_open_places := let ⟨fd, F⟩ := c.def_ 16 (d := ⟨("open_places", none), "open_places", "open_places", defArgs (top 39), defBody (top 39), defScope (top 39), [], []⟩) rfl; ⟨_, fd, F, He.glo_ok X G (c.fact 55 (f := .glo "open_places") rfl)⟩
  h_stepped := let ⟨fd, F⟩ := c.def_ 22 (d := ⟨("stepped", none), "stepped", "stepped", defArgs (top 40), defBody (top 40), defScope (top 40), [], []⟩) rfl; ⟨_, fd, F, He.glo_ok X G (c.fact 56 (f := .glo "stepped") rfl)⟩
  h_run_on := let ⟨fd, F⟩ := c.def_ 23 (d := ⟨("run_on", none), "run_on", "run_on", defArgs (top 42), defBody (top 42), defScope (top 42), [], []⟩) rfl; ⟨_, fd, F, He.glo_ok X G (c.fact 57 (f := .glo "run_on") rfl)⟩
  h_empty_half := let ⟨fd, F⟩ := c.def_ 24 (d := ⟨("empty_half", none), "empty_half", "empty_half", defArgs (top 44), defBody (top 44), defScope (top 44), [], []⟩) rfl; ⟨_, fd, F, He.glo_ok X G (c.fact 58 (f := .glo "empty_half") rfl)⟩
  h_deal_of := let ⟨fd, F⟩ := c.def_ 25 (d := ⟨("deal_of", none), "deal_of", "deal_of", defArgs (top 45), defBody (top 45), defScope (top 45), [], []⟩) rfl; ⟨_, fd, F, He.glo_ok X G (c.fact 59 (f := .glo "deal_of") rfl)⟩
  h_is_alike := let ⟨fd, F⟩ := c.def_ 26 (d := ⟨("is_alike", none), "is_alike", "is_alike", defArgs (top 52), defBody (top 52), defScope (top 52), [], []⟩) rfl; ⟨_, fd, F, He.glo_ok X G (c.fact 60 (f := .glo "is_alike") rfl)⟩
  h_sitting_bounds := let ⟨fd, F⟩ := c.def_ 27 (d := ⟨("sitting_bounds", none), "sitting_bounds", "sitting_bounds", defArgs (top 53), defBody (top 53), defScope (top 53), [], []⟩) rfl; ⟨_, fd, F, He.glo_ok X G (c.fact 61 (f := .glo "sitting_bounds") rfl)⟩
  h_house_text := let ⟨fd, F⟩ := c.def_ 28 (d := ⟨("house_text", none), "house_text", "house_text", defArgs (top 57), defBody (top 57), defScope (top 57), [], []⟩) rfl; ⟨_, fd, F, He.glo_ok X G (c.fact 62 (f := .glo "house_text") rfl)⟩
  h_look_told := let ⟨fd, F⟩ := c.def_ 29 (d := ⟨("look_told", none), "look_told", "look_told", defArgs (top 19), defBody (top 19), defScope (top 19), [], []⟩) rfl; ⟨_, fd, F, He.glo_ok X G (c.fact 63 (f := .glo "look_told") rfl)⟩
  h_is_few := let ⟨fd, F⟩ := c.def_ 30 (d := ⟨("is_few", none), "is_few", "is_few", defArgs (top 18), defBody (top 18), defScope (top 18), [], []⟩) rfl; ⟨_, fd, F, He.glo_ok X G (c.fact 64 (f := .glo "is_few") rfl)⟩
  h_half_fits := let ⟨fd, F⟩ := c.def_ 31 (d := ⟨("half_fits", none), "half_fits", "half_fits", defArgs (top 23), defBody (top 23), defScope (top 23), [], []⟩) rfl; ⟨_, fd, F, He.glo_ok X G (c.fact 65 (f := .glo "half_fits") rfl)⟩
  h_look_half := let ⟨fd, F⟩ := c.def_ 32 (d := ⟨("look_half", none), "look_half", "look_half", defArgs (top 25), defBody (top 25), defScope (top 25), [], []⟩) rfl; ⟨_, fd, F, He.glo_ok X G (c.fact 66 (f := .glo "look_half") rfl)⟩
  h_cut_to := let ⟨fd, F⟩ := c.def_ 33 (d := ⟨("cut_to", none), "cut_to", "cut_to", defArgs (top 35), defBody (top 35), defScope (top 35), [], []⟩) rfl; ⟨_, fd, F, He.glo_ok X G (c.fact 67 (f := .glo "cut_to") rfl)⟩
  h_cut := let ⟨fd, F⟩ := c.def_ 34 (d := ⟨("cut", none), "cut", "cut", defArgs (top 36), defBody (top 36), defScope (top 36), [], []⟩) rfl; ⟨_, fd, F, He.glo_ok X G (c.fact 68 (f := .glo "cut") rfl)⟩
  h_law_refusal := let ⟨fd, F⟩ := c.def_ 36 (d := ⟨("_law_refusal", none), "_law_refusal", "_law_refusal", defArgs (top 63), defBody (top 63), defScope (top 63), [], []⟩) rfl; ⟨_, fd, F, He.glo_ok X G (c.fact 69 (f := .glo "_law_refusal") rfl)⟩
  h_law_plan := let ⟨fd, F⟩ := c.def_ 37 (d := ⟨("_law_plan", none), "_law_plan", "_law_plan", defArgs (top 66), defBody (top 66), defScope (top 66), [], []⟩) rfl; ⟨_, fd, F, He.glo_ok X G (c.fact 70 (f := .glo "_law_plan") rfl)⟩
  h_law_plans := let ⟨fd, F⟩ := c.def_ 38 (d := ⟨("_law_plans", none), "_law_plans", "_law_plans", defArgs (top 68), defBody (top 68), defScope (top 68), [], []⟩) rfl; ⟨_, fd, F, He.glo_ok X G (c.fact 71 (f := .glo "_law_plans") rfl)⟩
  h_is_half := let ⟨fd, F⟩ := c.def_ 39 (d := ⟨("is_half", none), "is_half", "is_half", defArgs (top 24), defBody (top 24), defScope (top 24), [], []⟩) rfl; ⟨_, fd, F, He.glo_ok X G (c.fact 72 (f := .glo "is_half") rfl)⟩
  h_wrong_parts := let ⟨fd, F⟩ := c.def_ 40 (d := ⟨("wrong_parts", none), "wrong_parts", "wrong_parts", defArgs (top 28), defBody (top 28), defScope (top 28), [], []⟩) rfl; ⟨_, fd, F, He.glo_ok X G (c.fact 73 (f := .glo "wrong_parts") rfl)⟩
  h_quotas := let ⟨fd, F⟩ := c.def_ 41 (d := ⟨("quotas", none), "quotas", "quotas", defArgs (top 20), defBody (top 20), defScope (top 20), [], []⟩) rfl; ⟨_, fd, F, He.glo_ok X G (c.fact 74 (f := .glo "quotas") rfl)⟩
  h_sittings := let ⟨fd, F⟩ := c.def_ 42 (d := ⟨("sittings", none), "sittings", "sittings", defArgs (top 27), defBody (top 27), defScope (top 27), [], []⟩) rfl; ⟨_, fd, F, He.glo_ok X G (c.fact 75 (f := .glo "sittings") rfl)⟩
  h_wrong_sittings := let ⟨fd, F⟩ := c.def_ 43 (d := ⟨("wrong_sittings", none), "wrong_sittings", "wrong_sittings", defArgs (top 29), defBody (top 29), defScope (top 29), [], []⟩) rfl; ⟨_, fd, F, He.glo_ok X G (c.fact 76 (f := .glo "wrong_sittings") rfl)⟩
  h_wrong_rests := let ⟨fd, F⟩ := c.def_ 44 (d := ⟨("wrong_rests", none), "wrong_rests", "wrong_rests", defArgs (top 30), defBody (top 30), defScope (top 30), [], []⟩) rfl; ⟨_, fd, F, He.glo_ok X G (c.fact 77 (f := .glo "wrong_rests") rfl)⟩
  h_bars := let ⟨fd, F⟩ := c.def_ 45 (d := ⟨("bars", none), "bars", "bars", defArgs (top 31), defBody (top 31), defScope (top 31), [], []⟩) rfl; ⟨_, fd, F, He.glo_ok X G (c.fact 78 (f := .glo "bars") rfl)⟩
  h_runs_on := let ⟨fd, F⟩ := c.def_ 46 (d := ⟨("runs_on", none), "runs_on", "runs_on", defArgs (top 32), defBody (top 32), defScope (top 32), [], []⟩) rfl; ⟨_, fd, F, He.glo_ok X G (c.fact 79 (f := .glo "runs_on") rfl)⟩
  h_goes_on := let ⟨fd, F⟩ := c.def_ 47 (d := ⟨("goes_on", none), "goes_on", "goes_on", defArgs (top 33), defBody (top 33), defScope (top 33), [], []⟩) rfl; ⟨_, fd, F, He.glo_ok X G (c.fact 80 (f := .glo "goes_on") rfl)⟩
  h_look_going := let ⟨fd, F⟩ := c.def_ 48 (d := ⟨("look_going", none), "look_going", "look_going", defArgs (top 34), defBody (top 34), defScope (top 34), [], []⟩) rfl; ⟨_, fd, F, He.glo_ok X G (c.fact 81 (f := .glo "look_going") rfl)⟩
  h_next_half := let ⟨fd, F⟩ := c.def_ 49 (d := ⟨("next_half", none), "next_half", "next_half", defArgs (top 41), defBody (top 41), defScope (top 41), [], []⟩) rfl; ⟨_, fd, F, He.glo_ok X G (c.fact 82 (f := .glo "next_half") rfl)⟩
  h_finished := let ⟨fd, F⟩ := c.def_ 50 (d := ⟨("finished", none), "finished", "finished", defArgs (top 43), defBody (top 43), defScope (top 43), [], []⟩) rfl; ⟨_, fd, F, He.glo_ok X G (c.fact 83 (f := .glo "finished") rfl)⟩
  h_part_text := let ⟨fd, F⟩ := c.def_ 51 (d := ⟨("part_text", none), "part_text", "part_text", defArgs (top 58), defBody (top 58), defScope (top 58), [], []⟩) rfl; ⟨_, fd, F, He.glo_ok X G (c.fact 84 (f := .glo "part_text") rfl)⟩
  h_half_text := let ⟨fd, F⟩ := c.def_ 52 (d := ⟨("half_text", none), "half_text", "half_text", defArgs (top 59), defBody (top 59), defScope (top 59), [], []⟩) rfl; ⟨_, fd, F, He.glo_ok X G (c.fact 85 (f := .glo "half_text") rfl)⟩
  h_law_does := let ⟨fd, F⟩ := c.def_ 53 (d := ⟨("_law_does", none), "_law_does", "_law_does", defArgs (top 64), defBody (top 64), defScope (top 64), [], []⟩) rfl; ⟨_, fd, F, He.glo_ok X G (c.fact 86 (f := .glo "_law_does") rfl)⟩
  h_law_asked := let ⟨fd, F⟩ := c.def_ 54 (d := ⟨("_law_asked", none), "_law_asked", "_law_asked", defArgs (top 65), defBody (top 65), defScope (top 65), [], []⟩) rfl; ⟨_, fd, F, He.glo_ok X G (c.fact 87 (f := .glo "_law_asked") rfl)⟩
  h_law_draw := let ⟨fd, F⟩ := c.def_ 55 (d := ⟨("_law_draw", none), "_law_draw", "_law_draw", defArgs (top 62), defBody (top 62), defScope (top 62), [], []⟩) rfl; ⟨_, fd, F, He.glo_ok X G (c.fact 88 (f := .glo "_law_draw") rfl)⟩
  h_law := let ⟨fd, F⟩ := c.def_ 56 (d := ⟨("law", none), "law", "law", defArgs (top 69), defBody (top 69), defScope (top 69), [], []⟩) rfl; ⟨_, fd, F, He.glo_ok X G (c.fact 89 (f := .glo "law") rfl)⟩
  c_Stream := He.cls_ok (c.fact 91 (f := .cls "Stream") rfl)
  g_Stream := He.glo_ok X G (c.fact 90 (f := .glo "Stream") rfl)
  n_Stream_lot := He.noat_ok (c.fact 92 (f := .noat "Stream" "lot") rfl)
  n_Stream_left := He.noat_ok (c.fact 93 (f := .noat "Stream" "left") rfl)
  n_Stream_kinds := He.noat_ok (c.fact 94 (f := .noat "Stream" "kinds") rfl)
  n_Stream_often := He.noat_ok (c.fact 95 (f := .noat "Stream" "often") rfl)
  n_Stream_more := He.noat_ok (c.fact 96 (f := .noat "Stream" "more") rfl)
  n_Stream_wants := He.noat_ok (c.fact 97 (f := .noat "Stream" "wants") rfl)
  m_Stream_down := let ⟨fd, F⟩ := c.def_ 14 (d := ⟨("Stream", some "down"), "down", "Stream.down", defArgs (sub 38 1), defBody (sub 38 1), defScope (sub 38 1), [], []⟩) rfl; ⟨_, fd, F, He.meth_ok (c.fact 98 (f := .meth "Stream" "down") rfl)⟩
  m_Stream_init := let ⟨fd, F⟩ := c.def_ 15 (d := ⟨("Stream", some "__init__"), "__init__", "Stream.__init__", defArgs (sub 38 0), defBody (sub 38 0), defScope (sub 38 0), [], []⟩) rfl; ⟨_, fd, F, He.mkr_ok (c.fact 99 (f := .mkr "Stream") rfl)⟩
  m_Stream_given := let ⟨fd, F⟩ := c.def_ 17 (d := ⟨("Stream", some "given"), "given", "Stream.given", defArgs (sub 38 3), defBody (sub 38 3), defScope (sub 38 3), [], []⟩) rfl; ⟨_, fd, F, He.meth_ok (c.fact 100 (f := .meth "Stream" "given") rfl)⟩
  m_Stream_is_broken := let ⟨fd, F⟩ := c.def_ 18 (d := ⟨("Stream", some "is_broken"), "is_broken", "Stream.is_broken", defArgs (sub 38 2), defBody (sub 38 2), defScope (sub 38 2), [], []⟩) rfl; ⟨_, fd, F, He.meth_ok (c.fact 101 (f := .meth "Stream" "is_broken") rfl)⟩
  m_Stream_lead := let ⟨fd, F⟩ := c.def_ 19 (d := ⟨("Stream", some "lead"), "lead", "Stream.lead", defArgs (sub 38 4), defBody (sub 38 4), defScope (sub 38 4), [], []⟩) rfl; ⟨_, fd, F, He.meth_ok (c.fact 102 (f := .meth "Stream" "lead") rfl)⟩
  m_Stream_fill := let ⟨fd, F⟩ := c.def_ 20 (d := ⟨("Stream", some "fill"), "fill", "Stream.fill", defArgs (sub 38 5), defBody (sub 38 5), defScope (sub 38 5), [], []⟩) rfl; ⟨_, fd, F, He.meth_ok (c.fact 103 (f := .meth "Stream" "fill") rfl)⟩
  m_Stream_takes := let ⟨fd, F⟩ := c.def_ 21 (d := ⟨("Stream", some "takes"), "takes", "Stream.takes", defArgs (sub 38 6), defBody (sub 38 6), defScope (sub 38 6), [], []⟩) rfl; ⟨_, fd, F, He.meth_ok (c.fact 104 (f := .meth "Stream" "takes") rfl)⟩
  c_Growing := He.cls_ok (c.fact 106 (f := .cls "Growing") rfl)
  g_Growing := He.glo_ok X G (c.fact 105 (f := .glo "Growing") rfl)
  n_Growing_house := He.noat_ok (c.fact 107 (f := .noat "Growing" "house") rfl)
  n_Growing_told := He.noat_ok (c.fact 108 (f := .noat "Growing" "told") rfl)
  n_Growing_half := He.noat_ok (c.fact 109 (f := .noat "Growing" "half") rfl)
  n_Growing_past := He.noat_ok (c.fact 110 (f := .noat "Growing" "past") rfl)
  m_Growing_init := let ⟨fd, F⟩ := c.def_ 35 (d := ⟨("Growing", some "__init__"), "__init__", "Growing.__init__", defArgs (sub 55 0), defBody (sub 55 0), defScope (sub 55 0), [], []⟩) rfl; ⟨_, fd, F, He.mkr_ok (c.fact 111 (f := .mkr "Growing") rfl)⟩
def spLaw (Z : Env0) : Sp := spOf Z 1 m_law
theorem facts {P : Program} {w : World} {K : PySem.W.Frag} {h : Heap} {mg : Str → Option Value} {f : Addr} (X : K.In h) (G : h.Ns mainGlobals mg) (hfa : mg ("law" : Str) = some (.ref f)) (c : obsX fa fn ckX K = He.valD fn) :
    ∃ fd : FuncData, (∀ (s : Shared) (v : Value), BindsTo s fd ⟨[v], []⟩ [("_law_script", v)]) ∧ ∀ base : Heap, K.In base → base.Ns mainGlobals mg → FnOk P w K mg base (L2.CX P w) 179 f fd ["_law_script"] (spOf ⟨P, w, K, fun i => He.ga K (exNm i)⟩ 1 m_law) := by
  have cd := saysX_d c
  obtain ⟨fd, F⟩ := cd.def_ 56 (d := ⟨("law", none), "law", "law", defArgs (top 69), defBody (top 69), defScope (top 69), [], []⟩) rfl
  have e := hfa.symm.trans (He.glo_ok X G (cd.fact 89 (f := .glo "law") rfl))
  cases e
  have b := FunD.bindsA (ps := ["_law_script"]) F fun _ _ _ _ _ _ us hl => match us, hl with | [_], _ => rfl
  exact ⟨fd, fun s v => b s [v] rfl, fun base _ Gb => fn_law (G := ⟨P, w, K, mg, base, fun i => He.ga K (exNm i)⟩) (ev X G cd (saysX_ck c) base) F⟩
end Gn

set_option Elab.async false
set_option linter.all false
set_option maxRecDepth 100000
set_option maxHeartbeats 0
open PySem PySem.W PySem.Calls PyProof.Rows
theorem PySem.Challenge.cw_dealings_k11_refused_holds : PySem.Challenge.rw_dealings_k11_refused.Holds := by
  w_on; o_law
  refine HandSHeadRun.head_any (r := OpenLaw.row PySem.Challenge.rw_dealings_k11_refused) (q := view (OpenLaw.row PySem.Challenge.rw_dealings_k11_refused).prog [69]) (H := Gn.hk) (ob := Gn.ob) (M := 6000) (loose := Gn.loose) (d := HandSHeadRun.topDef (OpenLaw.row PySem.Challenge.rw_dealings_k11_refused).prog 69) (kwd := []) Gn.ob_eq
    (by kernel_rfl) (fun s => by kernel_rfl) Gn.run (by kernel_rfl) (by kernel_rfl) (by kernel_rfl) (by rfl) (by first | assumption | decide +kernel) (by decide +kernel) ⟨rfl, rfl, rfl, rfl, rfl, by decide +kernel⟩ ?hw ?hc
  case hw => w_witness2
  case hc =>
    refine L2.walk_ofE (l := PySem.Challenge.rw_dealings_k11_refused) (n := 63) (k := 179) (x := "_law_script") (CX := L2.CX0) rfl (by decide) (by kernel_rfl) ⟨rfl, by decide, by decide⟩ ?F (fun _ _ _ _ z => z)
    intro w mg fa h Y G hmg0
    obtain ⟨K, KX, c⟩ := Y
    have hmg : mg ("law" : PySem.Str) = some (.ref fa) := by
      have e : (HandSHeadRun.topDef (OpenLaw.row PySem.Challenge.rw_dealings_k11_refused).prog 69).name = ("law" : PySem.Str) := by kernel_rfl
      rw [← e]
      exact hmg0
    obtain ⟨fd, hb, hF⟩ := Gn.facts (P := (PySem.Challenge.rw_dealings_k11_refused).prog) (w := w) KX G hmg c
    exact ⟨K, fd, Gn.spL K, KX, hb, fun H a ns hl _ hS => ⟨a, ns, rfl, hS, fun _ => rfl⟩, fun base hK hN => Gn.fn_end (hF base hK hN) Gn.m_law_true⟩

