import PyProof.Rows.All
import KE.KStateDown
import Lean
import HandS.ForMost
import HandS.More
import HandS.WordsExc
import HandS.Defaults
import HandS.Head0
import HandS.Head1
import HandS.Head2
import HandS.HeadEnd
import HandS.HeadHook1
import HandS.HeadHook2
import HandS.HeadHook4
import HandS.EndBits
import PySem.Challenge.RW_windsuntold_k98_main_across_whole_maps_a
import Wide.All
import OpenK.AllK
import Wide.FinOn
import HandS.Exc
import HandS.TryOnly
import HandS.IsInst
import HandS.Flow
import HandS.Style
import HandS.TupAny
import HandS.Wide
import HandS.Deep
import HandS.Zip
import HandS.Iter
import HandS.Small
import HandS.ExcOwn
import HandS.Star
import HandS.Dict
import HandS.Codes
import KE.GoesEnum
import KE.GoesMore
import KE.KSortTupG
import KE.KDictSum
import HandS.Conv
import HandS.TupSets
set_option autoImplicit true
set_option Elab.async false
set_option linter.all false
set_option maxRecDepth 100000
set_option maxHeartbeats 0
namespace Wk
open PySem
def top (i : Nat) : Stmt := PySem.Challenge.pw_windsuntold_k98_main_across_whole_maps_a.main.body.getD i (.Pass ⟨0, 0, 0, 0⟩)
end Wk
namespace Hd
open PySem PySem.Spec PyProof.Rows L2 RZ Wk
abbrev dd (i : Nat) (x : Str) : He.DefD := ⟨(x, none), x, x, defArgs (top i), defBody (top i), defScope (top i), [], []⟩
def fn : List He.DefD := ([dd 5 "tupled", dd 6 "is_number", dd 7 "is_count", dd 8 "is_below", dd 9 "is_tuple_of", dd 10 "are_numbers", dd 11 "told", dd 12 "sure_number", dd 18 "shared", dd 19 "made", dd 20 "is_fraction", dd 21 "sure_fraction", dd 22 "sure_not_nil", dd 23 "fraction", dd 24 "add", dd 25 "take", dd 26 "multiply", dd 27 "divide", dd 28 "opposite", dd 29 "plus", dd 30 "less", dd 31 "times", dd 32 "over", dd 33 "prime_so", dd 34 "is_prime", dd 35 "sure_prime", dd 36 "inverse_rest", dd 37 "rest_over", dd 38 "rest_of", dd 42 "is_word"] : List He.DefD) ++ ([dd 43 "sure_word", dd 44 "is_two", dd 45 "sure_two", dd 50 "is_map", dd 51 "sure_map", dd 52 "are_maps", dd 53 "sure_maps", dd 54 "behind", dd 55 "undone_map", dd 56 "led_by", dd 57 "of_word", dd 58 "told_letters", dd 59 "map_row", dd 60 "map_back", dd 61 "often_done", dd 62 "map_often", dd 63 "led", dd 64 "kept_place", dd 65 "kept_point", dd 66 "word_map", dd 67 "map_between", dd 68 "turned_map", dd 69 "maps_turned", dd 73 "fits_rest", dd 74 "is_rest_map", dd 75 "sure_rest_map", dd 76 "sure_rest_maps", dd 77 "sure_rest", dd 78 "rest_behind", dd 79 "rest_undone"] : List He.DefD) ++ ([dd 80 "rest_row_in", dd 81 "rest_row", dd 82 "rest_back", dd 83 "rest_often_in", dd 84 "rest_often", dd 85 "rest_led", dd 86 "rest_word_in", dd 87 "rest_word", dd 88 "home_in", dd 89 "rest_times_home", dd 90 "rest_kept", dd 91 "rests_of", dd 92 "rest_map_between", dd 93 "rest_maps_turned", dd 94 "do_rest_maps_exchange", dd 96 "are_lot", dd 97 "sure_lot", dd 98 "maps_gap_in", dd 99 "maps_gap", dd 100 "turned_in", dd 101 "lot_turned", dd 104 "step_from", dd 105 "walk_in", dd 106 "flow_in", dd 108 "flow_folded", dd 109 "alike_by_rests", dd 111 "_law_box", dd 112 "_law_take", dd 113 "_law_cells", dd 114 "_law_of"] : List He.DefD) ++ ([dd 115 "_law_same", dd 116 "_law_gcd", dd 117 "_law_fr", dd 118 "_law_map", dd 119 "_law_maps", dd 120 "_law_letter", dd 121 "_law_word", dd 122 "_law_rest_back", dd 123 "_law_rest_two", dd 124 "_law_rest_undo", dd 125 "_law_rest_led", dd 126 "_law_rest", dd 127 "_law_rests", dd 128 "_law_heard", dd 129 "_law_numbers_right", dd 130 "_law_maps_right", dd 131 "_law_between_right", dd 132 "_law_turned_right", dd 133 "law"] : List He.DefD)
def fa : List He.Fa := ([.glo "tupled", .glo "is_number", .glo "is_count", .glo "is_below", .glo "is_tuple_of", .glo "are_numbers", .glo "told", .glo "sure_number", .glo "shared", .glo "made", .glo "is_fraction", .glo "sure_fraction", .glo "sure_not_nil", .glo "fraction", .glo "add", .glo "take", .glo "multiply", .glo "divide", .glo "opposite", .glo "plus", .glo "less", .glo "times", .glo "over", .glo "prime_so", .glo "is_prime", .glo "sure_prime", .glo "inverse_rest", .glo "rest_over", .glo "rest_of", .glo "is_word"] : List He.Fa) ++ ([.glo "sure_word", .glo "is_two", .glo "sure_two", .glo "is_map", .glo "sure_map", .glo "are_maps", .glo "sure_maps", .glo "behind", .glo "undone_map", .glo "led_by", .glo "of_word", .glo "told_letters", .glo "map_row", .glo "map_back", .glo "often_done", .glo "map_often", .glo "led", .glo "kept_place", .glo "kept_point", .glo "word_map", .glo "map_between", .glo "turned_map", .glo "maps_turned", .glo "fits_rest", .glo "is_rest_map", .glo "sure_rest_map", .glo "sure_rest_maps", .glo "sure_rest", .glo "rest_behind", .glo "rest_undone"] : List He.Fa) ++ ([.glo "rest_row_in", .glo "rest_row", .glo "rest_back", .glo "rest_often_in", .glo "rest_often", .glo "rest_led", .glo "rest_word_in", .glo "rest_word", .glo "home_in", .glo "rest_times_home", .glo "rest_kept", .glo "rests_of", .glo "rest_map_between", .glo "rest_maps_turned", .glo "do_rest_maps_exchange", .glo "are_lot", .glo "sure_lot", .glo "maps_gap_in", .glo "maps_gap", .glo "turned_in", .glo "lot_turned", .glo "step_from", .glo "walk_in", .glo "flow_in", .glo "flow_folded", .glo "alike_by_rests", .glo "_law_box", .glo "_law_take", .glo "_law_cells", .glo "_law_of"] : List He.Fa) ++ ([.glo "_law_same", .glo "_law_gcd", .glo "_law_fr", .glo "_law_map", .glo "_law_maps", .glo "_law_letter", .glo "_law_word", .glo "_law_rest_back", .glo "_law_rest_two", .glo "_law_rest_undo", .glo "_law_rest_led", .glo "_law_rest", .glo "_law_rests", .glo "_law_heard", .glo "_law_numbers_right", .glo "_law_maps_right", .glo "_law_between_right", .glo "_law_turned_right", .glo "law", .free "abs", .free "all", .free "any", .free "bool", .free "dict", .free "enumerate", .free "int", .free "isinstance", .free "len", .free "list", .free "max"] : List He.Fa) ++ ([.free "min", .free "range", .free "set", .free "sorted", .free "str", .free "sum", .free "tuple", .free "zip", .int "FIRST_PRIME" 2, .int "PAIR_numbers" 2, .int "LETTERS" 3, .int "TWO" 2, .int "PAIR_maps" 2, .int "THREE_maps" 3, .int "PAIR_restmaps" 2, .int "THREE_restmaps" 3, .glo "NIL", .glo "ONE", .glo "STILL", .glo "HOME", .glo "NoPaper", .exc "NoPaper", .exm "NoPaper" "NoPaper" true] : List He.Fa)
def tups : List (Str × List He.Dv) := [("NIL", [.int 0, .int 1]), ("ONE", [.int 1, .int 1]), ("STILL", [.glo "ONE", .glo "NIL"]), ("HOME", [.int 0, .int 0])]
def loose : List Str := (["NoLetter", "Unfit", "NoPaper", "FIRST_PRIME", "NIL", "ONE", "PAIR_numbers", "LETTERS", "TWO", "PAIR_maps", "STILL", "THREE_maps", "PAIR_restmaps", "THREE_restmaps", "HOME", "tupled", "is_number", "is_count", "is_below", "is_tuple_of", "are_numbers", "told", "sure_number", "shared", "made", "is_fraction", "sure_fraction", "sure_not_nil", "fraction", "add"] : List Str) ++ (["take", "multiply", "divide", "opposite", "plus", "less", "times", "over", "prime_so", "is_prime", "sure_prime", "inverse_rest", "rest_over", "rest_of", "is_word", "sure_word", "is_two", "sure_two", "is_map", "sure_map", "are_maps", "sure_maps", "behind", "undone_map", "led_by", "of_word", "told_letters", "map_row", "map_back", "often_done"] : List Str) ++ (["map_often", "led", "kept_place", "kept_point", "word_map", "map_between", "turned_map", "maps_turned", "fits_rest", "is_rest_map", "sure_rest_map", "sure_rest_maps", "sure_rest", "rest_behind", "rest_undone", "rest_row_in", "rest_row", "rest_back", "rest_often_in", "rest_often", "rest_led", "rest_word_in", "rest_word", "home_in", "rest_times_home", "rest_kept", "rests_of", "rest_map_between", "rest_maps_turned", "do_rest_maps_exchange"] : List Str) ++ (["are_lot", "sure_lot", "maps_gap_in", "maps_gap", "turned_in", "lot_turned", "step_from", "walk_in", "flow_in", "flow_folded", "alike_by_rests", "_law_box", "_law_take", "_law_cells", "_law_of", "_law_same", "_law_gcd", "_law_fr", "_law_map", "_law_maps", "_law_letter", "_law_word", "_law_rest_back", "_law_rest_two", "_law_rest_undo", "_law_rest_led", "_law_rest", "_law_rests", "_law_heard", "_law_numbers_right"] : List Str) ++ (["_law_maps_right", "_law_between_right", "_law_turned_right"] : List Str)
abbrev R : PySem.W.OpenRow := PySem.W.OpenLaw.row PySem.Challenge.rw_windsuntold_k98_main_across_whole_maps_a
abbrev view : Program := PySem.W.view R.prog [133]
def obsX (K : PySem.W.Frag) : He.AlD × Bool := (He.obsD fa fn K, tups.all fun t => He.tupB K t.1 t.2)
def kOf (g : Addr → Option Obj) (n : Nat) : PySem.W.Frag := He.frG g (List.range n)
def SaysX (K : PySem.W.Frag) : Prop := obsX K = (He.valD fn, true)
def hk : PySem.W.Hook where
  α := He.AlD × Bool
  obs := fun s => obsX (kOf s.heap.get? s.heap.objs.size)
  val := fun _ => (He.valD fn, true)
  says := fun _ h => ∃ K : PySem.W.Frag, K.In h ∧ SaysX K
  of := fun _ _ e => ⟨_, He.frG_in, e⟩
  keeps := fun _ _ _ ⟨K, hK, c⟩ k => ⟨K, PySem.W.Frag.In.keeps hK k, c⟩
def ob (s : PySem.W.SharedT) : He.AlD × Bool := obsX (kOf (HandSHeadRun.getT s) s.n)
theorem ob_eq (s : PySem.W.SharedT) : ob s = hk.obs s.abs := by
  have e : HandSHeadRun.getT s = s.abs.heap.get? := funext (HandSHeadRun.getT_eq s)
  have e2 : s.abs.heap.objs.size = s.n := PySem.W.absHeap_size s.tree s.n s.life
  show obsX (kOf (HandSHeadRun.getT s) s.n) = obsX (kOf s.abs.heap.get? s.abs.heap.objs.size)
  rw [e, e2]
theorem run (w : World) : HandSHeadRun.RunEq R view hk ob 6000 loose w := by
  intro os
  kernel_rfl
end Hd
namespace HdP
open PySem PySem.W PySem.Calls PyProof.Rows
abbrev dd : DefRec := HandSHeadRun.topDef (OpenLaw.row PySem.Challenge.rw_windsuntold_k98_main_across_whole_maps_a).prog 133
theorem t1 : opening Hd.R.prog = plainProg Hd.R.prog.main.scope.names := by kernel_rfl
theorem t2 : ∀ s, fenceModules? Hd.R.prog s = some s := fun s => by kernel_rfl
theorem t3 : defOf Hd.view Hd.R.name = some (dd, []) := by kernel_rfl
theorem t4 : Hd.R.prog.theDef Hd.R.name = some (dd.params, dd.body, dd.scope) := by kernel_rfl
theorem t5 : kwWritten? dd.params.kwonlyargs dd.params.kw_defaults = some [] := by kernel_rfl
theorem t6 : (!Hd.R.writes || Hd.R.records.isEmpty) = true := by rfl
theorem t7 : Hd.R.wellSaid = true := by first | assumption | decide +kernel
theorem t8 : (chainsOk Hd.view && opensWell Hd.R.prog && (frees Hd.R.toRowW && Hd.R.within.isEmpty)) = true := by decide +kernel
theorem t9 : Hd.R.prog.bare := ⟨rfl, rfl, rfl, rfl, rfl, by decide +kernel⟩
theorem t10 : dd.params.defaults = [] := by kernel_rfl
theorem t11 : dd.name = ("law" : PySem.Str) := by kernel_rfl
end HdP


set_option Elab.async false
set_option autoImplicit false
set_option linter.all false
set_option maxRecDepth 100000
set_option maxHeartbeats 2000000
namespace Dt
open PySem PySem.Spec PyProof.Rows L2

/-! ### data: values by content; lists and dicts by number -/
inductive D where
  | non | bl (b : Bool) | int (i : Int) | str (s : Str) | tup (xs : List D) | rol (xs : List D) | ref (k : Nat)
inductive O where
  | lst (xs : List D) | dT (kvs : List (List Key × D)) | dK (kvs : List (Key × D))
abbrev DH := List O
abbrev Ev := List (Option D)

/-- a tuple that may be a dict's key: it is no module's constant -/
def keyI : D → Bool
  | .int _ => true
  | _ => false
def keyD (xs : List D) : Bool := xs.length == 3 && xs.all keyI
def SqX (K : PySem.W.Frag) (H : Hp) (xs : List D) (a : Addr) (vs : List V) : Prop := SqT K H a vs ∧ (keyD xs = true → H a = some (.tup vs))
theorem SqX.of {K : PySem.W.Frag} {H : Hp} {xs : List D} {a : Addr} {vs : List V} (e : H a = some (.tup vs)) : SqX K H xs a vs := ⟨SqT.of e, fun _ => e⟩
/-- a list that is only read -/
def SqRo (K : PySem.W.Frag) (H : Hp) (a : Addr) (vs : List V) : Prop := (∃ o, H a = some (.frz o (.lst vs))) ∨
  ∃ (o : Obj) (its : Array Value) (n : Nat), K.lookup a = some o ∧ o.cls = .type "list" ∧ o.dict = none ∧ o.data = .seq its n ∧ its.size ≤ sizeLine ∧ Vals vs its.toList
theorem SqRo.sq {K : PySem.W.Frag} {H : Hp} {a : Addr} {vs : List V} (s : SqRo K H a vs) : SqL K H a vs := s.imp (fun ⟨o, e⟩ => .inr ⟨o, e⟩) (fun z => z)
section
variable (K : PySem.W.Frag) (H : Hp) (m : List Addr)
mutual
def RepD : D → V → Prop
  | .non, v => v = .non
  | .bl b, v => v = .bl b
  | .int i, v => v = .int i
  | .str s, v => v = .str s
  | .tup xs, v => ∃ a vs, v = .ref a ∧ SqX K H xs a vs ∧ RepL xs vs
  | .rol xs, v => ∃ a vs, v = .ref a ∧ SqRo K H a vs ∧ RepL xs vs
  | .ref k, v => ∃ a, v = .ref a ∧ m[k]? = some a
def RepL : List D → List V → Prop
  | [], vs => vs = []
  | x :: xs, vs => ∃ v w, vs = v :: w ∧ RepD x v ∧ RepL xs w
end
def RepKV {κ : Type} : List (κ × D) → List (κ × V) → Prop
  | [], vs => vs = []
  | x :: xs, vs => ∃ v w, vs = (x.1, v) :: w ∧ RepD K H m x.2 v ∧ RepKV xs w
def ObjR (a : Addr) : O → Prop
  | .lst xs => ∃ vs, H a = some (.lst vs) ∧ RepL K H m xs vs
  | .dT kvs => ∃ vs, H a = some (.dT vs) ∧ RepKV K H m kvs vs
  | .dK kvs => ∃ vs, H a = some (.dK vs) ∧ RepKV K H m kvs vs
structure Wd (h : DH) : Prop where
  len : m.length = h.length
  nd : m.Nodup
  at_ : ∀ (k : Nat) (a : Addr) (o : O), m[k]? = some a → h[k]? = some o → ObjR K H m a o
def EnvR (ρ : Ev) (σ : L2.St) : Prop := ρ.length = σ.length ∧ ∀ (i : Nat) (d : D), ρ[i]? = some (some d) → ∃ v, σ[i]? = some (some v) ∧ RepD K H m d v
end

/-- from one heap to a later one: tracked numbers stay, all else that was tracked stays, what is numbered anew is new -/
structure Go (H : Hp) (m : List Addr) (H' : Hp) (m' : List Addr) : Prop where
  pre : ∃ t, m' = m ++ t
  fr : ∀ a o, H a = some o → a ∉ m → H' a = some o
  new : ∀ a ∈ m', a ∉ m → H a = none

theorem Go.refl {H : Hp} {m : List Addr} : Go H m H m := ⟨⟨[], by simp⟩, fun _ _ e _ => e, fun a h n => absurd h n⟩
theorem Go.trans {H H1 H2 : Hp} {m m1 m2 : List Addr} (g : Go H m H1 m1) (g' : Go H1 m1 H2 m2) : Go H m H2 m2 := by
  obtain ⟨t, e⟩ := g.pre
  obtain ⟨t', e'⟩ := g'.pre
  refine ⟨⟨t ++ t', by rw [e', e, List.append_assoc]⟩, fun a o q n => ?_, fun a q n => ?_⟩
  · refine g'.fr a o (g.fr a o q n) fun z => ?_
    have := g.new a z n
    rw [q] at this
    cases this
  · by_cases z : a ∈ m1
    · exact g.new a z n
    · have h1 := g'.new a q z
      cases e2 : H a with
      | none => rfl
      | some o =>
        rw [g.fr a o e2 n] at h1
        cases h1
theorem Go.ix {H H' : Hp} {m m' : List Addr} (g : Go H m H' m') {k : Nat} {a : Addr} (e : m[k]? = some a) : m'[k]? = some a := by
  obtain ⟨t, rfl⟩ := g.pre
  rw [List.getElem?_append_left (List.getElem?_eq_some_iff.mp e).1]
  exact e
/-- a new object that is not numbered -/
theorem Go.lay {H : Hp} {m : List Addr} {p : Addr} {o : HO} (hp : H p = none) : Go H m (upd H p o) m :=
  ⟨⟨[], by simp⟩, fun a o' e _ => by rw [upd_ne (ne_of_none e hp)]; exact e, fun a h n => absurd h n⟩

section
variable {K : PySem.W.Frag} {H H' : Hp} {m m' : List Addr} {h : DH}
/-- a numbered object is no tuple -/
theorem Wd.notup (w : Wd K H m h) {a : Addr} (ha : a ∈ m) {xs : List V} : ¬ Rd H a (.tup xs) := by
  intro r
  obtain ⟨k, hk, e⟩ := List.mem_iff_getElem.mp ha
  have e1 : m[k]? = some a := by rw [List.getElem?_eq_getElem hk, e]
  have hk2 : k < h.length := by rw [← w.len]; exact hk
  have e2 : h[k]? = some h[k] := List.getElem?_eq_getElem hk2
  have q := w.at_ k a _ e1 e2
  have no : ∀ u : HO, H a = some u → (u = .tup xs ∨ ∃ o, u = .frz o (.tup xs)) → False := by
    intro u hu hc
    cases ho : h[k] with
    | lst ys => rw [ho] at q; obtain ⟨vs, z, _⟩ := q; rw [hu] at z; cases z; rcases hc with hc | ⟨_, hc⟩ <;> cases hc
    | dT ys => rw [ho] at q; obtain ⟨vs, z, _⟩ := q; rw [hu] at z; cases z; rcases hc with hc | ⟨_, hc⟩ <;> cases hc
    | dK ys => rw [ho] at q; obtain ⟨vs, z, _⟩ := q; rw [hu] at z; cases z; rcases hc with hc | ⟨_, hc⟩ <;> cases hc
  rcases r with r | ⟨o, r⟩
  · exact no _ r (.inl rfl)
  · exact no _ r (.inr ⟨o, rfl⟩)
theorem Wd.nofrz (w : Wd K H m h) {a : Addr} (ha : a ∈ m) {o : Obj} {u : HO} : H a ≠ some (.frz o u) := by
  intro r
  obtain ⟨k, hk, e⟩ := List.mem_iff_getElem.mp ha
  have e1 : m[k]? = some a := by rw [List.getElem?_eq_getElem hk, e]
  have hk2 : k < h.length := by rw [← w.len]; exact hk
  have q := w.at_ k a _ e1 (List.getElem?_eq_getElem hk2)
  cases ho : h[k] with
  | lst ys => rw [ho] at q; obtain ⟨vs, z, _⟩ := q; rw [r] at z; cases z
  | dT ys => rw [ho] at q; obtain ⟨vs, z, _⟩ := q; rw [r] at z; cases z
  | dK ys => rw [ho] at q; obtain ⟨vs, z, _⟩ := q; rw [r] at z; cases z
theorem Go.ro (g : Go H m H' m') (w : Wd K H m h) {a : Addr} {vs : List V} (s : SqRo K H a vs) : SqRo K H' a vs :=
  s.imp (fun ⟨o, e⟩ => ⟨o, g.fr a _ e fun z => w.nofrz z e⟩) fun z => z
theorem Go.tup (g : Go H m H' m') (w : Wd K H m h) {a : Addr} {xs : List V} (s : SqT K H a xs) : SqT K H' a xs := by
  rcases s with r | s
  · have na : a ∉ m := fun z => w.notup z r
    rcases r with r | ⟨o, r⟩
    · exact .inl (.inl (g.fr a _ r na))
    · exact .inl (.inr ⟨o, g.fr a _ r na⟩)
  · exact .inr s
theorem Go.tupX (g : Go H m H' m') (w : Wd K H m h) {a : Addr} {ds : List D} {xs : List V} (s : SqX K H ds a xs) : SqX K H' ds a xs :=
  ⟨g.tup w s.1, fun k => g.fr a _ (s.2 k) fun z => w.notup z (.inl (s.2 k))⟩
mutual
theorem RepD.go (g : Go H m H' m') (w : Wd K H m h) : ∀ (d : D) (v : V), RepD K H m d v → RepD K H' m' d v
  | .non, _, r => r
  | .bl _, _, r => r
  | .int _, _, r => r
  | .str _, _, r => r
  | .tup xs, v, r => by
    obtain ⟨a, vs, e, s, q⟩ := r
    exact ⟨a, vs, e, g.tupX w s, RepL.go g w xs vs q⟩
  | .rol xs, v, r => by
    obtain ⟨a, vs, e, s, q⟩ := r
    exact ⟨a, vs, e, g.ro w s, RepL.go g w xs vs q⟩
  | .ref k, v, r => by
    obtain ⟨a, e, q⟩ := r
    exact ⟨a, e, g.ix q⟩
theorem RepL.go (g : Go H m H' m') (w : Wd K H m h) : ∀ (ds : List D) (vs : List V), RepL K H m ds vs → RepL K H' m' ds vs
  | [], _, r => r
  | x :: xs, vs, r => by
    obtain ⟨v, w', e, q1, q2⟩ := r
    exact ⟨v, w', e, RepD.go g w x v q1, RepL.go g w xs w' q2⟩
end
theorem RepKV.go {κ : Type} (g : Go H m H' m') (w : Wd K H m h) : ∀ (ds : List (κ × D)) (vs : List (κ × V)), RepKV K H m ds vs → RepKV K H' m' ds vs
  | [], _, r => r
  | x :: xs, vs, r => by
    obtain ⟨v, w', e, q1, q2⟩ := r
    exact ⟨v, w', e, RepD.go g w x.2 v q1, RepKV.go g w xs w' q2⟩
theorem ObjR.go (g : Go H m H' m') (w : Wd K H m h) {a : Addr} {o : O} (e : H' a = H a) (r : ObjR K H m a o) : ObjR K H' m' a o := by
  cases o with
  | lst xs => obtain ⟨vs, q, r⟩ := r; exact ⟨vs, by rw [e]; exact q, RepL.go g w _ _ r⟩
  | dT xs => obtain ⟨vs, q, r⟩ := r; exact ⟨vs, by rw [e]; exact q, RepKV.go g w _ _ r⟩
  | dK xs => obtain ⟨vs, q, r⟩ := r; exact ⟨vs, by rw [e]; exact q, RepKV.go g w _ _ r⟩
theorem EnvR.go (g : Go H m H' m') (w : Wd K H m h) {ρ : Ev} {σ : L2.St} (r : EnvR K H m ρ σ) : EnvR K H' m' ρ σ :=
  ⟨r.1, fun i d e => let ⟨v, q, z⟩ := r.2 i d e; ⟨v, q, RepD.go g w d v z⟩⟩
theorem Wd.some_ (w : Wd K H m h) {a : Addr} (ha : a ∈ m) : ∃ o, H a = some o := by
  obtain ⟨k, hk, e⟩ := List.mem_iff_getElem.mp ha
  have e1 : m[k]? = some a := by rw [List.getElem?_eq_getElem hk, e]
  have hk2 : k < h.length := by rw [← w.len]; exact hk
  have q := w.at_ k a _ e1 (List.getElem?_eq_getElem hk2)
  cases ho : h[k] with
  | lst ys => rw [ho] at q; obtain ⟨vs, z, _⟩ := q; exact ⟨_, z⟩
  | dT ys => rw [ho] at q; obtain ⟨vs, z, _⟩ := q; exact ⟨_, z⟩
  | dK ys => rw [ho] at q; obtain ⟨vs, z, _⟩ := q; exact ⟨_, z⟩
/-- nothing numbered has changed -/
theorem Wd.go (w : Wd K H m h) (g : Go H m H' m) (k : ∀ a ∈ m, H' a = H a) : Wd K H' m h :=
  ⟨w.len, w.nd, fun i a o e1 e2 => (w.at_ i a o e1 e2).go g w (k a (List.mem_of_getElem? e1))⟩
/-- a new object that is not numbered -/
theorem Wd.lay (w : Wd K H m h) {p : Addr} {o : HO} (hp : H p = none) : Wd K (upd H p o) m h :=
  w.go (Go.lay hp) fun a ha => by
    obtain ⟨u, e⟩ := w.some_ ha
    rw [upd_ne (ne_of_none e hp)]
/-- a new object, numbered -/
theorem Go.num {p : Addr} {o : HO} (hp : H p = none) : Go H m (upd H p o) (m ++ [p]) :=
  ⟨⟨[p], rfl⟩, fun a o' e _ => by rw [upd_ne (ne_of_none e hp)]; exact e, fun a q n => by
    rcases List.mem_append.mp q with z | z
    · exact absurd z n
    · have : a = p := by simpa using z
      rw [this]; exact hp⟩
theorem Wd.num (w : Wd K H m h) {p : Addr} {u : HO} {o : O} (hp : H p = none) (r : ObjR K (upd H p u) (m ++ [p]) p o) : Wd K (upd H p u) (m ++ [p]) (h ++ [o]) := by
  have np : p ∉ m := fun z => by
    obtain ⟨u, e⟩ := w.some_ z
    rw [hp] at e
    cases e
  refine ⟨by simp [w.len], ?_, fun k a o' e1 e2 => ?_⟩
  · rw [List.nodup_append]
    refine ⟨w.nd, by simp, fun a ha b hb => ?_⟩
    have : b = p := by simpa using hb
    subst this
    intro z
    subst z
    exact np ha
  · by_cases hk : k < m.length
    · have e1' : m[k]? = some a := by rw [List.getElem?_append_left hk] at e1; exact e1
      have e2' : h[k]? = some o' := by rw [List.getElem?_append_left (by rw [← w.len]; exact hk)] at e2; exact e2
      have ha := List.mem_of_getElem? e1'
      obtain ⟨u', e⟩ := w.some_ ha
      exact (w.at_ k a o' e1' e2').go (Go.num hp) w (upd_ne (ne_of_none e hp))
    · have hk' : m.length ≤ k := Nat.le_of_not_lt hk
      have hl : k < (m ++ [p]).length := (List.getElem?_eq_some_iff.mp e1).1
      have : k = m.length := by simp at hl; omega
      subst this
      have e1' : a = p := by simpa using e1.symm
      have e2' : o' = o := by rw [w.len] at e2; simpa using e2.symm
      subst e1' e2'
      exact r
/-- a numbered object is written -/
theorem Go.put {a : Addr} {u : HO} (ha : a ∈ m) : Go H m (upd H a u) m :=
  ⟨⟨[], by simp⟩, fun b o e n => by rw [upd_ne (fun z => n (by rw [z]; exact ha))]; exact e, fun b q n => absurd q n⟩
theorem Wd.put (w : Wd K H m h) {k : Nat} {a : Addr} {u : HO} {o : O} (ha : m[k]? = some a) (r : ObjR K (upd H a u) m a o) : Wd K (upd H a u) m (h.set k o) := by
  have hk : k < m.length := (List.getElem?_eq_some_iff.mp ha).1
  have hk2 : k < h.length := by rw [← w.len]; exact hk
  refine ⟨by simp [w.len], w.nd, fun j b o' e1 e2 => ?_⟩
  by_cases hj : j = k
  · subst hj
    rw [ha] at e1
    cases e1
    rw [List.getElem?_set_self hk2] at e2
    cases e2
    exact r
  · rw [List.getElem?_set_ne (Ne.symm hj)] at e2
    have hb : b ≠ a := fun z => by
      subst z
      have h1 := (List.getElem?_eq_some_iff.mp e1)
      have h2 := (List.getElem?_eq_some_iff.mp ha)
      obtain ⟨l1, q1⟩ := h1
      obtain ⟨l2, q2⟩ := h2
      exact hj ((List.getElem_inj w.nd).mp (q1.trans q2.symm))
    exact (w.at_ j b o' e1 e2).go (Go.put (List.mem_of_getElem? ha)) w (upd_ne hb)
theorem RepL.length : ∀ {ds : List D} {vs : List V}, RepL K H m ds vs → vs.length = ds.length
  | [], _, r => by cases (show _ = [] from r); rfl
  | x :: xs, vs, r => by
    obtain ⟨v, w, rfl, _, q⟩ := r
    simp [RepL.length q]
theorem RepL.get : ∀ {ds : List D} {vs : List V} {i : Nat} {d : D}, RepL K H m ds vs → ds[i]? = some d → ∃ v, vs[i]? = some v ∧ RepD K H m d v
  | [], _, _, _, _, e => by simp at e
  | x :: xs, vs, 0, d, r, e => by
    obtain ⟨v, w, rfl, q, _⟩ := r
    simp at e
    subst e
    exact ⟨v, rfl, q⟩
  | x :: xs, vs, i + 1, d, r, e => by
    obtain ⟨v, w, rfl, _, q⟩ := r
    obtain ⟨v', e1, e2⟩ := RepL.get (i := i) q (by simpa using e)
    exact ⟨v', by simpa using e1, e2⟩
theorem RepL.get' : ∀ {ds : List D} {vs : List V} {i : Nat} {v : V}, RepL K H m ds vs → vs[i]? = some v → ∃ d, ds[i]? = some d ∧ RepD K H m d v
  | [], _, _, _, r, e => by cases (show _ = [] from r); simp at e
  | x :: xs, vs, 0, v, r, e => by
    obtain ⟨v', w, rfl, q, _⟩ := r
    simp at e
    subst e
    exact ⟨x, rfl, q⟩
  | x :: xs, vs, i + 1, v, r, e => by
    obtain ⟨v', w, rfl, _, q⟩ := r
    obtain ⟨d, e1, e2⟩ := RepL.get' (i := i) q (by simpa using e)
    exact ⟨d, by simpa using e1, e2⟩
theorem RepL.app : ∀ {ds es : List D} {vs ws : List V}, RepL K H m ds vs → RepL K H m es ws → RepL K H m (ds ++ es) (vs ++ ws)
  | [], _, _, _, r, q => by cases (show _ = [] from r); exact q
  | x :: xs, es, vs, ws, r, q => by
    obtain ⟨v, w, rfl, r1, r2⟩ := r
    exact ⟨v, w ++ ws, rfl, r1, RepL.app r2 q⟩
theorem RepL.one {d : D} {v : V} (r : RepD K H m d v) : RepL K H m [d] [v] := ⟨v, [], rfl, r, rfl⟩
theorem RepL.set : ∀ {ds : List D} {vs : List V} {i : Nat} {d : D} {v : V}, RepL K H m ds vs → RepD K H m d v → RepL K H m (ds.set i d) (vs.set i v)
  | [], _, _, _, _, r, _ => by cases (show _ = [] from r); exact rfl
  | x :: xs, vs, 0, d, v, r, q => by
    obtain ⟨v', w, rfl, r1, r2⟩ := r
    exact ⟨v, w, rfl, q, r2⟩
  | x :: xs, vs, i + 1, d, v, r, q => by
    obtain ⟨v', w, rfl, r1, r2⟩ := r
    exact ⟨v', _, rfl, r1, RepL.set r2 q⟩
theorem RepL.drop : ∀ {ds : List D} {vs : List V} (n : Nat), RepL K H m ds vs → RepL K H m (ds.drop n) (vs.drop n)
  | ds, vs, 0, r => r
  | [], vs, n + 1, r => by cases (show _ = [] from r); exact rfl
  | x :: xs, vs, n + 1, r => by
    obtain ⟨v, w, rfl, _, r2⟩ := r
    exact RepL.drop n r2
theorem RepL.take : ∀ {ds : List D} {vs : List V} (n : Nat), RepL K H m ds vs → RepL K H m (ds.take n) (vs.take n)
  | ds, vs, 0, r => by simp [RepL]
  | [], vs, n + 1, r => by cases (show _ = [] from r); exact rfl
  | x :: xs, vs, n + 1, r => by
    obtain ⟨v, w, rfl, r1, r2⟩ := r
    exact ⟨v, w.take n, rfl, r1, RepL.take n r2⟩
theorem RepL.rev {ds : List D} {vs : List V} (r : RepL K H m ds vs) : RepL K H m ds.reverse vs.reverse := by
  induction ds generalizing vs with
  | nil => cases (show _ = [] from r); exact rfl
  | cons x xs ih =>
    obtain ⟨v, w, rfl, r1, r2⟩ := r
    rw [List.reverse_cons, List.reverse_cons]
    exact (ih r2).app (.one r1)
theorem RepL.dropLast {ds : List D} {vs : List V} (r : RepL K H m ds vs) : RepL K H m ds.dropLast vs.dropLast := by
  rw [List.dropLast_eq_take, List.dropLast_eq_take, r.length]
  exact r.take _
theorem RepL.ints : ∀ (ns : List Int), RepL K H m (ns.map D.int) (ns.map V.int)
  | [] => rfl
  | n :: ns => ⟨_, _, rfl, rfl, RepL.ints ns⟩
/-- a list by number -/
theorem Wd.lst (w : Wd K H m h) {k : Nat} {a : Addr} {xs : List D} (e1 : m[k]? = some a) (e2 : h[k]? = some (.lst xs)) : ∃ vs, H a = some (.lst vs) ∧ RepL K H m xs vs := w.at_ k a _ e1 e2
theorem EnvR.set {ρ : Ev} {σ : L2.St} {i : Nat} {d : D} {v : V} (r : EnvR K H m ρ σ) (q : RepD K H m d v) : EnvR K H m (ρ.set i (some d)) (σ.set i (some v)) := by
  refine ⟨by simp [r.1], fun j d' e => ?_⟩
  by_cases hj : i = j
  · subst hj
    by_cases hi : i < ρ.length
    · rw [List.getElem?_set_self hi] at e
      cases e
      exact ⟨v, List.getElem?_set_self (by rw [← r.1]; exact hi), q⟩
    · rw [List.getElem?_eq_none (by simpa using hi)] at e
      cases e
  · rw [List.getElem?_set_ne hj] at e
    obtain ⟨v', e1, e2⟩ := r.2 j d' e
    exact ⟨v', by rw [List.getElem?_set_ne hj]; exact e1, e2⟩
def wipeD (ρ : Ev) : List Nat → Ev
  | [] => ρ
  | v :: vs => (wipeD ρ vs).set v none
theorem EnvR.wipe {ρ : Ev} {σ : L2.St} (r : EnvR K H m ρ σ) : ∀ vs : List Nat, EnvR K H m (wipeD ρ vs) (L2.wipe σ vs)
  | [] => r
  | v :: vs => by
    have ih := r.wipe vs
    refine ⟨by simp [wipeD, L2.wipe, ih.1], fun j d e => ?_⟩
    unfold wipeD at e
    by_cases hj : v = j
    · subst hj
      by_cases hv : v < (wipeD ρ vs).length
      · rw [List.getElem?_set_self hv] at e
        cases e
      · rw [List.getElem?_eq_none (by simpa using hv)] at e
        cases e
    · rw [List.getElem?_set_ne hj] at e
      obtain ⟨v', e1, e2⟩ := ih.2 j d e
      exact ⟨v', by unfold L2.wipe; rw [List.getElem?_set_ne hj]; exact e1, e2⟩
end
end Dt

set_option Elab.async false
set_option autoImplicit false
set_option linter.all false
set_option maxRecDepth 100000
set_option maxHeartbeats 2000000
namespace Dt
open PySem PySem.Spec PyProof.Rows L2

/-! ### what code comes to -/
inductive Rs (α : Type) where
  | ok (a : α) | er (c : Str)
abbrev Rh (α : Type) := Option (Rs α × DH)
def bindR {α β : Type} (r : Rh α) (k : α → DH → Rh β) : Rh β := match r with
  | none => none
  | some (.ok a, h) => k a h
  | some (.er c, h) => some (.er c, h)
def ret {α : Type} (a : α) (h : DH) : Rh α := some (.ok a, h)
abbrev DE := Ev → DH → Rh D
abbrev DA := Ev → DH → Rh (List D)
abbrev DB := Ev → DH → Rh Bool

def exV (K : PySem.W.Frag) (c : Str) : Value := .ref (He.ga K c)
def Out {α : Type} (K : PySem.W.Frag) (W : WX) (σ : L2.St) (H : Hp) (m : List Addr) (r : Rh α) (P : α → DH → Hp → List Addr → Prop) : Prop := match r with
  | none => False
  | some (.ok a, h) => ∀ H' m', Go H m H' m' → Wd K H' m' h → P a h H' m'
  | some (.er c, h) => ∀ H' m', Go H m H' m' → Wd K H' m' h → W (exV K c) none σ H'
section
variable {α β : Type} {K : PySem.W.Frag} {W : WX} {σ : L2.St} {H H1 : Hp} {m m1 : List Addr} {r : Rh α} {P P' : α → DH → Hp → List Addr → Prop}
theorem Out.go (g : Go H m H1 m1) (o : Out K W σ H m r P) : Out K W σ H1 m1 r P := by
  unfold Out at *
  split <;> rename_i e
  · simp only at o
  · simp only at o
    exact fun H' m' g' w' => o H' m' (g.trans g') w'
  · simp only at o
    exact fun H' m' g' w' => o H' m' (g.trans g') w'
theorem Out.mono (o : Out K W σ H m r P) (k : ∀ a h' H' m', Go H m H' m' → Wd K H' m' h' → P a h' H' m' → P' a h' H' m') : Out K W σ H m r P' := by
  unfold Out at *
  split <;> rename_i e
  · simp only at o
  · simp only at o
    exact fun H' m' g' w' => k _ _ _ _ g' w' (o H' m' g' w')
  · simp only at o
    exact o
theorem Out.bind {k : α → DH → Rh β} {P : β → DH → Hp → List Addr → Prop} (o : Out K W σ H m (bindR r k) P) : Out K W σ H m r (fun a h1 H1 m1 => Out K W σ H1 m1 (k a h1) P) := by
  unfold bindR at o
  unfold Out
  split <;> rename_i e
  · simp only [Out] at o
  · simp only at o
    exact fun H' m' g' _ => o.go g'
  · simp only [Out] at o
    exact o
theorem Out.ret {a : α} {h : DH} (w : Wd K H m h) (o : Out K W σ H m (ret a h) P) : P a h H m := by
  have o1 : ∀ H' m', Go H m H' m' → Wd K H' m' h → P a h H' m' := o
  exact o1 H m Go.refl w
end

/-! ### judgements -/
section
variable (K : PySem.W.Frag) (W : WX)
def eOf (f : DE) : TE := fun σ H Q => ∃ m ρ h, Wd K H m h ∧ EnvR K H m ρ σ ∧ Out K W σ H m (f ρ h) fun d _ H' m' => ∀ v, RepD K H' m' d v → Q v H'
def aOf (f : DA) : TA := fun σ H Q => ∃ m ρ h, Wd K H m h ∧ EnvR K H m ρ σ ∧ Out K W σ H m (f ρ h) fun ds _ H' m' => ∀ vs, RepL K H' m' ds vs → Q vs H'
def bOf (f : DB) : TT := fun σ H Q => ∃ m ρ h, Wd K H m h ∧ EnvR K H m ρ σ ∧ Out K W σ H m (f ρ h) fun b _ H' _ => Q b H'
end
structure PD (X : Cx) (W : WX) (e : Expr) (f : DE) : Prop where
  pe : PE X e (eOf X.K W f)
structure PDa (X : Cx) (W : WX) (es : List Expr) (f : DA) : Prop where
  pa : PA X es (aOf X.K W f)
structure PDt (X : Cx) (W : WX) (e : Expr) (f : DB) : Prop where
  pt : PT X e (bOf X.K W f)
structure PDw (X : Cx) (W : WX) (e : Expr) (f : DB) : Prop where
  pw : PW X e (bOf X.K W f)
theorem _root_.L2.PE.imp {X : Cx} {e : Expr} {t t' : TE} (h : PE X e t) (k : ∀ σ H Q, t' σ H Q → t σ H Q) : PE X e t' := ⟨fun pins s σ H Q I w => h.run pins s σ H Q I (k σ H Q w)⟩
theorem _root_.L2.PA.imp {X : Cx} {e : List Expr} {t t' : TA} (h : PA X e t) (k : ∀ σ H Q, t' σ H Q → t σ H Q) : PA X e t' := ⟨fun pos pins s σ H Q I w => h.run pos pins s σ H Q I (k σ H Q w)⟩
theorem _root_.L2.PT.imp {X : Cx} {e : Expr} {t t' : TT} (h : PT X e t) (k : ∀ σ H Q, t' σ H Q → t σ H Q) : PT X e t' := ⟨fun pins s σ H Q I w => h.run pins s σ H Q I (k σ H Q w)⟩
theorem _root_.L2.PW.imp {X : Cx} {e : Expr} {t t' : TT} (h : PW X e t) (k : ∀ σ H Q, t' σ H Q → t σ H Q) : PW X e t' := ⟨fun wh pins s σ H Q I w => h.run wh pins s σ H Q I (k σ H Q w)⟩
theorem _root_.L2.PS.imp {X : Cx} {e : Stmt} {t t' : TS} (h : PS X e t) (k : ∀ D σ H, t' D σ H → t D σ H) : PS X e t' := ⟨fun pins s σ H D I w => h.run pins s σ H D I (k D σ H w)⟩
theorem _root_.L2.PSs.imp {X : Cx} {e : List Stmt} {t t' : TS} (h : PSs X e t) (k : ∀ D σ H, t' D σ H → t D σ H) : PSs X e t' := ⟨fun pins s σ H D I w => h.run pins s σ H D I (k D σ H w)⟩

/-! ### names and constants -/
def dV (i : Nat) : DE := fun ρ h => match ρ[i]? with
  | some (some d) => ret d h
  | _ => none
def dC (d : D) : DE := fun _ h => ret d h
section
variable {X : Cx} {W : WX}
theorem pd_v (i : Nat) {x : Str} {pos : Pos} (hN : X.N[i]? = some x := by rfl) (hv : Vis X.env.scope x := by first | exact Or.inl rfl | exact Or.inr (Or.inl rfl) | exact Or.inr (Or.inr rfl)) (hd : (x == ("__debug__" : Str)) = false := by decide)
    (hcd : (x == ("__classdict__" : Str)) = false := by decide) : PD X W (.Name x pos) (dV i) := by
  refine ⟨(pe_var (i := i) hN hv hd hcd).imp fun σ H Q h => ?_⟩
  obtain ⟨m, ρ, h, w, en, o⟩ := h
  unfold dV at o
  split at o
  · rename_i d e
    obtain ⟨v, e1, r⟩ := en.2 i d e
    exact ⟨v, e1, o.ret w v r⟩
  · exact o.elim
theorem pd_c {e : Expr} {d : D} {v : V} (he : PE X e (tC v)) (r : ∀ H m, RepD X.K H m d v) : PD X W e (dC d) := by
  refine ⟨he.imp fun σ H Q h => ?_⟩
  obtain ⟨m, ρ, h, w, en, o⟩ := h
  exact o.ret w v (r H m)
theorem pd_int {i : Int} {j : Nat} {pos : Pos} : PD X W (.Constant (.int i) j pos) (dC (.int i)) := pd_c pe_int fun _ _ => rfl
theorem pd_bl {b : Bool} {j : Nat} {pos : Pos} : PD X W (.Constant (.bool b) j pos) (dC (.bl b)) := pd_c pe_bl fun _ _ => rfl
theorem pd_non {j : Nat} {pos : Pos} : PD X W (.Constant .none j pos) (dC .non) := pd_c pe_non fun _ _ => rfl
theorem pd_str {x : Str} {j : Nat} {pos : Pos} : PD X W (.Constant (.str x) j pos) (dC (.str x)) := pd_c pe_str fun _ _ => rfl
/-- a module's constant -/
theorem pd_g {x : Str} {d : D} {v : V} {u : Value} {pos : Pos} (hm : X.mg x = some u) (r : RelV v u) (rd : ∀ H m, RepD X.K H m d v) (hg : Gl X x := by rfl) (hd : (x == ("__debug__" : Str)) = false := by decide) : PD X W (.Name x pos) (dC d) :=
  pd_c (pe_glob hg hm r hd) rd
end

/-! ### operators -/
abbrev D2 := D → D → DH → Rh D
abbrev D1 := D → DH → Rh D
def dBin (op : D2) (f g : DE) : DE := fun ρ h => bindR (f ρ h) fun x h1 => bindR (g ρ h1) fun y h2 => op x y h2
def dUn (op : D1) (f : DE) : DE := fun ρ h => bindR (f ρ h) fun x h1 => op x h1
/-- a rule by values serves data -/
def OpD (X : Cx) (W : WX) (r : R2) (op : D2) : Prop := ∀ (σ : L2.St) (H : Hp) (m : List Addr) (h : DH) (d d2 : D) (v v2 : V) (Q : VK), Wd X.K H m h → RepD X.K H m d v → RepD X.K H m d2 v2 →
  Out X.K W σ H m (op d d2 h) (fun z _ H' m' => ∀ u, RepD X.K H' m' z u → Q u H') → r v v2 H Q
def UnD (X : Cx) (W : WX) (r : V → Hp → VK → Prop) (op : D1) : Prop := ∀ (σ : L2.St) (H : Hp) (m : List Addr) (h : DH) (d : D) (v : V) (Q : VK), Wd X.K H m h → RepD X.K H m d v →
  Out X.K W σ H m (op d h) (fun z _ H' m' => ∀ u, RepD X.K H' m' z u → Q u H') → r v H Q
section
variable {X : Cx} {W : WX} {a b c : Expr} {f g k : DE} {pos : Pos}
theorem eOf_bin {r : R2} {op : D2} (hd : OpD X W r op) (σ : L2.St) (H : Hp) (Q : VK) (h : eOf X.K W (dBin op f g) σ H Q) : tOp r (eOf X.K W f) (eOf X.K W g) σ H Q := by
  obtain ⟨m, ρ, h, w, en, o⟩ := h
  refine ⟨m, ρ, h, w, en, o.bind.mono fun d h1 H1 m1 g1 w1 o1 v rv => ?_⟩
  refine ⟨m1, ρ, h1, w1, en.go g1 w, o1.bind.mono fun d2 h2 H2 m2 g2 w2 o2 v2 rv2 => ?_⟩
  exact hd σ H2 m2 h2 d d2 v v2 Q w2 (rv.go g2 w1) rv2 o2
theorem pd_bin {op : Operator} {r : R2} {o : D2} (ho : OpR X (binaryOp op) r) (hd : OpD X W r o) (ha : PD X W a f) (hb : PD X W b g) : PD X W (.BinOp a op b pos) (dBin o f g) :=
  ⟨(pe_op ho ha.pe hb.pe).imp (eOf_bin hd)⟩
theorem pd_cmp {op : CmpOp} {r : R2} {o : D2} (ho : OpR X (compareOp op) r) (hd : OpD X W r o) (ha : PD X W a f) (hb : PD X W b g) (hm : behindInMarks op b = false := by rfl) : PD X W (.Compare a [op] [b] pos) (dBin o f g) :=
  ⟨(pe_cmpR ho ha.pe hb.pe hm).imp (eOf_bin hd)⟩
theorem pd_un {op : UnaryOp} {r : V → Hp → VK → Prop} {o : D1} (ho : UnR X (unaryOp op) r) (hd : UnD X W r o) (ha : PD X W a f) : PD X W (.UnaryOp op a pos) (dUn o f) := by
  refine ⟨(pe_un ho ha.pe).imp fun σ H Q h => ?_⟩
  obtain ⟨m, ρ, h, w, en, o⟩ := h
  exact ⟨m, ρ, h, w, en, o.bind.mono fun d h1 H1 m1 g1 w1 o1 v rv => hd σ H1 m1 h1 d v Q w1 rv o1⟩
/-- a truth value as a test -/
def bD (d : D) (h : DH) : Rh Bool := match d with
  | .bl b => ret b h
  | _ => none
def dTest (f : DE) : DB := fun ρ h => bindR (f ρ h) bD
theorem bOf_test (σ : L2.St) (H : Hp) (Q : Bool → Hp → Prop) (h : bOf X.K W (dTest f) σ H Q) : tTest (eOf X.K W f) σ H Q := by
  obtain ⟨m, ρ, h, w, en, o⟩ := h
  refine ⟨m, ρ, h, w, en, o.bind.mono fun d h1 H1 m1 g1 w1 o1 v rv => ?_⟩
  unfold bD at o1
  split at o1
  · cases (show v = _ from rv)
    exact ⟨_, rfl, o1.ret w1⟩
  · exact o1.elim
theorem pt_cmpD {op : CmpOp} {r : R2} {o : D2} (ho : OpR X (compareOp op) r) (hd : OpD X W r o) (ha : PD X W a f) (hb : PD X W b g) (hm : behindInMarks op b = false := by rfl) : PDt X W (.Compare a [op] [b] pos) (dTest (dBin o f g)) := by
  refine ⟨(pt_cmpR ho ha.pe hb.pe hm).imp fun σ H Q h => ?_⟩
  obtain ⟨m, ρ, h, w, en, o'⟩ := bOf_test σ H Q h
  exact eOf_bin hd σ H _ ⟨m, ρ, h, w, en, o'⟩
theorem pt_valD {e : Expr} (h : PD X W e f) (he : ∀ whole, isTrue e X.env whole = (do let v ← whole; standAt e.pos; holding [v] (truthy v)) := by intro _; rfl) : PDt X W e (dTest f) :=
  ⟨(pt_val h.pe he).imp bOf_test⟩
/-- by truth -/
def truD (h : DH) : D → Option Bool
  | .non => some false
  | .bl b => some b
  | .int i => some (i != 0)
  | .tup xs => some (!xs.isEmpty)
  | .rol xs => some (!xs.isEmpty)
  | .ref k => (match h[k]? with
    | some (.lst xs) => some (!xs.isEmpty)
    | _ => none)
  | .str s => none
def tD (d : D) (h : DH) : Rh Bool := match truD h d with
  | some b => ret b h
  | none => none
theorem isEmpty_rep {K : PySem.W.Frag} {H : Hp} {m : List Addr} {xs : List D} {vs : List V} (r : RepL K H m xs vs) : vs.isEmpty = xs.isEmpty := by
  have := r.length
  cases xs <;> cases vs <;> simp_all
theorem truD_ok {H : Hp} {m : List Addr} {h : DH} {d : D} {v : V} {b : Bool} (w : Wd X.K H m h) (r : RepD X.K H m d v) (e : truD h d = some b) : TruV X.K v H b := by
  cases d with
  | non => cases (show v = _ from r); cases e; rfl
  | bl c => cases (show v = _ from r); cases e; rfl
  | int i => cases (show v = _ from r); cases e; rfl
  | str s => cases e
  | tup xs =>
    obtain ⟨a, vs, rfl, s, q⟩ := r
    cases e
    exact .inr (.inl ⟨vs, s.1, by rw [isEmpty_rep q]⟩)
  | rol xs =>
    obtain ⟨a, vs, rfl, s, q⟩ := r
    cases e
    exact .inl ⟨vs, s.sq, by rw [isEmpty_rep q]⟩
  | ref k =>
    obtain ⟨a, rfl, q⟩ := r
    cases e2 : h[k]? with
    | none => rw [truD, e2] at e; cases e
    | some o =>
      cases o with
      | lst xs =>
        rw [truD, e2] at e
        cases e
        obtain ⟨vs, z, rl⟩ := w.at_ k a _ q e2
        exact .inl ⟨vs, SqL.of z, by rw [isEmpty_rep rl]⟩
      | dT xs => rw [truD, e2] at e; cases e
      | dK xs => rw [truD, e2] at e; cases e
def dTru (f : DE) : DB := fun ρ h => bindR (f ρ h) tD
theorem pt_truD {e : Expr} (h : PD X W e f) (he : ∀ whole, isTrue e X.env whole = (do let v ← whole; standAt e.pos; holding [v] (truthy v)) := by intro _; rfl) : PDt X W e (dTru f) := by
  refine ⟨(pt_truth h.pe he).imp fun σ H Q h => ?_⟩
  obtain ⟨m, ρ, h, w, en, o⟩ := h
  refine ⟨m, ρ, h, w, en, o.bind.mono fun d h1 H1 m1 g1 w1 o1 v rv => ?_⟩
  unfold tD at o1
  split at o1
  · rename_i b e
    exact ⟨b, truD_ok w1 rv e, o1.ret w1⟩
  · exact o1.elim
def bNot (f : DB) : DB := fun ρ h => bindR (f ρ h) fun b h1 => ret (!b) h1
theorem pt_notD {e : Expr} {f : DB} (h : PDt X W e f) : PDt X W (.UnaryOp .Not e pos) (bNot f) := by
  refine ⟨(pt_not h.pt).imp fun σ H Q h => ?_⟩
  obtain ⟨m, ρ, h, w, en, o⟩ := h
  exact ⟨m, ρ, h, w, en, o.bind.mono fun d h1 H1 m1 g1 w1 o1 => o1.ret w1⟩
def bAnd (f g : DB) : DB := fun ρ h => bindR (f ρ h) fun b h1 => if b then g ρ h1 else ret false h1
def bOr (f g : DB) : DB := fun ρ h => bindR (f ρ h) fun b h1 => if b then ret true h1 else g ρ h1
theorem pw_and1D {e : Expr} {f : DB} (h : PDt X W e f) : PDw X W (.BoolOp .And [e] pos) f := ⟨pw_and1 h.pt⟩
theorem pw_or1D {e : Expr} {f : DB} (h : PDt X W e f) : PDw X W (.BoolOp .Or [e] pos) f := ⟨pw_or1 h.pt⟩
theorem pw_andD {e e2 : Expr} {rest : List Expr} {f g : DB} (h : PDt X W e f) (h2 : PDw X W (.BoolOp .And (e2 :: rest) pos) g) : PDw X W (.BoolOp .And (e :: e2 :: rest) pos) (bAnd f g) := by
  refine ⟨(pw_and h.pt h2.pw).imp fun σ H Q h => ?_⟩
  obtain ⟨m, ρ, h, w, en, o⟩ := h
  refine ⟨m, ρ, h, w, en, o.bind.mono fun d h1 H1 m1 g1 w1 o1 => ?_⟩
  cases d with
  | true => exact ⟨m1, ρ, h1, w1, en.go g1 w, o1⟩
  | false => exact o1.ret w1
theorem pw_orD {e e2 : Expr} {rest : List Expr} {f g : DB} (h : PDt X W e f) (h2 : PDw X W (.BoolOp .Or (e2 :: rest) pos) g) : PDw X W (.BoolOp .Or (e :: e2 :: rest) pos) (bOr f g) := by
  refine ⟨(pw_or h.pt h2.pw).imp fun σ H Q h => ?_⟩
  obtain ⟨m, ρ, h, w, en, o⟩ := h
  refine ⟨m, ρ, h, w, en, o.bind.mono fun d h1 H1 m1 g1 w1 o1 => ?_⟩
  cases d with
  | false => exact ⟨m1, ρ, h1, w1, en.go g1 w, o1⟩
  | true => exact o1.ret w1
theorem PDw.t {e : Expr} {f : DB} (h : PDw X W e f) : PDt X W e f := ⟨h.pw.pt⟩
/-- values by truth -/
def dAnd (f g : DE) : DE := fun ρ h => bindR (f ρ h) fun x h1 => bindR (tD x h1) fun b h2 => if b then g ρ h2 else ret x h2
def dOr (f g : DE) : DE := fun ρ h => bindR (f ρ h) fun x h1 => bindR (tD x h1) fun b h2 => if b then ret x h2 else g ρ h2
theorem pd_one {op : BoolOp} (h : PD X W a f) : PD X W (.BoolOp op [a] pos) f := ⟨pe_one h.pe⟩
theorem tD_bind {β : Type} {K : PySem.W.Frag} {σ : L2.St} {H : Hp} {m : List Addr} {h : DH} {d : D} {k : Bool → DH → Rh β} {P : β → DH → Hp → List Addr → Prop} (o : Out K W σ H m (bindR (tD d h) k) P) : ∃ b, truD h d = some b ∧ Out K W σ H m (k b h) P := by
  unfold tD at o
  split at o
  · rename_i b e
    exact ⟨b, e, o⟩
  · exact o.elim
theorem pd_andT {rest : List Expr} (ha : PD X W a f) (hb : PD X W (.BoolOp .And (b :: rest) pos) g) : PD X W (.BoolOp .And (a :: b :: rest) pos) (dAnd f g) := by
  refine ⟨(pe_andT ha.pe hb.pe).imp fun σ H Q h => ?_⟩
  obtain ⟨m, ρ, h, w, en, o⟩ := h
  refine ⟨m, ρ, h, w, en, o.bind.mono fun d h1 H1 m1 g1 w1 o1 v rv => ?_⟩
  obtain ⟨k, e, o2⟩ := tD_bind o1
  refine ⟨k, truD_ok w1 rv e, ?_⟩
  cases k with
  | true => exact ⟨m1, ρ, h1, w1, en.go g1 w, o2⟩
  | false => exact o2.ret w1 v rv
theorem pd_orT {rest : List Expr} (ha : PD X W a f) (hb : PD X W (.BoolOp .Or (b :: rest) pos) g) : PD X W (.BoolOp .Or (a :: b :: rest) pos) (dOr f g) := by
  refine ⟨(pe_orT ha.pe hb.pe).imp fun σ H Q h => ?_⟩
  obtain ⟨m, ρ, h, w, en, o⟩ := h
  refine ⟨m, ρ, h, w, en, o.bind.mono fun d h1 H1 m1 g1 w1 o1 v rv => ?_⟩
  obtain ⟨k, e, o2⟩ := tD_bind o1
  refine ⟨k, truD_ok w1 rv e, ?_⟩
  cases k with
  | false => exact ⟨m1, ρ, h1, w1, en.go g1 w, o2⟩
  | true => exact o2.ret w1 v rv
def dNot (f : DE) : DE := fun ρ h => bindR (f ρ h) fun x h1 => bindR (tD x h1) fun b h2 => ret (.bl (!b)) h2
theorem pd_notT (ha : PD X W a f) : PD X W (.UnaryOp .Not a pos) (dNot f) := by
  refine ⟨(pe_notT ha.pe).imp fun σ H Q h => ?_⟩
  obtain ⟨m, ρ, h, w, en, o⟩ := h
  refine ⟨m, ρ, h, w, en, o.bind.mono fun d h1 H1 m1 g1 w1 o1 v rv => ?_⟩
  obtain ⟨k, e, o2⟩ := tD_bind o1
  exact ⟨k, truD_ok w1 rv e, o2.ret w1 _ rfl⟩
def dIf (c : DB) (f g : DE) : DE := fun ρ h => bindR (c ρ h) fun b h1 => if b then f ρ h1 else g ρ h1
theorem pd_if {t : DB} (hc : PDt X W c t) (ha : PD X W a f) (hb : PD X W b g) : PD X W (.IfExp c a b pos) (dIf t f g) := by
  refine ⟨(pe_ifExp hc.pt ha.pe hb.pe).imp fun σ H Q h => ?_⟩
  obtain ⟨m, ρ, h, w, en, o⟩ := h
  refine ⟨m, ρ, h, w, en, o.bind.mono fun d h1 H1 m1 g1 w1 o1 => ?_⟩
  cases d with
  | true => exact ⟨m1, ρ, h1, w1, en.go g1 w, o1⟩
  | false => exact ⟨m1, ρ, h1, w1, en.go g1 w, o1⟩
/-- a < b < c -/
def dChain (o o' : D2) (f g k : DE) : DE := fun ρ h => bindR (f ρ h) fun x h1 => bindR (g ρ h1) fun y h2 => bindR (o x y h2) fun z h3 => bindR (bD z h3) fun b h4 => if b then bindR (k ρ h4) fun u h5 => o' y u h5 else ret (.bl false) h4
theorem bD_bind {β : Type} {K : PySem.W.Frag} {σ : L2.St} {H : Hp} {m : List Addr} {h : DH} {d : D} {k : Bool → DH → Rh β} {P : β → DH → Hp → List Addr → Prop} (o : Out K W σ H m (bindR (bD d h) k) P) : ∃ b, d = .bl b ∧ Out K W σ H m (k b h) P := by
  unfold bD at o
  split at o
  · exact ⟨_, rfl, o⟩
  · exact o.elim
theorem eOf_chain {r r' : R2} {o1 o2 : D2} (hd : OpD X W r o1) (hd' : OpD X W r' o2) (σ : L2.St) (H : Hp) (Q : VK) (h : eOf X.K W (dChain o1 o2 f g k) σ H Q) : tChain r r' (eOf X.K W f) (eOf X.K W g) (eOf X.K W k) σ H Q := by
  obtain ⟨m, ρ, h, w, en, o⟩ := h
  refine ⟨m, ρ, h, w, en, o.bind.mono fun d h1 H1 m1 g1 w1 o1 v rv => ?_⟩
  refine ⟨m1, ρ, h1, w1, en.go g1 w, o1.bind.mono fun d2 h2 H2 m2 g2 w2 o2 v2 rv2 => ?_⟩
  refine hd σ H2 m2 h2 d d2 v v2 _ w2 (rv.go g2 w1) rv2 (o2.bind.mono fun z h3 H3 m3 g3 w3 o3 u ru => ?_)
  obtain ⟨b, rfl, o4⟩ := bD_bind o3
  cases (show u = _ from ru)
  refine ⟨b, rfl, ?_⟩
  cases b with
  | true =>
    exact ⟨m3, ρ, h3, w3, ((en.go g1 w).go g2 w1).go g3 w2, o4.bind.mono fun d5 h5 H5 m5 g5 w5 o5 v5 rv5 => hd' σ H5 m5 h5 d2 d5 v2 v5 Q w5 ((rv2.go g3 w2).go g5 w3) rv5 o5⟩
  | false => exact o4.ret w3 _ rfl
end
end Dt

set_option Elab.async false
set_option autoImplicit false
set_option linter.all false
set_option maxRecDepth 100000
set_option maxHeartbeats 2000000
namespace Dt
open PySem PySem.Spec PyProof.Rows L2

/-! ### operators on data -/
def okLen (n : Nat) : Bool := decide (n ≤ 1000000)
theorem okLen_le {n : Nat} (h : okLen n = true) : n ≤ sizeLine := by
  have := of_decide_eq_true h
  rw [sizeLine_eq]; omega
def mulOk (i j : Int) : Bool := decide (i.natAbs.log2 + j.natAbs.log2 < 60000000)
def CMulD (i j : Int) : Prop := i.natAbs.log2 + j.natAbs.log2 < 60000000
theorem CMulD.ok {i j : Int} (h : CMulD i j) : IntMulOk i j := by
  have b : ∀ x : Int, Builtin.Int.intBits x ≤ x.natAbs.log2 + 1 := fun x => by
    unfold Builtin.Int.intBits
    split <;> omega
  have h1 := b i
  have h2 := b j
  have h3 : i.natAbs.log2 + j.natAbs.log2 < 60000000 := h
  have e : bitsLine = 134217728 := by decide
  unfold IntMulOk
  intro z
  rw [Bool.and_eq_true] at z
  have z2 := z.2
  unfold Builtin.Int.intTooBig at z2
  have z3 := of_decide_eq_true z2
  rw [e] at z3
  omega
def divOk (j : Int) : Bool := decide (j ≠ 0 ∧ (j.natAbs < 1073741824 ∨ (0 < j ∧ j.natAbs.log2 < 9000)))
def CDivD (_ j : Int) : Prop := j ≠ 0 ∧ (j.natAbs < 1073741824 ∨ (0 < j ∧ j.natAbs.log2 < 9000))
section
variable {X : Cx} {W : WX}
theorem op_mulD : OpR X (binaryOp .Mult) (rI CMulD fun i j => .int (i * j)) := opI fun _ _ _ _ _ _ _ hc q => mul_int q hc.ok
theorem op_fdivD : OpR X (binaryOp .FloorDiv) (rI CDivD fun i j => .int (i.fdiv j)) := opI fun i j _ _ _ _ _ hc q => by
  rcases hc.2 with h | ⟨h1, h2⟩
  · exact floordiv_int hc.1 q (.inl (PyProof.noPylong_small h))
  · exact floordiv_int hc.1 q (.inl (PyProof.noPylong_of_log2 h2))
end
/-- two ints -/
def oI (C : Int → Int → Bool) (g : Int → Int → D) : D2 := fun x y h => match x, y with
  | .int i, .int j => if C i j then ret (g i j) h else none
  | _, _ => none
def oSub : D2 := oI (fun _ _ => true) fun i j => .int (i - j)
def oMod : D2 := oI (fun _ j => decide (j ≠ 0)) fun i j => .int (i.fmod j)
def oDiv : D2 := oI (fun _ j => divOk j) fun i j => .int (i.fdiv j)
def oPow : D2 := oI (fun i j => decide (0 ≤ j ∧ j ≤ 1000000 ∧ i.natAbs < 2 ^ 64)) fun i j => .int (i ^ j.toNat)
def oLt : D2 := oI (fun _ _ => true) fun i j => .bl (decide (i < j))
def oLe : D2 := oI (fun _ _ => true) fun i j => .bl (decide (i ≤ j))
def oGt : D2 := oI (fun _ _ => true) fun i j => .bl (decide (j < i))
def oGe : D2 := oI (fun _ _ => true) fun i j => .bl (decide (j ≤ i))
section
variable {X : Cx} {W : WX}
theorem od_I {C : Int → Int → Bool} {P : Int → Int → Prop} {g : Int → Int → D} {gV : Int → Int → V} (hP : ∀ i j, C i j = true → P i j) (hg : ∀ H m i j, RepD X.K H m (g i j) (gV i j)) : OpD X W (rI P gV) (oI C g) := by
  intro σ H m h d d2 v v2 Q w r r2 o
  unfold oI at o
  split at o
  · rename_i i j
    split at o
    · rename_i hc
      exact ⟨i, j, r, r2, hP i j hc, o.ret w _ (hg H m i j)⟩
    · exact o.elim
  · exact o.elim
theorem od_I0 {g : Int → Int → D} {gV : Int → Int → V} (hg : ∀ H m i j, RepD X.K H m (g i j) (gV i j)) : OpD X W (rI0 gV) (oI (fun _ _ => true) g) := by
  intro σ H m h d d2 v v2 Q w r r2 o
  unfold oI at o
  split at o
  · rename_i i j
    rw [if_pos rfl] at o
    exact ⟨i, j, r, r2, o.ret w _ (hg H m i j)⟩
  · exact o.elim
theorem od_sub : OpD X W (rI0 fun i j => .int (i - j)) oSub := od_I0 fun _ _ _ _ => rfl
theorem od_mod : OpD X W (rI (fun _ j => j ≠ 0) fun i j => .int (i.fmod j)) oMod := od_I (fun _ _ h => of_decide_eq_true h) fun _ _ _ _ => rfl
theorem od_div : OpD X W (rI CDivD fun i j => .int (i.fdiv j)) oDiv := od_I (fun _ j h => @of_decide_eq_true (j ≠ 0 ∧ (j.natAbs < 1073741824 ∨ (0 < j ∧ j.natAbs.log2 < 9000))) _ h) fun _ _ _ _ => rfl
theorem od_pow : OpD X W (rI CPow fun i j => .int (i ^ j.toNat)) oPow := od_I (fun i j h => @of_decide_eq_true (0 ≤ j ∧ j ≤ 1000000 ∧ i.natAbs < 2 ^ 64) _ h) fun _ _ _ _ => rfl
theorem od_lt : OpD X W (rI0 fun i j => .bl (decide (i < j))) oLt := od_I0 fun _ _ _ _ => rfl
theorem od_le : OpD X W (rI0 fun i j => .bl (decide (i ≤ j))) oLe := od_I0 fun _ _ _ _ => rfl
theorem od_gt : OpD X W (rI0 fun i j => .bl (decide (j < i))) oGt := od_I0 fun _ _ _ _ => rfl
theorem od_ge : OpD X W (rI0 fun i j => .bl (decide (j ≤ i))) oGe := od_I0 fun _ _ _ _ => rfl
end
/-- a new list, numbered -/
def newL (xs : List D) (h : DH) : Rh D := ret (.ref h.length) (h ++ [.lst xs])
section
variable {K : PySem.W.Frag} {W : WX} {σ : L2.St} {H : Hp} {m : List Addr} {h : DH}
theorem newL_ok {xs : List D} {vs : List V} {Q : VK} (w : Wd K H m h) (r : RepL K H m xs vs) (o : Out K W σ H m (newL xs h) (fun z _ H' m' => ∀ u, RepD K H' m' z u → Q u H')) {p : Addr} (hp : H p = none) : Q (.ref p) (upd H p (.lst vs)) := by
  have o1 : ∀ H' m', Go H m H' m' → Wd K H' m' (h ++ [.lst xs]) → ∀ u, RepD K H' m' (.ref h.length) u → Q u H' := o
  refine o1 (upd H p (.lst vs)) (m ++ [p]) (Go.num hp) (w.num hp ⟨vs, upd_same, RepL.go (Go.num hp) w _ _ r⟩) _ ⟨p, rfl, ?_⟩
  rw [← w.len]
  simp
/-- a new tuple -/
theorem tup_ok {xs : List D} {vs : List V} {Q : VK} (w : Wd K H m h) (r : RepL K H m xs vs) (o : Out K W σ H m (ret (.tup xs) h) (fun z _ H' m' => ∀ u, RepD K H' m' z u → Q u H')) {p : Addr} (hp : H p = none) : Q (.ref p) (upd H p (.tup vs)) := by
  have o1 : ∀ H' m', Go H m H' m' → Wd K H' m' h → ∀ u, RepD K H' m' (.tup xs) u → Q u H' := o
  exact o1 (upd H p (.tup vs)) m (Go.lay hp) (w.lay hp) _ ⟨p, vs, rfl, SqX.of upd_same, RepL.go (Go.lay hp) w _ _ r⟩
end
def oAdd : D2 := fun x y h => match x, y with
  | .int i, .int j => ret (.int (i + j)) h
  | .tup xs, .tup ys => if okLen (xs.length + ys.length) then ret (.tup (xs ++ ys)) h else none
  | .ref k, .ref l => (match h[k]?, h[l]? with
    | some (.lst xs), some (.lst ys) => if okLen (xs.length + ys.length) then newL (xs ++ ys) h else none
    | _, _ => none)
  | _, _ => none
def oMul : D2 := fun x y h => match x, y with
  | .int i, .int j => if mulOk i j then ret (.int (i * j)) h else none
  | .ref k, .int j => (match h[k]? with
    | some (.lst xs) => if okLen (xs.length * j.toNat) && decide (-(2 ^ 63) ≤ j ∧ j < 2 ^ 63) then newL (List.replicate j.toNat xs).flatten h else none
    | _ => none)
  | _, _ => none
section
variable {K : PySem.W.Frag} {H : Hp} {m : List Addr} {h : DH}
theorem RepL.rep {xs : List D} {vs : List V} (r : RepL K H m xs vs) : ∀ n : Nat, RepL K H m (List.replicate n xs).flatten (List.replicate n vs).flatten
  | 0 => rfl
  | n + 1 => by
    rw [List.replicate_succ, List.replicate_succ, List.flatten_cons, List.flatten_cons]
    exact r.app (RepL.rep r n)
end
section
variable {X : Cx} {W : WX}
theorem op_addD : OpR X (binaryOp .Add) (fun x y H Q => (rI0 fun i j => .int (i + j)) x y H Q ∨ (rCatA X.K x y H Q ∨ rCat x y H Q)) := op_add.or (op_catA.or op_cat)
theorem od_add : OpD X W (fun x y H Q => (rI0 fun i j => .int (i + j)) x y H Q ∨ (rCatA X.K x y H Q ∨ rCat x y H Q)) oAdd := by
  intro σ H m h d d2 v v2 Q w r r2 o
  unfold oAdd at o
  split at o
  · rename_i i j
    exact .inl ⟨i, j, r, r2, o.ret w _ rfl⟩
  · rename_i xs ys
    split at o
    · rename_i hl
      obtain ⟨a, vs, rfl, s, q⟩ := r
      obtain ⟨b, ws, rfl, s2, q2⟩ := r2
      refine .inr (.inl ⟨a, b, vs, ws, rfl, rfl, s.1, s2.1, ?_, fun e => ?_, fun e e2 => ?_, fun _ _ p hp => tup_ok w (q.app q2) o hp⟩)
      · rw [q.length, q2.length]
        exact okLen_le hl
      · subst e
        have : xs = [] := List.eq_nil_of_length_eq_zero q.length.symm
        subst this
        exact o.ret w _ ⟨b, ws, rfl, s2, q2⟩
      · subst e2
        have : ys = [] := List.eq_nil_of_length_eq_zero q2.length.symm
        subst this
        exact o.ret w _ ⟨a, vs, rfl, by rw [List.append_nil]; exact s, by rw [List.append_nil]; exact q⟩
    · exact o.elim
  · rename_i k l
    split at o
    · rename_i xs ys e1 e2
      split at o
      · rename_i hl
        obtain ⟨a, rfl, ha⟩ := r
        obtain ⟨b, rfl, hb⟩ := r2
        obtain ⟨vs, z, q⟩ := w.lst ha e1
        obtain ⟨ws, z2, q2⟩ := w.lst hb e2
        refine .inr (.inr ⟨a, b, vs, ws, rfl, rfl, z, z2, ?_, fun p hp => newL_ok w (q.app q2) o hp⟩)
        rw [q.length, q2.length]
        exact okLen_le hl
      · exact o.elim
    · exact o.elim
  · exact o.elim
theorem op_mulA : OpR X (binaryOp .Mult) (fun x y H Q => (rI CMulD fun i j => .int (i * j)) x y H Q ∨ rRep x y H Q) := op_mulD.or op_rep
theorem od_mul : OpD X W (fun x y H Q => (rI CMulD fun i j => .int (i * j)) x y H Q ∨ rRep x y H Q) oMul := by
  intro σ H m h d d2 v v2 Q w r r2 o
  unfold oMul at o
  split at o
  · rename_i i j
    split at o
    · rename_i hc
      exact .inl ⟨i, j, r, r2, @of_decide_eq_true (i.natAbs.log2 + j.natAbs.log2 < 60000000) _ hc, o.ret w _ rfl⟩
    · exact o.elim
  · rename_i k j
    split at o
    · rename_i xs e1
      split at o
      · rename_i hl
        obtain ⟨h1, h2⟩ := Bool.and_eq_true_iff.mp hl
        obtain ⟨a, rfl, ha⟩ := r
        obtain ⟨vs, z, q⟩ := w.lst ha e1
        have h3 := of_decide_eq_true h2
        refine .inr ⟨a, j, vs, rfl, r2, z, h3.1, h3.2, ?_, fun p hp => newL_ok w (q.rep _) o hp⟩
        rw [q.length]
        exact okLen_le h1
      · exact o.elim
    · exact o.elim
  · exact o.elim
def uNeg : D1 := fun x h => match x with
  | .int i => ret (.int (-i)) h
  | _ => none
theorem ud_neg : UnD X W (rU fun i => .int (-i)) uNeg := by
  intro σ H m h d v Q w r o
  unfold uNeg at o
  split at o
  · exact ⟨_, r, o.ret w _ rfl⟩
  · exact o.elim
end
/-! ### == of data -/
mutual
def toPy : D → Option PyData
  | .non => some .none
  | .bl b => some (.bool b)
  | .int i => some (.int i)
  | .str s => some (.str s)
  | .tup xs => (toPys xs).map .tuple
  | .rol _ => none
  | .ref _ => none
def toPys : List D → Option (List PyData)
  | [] => some []
  | x :: xs => (toPy x).bind fun p => (toPys xs).map fun ps => p :: ps
end
/-- a list by number, one level -/
def toPyH (h : DH) : D → Option PyData
  | .ref k => (match h[k]? with
    | some (.lst xs) => (toPys xs).map .list
    | _ => none)
  | d => toPy d
mutual
theorem toPy_dp {K : PySem.W.Frag} {H : Hp} {m : List Addr} : ∀ (d : D) (v : V) (p : PyData), RepD K H m d v → toPy d = some p → Dp K H v p
  | .non, v, p, r, e => by cases (show v = _ from r); cases e; exact .non
  | .bl b, v, p, r, e => by cases (show v = _ from r); cases e; exact .bl b
  | .int i, v, p, r, e => by cases (show v = _ from r); cases e; exact .int i
  | .str s, v, p, r, e => by cases (show v = _ from r); cases e; exact .str s
  | .tup xs, v, p, r, e => by
    obtain ⟨a, vs, rfl, s, q⟩ := r
    have e1 : (toPys xs).map PyData.tuple = some p := e
    cases e2 : toPys xs with
    | none => rw [e2] at e1; cases e1
    | some ps =>
      rw [e2] at e1
      cases e1
      exact .tup s.1 (toPys_dp xs vs ps q e2)
  | .rol xs, v, p, r, e => by cases e
  | .ref k, v, p, r, e => by cases e
theorem toPys_dp {K : PySem.W.Frag} {H : Hp} {m : List Addr} : ∀ (ds : List D) (vs : List V) (ps : List PyData), RepL K H m ds vs → toPys ds = some ps → DpAll K H vs ps
  | [], vs, ps, r, e => by cases (show vs = _ from r); cases e; exact .nil
  | x :: xs, vs, ps, r, e => by
    obtain ⟨v, w, rfl, r1, r2⟩ := r
    have e1 : ((toPy x).bind fun p => (toPys xs).map fun ps => p :: ps) = some ps := e
    cases e2 : toPy x with
    | none => rw [e2] at e1; cases e1
    | some p =>
      cases e3 : toPys xs with
      | none => rw [e2, e3] at e1; cases e1
      | some qs =>
        rw [e2, e3] at e1
        cases e1
        exact .cons (toPy_dp x v p r1 e2) (toPys_dp xs w qs r2 e3)
end
theorem toPyH_dp {K : PySem.W.Frag} {H : Hp} {m : List Addr} {h : DH} (w : Wd K H m h) {d : D} {v : V} {p : PyData} (r : RepD K H m d v) (e : toPyH h d = some p) : Dp K H v p := by
  cases d with
  | ref k =>
    obtain ⟨a, rfl, ha⟩ := r
    have e1 : (match h[k]? with | some (.lst xs) => (toPys xs).map PyData.list | _ => none) = some p := e
    split at e1
    · rename_i xs e2
      obtain ⟨vs, z, q⟩ := w.lst ha e2
      cases e3 : toPys xs with
      | none => rw [e3] at e1; cases e1
      | some ps =>
        rw [e3] at e1
        cases e1
        exact .lst (SqL.of z) (toPys_dp xs vs ps q e3)
    · cases e1
  | non => exact toPy_dp _ v p r e
  | bl b => exact toPy_dp _ v p r e
  | int i => exact toPy_dp _ v p r e
  | str s => exact toPy_dp _ v p r e
  | tup xs => exact toPy_dp _ v p r e
  | rol xs => cases e
def oEq : D2 := fun x y h => match toPyH h x, toPyH h y with
  | some p, some q => if SeqAt.shaped p && SeqAt.shaped q then ret (.bl (PyData.eqv p q)) h else none
  | _, _ => none
def oNe : D2 := fun x y h => match toPyH h x, toPyH h y with
  | some p, some q => if SeqAt.shaped p && SeqAt.shaped q then ret (.bl (!PyData.eqv p q)) h else none
  | _, _ => none
section
variable {X : Cx} {W : WX}
theorem od_eq : OpD X W (rEqD X.K) oEq := by
  intro σ H m h d d2 v v2 Q w r r2 o
  unfold oEq at o
  split at o
  · rename_i p q e1 e2
    split at o
    · rename_i hs
      obtain ⟨h1, h2⟩ := Bool.and_eq_true_iff.mp hs
      exact ⟨p, q, toPyH_dp w r e1, toPyH_dp w r2 e2, h1, h2, o.ret w _ rfl⟩
    · exact o.elim
  · exact o.elim
theorem od_ne : OpD X W (rNeD X.K) oNe := by
  intro σ H m h d d2 v v2 Q w r r2 o
  unfold oNe at o
  split at o
  · rename_i p q e1 e2
    split at o
    · rename_i hs
      obtain ⟨h1, h2⟩ := Bool.and_eq_true_iff.mp hs
      exact ⟨p, q, toPyH_dp w r e1, toPyH_dp w r2 e2, h1, h2, o.ret w _ rfl⟩
    · exact o.elim
  · exact o.elim
/-- is None -/
def oIsN : D2 := fun x y h => match y with
  | .non => (match x with
    | .non => ret (.bl true) h
    | _ => ret (.bl false) h)
  | _ => none
def oNotN : D2 := fun x y h => match y with
  | .non => (match x with
    | .non => ret (.bl false) h
    | _ => ret (.bl true) h)
  | _ => none
theorem rep_non {K : PySem.W.Frag} {H : Hp} {m : List Addr} {d : D} {v : V} (r : RepD K H m d v) : (match d with | .non => true | _ => false) = decide (v = V.non) := by
  cases d with
  | non => cases (show v = _ from r); rfl
  | bl b => cases (show v = _ from r); rfl
  | int i => cases (show v = _ from r); rfl
  | str s => cases (show v = _ from r); rfl
  | tup xs => obtain ⟨a, vs, rfl, _⟩ := r; rfl
  | rol xs => obtain ⟨a, vs, rfl, _⟩ := r; rfl
  | ref k => obtain ⟨a, rfl, _⟩ := r; rfl
theorem od_isN : OpD X W (fun x y H Q => y = .non ∧ Q (.bl (decide (x = .non))) H) oIsN := by
  intro σ H m h d d2 v v2 Q w r r2 o
  cases d2 with
  | non =>
    refine ⟨r2, ?_⟩
    rw [← rep_non r]
    cases d <;> exact o.ret w _ rfl
  | _ => exact o.elim
theorem od_notN : OpD X W (fun x y H Q => y = .non ∧ Q (.bl (!decide (x = .non))) H) oNotN := by
  intro σ H m h d d2 v v2 Q w r r2 o
  cases d2 with
  | non =>
    refine ⟨r2, ?_⟩
    rw [← rep_non r]
    cases d <;> exact o.ret w _ rfl
  | _ => exact o.elim
/-! ### items -/
def oIx : D2 := fun x y h => match x, y with
  | .rol xs, .int i => (match atI xs i with
    | some d => ret d h
    | none => none)
  | .tup xs, .int i => (match atI xs i with
    | some d => ret d h
    | none => none)
  | .ref k, .int i => (match h[k]? with
    | some (.lst xs) => (match atI xs i with
      | some d => ret d h
      | none => none)
    | _ => none)
  | _, _ => none
theorem atI_rep {K : PySem.W.Frag} {H : Hp} {m : List Addr} {xs : List D} {vs : List V} {i : Int} {d : D} (r : RepL K H m xs vs) (e : atI xs i = some d) : ∃ v, atI vs i = some v ∧ RepD K H m d v := by
  unfold atI at e ⊢
  rw [r.length]
  cases q : ixN xs.length i with
  | none => rw [q] at e; cases e
  | some j =>
    rw [q] at e
    exact r.get e
theorem od_ix : OpD X W (fun x y H Q => rIxL X.K x y H Q ∨ rIxT X.K x y H Q) oIx := by
  intro σ H m h d d2 v v2 Q w r r2 o
  unfold oIx at o
  split at o
  · rename_i xs i
    obtain ⟨a, vs, rfl, s, q⟩ := r
    split at o
    · rename_i e
      obtain ⟨u, e1, ru⟩ := atI_rep q e
      exact .inl ⟨a, vs, i, u, rfl, r2, s.sq, e1, o.ret w _ ru⟩
    · exact o.elim
  · rename_i xs i
    obtain ⟨a, vs, rfl, s, q⟩ := r
    split at o
    · rename_i e
      obtain ⟨u, e1, ru⟩ := atI_rep q e
      exact .inr ⟨a, vs, i, u, rfl, r2, s.1, e1, o.ret w _ ru⟩
    · exact o.elim
  · rename_i k i
    obtain ⟨a, rfl, ha⟩ := r
    split at o
    · rename_i xs e
      obtain ⟨vs, z, q⟩ := w.lst ha e
      split at o
      · rename_i e
        obtain ⟨u, e1, ru⟩ := atI_rep q e
        exact .inl ⟨a, vs, i, u, rfl, r2, SqL.of z, e1, o.ret w _ ru⟩
      · exact o.elim
    · exact o.elim
  · exact o.elim
theorem ix_lt : IxR X (fun x y H Q => rIxL X.K x y H Q ∨ rIxT X.K x y H Q) := ix_list.or ix_tup
theorem pd_ix {a b : Expr} {f g : DE} {pos : Pos} (ha : PD X W a f) (hb : PD X W b g) (hs : PlainIx b := by intro _ _; rfl) : PD X W (.Subscript a b pos) (dBin oIx f g) :=
  ⟨(pe_ix ix_lt ha.pe hb.pe hs).imp (eOf_bin od_ix)⟩
end
end Dt

set_option Elab.async false
set_option autoImplicit false
set_option linter.all false
set_option maxRecDepth 100000
set_option maxHeartbeats 2000000
namespace Dt
open PySem PySem.Spec PyProof.Rows L2

/-! ### arguments, displays -/
def aNil : DA := fun _ h => ret [] h
def aCons (f : DE) (g : DA) : DA := fun ρ h => bindR (f ρ h) fun d h1 => bindR (g ρ h1) fun ds h2 => ret (d :: ds) h2
def dTup (f : DA) : DE := fun ρ h => bindR (f ρ h) fun ds h1 => if okLen ds.length then ret (.tup ds) h1 else none
section
variable {X : Cx} {W : WX} {e : Expr} {es : List Expr} {f : DE} {g : DA} {pos : Pos}
theorem pda_nil : PDa X W [] aNil := by
  refine ⟨pa_nil.imp fun σ H Q h => ?_⟩
  obtain ⟨m, ρ, h, w, en, o⟩ := h
  exact o.ret w [] rfl
theorem pda_cons (ha : PD X W e f) (hr : PDa X W es g) (hs : starEach (e :: es) X.env = (false, eval e X.env) :: starEach es X.env := by rfl) : PDa X W (e :: es) (aCons f g) := by
  refine ⟨(pa_cons ha.pe hr.pa hs).imp fun σ H Q h => ?_⟩
  obtain ⟨m, ρ, h, w, en, o⟩ := h
  refine ⟨m, ρ, h, w, en, o.bind.mono fun d h1 H1 m1 g1 w1 o1 v rv => ?_⟩
  refine ⟨m1, ρ, h1, w1, en.go g1 w, o1.bind.mono fun ds h2 H2 m2 g2 w2 o2 vs rvs => ?_⟩
  exact o2.ret w2 (v :: vs) ⟨v, vs, rfl, rv.go g2 w1, rvs⟩
theorem pd_tup {x1 : Nat} (h : PDa X W es g) : PD X W (.Tuple es x1 pos) (dTup g) := by
  refine ⟨(pe_tup h.pa).imp fun σ H Q h => ?_⟩
  obtain ⟨m, ρ, h, w, en, o⟩ := h
  refine ⟨m, ρ, h, w, en, o.bind.mono fun ds h1 H1 m1 g1 w1 o1 vs rvs => ?_⟩
  split at o1
  · rename_i hl
    refine ⟨?_, fun p hp => tup_ok w1 rvs o1 hp⟩
    rw [rvs.length]
    exact okLen_le hl
  · exact o1.elim
end
/-! ### calls of what is built in -/
abbrev DF := List D → DH → Rh D
def dCall (φ : DF) (g : DA) : DE := fun ρ h => bindR (g ρ h) φ
def CallD (X : Cx) (W : WX) (r : List V → Hp → VK → Prop) (φ : DF) : Prop := ∀ (σ : L2.St) (H : Hp) (m : List Addr) (h : DH) (ds : List D) (vs : List V) (Q : VK), Wd X.K H m h → RepL X.K H m ds vs →
  Out X.K W σ H m (φ ds h) (fun z _ H' m' => ∀ u, RepD X.K H' m' z u → Q u H') → r vs H Q
section
variable {X : Cx} {W : WX} {e : Expr} {es : List Expr} {f : DE} {g : DA} {pos p : Pos} {x : Str} {id T : String} {r : List V → Hp → VK → Prop} {φ : DF}
theorem eOf_call (hd : CallD X W r φ) (σ : L2.St) (H : Hp) (Q : VK) (h : eOf X.K W (dCall φ g) σ H Q) : tCB r (aOf X.K W g) σ H Q := by
  obtain ⟨m, ρ, h, w, en, o⟩ := h
  exact ⟨m, ρ, h, w, en, o.bind.mono fun ds h1 H1 m1 g1 w1 o1 vs rvs => hd σ H1 m1 h1 ds vs Q w1 rvs o1⟩
theorem pd_callB (hc : CallR X (.builtin id) r) (hd : CallD X W r φ) (hm : X.mg x = none) (hv : bootBuiltins x = some (.builtin id)) (ha : PDa X W (e :: es) g) (hg : Gl X x := by rfl) (hn : x ≠ "__name__" := by decide) (hdb : (x == ("__debug__" : Str)) = false := by decide)
    (he : starEach (e :: es) X.env = (false, eval e X.env) :: starEach es X.env := by rfl) (hpl : (backTo pos (starEach es X.env)).any (·.1) = false := by rfl) : PD X W (.Call (.Name x p) (e :: es) [] pos) (dCall φ g) :=
  ⟨(pe_callB hc hg hm hv ha.pa hn hdb he hpl).imp (eOf_call hd)⟩
theorem pd_callTy (hc : CallR X (.type T) r) (hd : CallD X W r φ) (hm : X.mg x = none) (hv : bootBuiltins x = some (.type T)) (ha : PDa X W (e :: es) g) (hg : Gl X x := by rfl) (hn : x ≠ "__name__" := by decide) (hdb : (x == ("__debug__" : Str)) = false := by decide)
    (he : starEach (e :: es) X.env = (false, eval e X.env) :: starEach es X.env := by rfl) (hpl : (backTo pos (starEach es X.env)).any (·.1) = false := by rfl) : PD X W (.Call (.Name x p) (e :: es) [] pos) (dCall φ g) :=
  ⟨(pe_callTy hc hg hm hv ha.pa hn hdb he hpl).imp (eOf_call hd)⟩
theorem rep1 {K : PySem.W.Frag} {H : Hp} {m : List Addr} {d : D} {vs : List V} (r : RepL K H m [d] vs) : ∃ v, vs = [v] ∧ RepD K H m d v := by
  obtain ⟨v, w, rfl, r1, r2⟩ := r
  cases (show w = _ from r2)
  exact ⟨v, rfl, r1⟩
theorem rep2 {K : PySem.W.Frag} {H : Hp} {m : List Addr} {d d2 : D} {vs : List V} (r : RepL K H m [d, d2] vs) : ∃ v v2, vs = [v, v2] ∧ RepD K H m d v ∧ RepD K H m d2 v2 := by
  obtain ⟨v, w, rfl, r1, r2⟩ := r
  obtain ⟨v2, rfl, r3⟩ := rep1 r2
  exact ⟨v, v2, rfl, r1, r3⟩
/-- abs -/
def fAbs : DF := fun ds h => match ds with
  | [.int i] => ret (.int (if i < 0 then -i else i)) h
  | _ => none
theorem cd_abs : CallD X W (fun xs H Q => ∃ i, xs = [.int i] ∧ Q (.int (if i < 0 then -i else i)) H) fAbs := by
  intro σ H m h ds vs Q w r o
  unfold fAbs at o
  split at o
  · rename_i i
    obtain ⟨v, rfl, r1⟩ := rep1 r
    cases (show v = _ from r1)
    exact ⟨i, rfl, o.ret w _ rfl⟩
  · exact o.elim
/-- int of an int, a bool -/
def fInt : DF := fun ds h => match ds with
  | [.int i] => ret (.int i) h
  | [.bl k] => ret (.int (if k then 1 else 0)) h
  | _ => none
theorem cd_int : CallD X W (fun xs H Q => (∃ i, xs = [.int i] ∧ Q (.int i) H) ∨ ∃ k, xs = [.bl k] ∧ Q (.int (if k then 1 else 0)) H) fInt := by
  intro σ H m h ds vs Q w r o
  unfold fInt at o
  split at o
  · rename_i i
    obtain ⟨v, rfl, r1⟩ := rep1 r
    cases (show v = _ from r1)
    exact .inl ⟨i, rfl, o.ret w _ rfl⟩
  · rename_i k
    obtain ⟨v, rfl, r1⟩ := rep1 r
    cases (show v = _ from r1)
    exact .inr ⟨k, rfl, o.ret w _ rfl⟩
  · exact o.elim
/-- len -/
def fLen : DF := fun ds h => match ds with
  | [.tup xs] => ret (.int xs.length) h
  | [.rol xs] => ret (.int xs.length) h
  | [.ref k] => (match h[k]? with
    | some (.lst xs) => ret (.int xs.length) h
    | _ => none)
  | _ => none
theorem cd_len : CallD X W (fun xs H Q => ∃ p ys, xs = [.ref p] ∧ (SqL X.K H p ys ∨ SqT X.K H p ys) ∧ Q (.int ys.length) H) fLen := by
  intro σ H m h ds vs Q w r o
  unfold fLen at o
  split at o
  · rename_i xs
    obtain ⟨v, rfl, r1⟩ := rep1 r
    obtain ⟨a, ws, rfl, s, q⟩ := r1
    refine ⟨a, ws, rfl, .inr s.1, ?_⟩
    rw [q.length]
    exact o.ret w _ rfl
  · rename_i xs
    obtain ⟨v, rfl, r1⟩ := rep1 r
    obtain ⟨a, ws, rfl, s, q⟩ := r1
    refine ⟨a, ws, rfl, .inl s.sq, ?_⟩
    rw [q.length]
    exact o.ret w _ rfl
  · rename_i k
    obtain ⟨v, rfl, r1⟩ := rep1 r
    obtain ⟨a, rfl, ha⟩ := r1
    split at o
    · rename_i xs e
      obtain ⟨ws, z, q⟩ := w.lst ha e
      refine ⟨a, ws, rfl, .inl (SqL.of z), ?_⟩
      rw [q.length]
      exact o.ret w _ rfl
    · exact o.elim
  · exact o.elim
/-! ### isinstance -/
/-- a value's built-in type -/
def tyD (h : DH) : D → Option String
  | .non => some "NoneType"
  | .bl _ => some "bool"
  | .int _ => some "int"
  | .str _ => some "str"
  | .tup _ => some "tuple"
  | .rol _ => none
  | .ref k => (match h[k]? with
    | some (.lst _) => some "list"
    | some (.dT _) => some "dict"
    | some (.dK _) => some "dict"
    | none => none)
theorem tyD_ok {K : PySem.W.Frag} {H : Hp} {m : List Addr} {h : DH} (w : Wd K H m h) {d : D} {v : V} {T : String} (r : RepD K H m d v) (e : tyD h d = some T) : TyX K H v (.type T) := by
  cases d with
  | non => cases (show v = _ from r); cases e; exact .base .non
  | bl b => cases (show v = _ from r); cases e; exact .base (.bl b)
  | int i => cases (show v = _ from r); cases e; exact .base (.int i)
  | str s => cases (show v = _ from r); cases e; exact .base (.str s)
  | tup xs =>
    obtain ⟨a, vs, rfl, ⟨s, _⟩, _⟩ := r
    cases e
    rcases s with (s | ⟨ob, s⟩) | ⟨ob, its, n, s, c, _⟩
    · exact .base (.tup s)
    · exact .fTuple s
    · exact .kTuple s c
  | rol xs => cases e
  | ref k =>
    obtain ⟨a, rfl, ha⟩ := r
    cases e2 : h[k]? with
    | none => rw [tyD, e2] at e; cases e
    | some o =>
      have q := w.at_ k a _ ha e2
      cases o with
      | lst xs => rw [tyD, e2] at e; cases e; obtain ⟨vs, z, _⟩ := q; exact .base (.lst z)
      | dT xs => rw [tyD, e2] at e; cases e; obtain ⟨vs, z, _⟩ := q; exact .base (.dT z)
      | dK xs => rw [tyD, e2] at e; cases e; obtain ⟨vs, z, _⟩ := q; exact .base (.dK z)
/-- the answer, by the types' names alone -/
def isiT (T : String) (U : String) : Bool := T == U || (T == "bool" && U == "int")
theorem isiT_kit {K : PySem.W.Frag} {T U : String} (hT : T ∈ ["NoneType", "bool", "int", "str", "tuple", "list", "dict"]) (hU : U ∈ ["int", "bool", "str", "tuple", "list"]) : PySem.W.kitOne K (.type T) (.type U) = some (isiT T U) := by
  refine kit_ty ?_
  have all : ∀ T ∈ ["NoneType", "bool", "int", "str", "tuple", "list", "dict"], ∀ U ∈ ["int", "bool", "str", "tuple", "list"], kitB T U = some (isiT T U) := by decide +kernel
  exact all T hT U hU
theorem tyD_mem {h : DH} {d : D} {T : String} (e : tyD h d = some T) : T ∈ ["NoneType", "bool", "int", "str", "tuple", "list", "dict"] := by
  cases d with
  | ref k =>
    cases e2 : h[k]? with
    | none => rw [tyD, e2] at e; cases e
    | some o => cases o <;> (rw [tyD, e2] at e; cases e; decide)
  | rol xs => cases e
  | _ => cases e; decide
def dIsi (U : String) (f : DE) : DE := fun ρ h => bindR (f ρ h) fun d h1 => match tyD h1 d with
  | some T => ret (.bl (isiT T U)) h1
  | none => none
def dIsi2 (U U' : String) (f : DE) : DE := fun ρ h => bindR (f ρ h) fun d h1 => match tyD h1 d with
  | some T => ret (.bl (isiT T U || isiT T U')) h1
  | none => none
theorem pa_isi {u : Expr} {U : String} (ha : PE X e (eOf X.K W f)) (hu : PE X u (tC (.ty U))) (hs : starEach [e, u] X.env = (false, eval e X.env) :: starEach [u] X.env) (hs2 : starEach [u] X.env = (false, eval u X.env) :: starEach [] X.env) :
    PA X [e, u] (tCons (eOf X.K W f) (tCons (tC (.ty U)) tNil)) := pa_cons ha (pa_cons hu pa_nil hs2) hs
theorem pd_isi {U : Str} {Us : String} {pu : Pos} (hm : X.mg "isinstance" = none) (hmU : X.mg U = none) (hvU : bootBuiltins U = some (.type Us)) (hU : Us ∈ ["int", "bool", "str", "tuple", "list"]) (ha : PD X W e f)
    (hg : Gl X "isinstance" := by rfl) (hgU : Gl X U := by rfl) (hn : U ≠ "__name__" := by decide) (hdb : (U == ("__debug__" : Str)) = false := by decide)
    (hs : starEach [e, .Name U pu] X.env = (false, eval e X.env) :: starEach [.Name U pu] X.env := by rfl) (hs2 : starEach [Expr.Name U pu] X.env = (false, eval (.Name U pu) X.env) :: starEach [] X.env := by rfl)
    (hpl : (backTo pos (starEach [Expr.Name U pu] X.env)).any (·.1) = false := by rfl) :
    PD X W (.Call (.Name "isinstance" p) [e, .Name U pu] [] pos) (dIsi Us f) := by
  refine ⟨(pe_callB call_isi hg hm (by decide +kernel) (pa_isi (U := Us) ha.pe (pe_bltn hgU hmU hvU rfl hn hdb) hs hs2) (by decide) (by decide) hs hpl).imp fun σ H Q h => ?_⟩
  obtain ⟨m, ρ, h, w, en, o⟩ := h
  refine ⟨m, ρ, h, w, en, o.bind.mono fun d h1 H1 m1 g1 w1 o1 v rv => ?_⟩
  split at o1
  · rename_i T eT
    exact ⟨v, .ty Us, .type T, .type Us, _, rfl, .ty Us, tyD_ok w1 rv eT, isiT_kit (tyD_mem eT) hU, o1.ret w1 _ rfl⟩
  · exact o1.elim
theorem pd_isi2 {U U' : Str} {Us Us' : String} {pu pu' pt : Pos} {kt : Nat} (hm : X.mg "isinstance" = none) (hmU : X.mg U = none) (hvU : bootBuiltins U = some (.type Us)) (hmU' : X.mg U' = none) (hvU' : bootBuiltins U' = some (.type Us'))
    (hU : Us ∈ ["int", "bool", "str", "tuple", "list"]) (hU' : Us' ∈ ["int", "bool", "str", "tuple", "list"]) (ha : PD X W e f)
    (hg : Gl X "isinstance" := by rfl) (hgU : Gl X U := by rfl) (hgU' : Gl X U' := by rfl) (hn : U ≠ "__name__" := by decide) (hdb : (U == ("__debug__" : Str)) = false := by decide) (hn' : U' ≠ "__name__" := by decide) (hdb' : (U' == ("__debug__" : Str)) = false := by decide)
    (hs : starEach [e, .Tuple [.Name U pu, .Name U' pu'] kt pt] X.env = (false, eval e X.env) :: starEach [.Tuple [.Name U pu, .Name U' pu'] kt pt] X.env := by rfl)
    (hs2 : starEach [Expr.Tuple [.Name U pu, .Name U' pu'] kt pt] X.env = (false, eval (.Tuple [.Name U pu, .Name U' pu'] kt pt) X.env) :: starEach [] X.env := by rfl)
    (hs3 : starEach [Expr.Name U pu, .Name U' pu'] X.env = (false, eval (.Name U pu) X.env) :: starEach [Expr.Name U' pu'] X.env := by rfl) (hs4 : starEach [Expr.Name U' pu'] X.env = (false, eval (.Name U' pu') X.env) :: starEach [] X.env := by rfl)
    (hpl : (backTo pos (starEach [Expr.Tuple [.Name U pu, .Name U' pu'] kt pt] X.env)).any (·.1) = false := by rfl) :
    PD X W (.Call (.Name "isinstance" p) [e, .Tuple [.Name U pu, .Name U' pu'] kt pt] [] pos) (dIsi2 Us Us' f) := by
  have ht : PE X (.Tuple [.Name U pu, .Name U' pu'] kt pt) (tTup (tCons (tC (.ty Us)) (tCons (tC (.ty Us')) tNil))) :=
    pe_tup (pa_cons (pe_bltn hgU hmU hvU rfl hn hdb) (pa_cons (pe_bltn hgU' hmU' hvU' rfl hn' hdb') pa_nil hs4) hs3)
  refine ⟨(pe_callB call_isiT hg hm (by decide +kernel) (pa_cons ha.pe (pa_cons ht pa_nil hs2) hs) (by decide) (by decide) hs hpl).imp fun σ H Q h => ?_⟩
  obtain ⟨m, ρ, h, w, en, o⟩ := h
  refine ⟨m, ρ, h, w, en, o.bind.mono fun d h1 H1 m1 g1 w1 o1 v rv => ?_⟩
  refine ⟨by show 2 ≤ sizeLine; decide, fun t ht => ?_⟩
  split at o1
  · rename_i T eT
    have g2 : Go H1 m1 (upd H1 t (.tup [.ty Us, .ty Us'])) m1 := Go.lay ht
    have w2 := w1.lay (o := .tup [.ty Us, .ty Us']) ht
    refine ⟨v, t, [.ty Us, .ty Us'], .type T, [.type Us, .type Us'], _, rfl, upd_same, .cons (.ty Us) (.cons (.ty Us') .nil), tyD_ok w2 (rv.go g2 w1) eT, ?_, (o1.go g2).ret w2 _ rfl⟩
    refine kitAny_cons (isiT_kit (tyD_mem eT) hU) (fun e => ?_) (fun e => by rw [e, Bool.true_or])
    refine kitAny_cons (isiT_kit (tyD_mem eT) hU') (fun e2 => ?_) (fun e2 => by rw [e2, Bool.or_true])
    rw [kitAny_nil, e, e2] <;> rfl
  · exact o1.elim
end
end Dt

set_option Elab.async false
set_option autoImplicit false
set_option linter.all false
set_option maxRecDepth 100000
set_option maxHeartbeats 2000000
namespace Dt
open PySem PySem.Spec PyProof.Rows L2

/-! ### what data leans on: the tuples -/
section
variable {K : PySem.W.Frag} {H H' : Hp} {m m' : List Addr} {h : DH}
def Tk (K : PySem.W.Frag) (H H' : Hp) : Prop := (∀ ds a xs, SqX K H ds a xs → SqX K H' ds a xs) ∧ ∀ a xs, SqRo K H a xs → SqRo K H' a xs
theorem Tk.refl : Tk K H H := ⟨fun _ _ _ z => z, fun _ _ z => z⟩
mutual
theorem RepD.kept (tk : Tk K H H') (ix : ∀ (k : Nat) (a : Addr), m[k]? = some a → m'[k]? = some a) : ∀ (d : D) (v : V), RepD K H m d v → RepD K H' m' d v
  | .non, _, r => r
  | .bl _, _, r => r
  | .int _, _, r => r
  | .str _, _, r => r
  | .tup xs, v, r => by
    obtain ⟨a, vs, e, s, q⟩ := r
    exact ⟨a, vs, e, tk.1 xs a vs s, RepL.kept tk ix xs vs q⟩
  | .rol xs, v, r => by
    obtain ⟨a, vs, e, s, q⟩ := r
    exact ⟨a, vs, e, tk.2 a vs s, RepL.kept tk ix xs vs q⟩
  | .ref k, v, r => by
    obtain ⟨a, e, q⟩ := r
    exact ⟨a, e, ix k a q⟩
theorem RepL.kept (tk : Tk K H H') (ix : ∀ (k : Nat) (a : Addr), m[k]? = some a → m'[k]? = some a) : ∀ (ds : List D) (vs : List V), RepL K H m ds vs → RepL K H' m' ds vs
  | [], _, r => r
  | x :: xs, vs, r => by
    obtain ⟨v, w', e, q1, q2⟩ := r
    exact ⟨v, w', e, RepD.kept tk ix x v q1, RepL.kept tk ix xs w' q2⟩
end
theorem RepKV.kept {κ : Type} (tk : Tk K H H') (ix : ∀ (k : Nat) (a : Addr), m[k]? = some a → m'[k]? = some a) : ∀ (ds : List (κ × D)) (vs : List (κ × V)), RepKV K H m ds vs → RepKV K H' m' ds vs
  | [], _, r => r
  | x :: xs, vs, r => by
    obtain ⟨v, w', e, q1, q2⟩ := r
    exact ⟨v, w', e, RepD.kept tk ix x.2 v q1, RepKV.kept tk ix xs w' q2⟩
theorem ObjR.kept (tk : Tk K H H') (ix : ∀ (k : Nat) (a : Addr), m[k]? = some a → m'[k]? = some a) {a : Addr} {o : O} (e : H' a = H a) (r : ObjR K H m a o) : ObjR K H' m' a o := by
  cases o with
  | lst xs => obtain ⟨vs, q, r⟩ := r; exact ⟨vs, by rw [e]; exact q, RepL.kept tk ix _ _ r⟩
  | dT xs => obtain ⟨vs, q, r⟩ := r; exact ⟨vs, by rw [e]; exact q, RepKV.kept tk ix _ _ r⟩
  | dK xs => obtain ⟨vs, q, r⟩ := r; exact ⟨vs, by rw [e]; exact q, RepKV.kept tk ix _ _ r⟩
/-- an untracked list is written: no tuple changes -/
theorem tk_upd {a : Addr} {u o : HO} (e : H a = some u) (nt : ∀ xs, u ≠ .tup xs) (nf : ∀ o' x, u ≠ .frz o' x) : Tk K H (upd H a o) := by
  refine ⟨?_, fun b xs s => s.imp (fun ⟨ob, s⟩ => ⟨ob, by rw [upd_ne (ne_of s e (fun z => nf _ _ z.symm))]; exact s⟩) fun z => z⟩
  intro ds b xs s
  refine ⟨?_, fun k => by rw [upd_ne (ne_of (s.2 k) e (fun z => nt _ z.symm))]; exact s.2 k⟩
  obtain ⟨s, _⟩ := s
  rcases s with (s | ⟨ob, s⟩) | s
  · exact .inl (.inl (by rw [upd_ne (ne_of s e (fun z => nt _ z.symm))]; exact s))
  · exact .inl (.inr ⟨ob, by rw [upd_ne (ne_of s e (fun z => nf _ _ z.symm))]; exact s⟩)
  · exact .inr s
theorem Wd.untr (w : Wd K H m h) {a : Addr} {u o : HO} (e : H a = some u) (nt : ∀ xs, u ≠ .tup xs) (nf : ∀ o' x, u ≠ .frz o' x) (na : a ∉ m) : Wd K (upd H a o) m h :=
  ⟨w.len, w.nd, fun k b o' e1 e2 => (w.at_ k b o' e1 e2).kept (tk_upd e nt nf) (fun _ _ z => z) (upd_ne (fun z => na (by rw [← z]; exact List.mem_of_getElem? e1)))⟩
theorem Go.none_ {h' : DH} (g : Go H m H' m') (w' : Wd K H' m' h') {p : Addr} (hp : H' p = none) : H p = none := by
  cases e : H p with
  | none => rfl
  | some o =>
    by_cases z : p ∈ m
    · obtain ⟨t, q⟩ := g.pre
      obtain ⟨u, e2⟩ := w'.some_ (a := p) (by rw [q]; exact List.mem_append_left _ z)
      rw [hp] at e2
      cases e2
    · rw [g.fr p o e z] at hp
      cases hp
theorem Wd.nin (w : Wd K H m h) {p : Addr} (hp : H p = none) : p ∉ m := fun z => by
  obtain ⟨u, e⟩ := w.some_ z
  rw [hp] at e
  cases e
/-- what is tracked without a number stays without -/
theorem Go.nin (g : Go H m H' m') {a : Addr} {o : HO} (e : H a = some o) (na : a ∉ m) : H' a = some o ∧ a ∉ m' :=
  ⟨g.fr a o e na, fun z => by
    have := g.new a z na
    rw [e] at this
    cases this⟩
/-- behind a new untracked object, which was written since -/
theorem Go.upd {D0 : Addr} {o : HO} (g : Go H m H' m') (h0 : H D0 = none) : Go H m (L2.upd H' D0 o) m' :=
  ⟨g.pre, fun a u e n => by rw [upd_ne (ne_of_none e h0)]; exact g.fr a u e n, g.new⟩
end

/-! ### a new list that is not numbered -/
def lOf (K : PySem.W.Frag) (W : WX) (f : DA) : TE := fun σ H Q => ∃ m ρ h, Wd K H m h ∧ EnvR K H m ρ σ ∧ Out K W σ H m (f ρ h) fun ds _ H' m' => ∀ a vs, H a = none → H' a = some (.lst vs) → a ∉ m' → RepL K H' m' ds vs → Q (.ref a) H'
structure PDl (X : Cx) (W : WX) (e : Expr) (f : DA) : Prop where
  pe : PE X e (lOf X.K W f)
def dNum (f : DA) : DE := fun ρ h => bindR (f ρ h) newL
def lLst (g : DA) : DA := fun ρ h => bindR (g ρ h) fun ds h1 => if okLen ds.length then ret ds h1 else none
section
variable {X : Cx} {W : WX} {e : Expr} {es : List Expr} {f : DE} {g : DA} {pos p : Pos}
theorem pd_num (h : PDl X W e g) : PD X W e (dNum g) := by
  refine ⟨h.pe.imp fun σ H Q h => ?_⟩
  obtain ⟨m, ρ, h, w, en, o⟩ := h
  refine ⟨m, ρ, h, w, en, ?_⟩
  unfold dNum bindR at o
  unfold Out
  split <;> rename_i e1
  · rw [e1] at o; exact o
  · rename_i ds h1
    rw [e1] at o
    have o1 : ∀ H' m', Go H m H' m' → Wd X.K H' m' (h1 ++ [.lst ds]) → ∀ u, RepD X.K H' m' (.ref h1.length) u → Q u H' := o
    intro H' m' g' w' a vs h0 ha na rl
    refine o1 H' (m' ++ [a]) ⟨?_, g'.fr, fun b hb n => ?_⟩ ?_ _ ⟨a, rfl, ?_⟩
    · obtain ⟨t, q⟩ := g'.pre
      exact ⟨t ++ [a], by rw [q, List.append_assoc]⟩
    · rcases List.mem_append.mp hb with z | z
      · exact g'.new b z n
      · have : b = a := by simpa using z
        rw [this]; exact h0
    · have ix : ∀ (k : Nat) (b : Addr), m'[k]? = some b → (m' ++ [a])[k]? = some b := fun k b e => by
        rw [List.getElem?_append_left (List.getElem?_eq_some_iff.mp e).1]; exact e
      refine ⟨by simp [w'.len], ?_, fun k b o' e1 e2 => ?_⟩
      · rw [List.nodup_append]
        refine ⟨w'.nd, by simp, fun b hb c hc => ?_⟩
        have : c = a := by simpa using hc
        subst this
        intro z
        subst z
        exact na hb
      · by_cases hk : k < m'.length
        · have e1' : m'[k]? = some b := by rw [List.getElem?_append_left hk] at e1; exact e1
          have e2' : h1[k]? = some o' := by rw [List.getElem?_append_left (by rw [← w'.len]; exact hk)] at e2; exact e2
          exact (w'.at_ k b o' e1' e2').kept Tk.refl ix rfl
        · have hl : k < (m' ++ [a]).length := (List.getElem?_eq_some_iff.mp e1).1
          have : k = m'.length := by simp at hl; omega
          subst this
          have e1' : b = a := by simpa using e1.symm
          have e2' : o' = .lst ds := by rw [w'.len] at e2; simpa using e2.symm
          subst e1' e2'
          exact ⟨vs, ha, RepL.kept Tk.refl ix _ _ rl⟩
    · rw [← w'.len]; simp
  · rw [e1] at o; exact o
/-- into a continuation that takes the list as it stands -/
theorem lay_l {K : PySem.W.Frag} {σ : L2.St} {H H1 : Hp} {m m1 : List Addr} {h1 : DH} {ds : List D} {vs : List V} {Q : VK} {p : Addr} (g : Go H m H1 m1) (w : Wd K H1 m1 h1) (r : RepL K H1 m1 ds vs) (hp : H1 p = none)
    (o : Out K W σ H1 m1 (ret ds h1) fun ds _ H' m' => ∀ a vs, H a = none → H' a = some (.lst vs) → a ∉ m' → RepL K H' m' ds vs → Q (.ref a) H') : Q (.ref p) (upd H1 p (.lst vs)) := by
  have o1 : ∀ H' m', Go H1 m1 H' m' → Wd K H' m' h1 → ∀ a vs, H a = none → H' a = some (.lst vs) → a ∉ m' → RepL K H' m' ds vs → Q (.ref a) H' := o
  exact o1 _ m1 (Go.lay hp) (w.lay hp) p vs (g.none_ w hp) upd_same (w.nin hp) (RepL.go (Go.lay hp) w _ _ r)
theorem pdl_lst (h : PDa X W es g) : PDl X W (.List es pos) (lLst g) := by
  refine ⟨(pe_lst h.pa).imp fun σ H Q h => ?_⟩
  obtain ⟨m, ρ, h, w, en, o⟩ := h
  refine ⟨m, ρ, h, w, en, o.bind.mono fun ds h1 H1 m1 g1 w1 o1 vs rvs => ?_⟩
  split at o1
  · rename_i hl
    refine ⟨?_, fun p hp => lay_l g1 w1 rvs hp o1⟩
    rw [rvs.length]
    exact okLen_le hl
  · exact o1.elim
/-- f(list) of a new list: tuple, all, sum, .. by a rule over SqL -/
abbrev DL := List D → DH → Rh D
def LstD (X : Cx) (W : WX) (r : List V → Hp → VK → Prop) (φ : DL) : Prop := ∀ (σ : L2.St) (H : Hp) (m : List Addr) (h : DH) (ds : List D) (a : Addr) (vs : List V) (Q : VK), Wd X.K H m h → SqL X.K H a vs → RepL X.K H m ds vs →
  Out X.K W σ H m (φ ds h) (fun z _ H' m' => ∀ u, RepD X.K H' m' z u → Q u H') → r [.ref a] H Q
def dL (φ : DL) (g : DA) : DE := fun ρ h => bindR (g ρ h) φ
theorem eOf_L {r : List V → Hp → VK → Prop} {φ : DL} (hd : LstD X W r φ) (σ : L2.St) (H : Hp) (Q : VK) (h : eOf X.K W (dL φ g) σ H Q) : tCB r (tCons (lOf X.K W g) tNil) σ H Q := by
  obtain ⟨m, ρ, h, w, en, o⟩ := h
  exact ⟨m, ρ, h, w, en, o.bind.mono fun ds h1 H1 m1 g1 w1 o1 a vs h0 ha na rl => hd σ H1 m1 h1 ds a vs Q w1 (SqL.of ha) rl o1⟩
theorem pd_LB {x : Str} {id : String} {r : List V → Hp → VK → Prop} {φ : DL} (hc : CallR X (.builtin id) r) (hd : LstD X W r φ) (hm : X.mg x = none) (hv : bootBuiltins x = some (.builtin id)) (ha : PDl X W e g) (hg : Gl X x := by rfl) (hn : x ≠ "__name__" := by decide) (hdb : (x == ("__debug__" : Str)) = false := by decide)
    (he : starEach [e] X.env = (false, eval e X.env) :: starEach [] X.env := by rfl) (hpl : (backTo pos (starEach [] X.env)).any (·.1) = false := by rfl) : PD X W (.Call (.Name x p) [e] [] pos) (dL φ g) :=
  ⟨(pe_callB hc hg hm hv (pa_cons ha.pe pa_nil he) hn hdb he hpl).imp (eOf_L hd)⟩
theorem pd_LT {x : Str} {T : String} {r : List V → Hp → VK → Prop} {φ : DL} (hc : CallR X (.type T) r) (hd : LstD X W r φ) (hm : X.mg x = none) (hv : bootBuiltins x = some (.type T)) (ha : PDl X W e g) (hg : Gl X x := by rfl) (hn : x ≠ "__name__" := by decide) (hdb : (x == ("__debug__" : Str)) = false := by decide)
    (he : starEach [e] X.env = (false, eval e X.env) :: starEach [] X.env := by rfl) (hpl : (backTo pos (starEach [] X.env)).any (·.1) = false := by rfl) : PD X W (.Call (.Name x p) [e] [] pos) (dL φ g) :=
  ⟨(pe_callTy hc hg hm hv (pa_cons ha.pe pa_nil he) hn hdb he hpl).imp (eOf_L hd)⟩
/-- tuple(list) -/
def φTup : DL := fun ds h => ret (.tup ds) h
theorem ld_tup : LstD X W (fun xs H Q => ∃ p ys, xs = [.ref p] ∧ ((SqL X.K H p ys ∧ ∀ l, H l = none → Q (.ref l) (upd H l (.tup ys))) ∨ (SqT X.K H p ys ∧ Q (.ref p) H))) φTup := by
  intro σ H m h ds a vs Q w s r o
  exact ⟨a, vs, rfl, .inl ⟨s, fun l hl => tup_ok w r o hl⟩⟩
/-- all(list of bools) -/
def bools : List D → Option (List Bool)
  | [] => some []
  | .bl b :: r => (bools r).map (b :: ·)
  | _ => none
theorem bools_rep {K : PySem.W.Frag} {H : Hp} {m : List Addr} : ∀ {ds : List D} {vs : List V} {bs : List Bool}, RepL K H m ds vs → bools ds = some bs → vs = bs.map V.bl
  | [], vs, bs, r, e => by cases (show vs = _ from r); cases e; rfl
  | d :: ds, vs, bs, r, e => by
    obtain ⟨v, w, rfl, r1, r2⟩ := r
    cases d with
    | bl b =>
      have e1 : (bools ds).map (b :: ·) = some bs := e
      cases e2 : bools ds with
      | none => rw [e2] at e1; cases e1
      | some cs =>
        rw [e2] at e1
        cases e1
        cases (show v = _ from r1)
        rw [bools_rep r2 e2] <;> rfl
    | _ => cases e
def φAll : DL := fun ds h => match bools ds with
  | some bs => ret (.bl (bs.all id)) h
  | none => none
def φAny : DL := fun ds h => match bools ds with
  | some bs => ret (.bl (bs.any id)) h
  | none => none
theorem ld_all : LstD X W (rAll X.K) φAll := by
  intro σ H m h ds a vs Q w s r o
  unfold φAll at o
  split at o
  · rename_i bs e
    cases bools_rep r e
    exact ⟨a, bs, rfl, s, o.ret w _ rfl⟩
  · exact o.elim
theorem ld_any : LstD X W (rAny X.K) φAny := by
  intro σ H m h ds a vs Q w s r o
  unfold φAny at o
  split at o
  · rename_i bs e
    cases bools_rep r e
    exact ⟨a, bs, rfl, s, o.ret w _ rfl⟩
  · exact o.elim
def intsD : List D → Option (List Int)
  | [] => some []
  | .int b :: r => (intsD r).map (b :: ·)
  | _ => none
theorem ints_rep {K : PySem.W.Frag} {H : Hp} {m : List Addr} : ∀ {ds : List D} {vs : List V} {bs : List Int}, RepL K H m ds vs → intsD ds = some bs → vs = bs.map V.int
  | [], vs, bs, r, e => by cases (show vs = _ from r); cases e; rfl
  | d :: ds, vs, bs, r, e => by
    obtain ⟨v, w, rfl, r1, r2⟩ := r
    cases d with
    | int b =>
      have e1 : (intsD ds).map (b :: ·) = some bs := e
      cases e2 : intsD ds with
      | none => rw [e2] at e1; cases e1
      | some cs =>
        rw [e2] at e1
        cases e1
        cases (show v = _ from r1)
        rw [ints_rep r2 e2] <;> rfl
    | _ => cases e
def φSum : DL := fun ds h => match intsD ds with
  | some ns => ret (.int ns.sum) h
  | none => none
theorem ld_sum : LstD X W (rSum X.K) φSum := by
  intro σ H m h ds a vs Q w s r o
  unfold φSum at o
  split at o
  · rename_i bs e
    cases ints_rep r e
    exact ⟨a, bs, rfl, s, o.ret w _ rfl⟩
  · exact o.elim
def φLen : DL := fun ds h => ret (.int ds.length) h
theorem ld_len : LstD X W (fun xs H Q => ∃ p ys, xs = [.ref p] ∧ (SqL X.K H p ys ∨ SqT X.K H p ys) ∧ Q (.int ys.length) H) φLen := by
  intro σ H m h ds a vs Q w s r o
  refine ⟨a, vs, rfl, .inl s, ?_⟩
  rw [r.length]
  exact o.ret w _ rfl
/-- an item of a new list -/
def dIxL (g : DA) (i : DE) : DE := fun ρ h => bindR (g ρ h) fun ds h1 => bindR (i ρ h1) fun j h2 => match j with
  | .int j => (match atI ds j with
    | some d => ret d h2
    | none => none)
  | _ => none
theorem pd_ixL {b : Expr} {i : DE} (ha : PDl X W e g) (hb : PD X W b i) (hs : PlainIx b := by intro _ _; rfl) : PD X W (.Subscript e b pos) (dIxL g i) := by
  refine ⟨(pe_ix ix_list ha.pe hb.pe hs).imp fun σ H Q h => ?_⟩
  obtain ⟨m, ρ, h, w, en, o⟩ := h
  refine ⟨m, ρ, h, w, en, o.bind.mono fun ds h1 H1 m1 g1 w1 o1 a vs h0 ha na rl => ?_⟩
  refine ⟨m1, ρ, h1, w1, en.go g1 w, o1.bind.mono fun j h2 H2 m2 g2 w2 o2 u ru => ?_⟩
  split at o2
  · rename_i j
    split at o2
    · rename_i d e1
      obtain ⟨v, e2, rv⟩ := atI_rep (RepL.go g2 w1 _ _ rl) e1
      exact ⟨a, vs, j, v, rfl, ru, SqL.of (g2.nin ha na).1, e2, o2.ret w2 _ rv⟩
    · exact o2.elim
  · exact o2.elim
/-- list(seq): a new list -/
def seqD (h : DH) : D → Option (List D)
  | .tup xs => some xs
  | .rol xs => some xs
  | .ref k => (match h[k]? with
    | some (.lst xs) => some xs
    | _ => none)
  | _ => none
theorem seqD_ok {K : PySem.W.Frag} {H : Hp} {m : List Addr} {h : DH} (w : Wd K H m h) {d : D} {v : V} {xs : List D} (r : RepD K H m d v) (e : seqD h d = some xs) : ∃ a vs, v = .ref a ∧ (SqL K H a vs ∨ SqX K H xs a vs) ∧ RepL K H m xs vs := by
  cases d with
  | tup ys => cases e; obtain ⟨a, vs, rfl, s, q⟩ := r; exact ⟨a, vs, rfl, .inr s, q⟩
  | rol ys => cases e; obtain ⟨a, vs, rfl, s, q⟩ := r; exact ⟨a, vs, rfl, .inl s.sq, q⟩
  | ref k =>
    obtain ⟨a, rfl, ha⟩ := r
    cases e2 : h[k]? with
    | none => rw [seqD, e2] at e; cases e
    | some o =>
      have q := w.at_ k a _ ha e2
      cases o with
      | lst ys => rw [seqD, e2] at e; cases e; obtain ⟨vs, z, q⟩ := q; exact ⟨a, vs, rfl, .inl (SqL.of z), q⟩
      | dT ys => rw [seqD, e2] at e; cases e
      | dK ys => rw [seqD, e2] at e; cases e
  | _ => cases e
def lListOf (f : DE) : DA := fun ρ h => bindR (f ρ h) fun d h1 => match seqD h1 d with
  | some xs => ret xs h1
  | none => none
theorem pdl_list (hm : X.mg "list" = none) (ha : PD X W e f) (hg : Gl X "list" := by rfl)
    (he : starEach [e] X.env = (false, eval e X.env) :: starEach [] X.env := by rfl) (hpl : (backTo pos (starEach [] X.env)).any (·.1) = false := by rfl) : PDl X W (.Call (.Name "list" p) [e] [] pos) (lListOf f) := by
  refine ⟨(pe_callTy call_list_of hg hm (by decide +kernel) (pa_cons ha.pe pa_nil he) (by decide) (by decide) he hpl).imp fun σ H Q h => ?_⟩
  obtain ⟨m, ρ, h, w, en, o⟩ := h
  refine ⟨m, ρ, h, w, en, o.bind.mono fun d h1 H1 m1 g1 w1 o1 v rv => ?_⟩
  split at o1
  · rename_i xs e1
    obtain ⟨a, vs, rfl, s, q⟩ := seqD_ok w1 rv e1
    exact ⟨a, vs, rfl, s.imp (fun z => z) (fun z => z.1), fun l hl => lay_l g1 w1 q hl o1⟩
  · exact o1.elim
/-- tuple(seq) -/
def fTuple : DF := fun ds h => match ds with
  | [d] => (match seqD h d with
    | some xs => ret (.tup xs) h
    | none => none)
  | _ => none
theorem cd_tuple : CallD X W (fun xs H Q => ∃ p ys, xs = [.ref p] ∧ ((SqL X.K H p ys ∧ ∀ l, H l = none → Q (.ref l) (upd H l (.tup ys))) ∨ (SqT X.K H p ys ∧ Q (.ref p) H))) fTuple := by
  intro σ H m h ds vs Q w r o
  unfold fTuple at o
  split at o
  · rename_i d
    split at o
    · rename_i xs e1
      obtain ⟨v, rfl, r1⟩ := rep1 r
      obtain ⟨a, ws, rfl, s, q⟩ := seqD_ok w r1 e1
      rcases s with s | s
      · exact ⟨a, ws, rfl, .inl ⟨s, fun l hl => tup_ok w q o hl⟩⟩
      · exact ⟨a, ws, rfl, .inr ⟨s.1, o.ret w _ ⟨a, ws, rfl, s, q⟩⟩⟩
    · exact o.elim
  · exact o.elim
/-! ### slices -/
def cutD (xs : List D) (lo hi : Option Int) : List D := (xs.drop (HT.sIx xs.length 0 lo)).take (HT.sIx xs.length xs.length hi - HT.sIx xs.length 0 lo)
theorem cut_rep {K : PySem.W.Frag} {H : Hp} {m : List Addr} {xs : List D} {vs : List V} (r : RepL K H m xs vs) (lo hi : Option Int) : RepL K H m (cutD xs lo hi) (cutV vs lo hi) := by
  unfold cutD cutV
  rw [r.length]
  exact (r.drop _).take _
abbrev DO := Ev → DH → Rh (Option Int)
def pNo : DO := fun _ h => ret none h
def pSo (f : DE) : DO := fun ρ h => bindR (f ρ h) fun d h1 => match d with
  | .int i => ret (some i) h1
  | _ => none
def oOf (K : PySem.W.Frag) (W : WX) (f : DO) : TO := fun σ H Q => ∃ m ρ h, Wd K H m h ∧ EnvR K H m ρ σ ∧ Out K W σ H m (f ρ h) fun i _ H' _ => Q i H'
structure PDo (X : Cx) (W : WX) (e : Option Expr) (f : DO) : Prop where
  po : PO X e (oOf X.K W f)
theorem pdo_none : PDo X W none pNo := ⟨⟨fun pins s σ H Q I h => po_none.run pins s σ H Q I (by
  obtain ⟨m, ρ, h, w, en, o⟩ := h
  exact o.ret w)⟩⟩
theorem pdo_some (h : PD X W e f) : PDo X W (some e) (pSo f) := ⟨⟨fun pins s σ H Q I h' => (po_some h.pe).run pins s σ H Q I (by
  obtain ⟨m, ρ, h, w, en, o⟩ := h'
  refine ⟨m, ρ, h, w, en, o.bind.mono fun d h1 H1 m1 g1 w1 o1 v rv => ?_⟩
  split at o1
  · exact ⟨_, rv, o1.ret w1⟩
  · exact o1.elim)⟩⟩
def dSlT (f : DE) (lo hi : DO) : DE := fun ρ h => bindR (f ρ h) fun d h1 => bindR (lo ρ h1) fun i h2 => bindR (hi ρ h2) fun j h3 => match d with
  | .tup xs => ret (.tup (cutD xs i j)) h3
  | _ => none
theorem pd_slT {lo hi : Option Expr} {fl fh : DO} {p2 : Pos} (he : PD X W e f) (hl : PDo X W lo fl) (hu : PDo X W hi fh) : PD X W (.Subscript e (.Slice lo hi none p2) pos) (dSlT f fl fh) := by
  refine ⟨(pe_slice sl_tupA he.pe hl.po hu.po).imp fun σ H Q h => ?_⟩
  obtain ⟨m, ρ, h, w, en, o⟩ := h
  refine ⟨m, ρ, h, w, en, o.bind.mono fun d h1 H1 m1 g1 w1 o1 v rv => ?_⟩
  refine ⟨m1, ρ, h1, w1, en.go g1 w, o1.bind.mono fun i h2 H2 m2 g2 w2 o2 => ?_⟩
  refine ⟨m2, ρ, h2, w2, (en.go g1 w).go g2 w1, o2.bind.mono fun j h3 H3 m3 g3 w3 o3 => ?_⟩
  split at o3
  · rename_i xs
    obtain ⟨a, vs, rfl, s, q⟩ := (rv.go g2 w1).go g3 w2
    refine ⟨a, vs, rfl, s.1, fun z => ?_, fun _ p hp => tup_ok w3 (cut_rep q i j) o3 hp⟩
    have e1 : cutD xs i j = xs := by
      unfold cutD
      rw [← q.length, z.1, z.2, List.drop_zero, Nat.sub_zero, q.length, List.take_length]
    rw [e1] at o3
    exact o3.ret w3 _ ⟨a, vs, rfl, s, q⟩
  · exact o3.elim
def lSlL (f : DE) (lo hi : DO) : DA := fun ρ h => bindR (f ρ h) fun d h1 => bindR (lo ρ h1) fun i h2 => bindR (hi ρ h2) fun j h3 => match d with
  | .rol xs => ret (cutD xs i j) h3
  | .ref k => (match h3[k]? with
    | some (.lst xs) => ret (cutD xs i j) h3
    | _ => none)
  | _ => none
theorem pdl_sl {lo hi : Option Expr} {fl fh : DO} {p2 : Pos} (he : PD X W e f) (hl : PDo X W lo fl) (hu : PDo X W hi fh) : PDl X W (.Subscript e (.Slice lo hi none p2) pos) (lSlL f fl fh) := by
  refine ⟨(pe_slice sl_list he.pe hl.po hu.po).imp fun σ H Q h => ?_⟩
  obtain ⟨m, ρ, h, w, en, o⟩ := h
  refine ⟨m, ρ, h, w, en, o.bind.mono fun d h1 H1 m1 g1 w1 o1 v rv => ?_⟩
  refine ⟨m1, ρ, h1, w1, en.go g1 w, o1.bind.mono fun i h2 H2 m2 g2 w2 o2 => ?_⟩
  refine ⟨m2, ρ, h2, w2, (en.go g1 w).go g2 w1, o2.bind.mono fun j h3 H3 m3 g3 w3 o3 => ?_⟩
  split at o3
  · rename_i xs
    obtain ⟨a, vs, rfl, s, q⟩ := (rv.go g2 w1).go g3 w2
    exact ⟨a, vs, rfl, s.sq, fun p hp => lay_l ((g1.trans g2).trans g3) w3 (cut_rep q i j) hp o3⟩
  · rename_i k
    obtain ⟨a, rfl, ha⟩ := (rv.go g2 w1).go g3 w2
    split at o3
    · rename_i xs e1
      obtain ⟨vs, z, q⟩ := w3.lst ha e1
      exact ⟨a, vs, rfl, SqL.of z, fun p hp => lay_l ((g1.trans g2).trans g3) w3 (cut_rep q i j) hp o3⟩
    · exact o3.elim
  · exact o3.elim
end
end Dt

set_option Elab.async false
set_option autoImplicit false
set_option linter.all false
set_option maxRecDepth 100000
set_option maxHeartbeats 2000000
namespace Dt
open PySem PySem.Spec PyProof.Rows L2 RZ

/-! ### what is walked -/
/-- the walk J yields ds as long as st holds of the heap, from (H0, m0) on -/
structure ItOk (K : PySem.W.Frag) (H0 : Hp) (m0 : List Addr) (J : It) (ds : List D) (st : DH → Prop) : Prop where
  go : ∀ i H m h, Go H0 m0 H m → Wd K H m h → st h → i < ds.length → J.go i H
  stop : ∀ i H m h, Go H0 m0 H m → Wd K H m h → st h → i = ds.length → J.stop i H
  yld : ∀ (i : Nat) H m h x H', Go H0 m0 H m → Wd K H m h → st h → i < ds.length → J.yld i H x H' → Go H m H' m ∧ Wd K H' m h ∧ ∃ d, ds[i]? = some d ∧ RepD K H' m d x
theorem _root_.L2.PI.imp {X : Cx} {tg e : Expr} {t t' : TI} (h : PI X tg e t) (k : ∀ σ H Q, t' σ H Q → t σ H Q) : PI X tg e t' := ⟨fun pins s σ H Q I w => h.run pins s σ H Q I (k σ H Q w)⟩
section
variable {K : PySem.W.Frag} {H0 : Hp} {m0 : List Addr} {h0 : DH}
theorem itok_tup {a : Addr} {vs : List V} {ds : List D} (w0 : Wd K H0 m0 h0) (s : SqT K H0 a vs) (r : RepL K H0 m0 ds vs) : ItOk K H0 m0 (Itt K a) ds (fun _ => True) where
  go := fun i H m h g w _ hi => by
    obtain ⟨v, e, _⟩ := r.get (List.getElem?_eq_getElem hi)
    exact ⟨vs, v, g.tup w0 s, e⟩
  stop := fun i H m h g w _ hi0 => have hi := Nat.le_of_eq hi0.symm; ⟨vs, g.tup w0 s, by rw [r.length]; exact hi⟩
  yld := fun i H m h x H' g w _ hi y => by
    obtain ⟨rfl, y⟩ := y
    obtain ⟨d, e, q⟩ := r.get' (y vs (g.tup w0 s))
    exact ⟨Go.refl, w, d, e, q.go g w0⟩
theorem itok_new {a : Addr} {vs : List V} {ds : List D} (w0 : Wd K H0 m0 h0) (s : H0 a = some (.lst vs)) (na : a ∉ m0) (r : RepL K H0 m0 ds vs) : ItOk K H0 m0 (Itl K a) ds (fun _ => True) where
  go := fun i H m h g w _ hi => by
    obtain ⟨v, e, _⟩ := r.get (List.getElem?_eq_getElem hi)
    exact ⟨vs, v, SqL.of (g.nin s na).1, e⟩
  stop := fun i H m h g w _ hi0 => have hi := Nat.le_of_eq hi0.symm; ⟨vs, SqL.of (g.nin s na).1, by rw [r.length]; exact hi⟩
  yld := fun i H m h x H' g w _ hi y => by
    obtain ⟨rfl, y⟩ := y
    obtain ⟨d, e, q⟩ := r.get' (y vs (SqL.of (g.nin s na).1))
    exact ⟨Go.refl, w, d, e, q.go g w0⟩
theorem itok_lst {k : Nat} {a : Addr} {ds : List D} (ha : m0[k]? = some a) : ItOk K H0 m0 (Itl K a) ds (fun h => h[k]? = some (.lst ds)) where
  go := fun i H m h g w st hi => by
    obtain ⟨vs, z, r⟩ := w.lst (g.ix ha) st
    obtain ⟨v, e, _⟩ := r.get (List.getElem?_eq_getElem hi)
    exact ⟨vs, v, SqL.of z, e⟩
  stop := fun i H m h g w st hi0 => have hi := Nat.le_of_eq hi0.symm; by
    obtain ⟨vs, z, r⟩ := w.lst (g.ix ha) st
    exact ⟨vs, SqL.of z, by rw [r.length]; exact hi⟩
  yld := fun i H m h x H' g w st hi y => by
    obtain ⟨rfl, y⟩ := y
    obtain ⟨vs, z, r⟩ := w.lst (g.ix ha) st
    obtain ⟨d, e, q⟩ := r.get' (y vs (SqL.of z))
    exact ⟨Go.refl, w, d, e, q⟩
def rangeD (lo : Int) (n : Nat) : List D := (List.range n).map fun i => D.int (lo + (i : Nat))
theorem rangeD_len {lo : Int} {n : Nat} : (rangeD lo n).length = n := by simp [rangeD]
theorem itok_rng {lo : Int} {n : Nat} : ItOk K H0 m0 (Itr lo n) (rangeD lo n) (fun _ => True) where
  go := fun i H m h g w st hi => by rw [rangeD_len] at hi; exact hi
  stop := fun i H m h g w st hi0 => have hi := Nat.le_of_eq hi0.symm; by rw [rangeD_len] at hi; exact hi
  yld := fun i H m h x H' g w st hi y => by
    obtain ⟨rfl, rfl⟩ := y
    rw [rangeD_len] at hi
    refine ⟨Go.refl, w, .int (lo + i), ?_, rfl⟩
    unfold rangeD
    rw [List.getElem?_map, List.getElem?_range hi] <;> rfl
def enumD (ds : List D) : List D := ds.mapIdx fun i d => D.tup [.int (i : Nat), d]
theorem itok_enumN {a : Addr} {vs : List V} {ds : List D} (w0 : Wd K H0 m0 h0) (s : H0 a = some (.lst vs)) (na : a ∉ m0) (r : RepL K H0 m0 ds vs) : ItOk K H0 m0 (Ite K a) (enumD ds) (fun _ => True) where
  go := fun i H m h g w _ hi => by
    obtain ⟨v, e, _⟩ := r.get (List.getElem?_eq_getElem (by simpa [enumD] using hi))
    exact ⟨vs, v, SqL.of (g.nin s na).1, e⟩
  stop := fun i H m h g w _ hi0 => have hi := Nat.le_of_eq hi0.symm; ⟨vs, SqL.of (g.nin s na).1, by rw [r.length]; simpa [enumD] using hi⟩
  yld := fun i H m h x H' g w _ hi y => by
    obtain ⟨T, v, rfl, hT, rfl, y⟩ := y
    obtain ⟨d, e, q⟩ := r.get' (y vs (SqL.of (g.nin s na).1))
    refine ⟨Go.lay hT, w.lay hT, .tup [.int (i : Nat), d], ?_, ⟨T, _, rfl, SqX.of upd_same, ⟨_, _, rfl, rfl, ⟨v, [], rfl, (q.go g w0).go (Go.lay hT) w, rfl⟩⟩⟩⟩
    simp [enumD, e]
theorem itok_enumK {k : Nat} {a : Addr} {ds : List D} (ha : m0[k]? = some a) : ItOk K H0 m0 (Ite K a) (enumD ds) (fun h => h[k]? = some (.lst ds)) where
  go := fun i H m h g w st hi => by
    obtain ⟨vs, z, r⟩ := w.lst (g.ix ha) st
    obtain ⟨v, e, _⟩ := r.get (List.getElem?_eq_getElem (by simpa [enumD] using hi))
    exact ⟨vs, v, SqL.of z, e⟩
  stop := fun i H m h g w st hi0 => have hi := Nat.le_of_eq hi0.symm; by
    obtain ⟨vs, z, r⟩ := w.lst (g.ix ha) st
    exact ⟨vs, SqL.of z, by rw [r.length]; simpa [enumD] using hi⟩
  yld := fun i H m h x H' g w st hi y => by
    obtain ⟨T, v, rfl, hT, rfl, y⟩ := y
    obtain ⟨vs, z, r⟩ := w.lst (g.ix ha) st
    obtain ⟨d, e, q⟩ := r.get' (y vs (SqL.of z))
    refine ⟨Go.lay hT, w.lay hT, .tup [.int (i : Nat), d], ?_, ⟨T, _, rfl, SqX.of upd_same, ⟨_, _, rfl, rfl, ⟨v, [], rfl, q.go (Go.lay hT) w, rfl⟩⟩⟩⟩
    simp [enumD, e]
/-- zip of two tuples -/
def zipD (ds es : List D) : List D := (ds.zip es).map fun p => D.tup [p.1, p.2]
theorem zipD_get {ds es : List D} {i : Nat} {d e : D} (h1 : ds[i]? = some d) (h2 : es[i]? = some e) : (zipD ds es)[i]? = some (.tup [d, e]) := by
  unfold zipD
  rw [List.getElem?_map, (List.getElem?_zip_eq_some (z := (d, e))).mpr ⟨h1, h2⟩] <;> rfl
theorem zipD_lt {ds es : List D} {i : Nat} (h : i < (zipD ds es).length) : i < ds.length ∧ i < es.length := by
  simp [zipD] at h
  omega
theorem zipD_ge {ds es : List D} {i : Nat} (h : (zipD ds es).length ≤ i) : ds.length ≤ i ∨ es.length ≤ i := by
  simp [zipD] at h
  omega
theorem itok_zipT {a b : Addr} {vs ws : List V} {ds es : List D} (w0 : Wd K H0 m0 h0) (s : SqT K H0 a vs) (r : RepL K H0 m0 ds vs) (s2 : SqT K H0 b ws) (r2 : RepL K H0 m0 es ws) : ItOk K H0 m0 (ItzT K a b) (zipD ds es) (fun _ => True) where
  go := fun i H m h g w _ hi => by
    obtain ⟨v, e, _⟩ := r.get (List.getElem?_eq_getElem (zipD_lt hi).1)
    obtain ⟨v2, e2, _⟩ := r2.get (List.getElem?_eq_getElem (zipD_lt hi).2)
    exact ⟨vs, ws, v, v2, g.tup w0 s, g.tup w0 s2, e, e2⟩
  stop := fun i H m h g w _ hi0 => have hi := Nat.le_of_eq hi0.symm; ⟨vs, ws, g.tup w0 s, g.tup w0 s2, by rw [r.length, r2.length]; exact zipD_ge hi⟩
  yld := fun i H m h x H' g w _ hi y => by
    obtain ⟨T, v, v2, rfl, hT, rfl, y, y2⟩ := y
    obtain ⟨d, e, q⟩ := r.get' (y vs (g.tup w0 s))
    obtain ⟨d2, e2, q2⟩ := r2.get' (y2 ws (g.tup w0 s2))
    exact ⟨Go.lay hT, w.lay hT, .tup [d, d2], zipD_get e e2, ⟨T, _, rfl, SqX.of upd_same, ⟨v, _, rfl, (q.go g w0).go (Go.lay hT) w, ⟨v2, [], rfl, (q2.go g w0).go (Go.lay hT) w, rfl⟩⟩⟩⟩
/-- zip of two numbered lists -/
theorem itok_zipL {k l : Nat} {a b : Addr} {ds es : List D} (ha : m0[k]? = some a) (hb : m0[l]? = some b) : ItOk K H0 m0 (Itz K a b) (zipD ds es) (fun h => h[k]? = some (.lst ds) ∧ h[l]? = some (.lst es)) where
  go := fun i H m h g w st hi => by
    obtain ⟨vs, z, r⟩ := w.lst (g.ix ha) st.1
    obtain ⟨ws, z2, r2⟩ := w.lst (g.ix hb) st.2
    obtain ⟨v, e, _⟩ := r.get (List.getElem?_eq_getElem (zipD_lt hi).1)
    obtain ⟨v2, e2, _⟩ := r2.get (List.getElem?_eq_getElem (zipD_lt hi).2)
    exact ⟨vs, ws, v, v2, SqL.of z, SqL.of z2, e, e2⟩
  stop := fun i H m h g w st hi0 => have hi := Nat.le_of_eq hi0.symm; by
    obtain ⟨vs, z, r⟩ := w.lst (g.ix ha) st.1
    obtain ⟨ws, z2, r2⟩ := w.lst (g.ix hb) st.2
    exact ⟨vs, ws, SqL.of z, SqL.of z2, by rw [r.length, r2.length]; exact zipD_ge hi⟩
  yld := fun i H m h x H' g w st hi y => by
    obtain ⟨T, v, v2, rfl, hT, rfl, y, y2⟩ := y
    obtain ⟨vs, z, r⟩ := w.lst (g.ix ha) st.1
    obtain ⟨ws, z2, r2⟩ := w.lst (g.ix hb) st.2
    obtain ⟨d, e, q⟩ := r.get' (y vs (SqL.of z))
    obtain ⟨d2, e2, q2⟩ := r2.get' (y2 ws (SqL.of z2))
    exact ⟨Go.lay hT, w.lay hT, .tup [d, d2], zipD_get e e2, ⟨T, _, rfl, SqX.of upd_same, ⟨v, _, rfl, q.go (Go.lay hT) w, ⟨v2, [], rfl, q2.go (Go.lay hT) w, rfl⟩⟩⟩⟩
end
/-- st is part of the source -/
abbrev Src' := List D × (DH → Prop)
abbrev DI' := Ev → DH → Rh Src'
def iOf' (K : PySem.W.Frag) (W : WX) (f : DI') : TI := fun σ H R => ∃ m ρ h, Wd K H m h ∧ EnvR K H m ρ σ ∧ Out K W σ H m (f ρ h) fun s h' H' m' => ∀ J, ItOk K H' m' J s.1 s.2 → R J H'
structure PDj (X : Cx) (W : WX) (tg e : Expr) (f : DI') : Prop where
  pi : PI X tg e (iOf' X.K W f)
def sT : DH → Prop := fun _ => True
def sL (k : Nat) (ds : List D) : DH → Prop := fun h => h[k]? = some (.lst ds)
def sL2 (k l : Nat) (ds es : List D) : DH → Prop := fun h => h[k]? = some (.lst ds) ∧ h[l]? = some (.lst es)
def iSeqT (f : DE) : DI' := fun ρ h => bindR (f ρ h) fun d h1 => match d with
  | .tup xs => ret (xs, sT) h1
  | _ => none
def iSeqL (f : DE) : DI' := fun ρ h => bindR (f ρ h) fun d h1 => match d with
  | .ref k => (match h1[k]? with
    | some (.lst xs) => ret (xs, sL k xs) h1
    | _ => none)
  | _ => none
def iNew (g : DA) : DI' := fun ρ h => bindR (g ρ h) fun ds h1 => ret (ds, sT) h1
def iRng1 (g : DE) : DI' := fun ρ h => bindR (g ρ h) fun d h1 => match d with
  | .int j => if -(2 ^ 62) ≤ j ∧ j < 2 ^ 62 then ret (rangeD 0 j.toNat, sT) h1 else none
  | _ => none
def iRng2 (f g : DE) : DI' := fun ρ h => bindR (f ρ h) fun d h1 => bindR (g ρ h1) fun d2 h2 => match d, d2 with
  | .int i, .int j => if -(2 ^ 62) ≤ i ∧ i < 2 ^ 62 ∧ -(2 ^ 62) ≤ j ∧ j < 2 ^ 62 then ret (rangeD i (j - i).toNat, sT) h2 else none
  | _, _ => none
def iEnumN (g : DA) : DI' := fun ρ h => bindR (g ρ h) fun ds h1 => ret (enumD ds, sT) h1
def iZip2 (f g : DE) : DI' := fun ρ h => bindR (f ρ h) fun d h1 => bindR (g ρ h1) fun d2 h2 => match d, d2 with
  | .tup xs, .tup ys => ret (zipD xs ys, sT) h2
  | .ref k, .ref l => (match h2[k]?, h2[l]? with
    | some (.lst xs), some (.lst ys) => ret (zipD xs ys, sL2 k l xs ys) h2
    | _, _ => none)
  | _, _ => none
section
variable {X : Cx} {W : WX} {tg e e2 : Expr} {es : List Expr} {f f2 : DE} {g : DA} {pos p : Pos}
theorem pdj_tup (he : PD X W e f) : PDj X W tg e (iSeqT f) := by
  refine ⟨(pi_tup he.pe).imp fun σ H Q h => ?_⟩
  obtain ⟨m, ρ, h, w, en, o⟩ := h
  refine ⟨m, ρ, h, w, en, o.bind.mono fun d h1 H1 m1 g1 w1 o1 v rv => ?_⟩
  split at o1
  · rename_i xs
    obtain ⟨a, vs, rfl, s, q⟩ := rv
    exact ⟨a, rfl, ⟨vs, s.1⟩, o1.ret w1 _ (itok_tup w1 s.1 q)⟩
  · exact o1.elim
theorem pdj_lst (he : PD X W e f) : PDj X W tg e (iSeqL f) := by
  refine ⟨(pi_list he.pe).imp fun σ H Q h => ?_⟩
  obtain ⟨m, ρ, h, w, en, o⟩ := h
  refine ⟨m, ρ, h, w, en, o.bind.mono fun d h1 H1 m1 g1 w1 o1 v rv => ?_⟩
  split at o1
  · rename_i k
    split at o1
    · rename_i xs e1
      obtain ⟨a, rfl, ha⟩ := rv
      obtain ⟨vs, z, q⟩ := w1.lst ha e1
      exact ⟨a, rfl, ⟨vs, SqL.of z⟩, o1.ret w1 _ (itok_lst ha)⟩
    · exact o1.elim
  · exact o1.elim
theorem pdj_new (he : PDl X W e g) : PDj X W tg e (iNew g) := by
  refine ⟨(pi_list he.pe).imp fun σ H Q h => ?_⟩
  obtain ⟨m, ρ, h, w, en, o⟩ := h
  refine ⟨m, ρ, h, w, en, o.bind.mono fun ds h1 H1 m1 g1 w1 o1 a vs h0 ha na rl => ?_⟩
  exact ⟨a, rfl, ⟨vs, SqL.of ha⟩, o1.ret w1 _ (itok_new w1 ha na rl)⟩
theorem pdj_rng1 (hm : X.mg "range" = none) (ha : PD X W e f) (hg : Gl X "range" := by rfl) (hs : starEach [e] X.env = (false, eval e X.env) :: starEach [] X.env := by rfl) : PDj X W tg (.Call (.Name "range" p) [e] [] pos) (Dt.iRng1 f) := by
  refine ⟨(pi_range1 hg hm (pa_cons ha.pe pa_nil hs) hs).imp fun σ H Q h => ?_⟩
  obtain ⟨m, ρ, h, w, en, o⟩ := h
  refine ⟨m, ρ, h, w, en, o.bind.mono fun d h1 H1 m1 g1 w1 o1 v rv => ?_⟩
  split at o1
  · rename_i j
    split at o1
    · rename_i hj
      exact ⟨j, by rw [show v = _ from rv], hj.1, hj.2, o1.ret w1 _ itok_rng⟩
    · exact o1.elim
  · exact o1.elim
theorem pdj_rng2 (hm : X.mg "range" = none) (ha : PD X W e f) (hb : PD X W e2 f2) (hg : Gl X "range" := by rfl) (hs : starEach [e, e2] X.env = (false, eval e X.env) :: starEach [e2] X.env := by rfl) (hs2 : starEach [e2] X.env = (false, eval e2 X.env) :: starEach [] X.env := by rfl)
    (hs3 : starEach [e, e2] X.env = [(false, eval e X.env), (false, eval e2 X.env)] := by rfl) : PDj X W tg (.Call (.Name "range" p) [e, e2] [] pos) (Dt.iRng2 f f2) := by
  refine ⟨(pi_range2 hg hm (pa_cons ha.pe (pa_cons hb.pe pa_nil hs2) hs) hs3 hs2).imp fun σ H Q h => ?_⟩
  obtain ⟨m, ρ, h, w, en, o⟩ := h
  refine ⟨m, ρ, h, w, en, o.bind.mono fun d h1 H1 m1 g1 w1 o1 v rv => ?_⟩
  refine ⟨m1, ρ, h1, w1, en.go g1 w, o1.bind.mono fun d2 h2 H2 m2 g2 w2 o2 v2 rv2 => ?_⟩
  split at o2
  · rename_i i j
    split at o2
    · rename_i hj
      exact ⟨i, j, by rw [show v = _ from rv, show v2 = _ from rv2], hj, o2.ret w2 _ itok_rng⟩
    · exact o2.elim
  · exact o2.elim
theorem pdj_enumN {elts : List Expr} {kk : Nat} {tpos : Pos} (hm : X.mg "enumerate" = none) (ha : PDl X W e g) (hg : Gl X "enumerate" := by rfl) (hs : starEach [e] X.env = (false, eval e X.env) :: starEach [] X.env := by rfl) : PDj X W (.Tuple elts kk tpos) (.Call (.Name "enumerate" p) [e] [] pos) (iEnumN g) := by
  refine ⟨(pi_enum hg hm (pa_cons ha.pe pa_nil hs) hs).imp fun σ H Q h => ?_⟩
  obtain ⟨m, ρ, h, w, en, o⟩ := h
  refine ⟨m, ρ, h, w, en, o.bind.mono fun ds h1 H1 m1 g1 w1 o1 a vs h0 ha na rl => ?_⟩
  exact ⟨a, vs, rfl, SqL.of ha, o1.ret w1 _ (itok_enumN w1 ha na rl)⟩
theorem pdj_zip {elts : List Expr} {kk : Nat} {tpos : Pos} (hm : X.mg "zip" = none) (ha : PD X W e f) (hb : PD X W e2 f2) (hg : Gl X "zip" := by rfl) (hs : starEach [e, e2] X.env = (false, eval e X.env) :: starEach [e2] X.env := by rfl) (hs2 : starEach [e2] X.env = (false, eval e2 X.env) :: starEach [] X.env := by rfl)
    (hpl : (backTo pos (starEach [e2] X.env)).any (·.1) = false := by rfl) : PDj X W (.Tuple elts kk tpos) (.Call (.Name "zip" p) [e, e2] [] pos) (iZip2 f f2) := by
  refine ⟨(pi_zipA hg hm (pa_cons ha.pe (pa_cons hb.pe pa_nil hs2) hs) hs hpl).imp fun σ H Q h => ?_⟩
  obtain ⟨m, ρ, h, w, en, o⟩ := h
  refine ⟨m, ρ, h, w, en, o.bind.mono fun d h1 H1 m1 g1 w1 o1 v rv => ?_⟩
  refine ⟨m1, ρ, h1, w1, en.go g1 w, o1.bind.mono fun d2 h2 H2 m2 g2 w2 o2 v2 rv2 => ?_⟩
  split at o2
  · rename_i xs ys
    obtain ⟨a, vs, rfl, s, q⟩ := rv.go g2 w1
    obtain ⟨b, ws, rfl, s2, q2⟩ := rv2
    exact ⟨a, b, vs, ws, rfl, .inr ⟨s.1, s2.1, o2.ret w2 _ (itok_zipT w2 s.1 q s2.1 q2)⟩⟩
  · rename_i k l
    split at o2
    · rename_i xs ys e1 e2
      obtain ⟨a, rfl, ha⟩ := rv.go g2 w1
      obtain ⟨b, rfl, hb⟩ := rv2
      obtain ⟨vs, z, q⟩ := w2.lst ha e1
      obtain ⟨ws, z2, q2⟩ := w2.lst hb e2
      exact ⟨a, b, vs, ws, rfl, .inl ⟨SqL.of z, SqL.of z2, o2.ret w2 _ (itok_zipL ha hb)⟩⟩
    · exact o2.elim
  · exact o2.elim
end
end Dt

set_option Elab.async false
set_option autoImplicit false
set_option linter.all false
set_option maxRecDepth 100000
set_option maxHeartbeats 2000000
namespace Dt
open PySem PySem.Spec PyProof.Rows L2 RZ

/-! ### targets: names and tuples of targets -/
/-- slots and what goes there, in order -/
abbrev Pt := D → Option (List (Nat × D))
abbrev Pts := List D → Option (List (Nat × D))
def setE (ρ : Ev) : List (Nat × D) → Ev
  | [] => ρ
  | p :: r => setE (ρ.set p.1 (some p.2)) r
def setV (σ : L2.St) : List (Nat × V) → L2.St
  | [] => σ
  | p :: r => setV (σ.set p.1 (some p.2)) r
section
variable {K : PySem.W.Frag} {H : Hp} {m : List Addr}
theorem setE_rep : ∀ {l : List (Nat × D)} {lv : List (Nat × V)} {ρ : Ev} {σ : L2.St}, RepKV K H m l lv → EnvR K H m ρ σ → EnvR K H m (setE ρ l) (setV σ lv)
  | [], lv, ρ, σ, r, e => by cases (show lv = _ from r); exact e
  | p :: l, lv, ρ, σ, r, e => by
    obtain ⟨v, w, rfl, r1, r2⟩ := r
    show EnvR K H m (setE (ρ.set p.1 (some p.2)) l) (setV (σ.set p.1 (some v)) w)
    exact setE_rep (l := l) (lv := w) r2 (e.set r1)
theorem wipe_set {σ : L2.St} {i : Nat} {x : Option V} : ∀ {vs : List Nat}, i ∈ vs → L2.wipe (σ.set i x) vs = L2.wipe σ vs
  | [], h => by cases h
  | v :: vs, h => by
    unfold L2.wipe
    by_cases hi : i ∈ vs
    · rw [wipe_set hi]
    · have e : i = v := by
        rcases List.mem_cons.mp h with z | z
        · exact z
        · exact absurd z hi
      subst e
      have : ∀ ws : List Nat, i ∉ ws → (L2.wipe (σ.set i x) ws) = (L2.wipe σ ws).set i x := by
        intro ws
        induction ws with
        | nil => intro _; rfl
        | cons u us ih =>
          intro hu
          have h1 : i ≠ u := fun z => hu (by rw [z]; exact List.mem_cons_self)
          have h2 : i ∉ us := fun z => hu (List.mem_cons_of_mem _ z)
          unfold L2.wipe
          rw [ih h2, List.set_comm _ _ h1]
      rw [this vs hi, List.set_set]
theorem wipe_none {σ : L2.St} {i : Nat} : ∀ {vs : List Nat}, i ∈ vs → (L2.wipe σ vs).set i none = L2.wipe σ vs
  | [], h => by cases h
  | v :: vs, h => by
    unfold L2.wipe
    by_cases hv : i = v
    · subst hv; rw [List.set_set]
    · have hi : i ∈ vs := by
        rcases List.mem_cons.mp h with z | z
        · exact absurd z hv
        · exact z
      rw [List.set_comm _ _ (Ne.symm hv), wipe_none hi]
theorem wipe_sub {τ : L2.St} : ∀ {vs : List Nat}, (∀ i ∈ vs, τ.set i none = τ) → L2.wipe τ vs = τ
  | [], _ => rfl
  | v :: vs, h => by
    show (L2.wipe τ vs).set v none = τ
    rw [wipe_sub fun i hi => h i (List.mem_cons_of_mem _ hi)]
    exact h v List.mem_cons_self
theorem wipe_wipe {σ : L2.St} {ws : List Nat} : L2.wipe (L2.wipe σ ws) ws = L2.wipe σ ws := wipe_sub (τ := L2.wipe σ ws) fun _ z => wipe_none z
theorem wipe_setV : ∀ {lv : List (Nat × V)} {σ : L2.St} {vs : List Nat}, (∀ p ∈ lv, p.1 ∈ vs) → L2.wipe (setV σ lv) vs = L2.wipe σ vs
  | [], _, _, _ => rfl
  | p :: l, σ, vs, h => by
    unfold setV
    rw [wipe_setV (fun q hq => h q (List.mem_cons_of_mem _ hq)), wipe_set (h p List.mem_cons_self)]
theorem kv_fst {l : List (Nat × D)} {lv : List (Nat × V)} (r : RepKV K H m l lv) : lv.map (·.1) = l.map (·.1) := by
  induction l generalizing lv with
  | nil => cases (show lv = _ from r); rfl
  | cons p l ih =>
    obtain ⟨v, w, rfl, _, r2⟩ := r
    simp [ih r2]
theorem kv_app {κ : Type} : ∀ {l l2 : List (κ × D)} {lv lv2 : List (κ × V)}, RepKV K H m l lv → RepKV K H m l2 lv2 → RepKV K H m (l ++ l2) (lv ++ lv2)
  | [], _, _, _, r, q => by cases (show _ = [] from r); exact q
  | p :: l, l2, lv, lv2, r, q => by
    obtain ⟨v, w, rfl, r1, r2⟩ := r
    exact ⟨v, w ++ lv2, rfl, r1, kv_app r2 q⟩
end
def setV_app (σ : L2.St) (l l2 : List (Nat × V)) : setV σ (l ++ l2) = setV (setV σ l) l2 := by
  induction l generalizing σ with
  | nil => rfl
  | cons p l ih => exact ih _
def gOf (K : PySem.W.Frag) (g : Pt) : TG := fun v σ H Q => ∃ m d l, RepD K H m d v ∧ g d = some l ∧ ∀ lv, RepKV K H m l lv → Q (setV σ lv) H
def gsOf (K : PySem.W.Frag) (g : Pts) : TGs := fun vs σ H Q => ∃ m ds l, RepL K H m ds vs ∧ g ds = some l ∧ ∀ lv, RepKV K H m l lv → Q (setV σ lv) H
structure PDg (X : Cx) (tg : Expr) (g : Pt) : Prop where
  pg : PG X tg (gOf X.K g)
structure PDgs (X : Cx) (tgs : List Expr) (g : Pts) : Prop where
  pg : PGs X tgs (gsOf X.K g)
theorem _root_.L2.PG.imp {X : Cx} {tg : Expr} {t t' : TG} (h : PG X tg t) (k : ∀ v σ H Q, t' v σ H Q → t v σ H Q) : PG X tg t' := ⟨fun pins s σ H v u Q I r w => h.run pins s σ H v u Q I r (k v σ H Q w)⟩
theorem _root_.L2.PGs.imp {X : Cx} {tg : List Expr} {t t' : TGs} (h : PGs X tg t) (k : ∀ v σ H Q, t' v σ H Q → t v σ H Q) : PGs X tg t' := ⟨fun pins s σ H v u Q I r w => h.run pins s σ H v u Q I r (k v σ H Q w)⟩
def gN (i : Nat) : Pt := fun d => some [(i, d)]
def gN0 : Pts := fun ds => match ds with
  | [] => some []
  | _ => none
def gC (g : Pt) (gs : Pts) : Pts := fun ds => match ds with
  | d :: r => (g d).bind fun l => (gs r).map fun l2 => l ++ l2
  | _ => none
def gT (n : Nat) (gs : Pts) : Pt := fun d => match d with
  | .tup xs => if xs.length = n then gs xs else none
  | _ => none
section
variable {X : Cx} {W : WX} {pos : Pos}
theorem pdg_n {i : Nat} {x : Str} (hN : X.N.Nodup) (hi : X.N[i]? = some x := by rfl) (hx : Loc X.env.scope x := by first | exact Or.inl rfl | exact Or.inr rfl) (hf : X.fn x = true ∨ X.env.scope.names.lookup x = some .local := by first | exact .inl rfl | exact .inr rfl | assumption) : PDg X (.Name x pos) (gN i) := by
  refine ⟨(pg_name hN hi hx hf).imp fun v σ H Q h => ?_⟩
  obtain ⟨m, d, l, r, e, q⟩ := h
  cases e
  exact q [(i, v)] ⟨v, [], rfl, r, rfl⟩
theorem pdgs_nil : PDgs X [] gN0 := by
  refine ⟨pgs_nil.imp fun vs σ H Q h => ?_⟩
  obtain ⟨m, ds, l, r, e, q⟩ := h
  unfold gN0 at e
  split at e
  · cases e
    exact ⟨r, q [] rfl⟩
  · cases e
theorem pdgs_cons {e : Expr} {es : List Expr} {g : Pt} {gs : Pts} (h1 : PDg X e g) (h2 : PDgs X es gs)
    (hs : (assignEach (e :: es) X.env).map (·.2) = assign e X.env :: (assignEach es X.env).map (·.2) := by rfl) : PDgs X (e :: es) (gC g gs) := by
  refine ⟨(pgs_cons h1.pg h2.pg hs).imp fun vs σ H Q h => ?_⟩
  obtain ⟨m, ds, l, r, e, q⟩ := h
  unfold gC at e
  split at e
  · rename_i d ds'
    obtain ⟨v, w, rfl, r1, r2⟩ := r
    cases e1 : g d with
    | none => rw [e1] at e; cases e
    | some l1 =>
      cases e2 : gs ds' with
      | none => rw [e1, e2] at e; cases e
      | some l2 =>
        rw [e1, e2] at e
        cases e
        refine ⟨v, w, rfl, m, d, l1, r1, e1, fun lv1 q1 => ⟨m, ds', l2, r2, e2, fun lv2 q2 => ?_⟩⟩
        rw [← setV_app]
        exact q _ (kv_app q1 q2)
  · cases e
theorem pdg_t {es : List Expr} {k n : Nat} {gs : Pts} (hc : X.calm = true) (h : PDgs X es gs)
    (hn : (assignEach es X.env).length = n := by rfl) (hst : (assignEach es X.env).findIdx? (·.1) = none := by rfl) : PDg X (.Tuple es k pos) (gT n gs) := by
  refine ⟨(pg_tup (n := n) hc h.pg hn hst).imp fun v σ H Q h => ?_⟩
  obtain ⟨m, d, l, r, e, q⟩ := h
  unfold gT at e
  split at e
  · rename_i xs
    split at e
    · rename_i hl
      obtain ⟨a, vs, rfl, s, q1⟩ := r
      exact ⟨a, vs, rfl, s.1, by rw [q1.length]; exact hl, m, xs, l, q1, e, q⟩
    · cases e
  · cases e
end

/-! ### list comprehensions -/
open Classical in
noncomputable def lcGo (st : DH → Prop) (g : Pt) (tt : DB) (te : DE) (ρ : Ev) : List D → DH → Rh (List D)
  | [], h => if st h then ret [] h else none
  | d :: ds, h => if st h then (match g d with
    | none => none
    | some l => bindR (tt (setE ρ l) h) fun b h1 => if b then bindR (te (setE ρ l) h1) fun y h2 => bindR (lcGo st g tt te ρ ds h2) fun ys h3 => if okLen ys.length then ret (y :: ys) h3 else none else lcGo st g tt te ρ ds h1) else none
noncomputable def lLc (src : DI') (g : Pt) (tt : DB) (te : DE) (own : List Nat) : DA := fun ρ h => bindR (src ρ h) fun s h1 => match lcGo s.2 g tt te (wipeD ρ own) s.1 h1 with
  | some (.ok ys, h2) => ret ys h2
  | _ => none
def bYes : DB := fun _ h => ret true h
/-- no exception leaves -/
def WF : WX := fun _ _ _ _ => False
structure PDts (X : Cx) (W : WX) (ifs : List Expr) (t : DB) : Prop where
  pts : PTs X ifs (bOf X.K W t)
theorem pdts_nil {X : Cx} {W : WX} : PDts X W [] bYes := ⟨⟨fun pins s σ H Q I h => pts_nil.run pins s σ H Q I (by
  obtain ⟨m, ρ, h, w, en, o⟩ := h
  exact o.ret w)⟩⟩
theorem pdts_one {X : Cx} {W : WX} {c : Expr} {t : DB} (h : PDt X W c t) : PDts X W [c] t := ⟨pts_one h.pt⟩
theorem bindR_ok {α β : Type} {r : Rh α} {k : α → DH → Rh β} {b : β} {h : DH} (e : bindR r k = some (.ok b, h)) : ∃ a h1, r = some (.ok a, h1) ∧ k a h1 = some (.ok b, h) := by
  unfold bindR at e
  split at e
  · cases e
  · exact ⟨_, _, rfl, e⟩
  · cases e
theorem Out.of_ok {α : Type} {K : PySem.W.Frag} {W : WX} {σ : L2.St} {H : Hp} {m : List Addr} {r : Rh α} {a : α} {h : DH} {P : α → DH → Hp → List Addr → Prop} (e : r = some (.ok a, h)) (k : ∀ H' m', Go H m H' m' → Wd K H' m' h → P a h H' m') : Out K W σ H m r P := by
  rw [e]
  exact k
section
variable {X : Cx} {W : WX}
theorem lcGo_le {st : DH → Prop} {g : Pt} {tt : DB} {te : DE} {ρ : Ev} : ∀ {ds : List D} {h h' : DH} {ys : List D}, lcGo st g tt te ρ ds h = some (.ok ys, h') → ys.length ≤ 1000001
  | [], h, h', ys, e => by
    unfold lcGo at e
    split at e
    · cases e; exact Nat.zero_le _
    · cases e
  | d :: ds, h, h', ys, e => by
    unfold lcGo at e
    split at e
    · split at e
      · cases e
      · obtain ⟨b, h1, e1, e2⟩ := bindR_ok e
        cases b with
        | true =>
          rw [if_pos rfl] at e2
          obtain ⟨y, h2, e3, e4⟩ := bindR_ok e2
          obtain ⟨zs, h3, e5, e6⟩ := bindR_ok e4
          split at e6
          · rename_i hl
            cases e6
            have := of_decide_eq_true hl
            simp
            omega
          · cases e6
        | false =>
          rw [if_neg Bool.false_ne_true] at e2
          exact lcGo_le e2
    · cases e
theorem drop_cons {ds : List D} {i : Nat} (hi : i < ds.length) : ds.drop i = ds[i] :: ds.drop (i + 1) := List.drop_eq_getElem_cons hi
theorem pdl_lc {elt tg iter : Expr} {ifs : List Expr} {scope : Scope} {own : List (Str × Nat)} {pos : Pos} {src : DI'} {g : Pt} {tt : DB} {te : DE} (hc : X.calm = true) (hN : X.N.Nodup) (hi : PDj X W tg iter src) (ok : BlkOk X.N X.env.scope scope own)
    (hg : ∀ (s : Shared) (H : Hp) (C : Addr) (cl : List (Str × Addr)) (fp : List Addr), PDg (X.blk s H scope (compEnvC scope cl C X.env) fp) tg g) (ht : ∀ (s : Shared) (H : Hp) (C : Addr) (cl : List (Str × Addr)) (fp : List Addr), PDts (X.blk s H scope (compEnvC scope cl C X.env) fp) WF ifs tt)
    (he : ∀ (s : Shared) (H : Hp) (C : Addr) (cl : List (Str × Addr)) (fp : List Addr), PD (X.blk s H scope (compEnvC scope cl C X.env) fp) WF elt te)
    (hown : ∀ d l, g d = some l → ∀ p ∈ l, p.1 ∈ own.map (·.2)) (hs : ∀ x, foldedSetIterable iter X.env x = pure x := by intro _; rfl) :
    PDl X W (.ListComp elt [⟨tg, iter, ifs, 0⟩] scope pos) (lLc src g tt te (own.map (·.2))) := by
  refine ⟨(pe_lc (te := eOf X.K WF te) (tt := bOf X.K WF tt) (g := gOf X.K g) hc hN hi.pi ok (fun s H C cl fp => (hg s H C cl fp).pg) (fun s H C cl fp => (ht s H C cl fp).pts) (fun s H C cl fp => (he s H C cl fp).pe) hs).imp fun σ H Q h => ?_⟩
  obtain ⟨m, ρ, h, w, en, o⟩ := h
  refine ⟨m, ρ, h, w, en, o.bind.mono fun s h1 H1 m1 g1 w1 o1 J iok D0 hD => ?_⟩
  have enw : EnvR X.K H1 m1 (wipeD ρ (own.map (·.2))) (L2.wipe σ (own.map (·.2))) := (en.go g1 w).wipe _
  -- the result
  split at o1
  · rename_i ys hf eR
    have o2 : ∀ H' m', Go H1 m1 H' m' → Wd X.K H' m' hf → ∀ a vs, H a = none → H' a = some (.lst vs) → a ∉ m' → RepL X.K H' m' ys vs → Q (.ref a) H' := o1
    have hys := lcGo_le eR
    refine ⟨fun i n H' => n = s.1.length - i ∧ i ≤ s.1.length ∧ ∃ m' h' acc accV rest, Go H1 m1 H' m' ∧ Wd X.K H' m' h' ∧ H' D0 = some (.lst accV) ∧ RepL X.K H' m' acc accV ∧ D0 ∉ m' ∧ lcGo s.2 g tt te (wipeD ρ (own.map (·.2))) (s.1.drop i) h' = some (.ok rest, hf) ∧ acc ++ rest = ys,
      ⟨_, rfl, Nat.zero_le _, m1, h1, [], [], ys, Go.lay hD, w1.lay hD, upd_same, rfl, w1.nin hD, by rw [List.drop_zero]; exact eR, rfl⟩, ?_⟩
    rintro i n H' ⟨rfl, hi', m', h', acc, accV, rest, gg, ww, hacc, racc, nD, eL, eys⟩
    have H0D : H D0 = none := g1.none_ w1 hD
    by_cases hlt : i < s.1.length
    · right
      rw [drop_cons hlt] at eL
      have st0 : s.2 h' := by
        unfold lcGo at eL
        split at eL
        · assumption
        · cases eL
      refine ⟨iok.go i H' m' h' gg ww st0 hlt, fun H' => ∃ m' h' acc accV rest, Go H1 m1 H' m' ∧ Wd X.K H' m' h' ∧ H' D0 = some (.lst accV) ∧ RepL X.K H' m' acc accV ∧ D0 ∉ m' ∧ lcGo s.2 g tt te (wipeD ρ (own.map (·.2))) (s.1.drop (i + 1)) h' = some (.ok rest, hf) ∧ acc ++ rest = ys,
        fun H'' z => ⟨_, by omega, rfl, hlt, z⟩, fun x H2 y => ?_⟩
      obtain ⟨gy, wy, d, ed, rd⟩ := iok.yld i H' m' h' x H2 gg ww st0 hlt y
      have ed' : d = s.1[i] := by rw [List.getElem?_eq_getElem hlt] at ed; exact (Option.some.inj ed).symm
      subst ed'
      unfold lcGo at eL
      rw [if_pos st0] at eL
      cases eg : g s.1[i] with
      | none => rw [eg] at eL; cases eL
      | some l =>
        rw [eg] at eL
        refine ⟨m', s.1[i], l, rd, eg, fun lv rlv => ?_⟩
        have en2 : EnvR X.K H2 m' (setE (wipeD ρ (own.map (·.2))) l) (setV (L2.wipe σ (own.map (·.2))) lv) := setE_rep rlv ((enw.go gg w1).go gy ww)
        refine ⟨?_, ?_⟩
        · have hin : ∀ p ∈ lv, p.1 ∈ own.map (·.2) := fun p hp => by
            have h1 : p.1 ∈ lv.map (·.1) := List.mem_map_of_mem hp
            rw [kv_fst rlv] at h1
            obtain ⟨q, hq, e⟩ := List.mem_map.mp h1
            rw [← e]
            exact hown _ _ eg q hq
          rw [wipe_setV hin, wipe_wipe]
        · obtain ⟨b, h3, e1, e2⟩ := bindR_ok eL
          refine ⟨m', _, h', wy, en2, Out.of_ok e1 fun H3 m3 g3 w3 => ?_⟩
          have nD2 := gy.nin hacc nD
          have nD3 := g3.nin nD2.1 nD2.2
          have racc3 : RepL X.K H3 m3 acc accV := (RepL.go g3 wy _ _ (RepL.go gy ww _ _ racc))
          cases b with
          | false =>
            rw [if_neg Bool.false_ne_true] at e2
            show if _ then _ else _
            rw [if_neg Bool.false_ne_true]
            exact ⟨m3, h3, acc, accV, rest, (gg.trans gy).trans g3, w3, nD3.1, racc3, nD3.2, e2, eys⟩
          | true =>
            rw [if_pos rfl] at e2
            show if _ then _ else _
            rw [if_pos rfl]
            obtain ⟨y0, h4, e3, e4⟩ := bindR_ok e2
            obtain ⟨zs, h5, e5, e6⟩ := bindR_ok e4
            refine ⟨m3, _, h3, w3, en2.go g3 wy, Out.of_ok e3 fun H4 m4 g4 w4 v rv => ?_⟩
            have nD4 := g4.nin nD3.1 nD3.2
            split at e6
            · rename_i hl
              cases e6
              have hlen : accV.length < sizeLine := by
                rw [racc.length, sizeLine_eq]
                have : (acc ++ y0 :: zs).length = ys.length := by rw [eys]
                simp at this
                omega
              refine ⟨accV, nD4.1, hlen, m4, h4, acc ++ [y0], accV ++ [v], zs, (((gg.trans gy).trans g3).trans g4).upd hD, w4.untr nD4.1 (fun _ z => by cases z) (fun _ _ z => by cases z) nD4.2, upd_same, ?_, nD4.2, e5, by simp [← eys]⟩
              have tk := tk_upd (K := X.K) (o := .lst (accV ++ [v])) nD4.1 (fun _ z => by cases z) (fun _ _ z => by cases z)
              exact (RepL.kept tk (fun _ _ z => z) _ _ (RepL.go g4 w3 _ _ racc3)).app (.one (RepD.kept tk (fun _ _ z => z) _ _ rv))
            · cases e6
    · left
      have e : i = s.1.length := by omega
      rw [e, List.drop_length] at eL
      unfold lcGo at eL
      split at eL
      · rename_i st0
        cases eL
        refine ⟨iok.stop i H' m' _ gg ww st0 (by omega), ?_⟩
        rw [List.append_nil] at eys
        subst eys
        exact o2 H' m' gg ww D0 accV H0D hacc nD racc
      · cases eL
  · exact o1.elim
end
end Dt

set_option Elab.async false
set_option autoImplicit false
set_option linter.all false
set_option maxRecDepth 100000
set_option maxHeartbeats 2000000
namespace Dt
open PySem PySem.Spec PyProof.Rows L2 RZ

/-! ### statements -/
inductive SR where
  | nx (ρ : Ev) | rt (d : D) | bk (ρ : Ev) | ct (ρ : Ev) | er (c : Str) (ρ : Ev)
abbrev RS := Option (SR × DH)
abbrev DS := Ev → DH → RS
def SOut (K : PySem.W.Frag) (W : WX) (E : Ends) (H : Hp) (m : List Addr) (r : RS) : Prop := match r with
  | none => False
  | some (.nx ρ, h) => ∀ H' m' σ', Go H m H' m' → Wd K H' m' h → EnvR K H' m' ρ σ' → E.nx σ' H'
  | some (.bk ρ, h) => ∀ H' m' σ', Go H m H' m' → Wd K H' m' h → EnvR K H' m' ρ σ' → E.bk σ' H'
  | some (.ct ρ, h) => ∀ H' m' σ', Go H m H' m' → Wd K H' m' h → EnvR K H' m' ρ σ' → E.ct σ' H'
  | some (.rt d, h) => ∀ H' m' v, Go H m H' m' → Wd K H' m' h → RepD K H' m' d v → E.rt v H'
  | some (.er c ρ, h) => ∀ H' m' σ', Go H m H' m' → Wd K H' m' h → EnvR K H' m' ρ σ' → W (exV K c) none σ' H'
section
variable {K : PySem.W.Frag} {W : WX} {E : Ends} {H H1 : Hp} {m m1 : List Addr} {r : RS}
theorem SOut.go (g : Go H m H1 m1) (o : SOut K W E H m r) : SOut K W E H1 m1 r := by
  unfold SOut at *
  split <;> simp only at o
  all_goals exact fun H' m' σ' g' => o H' m' σ' (g.trans g')
end
def sOf (K : PySem.W.Frag) (W : WX) (f : DS) : TS := fun E σ H => ∃ m ρ h, Wd K H m h ∧ EnvR K H m ρ σ ∧ SOut K W E H m (f ρ h)
structure PDs (X : Cx) (W : WX) (st : Stmt) (f : DS) : Prop where
  ps : PS X st (sOf X.K W f)
structure PDss (X : Cx) (W : WX) (sts : List Stmt) (f : DS) : Prop where
  ps : PSs X sts (sOf X.K W f)
def bindS {α : Type} (r : Rh α) (ρ : Ev) (k : α → DH → RS) : RS := match r with
  | none => none
  | some (.ok a, h) => k a h
  | some (.er c, h) => some (.er c ρ, h)
theorem Out.sb {α : Type} {K : PySem.W.Frag} {W : WX} {E : Ends} {σ : L2.St} {H : Hp} {m : List Addr} {h : DH} {r : Rh α} {ρ : Ev} {k : α → DH → RS} (w : Wd K H m h) (en : EnvR K H m ρ σ) (o : SOut K W E H m (bindS r ρ k)) : Out K W σ H m r fun a h1 H1 m1 => SOut K W E H1 m1 (k a h1) := by
  unfold bindS at o
  unfold Out
  split at o
  · exact o
  · intro H' m' g' _
    exact o.go g'
  · intro H' m' g' w'
    exact o H' m' σ g' w' (en.go g' w)
def seqS (r : RS) (k : Ev → DH → RS) : RS := match r with
  | some (.nx ρ, h) => k ρ h
  | r => r
theorem SOut.seq {K : PySem.W.Frag} {W : WX} {E : Ends} {H : Hp} {m : List Addr} {r : RS} {k : DS} (o : SOut K W E H m (seqS r k)) : SOut K W { E with nx := sOf K W k E } H m r := by
  unfold seqS at o
  split at o
  · intro H' m' σ' g' w' en
    exact ⟨m', _, _, w', en, o.go g'⟩
  · rename_i hn
    unfold SOut at *
    split
    · exact o
    · exact absurd rfl (hn _ _)
    · exact o
    · exact o
    · exact o
    · exact o
def sNext : DS := fun ρ h => some (.nx ρ, h)
def sSeq (f g : DS) : DS := fun ρ h => seqS (f ρ h) g
def sRet (f : DE) : DS := fun ρ h => bindS (f ρ h) ρ fun d h1 => some (.rt d, h1)
def sRetN : DS := fun _ h => some (.rt .non, h)
def sDrop (f : DE) : DS := fun ρ h => bindS (f ρ h) ρ fun _ h1 => some (.nx ρ, h1)
def sAsg (f : DE) (g : Pt) : DS := fun ρ h => bindS (f ρ h) ρ fun d h1 => match g d with
  | some l => some (.nx (setE ρ l), h1)
  | none => none
def sPar (i j : Nat) (g : DA) : DS := fun ρ h => bindS (g ρ h) ρ fun ds h1 => match ds with
  | [x, y] => some (.nx ((ρ.set i (some x)).set j (some y)), h1)
  | _ => none
def sPar3 (i j l : Nat) (g : DA) : DS := fun ρ h => bindS (g ρ h) ρ fun ds h1 => match ds with
  | [x, y, z] => some (.nx (((ρ.set i (some x)).set j (some y)).set l (some z)), h1)
  | _ => none
def sIf (t : DB) (f g : DS) : DS := fun ρ h => bindS (t ρ h) ρ fun b h1 => if b then f ρ h1 else g ρ h1
def sCont : DS := fun ρ h => some (.ct ρ, h)
def sBrk : DS := fun ρ h => some (.bk ρ, h)
def sNever : DS := fun _ _ => none
section
variable {X : Cx} {W : WX} {st : Stmt} {rest a b : List Stmt} {e c : Expr} {f g : DS} {fe : DE} {t : DB} {pos : Pos}
theorem pdss_nil : PDss X W [] sNext := ⟨⟨fun pins s σ H D I h => pss_nil.run pins s σ H D I (by
  obtain ⟨m, ρ, h, w, en, o⟩ := h
  exact o H m σ Go.refl w en)⟩⟩
theorem pdss_cons (h1 : PDs X W st f) (h2 : PDss X W rest g) : PDss X W (st :: rest) (sSeq f g) := by
  refine ⟨(pss_cons h1.ps h2.ps).imp fun D σ H h => ?_⟩
  obtain ⟨m, ρ, h, w, en, o⟩ := h
  exact ⟨m, ρ, h, w, en, o.seq⟩
theorem pdss_one (h1 : PDs X W st f) : PDss X W [st] f := ⟨pss_one h1.ps⟩
theorem pds_ret (he : PD X W e fe) : PDs X W (.Return (some e) pos) (sRet fe) := by
  refine ⟨(ps_ret he.pe).imp fun D σ H h => ?_⟩
  obtain ⟨m, ρ, h, w, en, o⟩ := h
  exact ⟨m, ρ, h, w, en, (Out.sb w en o).mono fun d h1 H1 m1 g1 w1 o1 v rv => o1 H1 m1 v Go.refl w1 rv⟩
theorem pds_retN : PDs X W (.Return none pos) sRetN := by
  refine ⟨ps_retN.imp fun D σ H h => ?_⟩
  obtain ⟨m, ρ, h, w, en, o⟩ := h
  exact o H m .non Go.refl w rfl
theorem pds_drop (he : PD X W e fe) (hs : swapsWith e none pos.line X.env = pure false := by rfl) : PDs X W (.Expr e pos) (sDrop fe) := by
  refine ⟨(ps_expr he.pe hs).imp fun D σ H h => ?_⟩
  obtain ⟨m, ρ, h, w, en, o⟩ := h
  exact ⟨m, ρ, h, w, en, (Out.sb w en o).mono fun d h1 H1 m1 g1 w1 o1 v rv => o1 H1 m1 σ Go.refl w1 (en.go g1 w)⟩
theorem pds_asg {tg : Expr} {g : Pt} (he : PD X W e fe) (hg : PDg X tg g) (hs : swapsWithSole [tg] e pos.line X.env = pure false := by rfl) (hw : swappedStores [tg] e X.env = pure none := by rfl)
    (h1 : (assignEach [tg] X.env).map (·.2) = [assign tg X.env] := by rfl) : PDs X W (.Assign [tg] e pos) (sAsg fe g) := by
  refine ⟨(ps_asg he.pe hg.pg hs hw h1).imp fun D σ H h => ?_⟩
  obtain ⟨m, ρ, h, w, en, o⟩ := h
  refine ⟨m, ρ, h, w, en, (Out.sb w en o).mono fun d h1 H1 m1 g1 w1 o1 v rv => ?_⟩
  split at o1
  · rename_i l eg
    exact ⟨m1, d, l, rv, eg, fun lv rlv => o1 H1 m1 _ Go.refl w1 (setE_rep rlv (en.go g1 w))⟩
  · exact o1.elim
theorem pds_set {i : Nat} {x : Str} {pos' : Pos} (hN : X.N.Nodup) (he : PD X W e fe) (hi : X.N[i]? = some x := by rfl) (hx : Loc X.env.scope x := by first | exact Or.inl rfl | exact Or.inr rfl) (hs : swapsWith e (some (.Name x pos')) pos.line X.env = pure false := by rfl) (hf : X.fn x = true ∨ X.env.scope.names.lookup x = some .local := by first | exact .inl rfl | exact .inr rfl | assumption) :
    PDs X W (.Assign [.Name x pos'] e pos) (sAsg fe (gN i)) := by
  refine ⟨(ps_set hN hi hx he.pe hs hf).imp fun D σ H h => ?_⟩
  obtain ⟨m, ρ, h, w, en, o⟩ := h
  exact ⟨m, ρ, h, w, en, (Out.sb w en o).mono fun d h1 H1 m1 g1 w1 o1 v rv => o1 H1 m1 _ Go.refl w1 ((en.go g1 w).set rv)⟩
theorem pds_par {i j : Nat} {x y : Str} {a b : Expr} {ga : DA} {px py pt : Pos} {kt k2 pt2} (hc : X.calm = true) (hN : X.N.Nodup) (ha : PDa X W [a, b] ga) (hi : X.N[i]? = some x := by rfl) (hj : X.N[j]? = some y := by rfl) (hij : i ≠ j := by decide)
    (hx : X.env.scope.names.lookup x = some .local := by rfl) (hy : X.env.scope.names.lookup y = some .local := by rfl)
    (hw : swappedStores [.Tuple [.Name x px, .Name y py] kt pt] (.Tuple [a, b] k2 pt2) X.env = pure (some [x, y]) := by rfl)
    (hs : swapsWithSole [.Tuple [.Name x px, .Name y py] kt pt] (.Tuple [a, b] k2 pt2) pos.line X.env = pure false := by rfl) :
    PDs X W (.Assign [.Tuple [.Name x px, .Name y py] kt pt] (.Tuple [a, b] k2 pt2) pos) (sPar i j ga) := by
  refine ⟨(ps_par hc hN hi hj hij hx hy ha.pa hw hs).imp fun D σ H h => ?_⟩
  obtain ⟨m, ρ, h, w, en, o⟩ := h
  refine ⟨m, ρ, h, w, en, (Out.sb w en o).mono fun ds h1 H1 m1 g1 w1 o1 vs rvs => ?_⟩
  split at o1
  · obtain ⟨v, v2, rfl, r1, r2⟩ := rep2 rvs
    exact ⟨v, v2, rfl, o1 H1 m1 _ Go.refl w1 (((en.go g1 w).set r1).set r2)⟩
  · exact o1.elim
theorem pds_par3 {i j l : Nat} {x y z : Str} {a b c : Expr} {ga : DA} {px py pz pt : Pos} {kt k2 pt2} (hc : X.calm = true) (hN : X.N.Nodup) (ha : PDa X W [a, b, c] ga) (hi : X.N[i]? = some x := by rfl) (hj : X.N[j]? = some y := by rfl) (hl : X.N[l]? = some z := by rfl) (hij : i ≠ j := by decide) (hil : i ≠ l := by decide) (hjl : j ≠ l := by decide)
    (hx : X.env.scope.names.lookup x = some .local := by rfl) (hy : X.env.scope.names.lookup y = some .local := by rfl) (hz : X.env.scope.names.lookup z = some .local := by rfl)
    (hw : swappedStores [.Tuple [.Name x px, .Name y py, .Name z pz] kt pt] (.Tuple [a, b, c] k2 pt2) X.env = pure (some [x, y, z]) := by rfl)
    (hs : swapsWithSole [.Tuple [.Name x px, .Name y py, .Name z pz] kt pt] (.Tuple [a, b, c] k2 pt2) pos.line X.env = pure false := by rfl) :
    PDs X W (.Assign [.Tuple [.Name x px, .Name y py, .Name z pz] kt pt] (.Tuple [a, b, c] k2 pt2) pos) (sPar3 i j l ga) := by
  refine ⟨(ps_par3 hc hN hi hj hl hij hil hjl hx hy hz ha.pa hw hs).imp fun D σ H h => ?_⟩
  obtain ⟨m, ρ, h, w, en, o⟩ := h
  refine ⟨m, ρ, h, w, en, (Out.sb w en o).mono fun ds h1 H1 m1 g1 w1 o1 vs rvs => ?_⟩
  split at o1
  · obtain ⟨v, w', rfl, r1, r2⟩ := rvs
    obtain ⟨v2, v3, rfl, r2, r3⟩ := rep2 r2
    exact ⟨v, v2, v3, rfl, o1 H1 m1 _ Go.refl w1 ((((en.go g1 w).set r1).set r2).set r3)⟩
  · exact o1.elim
theorem pds_if (hc : PDt X W c t) (ha : PDss X W a f) (hb : PDss X W b g) : PDs X W (.If c a b pos) (sIf t f g) := by
  refine ⟨(ps_if hc.pt ha.ps hb.ps).imp fun D σ H h => ?_⟩
  obtain ⟨m, ρ, h, w, en, o⟩ := h
  refine ⟨m, ρ, h, w, en, (Out.sb w en o).mono fun b h1 H1 m1 g1 w1 o1 => ?_⟩
  cases b with
  | true => exact ⟨m1, ρ, h1, w1, en.go g1 w, o1⟩
  | false => exact ⟨m1, ρ, h1, w1, en.go g1 w, o1⟩
theorem pds_cont : PDs X W (.Continue pos) sCont := by
  refine ⟨ps_continue.imp fun D σ H h => ?_⟩
  obtain ⟨m, ρ, h, w, en, o⟩ := h
  exact o H m σ Go.refl w en
theorem pds_brk : PDs X W (.Break pos) sBrk := by
  refine ⟨ps_break.imp fun D σ H h => ?_⟩
  obtain ⟨m, ρ, h, w, en, o⟩ := h
  exact o H m σ Go.refl w en
theorem pds_never : PDs X W st sNever := ⟨ps_never.imp fun D σ H h => by
  obtain ⟨m, ρ, h, w, en, o⟩ := h
  exact o.elim⟩
theorem pdss_never : PDss X W rest sNever := ⟨⟨fun pins s σ H D I h => by
  obtain ⟨m, ρ, h, w, en, o⟩ := h
  exact o.elim⟩⟩
end

/-! ### loops -/
def loopK (r : RS) (k : Ev → DH → RS) : RS := match r with
  | none => none
  | some (.nx ρ, h) => k ρ h
  | some (.ct ρ, h) => k ρ h
  | some (.bk ρ, h) => some (.nx ρ, h)
  | some (.rt d, h) => some (.rt d, h)
  | some (.er c ρ, h) => some (.er c ρ, h)
theorem SOut.loop {K : PySem.W.Frag} {W : WX} {E : Ends} {H : Hp} {m : List Addr} {r : RS} {k : DS} {z : SR × DH} {N : L2.St → Hp → Prop} (e : loopK r k = some z) (o : SOut K W E H m (some z))
    (hN : ∀ ρ' h' H' m' σ', Go H m H' m' → Wd K H' m' h' → EnvR K H' m' ρ' σ' → k ρ' h' = some z → N σ' H') : SOut K W { E with nx := N, ct := N, bk := E.nx } H m r := by
  unfold loopK at e
  split at e
  · cases e
  · exact fun H' m' σ' g' w' en => hN _ _ H' m' σ' g' w' en e
  · exact fun H' m' σ' g' w' en => hN _ _ H' m' σ' g' w' en e
  · cases e; exact o
  · cases e; exact o
  · cases e; exact o
theorem Out.sbE {α : Type} {K : PySem.W.Frag} {W : WX} {E : Ends} {σ : L2.St} {H : Hp} {m : List Addr} {h : DH} {r : Rh α} {ρ : Ev} {k : α → DH → RS} {z : SR × DH} (w : Wd K H m h) (en : EnvR K H m ρ σ) (e : bindS r ρ k = some z) (o : SOut K W E H m (some z)) : Out K W σ H m r fun a h1 H1 m1 => k a h1 = some z := by
  unfold bindS at e
  unfold Out
  split at e
  · cases e
  · exact fun H' m' g' _ => e
  · cases e
    exact fun H' m' g' w' => o H' m' σ g' w' (en.go g' w)
def whN (c : DB) (b : DS) : Nat → Ev → DH → RS
  | 0, _, _ => none
  | n + 1, ρ, h => bindS (c ρ h) ρ fun t h1 => if t then loopK (b ρ h1) (whN c b n) else some (.nx ρ, h1)
theorem bindS_mono {α : Type} {r : Rh α} {ρ : Ev} {k k' : α → DH → RS} {z : SR × DH} (hk : ∀ a h, k a h = some z → k' a h = some z) (e : bindS r ρ k = some z) : bindS r ρ k' = some z := by
  unfold bindS at *
  split at e
  · cases e
  · exact hk _ _ e
  · exact e
theorem loopK_mono {r : RS} {k k' : DS} {z : SR × DH} (hk : ∀ a h, k a h = some z → k' a h = some z) (e : loopK r k = some z) : loopK r k' = some z := by
  unfold loopK at *
  split at e <;> first | exact hk _ _ e | exact e
theorem whN_succ {c : DB} {b : DS} {z : SR × DH} : ∀ {n : Nat} {ρ : Ev} {h : DH}, whN c b n ρ h = some z → whN c b (n + 1) ρ h = some z
  | 0, _, _, e => by cases e
  | n + 1, ρ, h, e => by
    unfold whN at e ⊢
    refine bindS_mono (fun t h1 e1 => ?_) e
    cases t with
    | true => exact loopK_mono (fun ρ' h' e2 => whN_succ e2) e1
    | false => exact e1
theorem whN_le {c : DB} {b : DS} {z : SR × DH} {n k : Nat} {ρ : Ev} {h : DH} (hn : n ≤ k) (e : whN c b n ρ h = some z) : whN c b k ρ h = some z := by
  induction hn with
  | refl => exact e
  | step _ ih => exact whN_succ ih
open Classical in
noncomputable def sWhile (c : DB) (b : DS) : DS := fun ρ h => if e : ∃ n, (whN c b n ρ h).isSome = true then whN c b (Classical.choose e) ρ h else none
theorem sWhile_of {c : DB} {b : DS} {z : SR × DH} {n : Nat} {ρ : Ev} {h : DH} (e : whN c b n ρ h = some z) : sWhile c b ρ h = some z := by
  have ex : ∃ n, (whN c b n ρ h).isSome = true := ⟨n, by rw [e]; rfl⟩
  unfold sWhile
  rw [dif_pos ex]
  have s := Classical.choose_spec ex
  obtain ⟨z', e'⟩ := Option.isSome_iff_exists.mp s
  rw [e']
  rcases Nat.le_total n (Classical.choose ex) with l | l
  · rw [whN_le l e] at e'
    exact e'.symm
  · rw [whN_le l e'] at e
    exact e
theorem sWhile_ex {c : DB} {b : DS} {z : SR × DH} {ρ : Ev} {h : DH} (e : sWhile c b ρ h = some z) : ∃ n, whN c b n ρ h = some z := by
  unfold sWhile at e
  split at e
  · exact ⟨_, e⟩
  · cases e
/-- by a word of the state: one turn -/
theorem sWhile_true {c : DB} {b : DS} {ρ : Ev} {h h1 : DH} (e : c ρ h = ret true h1) : sWhile c b ρ h = loopK (b ρ h1) (sWhile c b) := by
  cases q : loopK (b ρ h1) (sWhile c b) with
  | none =>
    cases q2 : sWhile c b ρ h with
    | none => rfl
    | some z =>
      obtain ⟨n, e2⟩ := sWhile_ex q2
      cases n with
      | zero => cases e2
      | succ n =>
        unfold whN at e2
        rw [e] at e2
        have e3 : loopK (b ρ h1) (whN c b n) = some z := e2
        rw [loopK_mono (fun _ _ z => sWhile_of z) e3] at q
        cases q
  | some z =>
    have key : ∃ n, loopK (b ρ h1) (whN c b n) = some z := by
      unfold loopK at q ⊢
      split at q
      · cases q
      · exact sWhile_ex q
      · exact sWhile_ex q
      · exact ⟨0, q⟩
      · exact ⟨0, q⟩
      · exact ⟨0, q⟩
    obtain ⟨n, e2⟩ := key
    refine sWhile_of (n := n + 1) ?_
    unfold whN
    rw [e]
    exact e2
theorem sWhile_false {c : DB} {b : DS} {ρ : Ev} {h h1 : DH} (e : c ρ h = ret false h1) : sWhile c b ρ h = some (.nx ρ, h1) := by
  refine sWhile_of (n := 1) ?_
  unfold whN
  rw [e]
  rfl
open Classical in
noncomputable def forGo (st : DH → Prop) (g : Pt) (b : DS) : List D → Ev → DH → RS
  | [], ρ, h => if st h then some (.nx ρ, h) else none
  | d :: ds, ρ, h => if st h then (match g d with
    | none => none
    | some l => loopK (b (setE ρ l) h) (forGo st g b ds)) else none
noncomputable def sFor (src : DI') (g : Pt) (b : DS) : DS := fun ρ h => bindS (src ρ h) ρ fun s h1 => forGo s.2 g b s.1 ρ h1
section
variable {X : Cx} {W : WX} {body : List Stmt} {c : Expr} {b : DS} {t : DB} {pos : Pos}
theorem pds_while (hp : PassesOwn (model X.prog X.w) X.A X.env X.xe) (hc : PDt X W c t) (hb : PDss X W body b) : PDs X W (.While c body [] pos) (sWhile t b) := by
  refine ⟨(ps_while hp hc.pt hb.ps).imp fun E σ H h => ?_⟩
  obtain ⟨m, ρ, h, w, en, o⟩ := h
  cases e0 : sWhile t b ρ h with
  | none => rw [e0] at o; exact o.elim
  | some z =>
    rw [e0] at o
    obtain ⟨n, e⟩ := sWhile_ex e0
    refine ⟨fun μ σ' H' => ∃ m' ρ' h', Go H m H' m' ∧ Wd X.K H' m' h' ∧ EnvR X.K H' m' ρ' σ' ∧ whN t b μ ρ' h' = some z, ⟨n, m, ρ, h, Go.refl, w, en, e⟩, ?_⟩
    rintro μ σ' H' ⟨m', ρ', h', g', w', en', e'⟩
    cases μ with
    | zero => cases e'
    | succ μ =>
      unfold whN at e'
      refine ⟨m', ρ', h', w', en', (Out.sbE w' en' e' (o.go g')).mono fun b h1 H1 m1 g1 w1 e1 => ?_⟩
      cases b with
      | true =>
        rw [if_pos rfl] at e1
        show if _ then _ else _
        rw [if_pos rfl]
        refine ⟨fun σ' H' => ∃ m' ρ' h', Go H m H' m' ∧ Wd X.K H' m' h' ∧ EnvR X.K H' m' ρ' σ' ∧ whN t b μ ρ' h' = some z, fun σ2 H2 z2 => ⟨μ, Nat.lt_succ_self μ, z2⟩, m1, ρ', h1, w1, en'.go g1 w', ?_⟩
        exact (SOut.loop e1 (o.go (g'.trans g1))) fun ρ2 h2 H2 m2 σ2 g2 w2 en2 e2 => ⟨m2, ρ2, h2, (g'.trans g1).trans g2, w2, en2, e2⟩
      | false =>
        rw [if_neg Bool.false_ne_true] at e1
        cases e1
        show if _ then _ else _
        rw [if_neg Bool.false_ne_true]
        exact o H1 m1 σ' (g'.trans g1) w1 (en'.go g1 w')
theorem pds_for {tg iter : Expr} {src : DI'} {g : Pt} (hp : PassesOwn (model X.prog X.w) X.A X.env X.xe) (hc : X.calm = true) (hi : PDj X W tg iter src) (hg : PDg X tg g) (hb : PDss X W body b)
    (hs : ∀ x, foldedSetIterable iter X.env x = pure x := by intro _; rfl) : PDs X W (.For tg iter body [] pos) (sFor src g b) := by
  refine ⟨(ps_for hp hc hi.pi hg.pg hb.ps hs).imp fun E σ H h => ?_⟩
  obtain ⟨m, ρ, h, w, en, o⟩ := h
  refine ⟨m, ρ, h, w, en, (Out.sb w en o).mono fun s h1 H1 m1 g1 w1 o1 J iok => ?_⟩
  cases e0 : forGo s.2 g b s.1 ρ h1 with
  | none => rw [e0] at o1; exact o1.elim
  | some z =>
    rw [e0] at o1
    refine ⟨fun i n σ' H' => n = s.1.length - i ∧ i ≤ s.1.length ∧ ∃ m' ρ' h', Go H1 m1 H' m' ∧ Wd X.K H' m' h' ∧ EnvR X.K H' m' ρ' σ' ∧ forGo s.2 g b (s.1.drop i) ρ' h' = some z,
      ⟨_, rfl, Nat.zero_le _, m1, ρ, h1, Go.refl, w1, en.go g1 w, by rw [List.drop_zero]; exact e0⟩, ?_⟩
    rintro i n σ' H' ⟨rfl, hi', m', ρ', h', g', w', en', e'⟩
    by_cases hlt : i < s.1.length
    · right
      rw [drop_cons hlt] at e'
      unfold forGo at e'
      split at e'
      · rename_i st0
        split at e'
        · cases e'
        · rename_i l eg
          refine ⟨iok.go i H' m' _ g' w' st0 hlt, fun σ' H' => ∃ m' ρ' h', Go H1 m1 H' m' ∧ Wd X.K H' m' h' ∧ EnvR X.K H' m' ρ' σ' ∧ forGo s.2 g b (s.1.drop (i + 1)) ρ' h' = some z,
            fun σ2 H2 z2 => ⟨_, by omega, rfl, hlt, z2⟩, fun x H2 y => ?_⟩
          obtain ⟨gy, wy, d, ed, rd⟩ := iok.yld i H' m' _ x H2 g' w' st0 hlt y
          have ed' : d = s.1[i] := by rw [List.getElem?_eq_getElem hlt] at ed; exact (Option.some.inj ed).symm
          subst ed'
          refine ⟨m', _, l, rd, eg, fun lv rlv => ⟨m', _, h', wy, setE_rep rlv (en'.go gy w'), ?_⟩⟩
          exact (SOut.loop e' (o1.go (g'.trans gy))) fun ρ2 h2 H2 m2 σ2 g2 w2 en2 e2 => ⟨m2, ρ2, h2, (g'.trans gy).trans g2, w2, en2, e2⟩
      · cases e'
    · left
      have ei : i = s.1.length := by omega
      rw [ei, List.drop_length] at e'
      unfold forGo at e'
      split at e'
      · rename_i st0
        cases e'
        exact ⟨iok.stop i H' m' _ g' w' st0 (by omega), o1 H' m' σ' g' w' en'⟩
      · cases e'
end
end Dt

set_option Elab.async false
set_option autoImplicit false
set_option linter.all false
set_option maxRecDepth 100000
set_option maxHeartbeats 2000000
namespace Dt
open PySem PySem.Spec PyProof.Rows L2 RZ

/-! ### what is closed below a number -/
mutual
def clD (n : Nat) : D → Bool
  | .tup xs => clL n xs
  | .rol xs => clL n xs
  | .ref k => decide (k < n)
  | _ => true
def clL (n : Nat) : List D → Bool
  | [] => true
  | x :: xs => clD n x && clL n xs
end
def clKV {κ : Type} (n : Nat) : List (κ × D) → Bool
  | [] => true
  | x :: xs => clD n x.2 && clKV n xs
def clO (n : Nat) : O → Bool
  | .lst xs => clL n xs
  | .dT kvs => clKV n kvs
  | .dK kvs => clKV n kvs
section
variable {K : PySem.W.Frag} {H H' : Hp} {m t : List Addr}
mutual
theorem RepD.cut : ∀ (d : D) (v : V), clD m.length d = true → RepD K H (m ++ t) d v → RepD K H m d v
  | .non, _, _, r => r
  | .bl _, _, _, r => r
  | .int _, _, _, r => r
  | .str _, _, _, r => r
  | .tup xs, v, c, r => by
    obtain ⟨a, vs, e, s, q⟩ := r
    exact ⟨a, vs, e, s, RepL.cut xs vs c q⟩
  | .rol xs, v, c, r => by
    obtain ⟨a, vs, e, s, q⟩ := r
    exact ⟨a, vs, e, s, RepL.cut xs vs c q⟩
  | .ref k, v, c, r => by
    obtain ⟨a, e, q⟩ := r
    have hk : k < m.length := of_decide_eq_true c
    exact ⟨a, e, by rw [List.getElem?_append_left hk] at q; exact q⟩
theorem RepL.cut : ∀ (ds : List D) (vs : List V), clL m.length ds = true → RepL K H (m ++ t) ds vs → RepL K H m ds vs
  | [], _, _, r => r
  | x :: xs, vs, c, r => by
    obtain ⟨v, w', e, q1, q2⟩ := r
    have c' : (clD m.length x && clL m.length xs) = true := c
    obtain ⟨c1, c2⟩ := Bool.and_eq_true_iff.mp c'
    exact ⟨v, w', e, RepD.cut x v c1 q1, RepL.cut xs w' c2 q2⟩
end
theorem RepKV.cut {κ : Type} : ∀ (ds : List (κ × D)) (vs : List (κ × V)), clKV m.length ds = true → RepKV K H (m ++ t) ds vs → RepKV K H m ds vs
  | [], _, _, r => r
  | x :: xs, vs, c, r => by
    obtain ⟨v, w', e, q1, q2⟩ := r
    have c' : (clD m.length x.2 && clKV m.length xs) = true := c
    obtain ⟨c1, c2⟩ := Bool.and_eq_true_iff.mp c'
    exact ⟨v, w', e, RepD.cut x.2 v c1 q1, RepKV.cut xs w' c2 q2⟩
theorem ObjR.cut {a : Addr} {o : O} (c : clO m.length o = true) (r : ObjR K H (m ++ t) a o) : ObjR K H m a o := by
  cases o with
  | lst xs => obtain ⟨vs, q, r⟩ := r; exact ⟨vs, q, RepL.cut _ _ c r⟩
  | dT xs => obtain ⟨vs, q, r⟩ := r; exact ⟨vs, q, RepKV.cut _ _ c r⟩
  | dK xs => obtain ⟨vs, q, r⟩ := r; exact ⟨vs, q, RepKV.cut _ _ c r⟩
mutual
theorem RepD.cl : ∀ (d : D) (v : V), RepD K H m d v → clD m.length d = true
  | .non, _, _ => rfl
  | .bl _, _, _ => rfl
  | .int _, _, _ => rfl
  | .str _, _, _ => rfl
  | .tup xs, v, r => by
    obtain ⟨a, vs, e, s, q⟩ := r
    exact RepL.cl xs vs q
  | .rol xs, v, r => by
    obtain ⟨a, vs, e, s, q⟩ := r
    exact RepL.cl xs vs q
  | .ref k, v, r => by
    obtain ⟨a, e, q⟩ := r
    exact decide_eq_true (List.getElem?_eq_some_iff.mp q).1
theorem RepL.cl : ∀ (ds : List D) (vs : List V), RepL K H m ds vs → clL m.length ds = true
  | [], _, _ => rfl
  | x :: xs, vs, r => by
    obtain ⟨v, w', e, q1, q2⟩ := r
    show (clD m.length x && clL m.length xs) = true
    rw [RepD.cl x v q1, RepL.cl xs w' q2]
    rfl
end
theorem RepKV.cl {κ : Type} : ∀ (ds : List (κ × D)) (vs : List (κ × V)), RepKV K H m ds vs → clKV m.length ds = true
  | [], _, _ => rfl
  | x :: xs, vs, r => by
    obtain ⟨v, w', e, q1, q2⟩ := r
    show (clD m.length x.2 && clKV m.length xs) = true
    rw [RepD.cl x.2 v q1, RepKV.cl xs w' q2]
    rfl
theorem ObjR.cl {a : Addr} {o : O} (r : ObjR K H m a o) : clO m.length o = true := by
  cases o with
  | lst xs => obtain ⟨vs, q, r⟩ := r; exact RepL.cl _ _ r
  | dT xs => obtain ⟨vs, q, r⟩ := r; exact RepKV.cl _ _ r
  | dK xs => obtain ⟨vs, q, r⟩ := r; exact RepKV.cl _ _ r
end
/-- what a def made and nobody has is forgotten -/
def GcOk (h : DH) (d : D) (h1 : DH) : Prop := clD h.length d = true ∧ h.length ≤ h1.length ∧ ∀ i o, i < h.length → h1[i]? = some o → h[i]? = some o ∨ clO h.length o = true
open Classical in
noncomputable def gcF (h : DH) (r : Rh D) : Rh D := match r with
  | some (.ok d, h1) => if GcOk h d h1 then some (.ok d, h1.take h.length) else some (.ok d, h1)
  | r => r
abbrev FO (K : PySem.W.Frag) (E : XK) (H : Hp) (m : List Addr) (r : Rh D) (Q : VK) : Prop := Out K (fun c d _ H => E c d H) [] H m r fun d _ H' m' => ∀ v, RepD K H' m' d v → Q v H'
theorem FO.gc {K : PySem.W.Frag} {E : XK} {H : Hp} {m : List Addr} {h : DH} {r : Rh D} {Q : VK} (w : Wd K H m h) (o : FO K E H m (gcF h r) Q) : FO K E H m r Q := by
  unfold gcF at o
  split at o
  · rename_i d h1
    split at o
    · rename_i hc
      obtain ⟨c1, c0, c2⟩ := hc
      have o1 : ∀ H' m', Go H m H' m' → Wd K H' m' (h1.take h.length) → ∀ v, RepD K H' m' d v → Q v H' := o
      intro H' m' g' w' v rv
      obtain ⟨t, e⟩ := g'.pre
      subst e
      rw [← w.len] at c1 c2 c0
      refine o1 H' m ⟨⟨[], by simp⟩, g'.fr, fun a ha na => absurd ha na⟩ ⟨?_, w.nd, fun k a ob e1 e2 => ?_⟩ v (RepD.cut d v c1 rv)
      · rw [List.length_take, ← w.len]
        omega
      · have hk : k < m.length := (List.getElem?_eq_some_iff.mp e1).1
        rw [List.getElem?_take_of_lt (by rw [← w.len]; exact hk)] at e2
        refine ObjR.cut ?_ (w'.at_ k a ob (by rw [List.getElem?_append_left hk]; exact e1) e2)
        rcases c2 k ob hk e2 with z | z
        · exact (w.at_ k a ob e1 z).cl
        · exact z
    · exact o
  · exact o
/-- a def's run -/
def endF (r : RS) : Rh D := match r with
  | some (.nx _, h1) => some (.ok .non, h1)
  | some (.rt d, h1) => some (.ok d, h1)
  | some (.er c _, h1) => some (.er c, h1)
  | _ => none
noncomputable def runF (p n : Nat) (f : DS) : DF := fun ds h => if ds.length = p then gcF h (endF (f (ds.map some ++ List.replicate (n - p) none) h)) else none
theorem runF_len {p n : Nat} {f : DS} {ds : List D} {h : DH} (hn : ds.length ≠ p) : runF p n f ds h = none := if_neg hn
def spD (K : PySem.W.Frag) (p : Nat) (φ : DF) : Sp := fun vs H Q E => ∃ m h ds, Wd K H m h ∧ RepL K H m ds vs ∧ ds.length = p ∧ FO K E H m (φ ds h) Q
theorem env_start {K : PySem.W.Frag} {H : Hp} {m : List Addr} : ∀ {ds : List D} {vs : List V} (k : Nat), RepL K H m ds vs → EnvR K H m (ds.map some ++ List.replicate k none) (vs.map some ++ List.replicate k none)
  | [], vs, k, r => by
    cases (show vs = _ from r)
    refine ⟨by simp, fun i d e => ?_⟩
    rw [List.map_nil, List.nil_append, List.getElem?_replicate] at e
    split at e <;> cases e
  | x :: xs, vs, k, r => by
    obtain ⟨v, w, rfl, r1, r2⟩ := r
    have ih := env_start k r2
    refine ⟨by simpa using ih.1, fun i d e => ?_⟩
    cases i with
    | zero =>
      have e' : x = d := by simpa using e
      subst e'
      exact ⟨v, rfl, r1⟩
    | succ i => exact ih.2 i d (by simpa using e)
section
variable {P : Program} {w : World} {K : PySem.W.Frag} {mg : Str → Option Value} {base : Heap} {x qual : Str} {params : Arguments} {body : List Stmt} {scope : Scope} {f : Addr} {fd : FuncData}
/-- THE RULE of a def -/
theorem fn_D {N ps : List Str} {k : Nat} {b : DS} (F : FunD K x qual params body scope [] [] f fd) (S : FnScope N ps scope)
    (hb : ∀ (cdv : Value) (A : Around) (outer : List Env) (s : Shared) (H : Hp) (E : XK), Room k (A.deeper (envOfC qual scope s.heap.objs.size f cdv)) → Takes (cxOf (L2.CX P w) P w K mg base N qual scope f cdv A outer s H E) (fun c d _ H => E c d H) →
      PassesOwn (model P w) (A.deeper (envOfC qual scope s.heap.objs.size f cdv)) (envOfC qual scope s.heap.objs.size f cdv) (cxOf (L2.CX P w) P w K mg base N qual scope f cdv A outer s H E).xe →
      PDss (cxOf (L2.CX P w) P w K mg base N qual scope f cdv A outer s H E) (fun c d _ H => E c d H) body b) :
    FnOk P w K mg base (L2.CX P w) (k + 1) f fd ps (spD K ps.length (runF ps.length N.length b)) := by
  refine F.ok S (fun vs H Q E h => ?_) fun cdv A outer s H vs Q E hr h => ?_
  · obtain ⟨m, h, ds, _, r, e, _⟩ := h
    rw [r.length, e]
  · refine ⟨_, (hb cdv A outer s H E hr (takes_of rfl rfl rfl rfl) (passes_of rfl)).ps, ?_⟩
    obtain ⟨m, h, ds, wd, r, e, o⟩ := h
    refine ⟨m, ds.map some ++ List.replicate (N.length - ps.length) none, h, wd, ?_, ?_⟩
    · have := env_start (N.length - ps.length) r
      unfold L2.start
      rw [r.length, e]
      exact this
    · unfold runF at o
      rw [if_pos e] at o
      have o2 := FO.gc wd o
      unfold endF at o2
      split at o2
      · rename_i hq
        rw [hq]
        intro H' m' σ' g' w' _
        exact o2 H' m' g' w' .non rfl
      · rename_i hq
        rw [hq]
        intro H' m' v g' w' rv
        exact o2 H' m' g' w' v rv
      · rename_i hq
        rw [hq]
        intro H' m' σ' g' w' _
        exact o2 H' m' g' w'
      · exact o2.elim
/-- the law's and the callers' wish: a weaker reading -/
theorem FnOk.same {CX : CXT} {k p : Nat} {ps : List Str} {φ φ' : DF} (F : FnOk P w K mg base CX k f fd ps (spD K p φ)) (e : ∀ ds h, φ' ds h = none ∨ φ' ds h = φ ds h) : FnOk P w K mg base CX k f fd ps (spD K p φ') := by
  refine F.imp fun vs H Q E h => ?_
  obtain ⟨m, h, ds, wd, r, el, o⟩ := h
  refine ⟨m, h, ds, wd, r, el, ?_⟩
  rcases e ds h with z | z
  · rw [z] at o; exact o.elim
  · rw [z] at o; exact o
end
section
variable {X : Cx} {W : WX} {e : Expr} {es : List Expr} {g : DA} {pos p : Pos} {x : Str} {k n : Nat} {f : Addr} {fd : FuncData} {ps : List Str} {φ : DF}
theorem Out.toFO {K : PySem.W.Frag} {W : WX} {σ : L2.St} {H : Hp} {m : List Addr} {r : Rh D} {Q : VK} (o : Out K W σ H m r fun d _ H' m' => ∀ v, RepD K H' m' d v → Q v H') : FO K (WE W σ) H m r Q := by
  unfold FO Out at *
  split <;> exact o
def dFn (n : Nat) (φ : DF) (g : DA) : DE := fun ρ h => bindR (g ρ h) fun ds h1 => if ds.length = n then φ ds h1 else none
theorem pd_call (F : FnOk X.prog X.w X.K X.mg X.base (L2.CX X.prog X.w) k f fd ps (spD X.K n φ)) (hr : Room k X.A) (hm : X.mg x = some (.ref f)) (hk : PySem.W.keepIn X.K (.ref f) = true) (hb : Binds X.K fd ps []) (tk : Takes X W) (ha : PDa X W (e :: es) g)
    (hg : Gl X x := by rfl) (hdb : (x == ("__debug__" : Str)) = false := by decide) (he : starEach (e :: es) X.env = (false, eval e X.env) :: starEach es X.env := by rfl) (hpl : (backTo pos (starEach es X.env)).any (·.1) = false := by rfl) :
    PD X W (.Call (.Name x p) (e :: es) [] pos) (dFn n φ g) := by
  refine ⟨(pe_callS F hr hg hm hk hb (passAt tk) ha.pa hdb he hpl).imp fun σ H Q h => ?_⟩
  obtain ⟨m, ρ, h, w, en, o⟩ := h
  refine ⟨m, ρ, h, w, en, o.bind.mono fun ds h1 H1 m1 g1 w1 o1 vs rvs => ?_⟩
  split at o1
  · rename_i hl
    exact ⟨m1, h1, ds, w1, rvs, hl, o1.toFO⟩
  · exact o1.elim
theorem takesF {X : Cx} : Takes X WF := takes0
end

/-! ### exceptions -/
section
variable {X : Cx} {W : WX} {C : Addr} {bmB : List Value} {B newId initId : String} {x : Str} {pos p pos' : Pos}
/-- X() -/
theorem pmk_own0 (F : ExcBaseFacts B newId initId bmB) (q : PySem.W.excIn X.K C bmB newId = true) (gC : X.mg x = some (.ref C)) (kC : PySem.W.keepIn X.K (.ref C) = true) (r : Raises X (.ref C)) (hg : Gl X x)
    (hdb : (x == ("__debug__" : Str)) = false := by decide) : PMk X (.Call (.Name x p) [] [] pos) (fun _ H Q => Q (.ref C) none H) := by
  intro pins s σ H Q I h
  refine wpAny_Call_Name_kw (ld_glob I hg gC ?_ hdb)
  refine PySem.W.callWith_K0 I.kIn kC ?_
  show wpAny _ _ (call (.ref C) []) _ _ _
  obtain ⟨bm, N, nm, qn, bs, hdct, sn, sub, ab, col, dd, k0, k1, k2, k3, k5, mN, hC, hN, hni, T⟩ := exc_obj I.kIn q
  refine wpAny_call_exc_subT F T hC hN hni (fun h' e hm => ?_) (by show 0 ≤ sizeLine; exact Nat.zero_le _)
  exact mk_of I hm r h (I.hok.gone hm.new)
def sRaise (c : Str) : DS := fun ρ h => some (.er c ρ, h)
theorem pds_raise0 {c : Str} (hc : X.calm = true) (tk : Takes X W) (F : ExcBaseFacts B newId initId bmB) (hC : exV X.K c = .ref C) (q : PySem.W.excIn X.K C bmB newId = true) (gC : X.mg x = some (.ref C)) (kC : PySem.W.keepIn X.K (.ref C) = true) (r : Raises X (.ref C)) (hg : Gl X x := by rfl)
    (hdb : (x == ("__debug__" : Str)) = false := by decide) : PDs X W (.Raise (some (.Call (.Name x p) [] [] pos)) none pos') (sRaise c) := by
  refine ⟨(ps_raise hc tk (pmk_own0 F q gC kC r hg hdb)).imp fun D σ H h => ?_⟩
  obtain ⟨m, ρ, h, w, en, o⟩ := h
  rw [← hC]
  exact o H m σ Go.refl w en
def noEr (r : RS) : RS := match r with
  | some (.er _ _, _) => none
  | r => r
theorem SOut.noEr {K : PySem.W.Frag} {W W' : WX} {E : Ends} {H : Hp} {m : List Addr} {r : RS} (o : SOut K W E H m (noEr r)) : SOut K W' E H m r := by
  unfold Dt.noEr at o
  split at o
  · exact o.elim
  · rename_i hn
    cases r with
    | none => exact o
    | some z =>
      obtain ⟨z, h⟩ := z
      cases z with
      | er c ρ => exact absurd rfl (hn _ _ _)
      | nx ρ => exact o
      | rt d => exact o
      | bk ρ => exact o
      | ct ρ => exact o
def sTry (c : Str) (f g : DS) : DS := fun ρ h => match f ρ h with
  | some (.er c' ρ', h') => if c' = c then noEr (g ρ' h') else none
  | r => r
theorem pds_try {c : Str} {b₀ : Stmt} {body suite : List Stmt} {f g : DS} {np : Pos} (hs : X.stack = X.env :: X.outer) (hf : X.env.frame = some X.env.locals) (hc : Names X x (exV X.K c)) (tk : Takes X W) (hm : PySem.W.exmOne X.K (exV X.K c) (exV X.K c) = some true)
    (hb : ∀ (W : WX) (pn : List (Addr × Obj)) (xe : Value → Shared → Prop), Takes (X.tr pn xe) W → PassesOwn (model X.prog X.w) X.A X.env xe → PDss (X.tr pn xe) W body f)
    (hsu : ∀ (a : Addr) (oe : Obj) (pn : List (Addr × Obj)), PDss (X.suite a ((a, oe) :: pn)) WF (b₀ :: suite) g) :
    PDs X W (.Try body [.ExceptHandler (some (.Name x np)) none (b₀ :: suite) pos'] [] [] pos) (sTry c f g) := by
  refine ⟨(ps_try_only (ts := fun _ _ _ => sOf X.K WF g) (tb := fun W => sOf X.K W f) hs hf hc tk (fun W pn xe t1 t2 => (hb W pn xe t1 t2).ps) (fun a oe cls d pn _ _ => (hsu a oe pn).ps)).imp fun D σ H h => ?_⟩
  obtain ⟨m, ρ, h, w, en, o⟩ := h
  refine ⟨m, ρ, h, w, en, ?_⟩
  unfold sTry at o
  split at o
  · rename_i c' ρ' h' e
    rw [e]
    split at o
    · rename_i ec
      subst ec
      intro H' m' σ' g' w' en'
      refine ⟨true, hm, fun _ a _ => ⟨m', ρ', h', w', en', ?_⟩, fun z => by cases z⟩
      exact (o.go g').noEr
    · exact o.elim
  · rename_i hn
    cases e : f ρ h with
    | none => rw [e] at o; exact o
    | some z =>
      rw [e] at o hn
      obtain ⟨z, h1⟩ := z
      cases z with
      | er c ρ => exact absurd rfl (hn _ _ _)
      | nx ρ => exact o
      | rt d => exact o
      | bk ρ => exact o
      | ct ρ => exact o
end
end Dt

set_option Elab.async false
set_option autoImplicit false
set_option linter.all false
set_option maxRecDepth 100000
set_option maxHeartbeats 2000000
namespace Dt
open PySem PySem.Spec PyProof.Rows L2 RZ

/-! ### chains, in -/
section
variable {X : Cx} {W : WX} {a b c : Expr} {f g k : DE} {pos : Pos}
theorem pd_chain {op op' : CmpOp} {r r' : R2} {o1 o2 : D2} (ho : OpR X (compareOp op) r) (hd : OpD X W r o1) (ho' : OpR X (compareOp op') r') (hd' : OpD X W r' o2) (ha : PD X W a f) (hb : PD X W b g) (hc : PD X W c k)
    (hm : lastMarks [op, op'] [b, c] = false := by with_unfolding_all rfl) : PD X W (.Compare a [op, op'] [b, c] pos) (dChain o1 o2 f g k) :=
  ⟨(pe_chain ho ho' ha.pe hb.pe hc.pe hm).imp (eOf_chain hd hd')⟩
theorem pt_chainD {op op' : CmpOp} {r r' : R2} {o1 o2 : D2} (ho : OpR X (compareOp op) r) (hd : OpD X W r o1) (ho' : OpR X (compareOp op') r') (hd' : OpD X W r' o2) (ha : PD X W a f) (hb : PD X W b g) (hc : PD X W c k)
    (hm : lastMarks [op, op'] [b, c] = false := by with_unfolding_all rfl) : PDt X W (.Compare a [op, op'] [b, c] pos) (dTest (dChain o1 o2 f g k)) := by
  refine ⟨(pt_chain ho ho' ha.pe hb.pe hc.pe hm).imp fun σ H Q h => ?_⟩
  obtain ⟨m, ρ, h, w, en, o'⟩ := bOf_test σ H Q h
  exact eOf_chain hd hd' σ H _ ⟨m, ρ, h, w, en, o'⟩
/-- flat data -/
def flD : D → Option V
  | .non => some .non
  | .bl b => some (.bl b)
  | .int i => some (.int i)
  | .str s => some (.str s)
  | _ => none
def flDs : List D → Option (List V)
  | [] => some []
  | x :: xs => match flD x, flDs xs with
    | some v, some vs => some (v :: vs)
    | _, _ => none
theorem flD_rep {K : PySem.W.Frag} {H : Hp} {m : List Addr} {d : D} {v u : V} (r : RepD K H m d v) (e : flD d = some u) : v = u ∧ flatV u = true := by
  cases d with
  | non => cases (show v = _ from r); cases e; exact ⟨rfl, rfl⟩
  | bl b => cases (show v = _ from r); cases e; exact ⟨rfl, rfl⟩
  | int b => cases (show v = _ from r); cases e; exact ⟨rfl, rfl⟩
  | str b => cases (show v = _ from r); cases e; exact ⟨rfl, rfl⟩
  | tup xs => cases e
  | rol xs => cases e
  | ref k => cases e
theorem flDs_rep {K : PySem.W.Frag} {H : Hp} {m : List Addr} : ∀ {ds : List D} {vs us : List V}, RepL K H m ds vs → flDs ds = some us → vs = us ∧ us.all flatV = true
  | [], vs, us, r, e => by cases (show vs = _ from r); cases e; exact ⟨rfl, rfl⟩
  | x :: xs, vs, us, r, e => by
    obtain ⟨v, w, rfl, r1, r2⟩ := r
    unfold flDs at e
    split at e
    · rename_i u us' e1 e2
      cases e
      obtain ⟨rfl, h1⟩ := flD_rep r1 e1
      obtain ⟨rfl, h2⟩ := flDs_rep r2 e2
      exact ⟨rfl, by rw [List.all_cons, h1, h2]; rfl⟩
    · cases e
def oInF : D2 := fun x y h => match flD x, (seqD h y).bind flDs with
  | some v, some vs => ret (.bl (inV v vs)) h
  | _, _ => none
def oNotIn : D2 := fun x y h => match flD x, (seqD h y).bind flDs with
  | some v, some vs => ret (.bl (!inV v vs)) h
  | _, _ => none
theorem od_inG {neg : Bool} : OpD X W (rIn X.K neg) (if neg then oNotIn else oInF) := by
  intro σ H m h d d2 v v2 Q w r r2 o
  have key : ∀ u vs, flD d = some u → (seqD h d2).bind flDs = some vs → (Out X.K W σ H m (ret (D.bl (if neg then !inV u vs else inV u vs)) h) fun z x H' m' => ∀ u, RepD X.K H' m' z u → Q u H') → rIn X.K neg v v2 H Q := fun u vs e1 e2 o1 => by
    obtain ⟨rfl, fl⟩ := flD_rep r e1
    cases e3 : seqD h d2 with
    | none => rw [e3] at e2; cases e2
    | some ds =>
      rw [e3] at e2
      obtain ⟨a, ws, rfl, s, q⟩ := seqD_ok w r2 e3
      obtain ⟨rfl, fs⟩ := flDs_rep q e2
      exact ⟨a, ws, rfl, s.imp (fun z => z) (fun z => z.1), fl, fs, o1.ret w _ rfl⟩
  cases neg with
  | true =>
    rw [if_pos rfl] at o
    unfold oNotIn at o
    split at o
    · rename_i e1 e2
      exact key _ _ e1 e2 o
    · exact o.elim
  | false =>
    rw [if_neg Bool.false_ne_true] at o
    unfold oInF at o
    split at o
    · rename_i e1 e2
      exact key _ _ e1 e2 o
    · exact o.elim
theorem od_inF : OpD X W (rIn X.K false) oInF := od_inG (neg := false)
theorem od_notIn : OpD X W (rIn X.K true) oNotIn := od_inG (neg := true)
end
/-- `in` where the items are of any depth -/
def rInTD (K : PySem.W.Frag) : R2 := fun x y H Q => ∃ d ds, Dp K H x d ∧ Dp K H y (.tuple ds) ∧ SeqAt.shaped d = true ∧ SeqAt.shaped (.tuple ds) = true ∧ Q (.bl (ds.any fun z => PyData.eqv z d)) H
def rInA (K : PySem.W.Frag) : R2 := fun x y H Q => rIn K false x y H Q ∨ rInD K x y H Q ∨ rInTD K x y H Q
theorem op_inA {X : Cx} (hu : X.A.units + 65 < cLine) : OpR X (compareOp .In) (rInA X.K) := by
  intro pins s σ H x y v u Q I rx ry h
  rcases h with h | h | h
  · exact op_in_seq pins s σ H x y v u Q I rx ry h
  · exact op_inD hu pins s σ H x y v u Q I rx ry h
  · obtain ⟨d, ds, hd, he, sd, se, q⟩ := h
    obtain ⟨as, r1⟩ := Dp.reads I d x v hd rx
    obtain ⟨bs, r2⟩ := Dp.reads I (.tuple ds) y u he ry
    exact SeqAt.in_tuple_reads r2 r1 (SeqAt.canLay_of_shaped se) (SeqAt.canLay_of_shaped sd) (room_in_shaped sd hu) ⟨.bl _, H, I, rfl, q⟩
def oInP (p q : PyData) (h : DH) : Rh D := match q with
  | .tuple ds => if SeqAt.shaped p && SeqAt.shaped (.tuple ds) then ret (.bl (ds.any fun z => PyData.eqv z p)) h else none
  | .list ds => if SeqAt.shaped p && SeqAt.shaped (.list ds) then ret (.bl (ds.any fun z => PyData.eqv z p)) h else none
  | _ => none
def oIn : D2 := fun x y h => match flD x, (seqD h y).bind flDs with
  | some v, some vs => ret (.bl (inV v vs)) h
  | _, _ => match toPyH h x, toPyH h y with
    | some p, some q => oInP p q h
    | _, _ => none
theorem od_in {X : Cx} {W : WX} : OpD X W (rInA X.K) oIn := by
  intro σ H m h d d2 v v2 Q w r r2 o
  unfold oIn at o
  split at o
  · rename_i e1 e2
    have o' : Out X.K W σ H m (oInF d d2 h) fun z x H' m' => ∀ u, RepD X.K H' m' z u → Q u H' := by
      unfold oInF
      rw [e1, e2]
      exact o
    exact .inl (od_inF σ H m h d d2 v v2 Q w r r2 o')
  · split at o
    · rename_i p q e1 e2
      unfold oInP at o
      split at o
      · split at o
        · rename_i hs
          obtain ⟨h1, h2⟩ := Bool.and_eq_true_iff.mp hs
          exact .inr (.inr ⟨_, _, toPyH_dp w r e1, toPyH_dp w r2 e2, h1, h2, o.ret w _ rfl⟩)
        · exact o.elim
      · split at o
        · rename_i hs
          obtain ⟨h1, h2⟩ := Bool.and_eq_true_iff.mp hs
          exact .inr (.inl ⟨_, _, toPyH_dp w r e1, toPyH_dp w r2 e2, h1, h2, o.ret w _ rfl⟩)
        · exact o.elim
      · exact o.elim
    · exact o.elim
/-! ### (*a, b) -/
def aStar (f : DE) (g : DA) : DA := fun ρ h => bindR (f ρ h) fun d h1 => match d with
  | .tup xs => bindR (g ρ h1) fun ys h2 => ret (xs ++ ys) h2
  | .ref k => (match h1[k]? with
    | some (.lst xs) => bindR (g ρ h1) fun ys h2 => ret (xs ++ ys) h2
    | _ => none)
  | _ => none
section
variable {X : Cx} {W : WX} {e : Expr} {es : List Expr} {f : DE} {g : DA} {p : Pos}
theorem pda_star (ha : PD X W e f) (hr : PDa X W es g) (hs : starEach (.Starred e p :: es) X.env = (true, eval e X.env) :: starEach es X.env := by rfl) : PDa X W (.Starred e p :: es) (aStar f g) := by
  refine ⟨(StX.pa_star ha.pe hr.pa hs).imp fun σ H Q h => ?_⟩
  obtain ⟨m, ρ, h, w, en, o⟩ := h
  refine ⟨m, ρ, h, w, en, o.bind.mono fun d h1 H1 m1 g1 w1 o1 v rv => ?_⟩
  split at o1
  · obtain ⟨a, vs, rfl, s, q⟩ := rv
    refine ⟨a, vs, rfl, .inl s.1, m1, ρ, h1, w1, en.go g1 w, o1.bind.mono fun ys h2 H2 m2 g2 w2 o2 ws rws => ?_⟩
    exact o2.ret w2 _ ((RepL.go g2 w1 _ _ q).app rws)
  · split at o1
    · rename_i xs e1
      obtain ⟨a, rfl, ha⟩ := rv
      obtain ⟨vs, z, q⟩ := w1.lst ha e1
      refine ⟨a, vs, rfl, .inr (SqL.of z), m1, ρ, h1, w1, en.go g1 w, o1.bind.mono fun ys h2 H2 m2 g2 w2 o2 ws rws => ?_⟩
      exact o2.ret w2 _ ((RepL.go g2 w1 _ _ q).app rws)
    · exact o1.elim
  · exact o1.elim
end
/-! ### stores in lists -/
def sStL (fo fi fv : DE) : DS := fun ρ h => bindS (fv ρ h) ρ fun d h1 => bindS (fo ρ h1) ρ fun o h2 => bindS (fi ρ h2) ρ fun i h3 => match o, i with
  | .ref k, .int i => (match h3[k]? with
    | some (.lst xs) => (match ixN xs.length i with
      | some j => some (.nx ρ, h3.set k (.lst (xs.set j d)))
      | none => none)
    | _ => none)
  | _, _ => none
section
variable {X : Cx} {W : WX} {o i e : Expr} {fo fi fv : DE} {pos p : Pos}
theorem pds_stL (ho : PD X W o fo) (hi : PD X W i fi) (he : PD X W e fv)
    (ha : ∀ v, assign (.Subscript o i p) X.env v = (do
      let ov ← holding [v] (eval o X.env)
      let iv ← holding [v, ov] (eval i X.env)
      standAt p
      holding [v, ov, iv] (setItem ov iv v)
      release [v, ov, iv] []) := by intro _; rfl)
    (hs : swapsWithSole [.Subscript o i p] e pos.line X.env = pure false := by rfl) (hw : swappedStores [.Subscript o i p] e X.env = pure none := by rfl)
    (h1 : (assignEach [.Subscript o i p] X.env).map (·.2) = [assign (.Subscript o i p) X.env] := by rfl) : PDs X W (.Assign [.Subscript o i p] e pos) (sStL fo fi fv) := by
  refine ⟨(ps_asg he.pe (pg_sub ho.pe hi.pe set_list ha) hs hw h1).imp fun D σ H h => ?_⟩
  obtain ⟨m, ρ, h, w, en, o⟩ := h
  refine ⟨m, ρ, h, w, en, (Out.sb w en o).mono fun d h1 H1 m1 g1 w1 o1 v rv => ?_⟩
  have en1 := en.go g1 w
  refine ⟨m1, ρ, h1, w1, en1, (Out.sb w1 en1 o1).mono fun od h2 H2 m2 g2 w2 o2 ov rov => ?_⟩
  have en2 := en1.go g2 w1
  refine ⟨m2, ρ, h2, w2, en2, (Out.sb w2 en2 o2).mono fun jd h3 H3 m3 g3 w3 o3 jv rjv => ?_⟩
  split at o3
  · rename_i k j
    split at o3
    · rename_i xs e3
      split at o3
      · rename_i n en
        obtain ⟨a, rfl, ha⟩ := rov
        have ha3 := g3.ix ha
        obtain ⟨vs, z, q⟩ := w3.lst ha3 e3
        refine ⟨a, vs, j, n, rfl, rjv, z, by rw [q.length]; exact en, ?_⟩
        have rv3 := (rv.go g2 w1).go g3 w2
        have tk := tk_upd (K := X.K) (o := .lst (vs.set n v)) z (fun _ z => by cases z) (fun _ _ z => by cases z)
        refine o3 _ m3 σ (Go.put (List.mem_of_getElem? ha3)) (w3.put ha3 ⟨vs.set n v, upd_same, RepL.kept tk (fun _ _ z => z) _ _ (q.set rv3)⟩) ?_
        exact ((en2.go g3 w2)).go (Go.put (List.mem_of_getElem? ha3)) w3
      · exact o3.elim
    · exact o3.elim
  · exact o3.elim
end
/-! ### xs.append(e) -/
def dApp (f : DE) (g : DE) : DE := fun ρ h => bindR (f ρ h) fun o h1 => match o with
  | .ref k => (match h1[k]? with
    | some (.lst _) => bindR (g ρ h1) fun d h2 => (match h2[k]? with
      | some (.lst xs) => if okLen (xs.length + 1) then ret .non (h2.set k (.lst (xs ++ [d]))) else none
      | _ => none)
    | _ => none)
  | _ => none
section
variable {X : Cx} {W : WX} {o e : Expr} {f g : DE} {apos cpos : Pos}
theorem pd_app (ho : PD X W o f) (he : PD X W e g)
    (hbase : attributeBase o "append" X.env (eval o X.env) = eval o X.env := by rfl)
    (hfew : ((backTo cpos (starEach [e] X.env)).all (fun x => !x.1) && (backToKw cpos (keywordEach [] X.env)).all (fun x => x.1.isSome)
      && decide (([e] : List Expr).length + ([] : List Keyword).length + (if ([] : List Keyword).isEmpty then 0 else 1) < 30)) = true := by rfl)
    (hline : (apos.endLine == cpos.line) = true := by rfl) (hs : starEach [e] X.env = (false, eval e X.env) :: starEach [] X.env := by rfl) (hplain : (backTo cpos (starEach [] X.env)).any (·.1) = false := by rfl) :
    PD X W (.Call (.Attribute o "append" apos) [e] [] cpos) (dApp f g) := by
  refine ⟨(pe_bm PySem.F.plainAttrs_list PySem.F.slot_list_append PySem.F.type_list_append mt_append ho.pe (pa_cons he.pe pa_nil hs) hbase hfew hline hs hplain).imp fun σ H Q h => ?_⟩
  obtain ⟨m, ρ, h, w, en, o⟩ := h
  refine ⟨m, ρ, h, w, en, o.bind.mono fun od h1 H1 m1 g1 w1 o1 ov rov => ?_⟩
  split at o1
  · rename_i k
    split at o1
    · rename_i ys e1
      obtain ⟨a, rfl, ha⟩ := rov
      obtain ⟨us, z1, q1⟩ := w1.lst ha e1
      refine ⟨.inl ⟨rfl, us, SqL.of z1⟩, m1, ρ, h1, w1, en.go g1 w, o1.bind.mono fun d h2 H2 m2 g2 w2 o2 v rv => ?_⟩
      split at o2
      · rename_i xs e2
        split at o2
        · rename_i hl
          have ha2 := g2.ix ha
          obtain ⟨vs, z, q⟩ := w2.lst ha2 e2
          refine ⟨a, vs, v, rfl, rfl, z, ?_, ?_⟩
          · rw [q.length, sizeLine_eq]
            have := of_decide_eq_true hl
            omega
          · have tk := tk_upd (K := X.K) (o := .lst (vs ++ [v])) z (fun _ z => by cases z) (fun _ _ z => by cases z)
            have o3 : ∀ H' m', Go H2 m2 H' m' → Wd X.K H' m' (h2.set k (.lst (xs ++ [d]))) → ∀ u, RepD X.K H' m' .non u → Q u H' := o2
            exact o3 _ m2 (Go.put (List.mem_of_getElem? ha2)) (w2.put ha2 ⟨vs ++ [v], upd_same, RepL.kept tk (fun _ _ z => z) _ _ (q.app (.one rv))⟩) .non rfl
        · exact o2.elim
      · exact o2.elim
    · exact o1.elim
  · exact o1.elim
end
/-! ### dicts keyed by tuples of three ints -/
def keyL : List D → Option (List Key)
  | [] => some []
  | .int i :: r => (keyL r).map fun k => Sum.inl i :: k
  | _ => none
theorem keyL_rep {K : PySem.W.Frag} {H : Hp} {m : List Addr} : ∀ {ds : List D} {vs : List V} {k : List Key}, RepL K H m ds vs → keyL ds = some k → vs = k.map kV
  | [], vs, k, r, e => by cases (show vs = _ from r); cases e; rfl
  | x :: xs, vs, k, r, e => by
    obtain ⟨v, w, rfl, r1, r2⟩ := r
    cases x with
    | int i =>
      have e1 : ((keyL xs).map fun k => Sum.inl i :: k) = some k := e
      cases e2 : keyL xs with
      | none => rw [e2] at e1; cases e1
      | some k' =>
        rw [e2] at e1
        cases e1
        cases (show v = _ from r1)
        rw [keyL_rep r2 e2]
        rfl
    | _ => cases e
def valD {κ : Type} [DecidableEq κ] (kvs : List (κ × D)) (k : κ) : Option D := (kvs.find? fun kv => decide (kv.1 = k)).map (·.2)
def putD {κ : Type} [DecidableEq κ] (kvs : List (κ × D)) (k : κ) (v : D) : List (κ × D) :=
  if (kvs.any fun kv => decide (kv.1 = k)) = true then kvs.map (fun kv => if kv.1 = k then (kv.1, v) else kv) else kvs ++ [(k, v)]
section
variable {κ : Type} [DecidableEq κ] {K : PySem.W.Frag} {H : Hp} {m : List Addr}
theorem valD_rep {k : κ} : ∀ {l : List (κ × D)} {lv : List (κ × V)}, RepKV K H m l lv → (match valD l k with | some d => ∃ v, valV lv k = some v ∧ RepD K H m d v | none => valV lv k = none)
  | [], lv, r => by cases (show lv = _ from r); rfl
  | x :: xs, lv, r => by
    obtain ⟨v, w, rfl, r1, r2⟩ := r
    have ih := valD_rep (k := k) r2
    by_cases e : x.1 = k
    · have h1 : valD (x :: xs) k = some x.2 := by simp [valD, List.find?_cons, e]
      rw [h1, valV_pos (p := (x.1, v)) e]
      exact ⟨v, rfl, r1⟩
    · have h1 : valD (x :: xs) k = valD xs k := by simp [valD, List.find?_cons, e]
      rw [h1, valV_neg (p := (x.1, v)) e]
      exact ih
theorem any_rep {k : κ} : ∀ {l : List (κ × D)} {lv : List (κ × V)}, RepKV K H m l lv → (lv.any fun kv => decide (kv.1 = k)) = l.any fun kv => decide (kv.1 = k)
  | [], lv, r => by cases (show lv = _ from r); rfl
  | x :: xs, lv, r => by
    obtain ⟨v, w, rfl, r1, r2⟩ := r
    rw [List.any_cons, List.any_cons, any_rep r2]
theorem map_rep {k : κ} {d : D} {u : V} (ru : RepD K H m d u) : ∀ {l : List (κ × D)} {lv : List (κ × V)}, RepKV K H m l lv → RepKV K H m (l.map fun kv => if kv.1 = k then (kv.1, d) else kv) (lv.map fun kv => if kv.1 = k then (kv.1, u) else kv)
  | [], lv, r => by cases (show lv = _ from r); rfl
  | x :: xs, lv, r => by
    obtain ⟨v, w, rfl, r1, r2⟩ := r
    have ih := map_rep (k := k) ru r2
    rw [List.map_cons, List.map_cons]
    by_cases e : x.1 = k
    · rw [if_pos e, if_pos e]
      exact ⟨u, _, rfl, ru, ih⟩
    · rw [if_neg e, if_neg e]
      exact ⟨v, _, rfl, r1, ih⟩
theorem putD_rep {k : κ} {d : D} {u : V} {l : List (κ × D)} {lv : List (κ × V)} (ru : RepD K H m d u) (r : RepKV K H m l lv) : RepKV K H m (putD l k d) (putK lv k u) := by
  unfold putD putK
  rw [any_rep r]
  split
  · exact map_rep ru r
  · exact kv_app r ⟨u, [], rfl, ru, rfl⟩
theorem kv_len {l : List (κ × D)} {lv : List (κ × V)} (r : RepKV K H m l lv) : lv.length = l.length := by
  have := congrArg List.length (kv_fst' r)
  simpa using this
where kv_fst' {κ : Type} {K : PySem.W.Frag} {H : Hp} {m : List Addr} : ∀ {l : List (κ × D)} {lv : List (κ × V)}, RepKV K H m l lv → lv.map (·.1) = l.map (·.1)
  | [], lv, r => by cases (show lv = _ from r); rfl
  | x :: xs, lv, r => by
    obtain ⟨v, w, rfl, r1, r2⟩ := r
    rw [List.map_cons, List.map_cons, kv_fst' r2]
end
/-- {} of that kind -/
def dNewT : DE := fun _ h => ret (.ref h.length) (h ++ [.dT []])
def dGet2 (f g e : DE) : DE := fun ρ h => bindR (f ρ h) fun o h1 => match o with
  | .ref k => (match h1[k]? with
    | some (.dT _) => bindR (g ρ h1) fun y h2 => bindR (e ρ h2) fun z h3 => (match h3[k]?, y with
      | some (.dT kvs), .tup xs => (match keyD xs, keyL xs with
        | true, some key => ret ((valD kvs key).getD z) h3
        | _, _ => none)
      | _, _ => none)
    | _ => none)
  | _ => none
def dIxD (f g : DE) : DE := fun ρ h => bindR (f ρ h) fun o h1 => bindR (g ρ h1) fun y h2 => match o, y with
  | .ref k, .tup xs => (match h2[k]?, keyD xs, keyL xs with
    | some (.dT kvs), true, some key => (match valD kvs key with
      | some d => ret d h2
      | none => none)
    | _, _, _ => none)
  | _, _ => none
def sStD (fo fi fv : DE) : DS := fun ρ h => bindS (fv ρ h) ρ fun d h1 => bindS (fo ρ h1) ρ fun o h2 => bindS (fi ρ h2) ρ fun y h3 => match o, y with
  | .ref k, .tup xs => (match h3[k]?, keyD xs, keyL xs with
    | some (.dT kvs), true, some key => if okLen (kvs.length + 1) then some (.nx ρ, h3.set k (.dT (putD kvs key d))) else none
    | _, _, _ => none)
  | _, _ => none
section
variable {X : Cx} {W : WX} {o i e f : Expr} {fo fi fv fe : DE} {pos p apos cpos : Pos}
theorem pd_newT : PD X W (.Dict [] [] pos) dNewT := by
  refine ⟨pe_dnewT.imp fun σ H Q h => ?_⟩
  obtain ⟨m, ρ, h, w, en, o⟩ := h
  intro a ha
  have o1 : ∀ H' m', Go H m H' m' → Wd X.K H' m' (h ++ [.dT []]) → ∀ u, RepD X.K H' m' (.ref h.length) u → Q u H' := o
  refine o1 _ (m ++ [a]) (Go.num ha) (w.num ha ⟨[], upd_same, rfl⟩) _ ⟨a, rfl, ?_⟩
  rw [← w.len]
  simp
theorem pd_dget2 (hu : X.A.units + 1 < cLine) (ho : PD X W o fo) (hi : PD X W i fi) (he : PD X W e fe) (mm : M2 X o "get" apos i e cpos := by exact ⟨rfl, rfl, rfl, rfl⟩) : PD X W (.Call (.Attribute o "get" apos) [i, e] [] cpos) (dGet2 fo fi fe) := by
  refine ⟨(pe_dget2 hu ho.pe hi.pe he.pe mm).imp fun σ H Q h => ?_⟩
  obtain ⟨m, ρ, h, w, en, o⟩ := h
  refine ⟨m, ρ, h, w, en, o.bind.mono fun od h1 H1 m1 g1 w1 o1 ov rov => ?_⟩
  split at o1
  · rename_i k
    split at o1
    · rename_i kvs0 e1
      obtain ⟨a, rfl, ha⟩ := rov
      obtain ⟨lv0, z0, _⟩ := w1.at_ k a _ ha e1
      refine ⟨a, rfl, .inr ⟨lv0, .inl z0⟩, m1, ρ, h1, w1, en.go g1 w, o1.bind.mono fun y h2 H2 m2 g2 w2 o2 v rv => ?_⟩
      refine ⟨m2, ρ, h2, w2, (en.go g1 w).go g2 w1, o2.bind.mono fun zd h3 H3 m3 g3 w3 o3 zv rzv => ?_⟩
      split at o3
      · rename_i kvs xs e3
        split at o3
        · rename_i key e4 e5
          obtain ⟨b, ws, rfl, s, q⟩ := rv.go g3 w2
          obtain ⟨lv, z, rl⟩ := w3.at_ k a _ (g3.ix (g2.ix ha)) e3
          have e6 := keyL_rep q e5
          subst e6
          refine ⟨_, .inr ⟨lv, key, b, .inl z, rfl, s.2 e4, rfl⟩, ?_⟩
          have := valD_rep (k := key) rl
          cases e7 : valD kvs key with
          | none =>
            rw [e7] at this o3
            rw [show valV lv key = none from this]
            exact o3.ret w3 _ rzv
          | some d =>
            rw [e7] at this o3
            obtain ⟨v', e8, r8⟩ := this
            rw [e8]
            exact o3.ret w3 _ r8
        · exact o3.elim
      · exact o3.elim
    · exact o1.elim
  · exact o1.elim
theorem pd_ixD (hu : X.A.units + 1 < cLine) (ho : PD X W o fo) (hi : PD X W i fi) (hs : NoSl i := by intro _ _; rfl) : PD X W (.Subscript o i pos) (dIxD fo fi) := by
  refine ⟨(pe_dget hu ho.pe hi.pe hs).imp fun σ H Q h => ?_⟩
  obtain ⟨m, ρ, h, w, en, o⟩ := h
  refine ⟨m, ρ, h, w, en, o.bind.mono fun od h1 H1 m1 g1 w1 o1 ov rov => ?_⟩
  refine ⟨m1, ρ, h1, w1, en.go g1 w, o1.bind.mono fun y h2 H2 m2 g2 w2 o2 v rv => ?_⟩
  split at o2
  · split at o2
    · rename_i kvs key e3 e4 e5
      split at o2
      · rename_i d e7
        obtain ⟨a, rfl, ha⟩ := rov
        obtain ⟨b, ws, rfl, s, q⟩ := rv
        obtain ⟨lv, z, rl⟩ := w2.at_ _ a _ (g2.ix ha) e3
        have e6 := keyL_rep q e5
        subst e6
        have := valD_rep (k := key) rl
        rw [e7] at this
        obtain ⟨v', e8, r8⟩ := this
        exact ⟨a, v', rfl, .inr ⟨lv, key, b, .inl z, rfl, s.2 e4, e8.symm⟩, o2.ret w2 _ r8⟩
      · exact o2.elim
    · exact o2.elim
  · exact o2.elim
theorem pds_stD (hu : X.A.units + 1 < cLine) (ho : PD X W o fo) (hi : PD X W i fi) (he : PD X W e fv)
    (ha : ∀ v, assign (.Subscript o i p) X.env v = (do
      let ov ← holding [v] (eval o X.env)
      let iv ← holding [v, ov] (eval i X.env)
      standAt p
      holding [v, ov, iv] (setItem ov iv v)
      release [v, ov, iv] []) := by intro _; rfl)
    (hs : swapsWithSole [.Subscript o i p] e pos.line X.env = pure false := by rfl) (hw : swappedStores [.Subscript o i p] e X.env = pure none := by rfl)
    (h1 : (assignEach [.Subscript o i p] X.env).map (·.2) = [assign (.Subscript o i p) X.env] := by rfl) : PDs X W (.Assign [.Subscript o i p] e pos) (sStD fo fi fv) := by
  refine ⟨(ps_asg he.pe (pg_sub ho.pe hi.pe (set_dict hu) ha) hs hw h1).imp fun D σ H h => ?_⟩
  obtain ⟨m, ρ, h, w, en, o⟩ := h
  refine ⟨m, ρ, h, w, en, (Out.sb w en o).mono fun d h1 H1 m1 g1 w1 o1 v rv => ?_⟩
  have en1 := en.go g1 w
  refine ⟨m1, ρ, h1, w1, en1, (Out.sb w1 en1 o1).mono fun od h2 H2 m2 g2 w2 o2 ov rov => ?_⟩
  have en2 := en1.go g2 w1
  refine ⟨m2, ρ, h2, w2, en2, (Out.sb w2 en2 o2).mono fun jd h3 H3 m3 g3 w3 o3 jv rjv => ?_⟩
  split at o3
  · rename_i k xs
    split at o3
    · rename_i kvs key e3 e4 e5
      split at o3
      · rename_i hl
        obtain ⟨a, rfl, ha⟩ := rov
        obtain ⟨b, ws, rfl, s, q⟩ := rjv
        have ha3 := g3.ix ha
        obtain ⟨lv, z, rl⟩ := w3.at_ k a _ ha3 e3
        have e6 := keyL_rep q e5
        subst e6
        have rv3 := (rv.go g2 w1).go g3 w2
        have hlen := kv_len rl
        have tk := tk_upd (K := X.K) (o := .dT (putK lv key v)) z (fun _ z => by cases z) (fun _ _ z => by cases z)
        refine ⟨a, _, rfl, .inr ⟨lv, key, b, z, rfl, s.2 e4, ?_, rfl⟩, ?_⟩
        · rw [hlen, sizeLine_eq]
          have := of_decide_eq_true hl
          omega
        · refine o3 _ m3 σ (Go.put (List.mem_of_getElem? ha3)) (w3.put ha3 ⟨_, upd_same, RepKV.kept tk (fun _ _ z => z) _ _ (putD_rep rv3 rl)⟩) ?_
          exact ((en2.go g3 w2)).go (Go.put (List.mem_of_getElem? ha3)) w3
      · exact o3.elim
    · exact o3.elim
  · exact o3.elim
end
end Dt

set_option Elab.async false
set_option autoImplicit false
set_option linter.all false
set_option maxRecDepth 100000
set_option maxHeartbeats 2000000
namespace Dt
open PySem PySem.Spec PyProof.Rows L2 RZ

/-! ### a def that may be called -/
structure CalD (P : Program) (w : World) (K : PySem.W.Frag) (mg : Str → Option Value) (base : Heap) (k : Nat) (x : Str) (n : Nat) (φ : DF) : Prop where
  ex : ∃ (f : Addr) (fd : FuncData) (ps : List Str), FnOk P w K mg base (L2.CX P w) k f fd ps (spD K n φ) ∧ mg x = some (.ref f) ∧ PySem.W.keepIn K (.ref f) = true ∧ Binds K fd ps []
structure DefD (K : PySem.W.Frag) (mg : Str → Option Value) (x : Str) (params : Arguments) (body : List Stmt) (scope : Scope) : Prop where
  ex : ∃ (f : Addr) (fd : FuncData), FunD K x x params body scope [] [] f fd ∧ mg x = some (.ref f)
section
variable {P : Program} {w : World} {K : PySem.W.Frag} {mg : Str → Option Value} {base : Heap} {x : Str} {params : Arguments} {body : List Stmt} {scope : Scope}
theorem CalD.mono {j k n : Nat} {φ : DF} (c : CalD P w K mg base j x n φ) (h : j ≤ k) : CalD P w K mg base k x n φ := by
  obtain ⟨f, fd, ps, F, hm, hk, hb⟩ := c.ex
  exact ⟨f, fd, ps, F.mono h, hm, hk, hb⟩
theorem calD {k n : Nat} {b : DS} (N ps : List Str) (D : DefD K mg x params body scope) (S : C8.scC N ps scope = true) (hn : ps.length = n)
    (hbind : ∀ (kV doc pm : Value) (an : Option Addr) (cdv ct : Value) (us : List Value), us.length = ps.length → bindArgs (PySem.W.fnOf x x params body scope .none kV doc pm an cdv ct) ⟨us, []⟩ = pure (ps.zip us))
    (hb : ∀ (f : Addr) (cdv : Value) (A : Around) (outer : List Env) (s : Shared) (H : Hp) (E : XK), Room k (A.deeper (envOfC x scope s.heap.objs.size f cdv)) → Takes (cxOf (L2.CX P w) P w K mg base N x scope f cdv A outer s H E) (fun c d _ H => E c d H) →
      PassesOwn (model P w) (A.deeper (envOfC x scope s.heap.objs.size f cdv)) (envOfC x scope s.heap.objs.size f cdv) (cxOf (L2.CX P w) P w K mg base N x scope f cdv A outer s H E).xe →
      PDss (cxOf (L2.CX P w) P w K mg base N x scope f cdv A outer s H E) (fun c d _ H => E c d H) body b) : CalD P w K mg base (k + 1) x n (runF n N.length b) := by
  obtain ⟨f, fd, F, hm⟩ := D.ex
  subst hn
  exact ⟨f, fd, ps, fn_D F (C8.fnScope_by S) fun cdv A outer s H E hr tk hp => hb f cdv A outer s H E hr tk hp, hm, F.kp, F.bindsN hbind⟩
theorem fnD {k n : Nat} {b : DS} (N ps : List Str) {f : Addr} {fd : FuncData} (D : FunD K x x params body scope [] [] f fd) (S : C8.scC N ps scope = true) (hn : ps.length = n)
    (hb : ∀ (f : Addr) (cdv : Value) (A : Around) (outer : List Env) (s : Shared) (H : Hp) (E : XK), Room k (A.deeper (envOfC x scope s.heap.objs.size f cdv)) → Takes (cxOf (L2.CX P w) P w K mg base N x scope f cdv A outer s H E) (fun c d _ H => E c d H) →
      PassesOwn (model P w) (A.deeper (envOfC x scope s.heap.objs.size f cdv)) (envOfC x scope s.heap.objs.size f cdv) (cxOf (L2.CX P w) P w K mg base N x scope f cdv A outer s H E).xe →
      PDss (cxOf (L2.CX P w) P w K mg base N x scope f cdv A outer s H E) (fun c d _ H => E c d H) body b) : FnOk P w K mg base (L2.CX P w) (k + 1) f fd ps (spD K n (runF n N.length b)) := by
  subst hn
  exact fn_D D (C8.fnScope_by S) fun cdv A outer s H E hr tk hp => hb f cdv A outer s H E hr tk hp
theorem calD_never {n : Nat} (k : Nat) (D : DefD K mg x params body scope) (ps : List Str) (hn : ps.length = n)
    (hbind : ∀ (kV doc pm : Value) (an : Option Addr) (cdv ct : Value) (us : List Value), us.length = ps.length → bindArgs (PySem.W.fnOf x x params body scope .none kV doc pm an cdv ct) ⟨us, []⟩ = pure (ps.zip us)) : CalD P w K mg base k x n (fun _ _ => none) := by
  obtain ⟨f, fd, F, hm⟩ := D.ex
  refine ⟨f, fd, ps, ⟨fun vs H Q E h => ?_, fun A outer s H args us vs Q E hr e0 hb r h => ?_⟩, hm, F.kp, F.bindsN hbind⟩
  · obtain ⟨m, h, ds, _, _, _, o⟩ := h
    exact o.elim
  · obtain ⟨m, h, ds, _, _, _, o⟩ := h
    exact o.elim
end
section
variable {X : Cx} {W : WX} {e : Expr} {es : List Expr} {f : DE} {g : DA} {pos p : Pos} {x : Str} {j k n : Nat} {φ : DF}
theorem pd_callC (c : CalD X.prog X.w X.K X.mg X.base j x n φ) (hj : j ≤ k) (hr : Room k X.A) (tk : Takes X W) (ha : PDa X W (e :: es) g)
    (hg : Gl X x := by rfl) (hdb : (x == ("__debug__" : Str)) = false := by decide) (he : starEach (e :: es) X.env = (false, eval e X.env) :: starEach es X.env := by rfl) (hpl : (backTo pos (starEach es X.env)).any (·.1) = false := by rfl) :
    PD X W (.Call (.Name x p) (e :: es) [] pos) (dFn n φ g) := by
  obtain ⟨f, fd, ps, F, hm, hk, hb⟩ := c.ex
  exact pd_call (F.mono hj) hr hm hk hb tk ha hg hdb he hpl
/-- a module's constant -/
structure ConD (K : PySem.W.Frag) (mg : Str → Option Value) (x : Str) (d : D) : Prop where
  ex : ∃ (u : Value) (v : V), mg x = some u ∧ RelV v u ∧ ∀ H m, RepD K H m d v
theorem pd_con {d : D} (c : ConD X.K X.mg x d) (hg : Gl X x := by rfl) (hd : (x == ("__debug__" : Str)) = false := by decide) : PD X W (.Name x pos) (dC d) := by
  obtain ⟨u, v, hm, r, rd⟩ := c.ex
  exact pd_g hm r rd hg hd
/-! ### a walk over a tuple or a list -/
theorem pi_or {tg : Expr} {t1 t2 : TI} (h1 : PI X tg e t1) (h2 : PI X tg e t2) : PI X tg e (fun σ H Q => t1 σ H Q ∨ t2 σ H Q) := ⟨fun pins s σ H Q I h => h.elim (fun z => h1.run pins s σ H Q I z) (fun z => h2.run pins s σ H Q I z)⟩
def iSeq (f : DE) : DI' := fun ρ h => bindR (f ρ h) fun d h1 => match d with
  | .tup xs => ret (xs, sT) h1
  | .ref k => (match h1[k]? with
    | some (.lst xs) => ret (xs, sL k xs) h1
    | _ => none)
  | _ => none
end
/-! ### the slots of a target -/
def Slots (g : Pt) (S : List Nat) : Prop := ∀ d l, g d = some l → ∀ p ∈ l, p.1 ∈ S
def SlotsS (g : Pts) (S : List Nat) : Prop := ∀ d l, g d = some l → ∀ p ∈ l, p.1 ∈ S
theorem sl_n {i : Nat} {S : List Nat} (h : i ∈ S) : Slots (gN i) S := fun d l e p hp => by
  cases e
  rw [List.mem_singleton.mp hp]
  exact h
theorem sl_nil {S : List Nat} : SlotsS gN0 S := fun d l e p hp => by
  unfold gN0 at e
  split at e
  · cases e; cases hp
  · cases e
theorem sl_c {g : Pt} {gs : Pts} {S : List Nat} (h1 : Slots g S) (h2 : SlotsS gs S) : SlotsS (gC g gs) S := fun d l e p hp => by
  unfold gC at e
  split at e
  · rename_i d ds
    cases e1 : g d with
    | none => rw [e1] at e; cases e
    | some l1 =>
      cases e2 : gs ds with
      | none => rw [e1, e2] at e; cases e
      | some l2 =>
        rw [e1, e2] at e
        cases e
        rcases List.mem_append.mp hp with z | z
        · exact h1 _ _ e1 p z
        · exact h2 _ _ e2 p z
  · cases e
theorem sl_t {n : Nat} {gs : Pts} {S : List Nat} (h : SlotsS gs S) : Slots (gT n gs) S := fun d l e p hp => by
  unfold gT at e
  split at e
  · split at e
    · exact h _ _ e p hp
    · cases e
  · cases e
/-! ### a, b = [..] -/
def sAsgL (n : Nat) (f : DA) (gs : Pts) : DS := fun ρ h => bindS (f ρ h) ρ fun ds h1 => if ds.length = n then (match gs ds with
  | some l => some (.nx (setE ρ l), h1)
  | none => none) else none
section
variable {X : Cx} {W : WX} {e : Expr} {ts : List Expr} {f : DA} {gs : Pts} {pos p : Pos} {k n : Nat}
theorem pds_asgL (hc : X.calm = true) (he : PDl X W e f) (hg : PDgs X ts gs) (hn : (assignEach ts X.env).length = n := by rfl) (hst : (assignEach ts X.env).findIdx? (·.1) = none := by rfl)
    (hs : swapsWithSole [.Tuple ts k p] e pos.line X.env = pure false := by rfl) (hw : swappedStores [.Tuple ts k p] e X.env = pure none := by rfl)
    (h1 : (assignEach [.Tuple ts k p] X.env).map (·.2) = [assign (.Tuple ts k p) X.env] := by rfl) : PDs X W (.Assign [.Tuple ts k p] e pos) (sAsgL n f gs) := by
  refine ⟨(ps_asg he.pe (pg_lst (n := n) hc hg.pg hn hst) hs hw h1).imp fun D σ H h => ?_⟩
  obtain ⟨m, ρ, h, w, en, o⟩ := h
  refine ⟨m, ρ, h, w, en, (Out.sb w en o).mono fun ds h1 H1 m1 g1 w1 o1 a vs h0 ha na rl => ?_⟩
  split at o1
  · rename_i hl
    split at o1
    · rename_i l eg
      refine ⟨a, vs, rfl, SqL.of ha, by rw [rl.length]; exact hl, m1, ds, l, rl, eg, fun lv rlv => ?_⟩
      exact o1 H1 m1 _ Go.refl w1 (setE_rep rlv (en.go g1 w))
    · exact o1.elim
  · exact o1.elim
theorem pdj_seq {tg : Expr} {f : DE} (he : PD X W e f) : PDj X W tg e (iSeq f) := by
  refine ⟨⟨fun pins s σ H Q I h => (pi_or (X := X) (tg := tg) (pi_tup he.pe) (pi_list he.pe)).run pins s σ H Q I ?_⟩⟩
  obtain ⟨m, ρ, h, w, en, o⟩ := h
  unfold iSeq at o
  cases e0 : f ρ h with
  | none => rw [e0] at o; exact o.elim
  | some z =>
    obtain ⟨z, h1⟩ := z
    rw [e0] at o
    cases z with
    | er c =>
      have o2 : ∀ H' m', Go H m H' m' → Wd X.K H' m' h1 → W (exV X.K c) none σ H' := o
      refine .inl ⟨m, ρ, h, w, en, ?_⟩
      rw [e0]
      exact o2
    | ok d =>
      cases d with
      | tup xs =>
        refine .inl ⟨m, ρ, h, w, en, Out.of_ok e0 fun H1 m1 g1 w1 v rv => ?_⟩
        have o2 : Out X.K W σ H m (ret (xs, sT) h1) _ := o
        obtain ⟨a, vs, rfl, s, q⟩ := rv
        exact ⟨a, rfl, ⟨vs, s.1⟩, (o2.go g1).ret w1 _ (itok_tup w1 s.1 q)⟩
      | ref k =>
        have o2 : Out X.K W σ H m (match h1[k]? with
          | some (.lst xs) => ret (xs, sL k xs) h1
          | _ => none) _ := o
        split at o2
        · rename_i xs e1
          refine .inr ⟨m, ρ, h, w, en, Out.of_ok e0 fun H1 m1 g1 w1 v rv => ?_⟩
          obtain ⟨a, rfl, ha⟩ := rv
          obtain ⟨vs, z, q⟩ := w1.lst ha e1
          exact ⟨a, rfl, ⟨vs, SqL.of z⟩, (o2.go g1).ret w1 _ (itok_lst ha)⟩
        · exact o2.elim
      | rol xs => exact (show False from o).elim
      | non => exact (show False from o).elim
      | bl b => exact (show False from o).elim
      | int b => exact (show False from o).elim
      | str b => exact (show False from o).elim
end
end Dt
namespace Dt
open PySem PySem.Spec PyProof.Rows L2 RZ
/-! ### an own exception class -/
structure ExD (K : PySem.W.Frag) (mg : Str → Option Value) (x : Str) : Prop where
  ex : ∃ (C : Addr) (bmB : List Value) (Bn newId initId : String), ExcBaseFacts Bn newId initId bmB ∧ exV K x = .ref C ∧ PySem.W.excIn K C bmB newId = true ∧ mg x = some (.ref C) ∧ PySem.W.keepIn K (.ref C) = true ∧
    PySem.W.subIn K (.ref C) (.type "BaseException") = some true ∧ PySem.W.typeIn K (.ref C) = some (.type "type") ∧ PySem.W.exmOne K (.ref C) (.ref C) = some true
section
variable {X : Cx} {W : WX} {x : Str} {pos p pos' np : Pos} {b₀ : Stmt} {body suite : List Stmt} {f g : DS}
theorem ExD.raise (c : ExD X.K X.mg x) (hc : X.calm = true) (tk : Takes X W) (hg : Gl X x := by rfl) (hdb : (x == ("__debug__" : Str)) = false := by decide) : PDs X W (.Raise (some (.Call (.Name x p) [] [] pos)) none pos') (sRaise x) := by
  obtain ⟨C, bmB, Bn, newId, initId, F, hC, q, gC, kC, h1, h2, _⟩ := c.ex
  exact pds_raise0 hc tk F hC q gC kC (raises_own h1 h2) hg hdb
theorem ExD.try (c : ExD X.K X.mg x) (hs : X.stack = X.env :: X.outer) (hf : X.env.frame = some X.env.locals) (tk : Takes X W)
    (hb : ∀ (W : WX) (pn : List (Addr × Obj)) (xe : Value → Shared → Prop), Takes (X.tr pn xe) W → PassesOwn (model X.prog X.w) X.A X.env xe → PDss (X.tr pn xe) W body f)
    (hsu : ∀ (a : Addr) (oe : Obj) (pn : List (Addr × Obj)), PDss (X.suite a ((a, oe) :: pn)) WF (b₀ :: suite) g) (hg : Gl X x := by rfl) (hdb : (x == ("__debug__" : Str)) = false := by decide) :
    PDs X W (.Try body [.ExceptHandler (some (.Name x np)) none (b₀ :: suite) pos'] [] [] pos) (sTry x f g) := by
  obtain ⟨C, bmB, Bn, newId, initId, F, hC, q, gC, kC, h1, h2, h3⟩ := c.ex
  exact pds_try hs hf ⟨hg, hdb, .inl (by rw [hC]; exact gC)⟩ tk (by rw [hC]; exact h3) hb hsu
end
end Dt

set_option Elab.async false
set_option autoImplicit false
set_option linter.all false
set_option maxRecDepth 100000
set_option maxHeartbeats 2000000
namespace Dt
open PySem PySem.Spec PyProof.Rows L2 RZ

/-! ### list(..) of a new list -/
def lListL (g : DA) : DA := fun ρ h => bindR (g ρ h) fun ds h1 => ret ds h1
section
variable {X : Cx} {W : WX} {e : Expr} {g : DA} {pos p : Pos}
theorem pdl_listL (hm : X.mg "list" = none) (ha : PDl X W e g) (hg : Gl X "list" := by rfl)
    (he : starEach [e] X.env = (false, eval e X.env) :: starEach [] X.env := by rfl) (hpl : (backTo pos (starEach [] X.env)).any (·.1) = false := by rfl) : PDl X W (.Call (.Name "list" p) [e] [] pos) (lListL g) := by
  refine ⟨(pe_callTy call_list_of hg hm (by decide +kernel) (pa_cons ha.pe pa_nil he) (by decide) (by decide) he hpl).imp fun σ H Q h => ?_⟩
  obtain ⟨m, ρ, h, w, en, o⟩ := h
  refine ⟨m, ρ, h, w, en, o.bind.mono fun ds h1 H1 m1 g1 w1 o1 a vs h0 ha na rl => ?_⟩
  exact ⟨a, vs, rfl, .inl (SqL.of ha), fun l hl => lay_l g1 w1 rl hl o1⟩
end
end Dt
namespace Dt
open PySem PySem.Spec PyProof.Rows L2 RZ
/-! ### zip of three tuples -/
def Itz3 (K : PySem.W.Frag) (a b c : Addr) : It :=
  ⟨fun i H => ∃ (xs ys zs : List V) (x y z : V), SqT K H a xs ∧ SqT K H b ys ∧ SqT K H c zs ∧ xs[i]? = some x ∧ ys[i]? = some y ∧ zs[i]? = some z,
    fun i H v H' => ∃ T x y z, v = .ref T ∧ H T = none ∧ H' = upd H T (.tup [x, y, z]) ∧ (∀ xs, SqT K H a xs → xs[i]? = some x) ∧ (∀ ys, SqT K H b ys → ys[i]? = some y) ∧ ∀ zs, SqT K H c zs → zs[i]? = some z,
    fun i H => ∃ xs ys zs : List V, SqT K H a xs ∧ SqT K H b ys ∧ SqT K H c zs ∧ (i ≤ xs.length ∧ i ≤ ys.length ∧ i ≤ zs.length) ∧ (i = xs.length ∨ i = ys.length ∨ i = zs.length)⟩
theorem turn_zip3 {P : Program} {w : World} {K : PySem.W.Frag} {elts : List Expr} {kk : Nat} {tpos : Pos} {a b c z TI TO i1 i2 i3 : Addr} (S : ZipSep3 z TI TO i1 i2 i3 [i1, a] [i2, b] [i3, c]) :
    Turn P w K (.Tuple elts kk tpos) (Itz3 K a b c) [z, TI, TO, i1, i2, i3] z (fun i h => IsZip h z TI TO .none ∧ IsTupOf3 h TI (.ref i1) (.ref i2) (.ref i3) ∧ (∃ x y u, IsTupOf3 h TO x y u) ∧ h.IsTupleIter i1 a i ∧ h.IsTupleIter i2 b i ∧ h.IsTupleIter i3 c i) where
  mem := by simp
  obj := fun i h st d hd => by
    obtain ⟨hz, hTI, ⟨x, y, u, hTO⟩, ⟨o1, e1, _, d1⟩, ⟨o2, e2, _, d2⟩, ⟨o3, e3, _, d3⟩⟩ := st
    have e' : d = z ∨ d = TI ∨ d = TO ∨ d = i1 ∨ d = i2 ∨ d = i3 := by simpa using hd
    rcases e' with q | q | q | q | q | q
    · rw [q]; exact ⟨_, hz, fun v q => nomatch q⟩
    · rw [q]; exact ⟨_, hTI, fun v q => nomatch q⟩
    · rw [q]; exact ⟨_, hTO, fun v q => nomatch q⟩
    · rw [q]; exact ⟨o1, e1, fun v q => by rw [d1] at q; cases q⟩
    · rw [q]; exact ⟨o2, e2, fun v q => by rw [d2] at q; cases q⟩
    · rw [q]; exact ⟨o3, e3, fun v q => by rw [d3] at q; cases q⟩
  keep := fun i h h' st k => by
    obtain ⟨hz, hTI, ⟨x, y, u, hTO⟩, h1, h2, h3⟩ := st
    exact ⟨k z (by simp) _ hz, k TI (by simp) _ hTI, ⟨x, y, u, k TO (by simp) _ hTO⟩, h1.at fun o q => k i1 (by simp) o q, h2.at fun o q => k i2 (by simp) o q, h3.at fun o q => k i3 (by simp) o q⟩
  item := by
    intro X hP hw hK hc i pins s σ H E I hf st hg
    subst hP hw hK
    obtain ⟨hz, hTI, ⟨x0, y0, z0, hTO⟩, h1, h2, h3⟩ := st
    obtain ⟨xs, ys, zs, x, y, u, hqx, hqy, hqz, hx, hy, hu⟩ := hg
    obtain ⟨its, rv, p, _⟩ := I.tuple hqx
    obtain ⟨its2, rv2, p2, _⟩ := I.tuple hqy
    obtain ⟨its3, rv3, p3, _⟩ := I.tuple hqz
    obtain ⟨v1, hv1, ru1⟩ := rv.get hx
    obtain ⟨v2, hv2, ru2⟩ := rv2.get hy
    obtain ⟨v3, hv3, ru3⟩ := rv3.get hu
    have hzl : z < s.heap.objs.size := Heap.lt_size hz
    have hh : X.A.in1.handled = none := I.ok.hd hc
    have ap : ∀ {it t : Addr} {i : Nat} {its : Array Value}, s.heap.IsTupleIter it t i → s.heap.IsTuple t its → t ≠ it := fun ⟨o, e, c1, _⟩ ⟨o', e', c2, _⟩ q => by
      subst q
      rw [e] at e'
      cases e'
      rw [c1] at c2
      exact absurd (Value.type.inj c2) (by decide)
    have n1 : i < its.toArray.size := by simpa using (List.getElem?_eq_some_iff.mp hv1).1
    have n2 : i < its2.toArray.size := by simpa using (List.getElem?_eq_some_iff.mp hv2).1
    have n3 : i < its3.toArray.size := by simpa using (List.getElem?_eq_some_iff.mp hv3).1
    refine wpAny_pyNext_zipD3_item S (Draws.tuple hh i1 a (ap h1 p) its.toArray) (Draws.tuple hh i2 b (ap h2 p2) its2.toArray) (Draws.tuple hh i3 c (ap h3 p3) its3.toArray) hz hTI hTO ⟨h1, p⟩ ⟨h2, p2⟩ ⟨h3, p3⟩ n1 n2 n3 fun x1 x2 x3 h' tk e1 e2 e3 z' TO' st1 st2 st3 hT hsz hk => ?_
    have e1' : x1 = v1 := by
      have := e1.symm.trans (show its.toArray[i]? = some v1 by simpa using hv1)
      exact Option.some.inj this
    have e2' : x2 = v2 := by
      have := e2.symm.trans (show its2.toArray[i]? = some v2 by simpa using hv2)
      exact Option.some.inj this
    have e3' : x3 = v3 := by
      have := e3.symm.trans (show its3.toArray[i]? = some v3 by simpa using hv3)
      exact Option.some.inj this
    subst e1' e2' e3'
    refine ⟨_, rfl, wpAny_letOwnedTupleGo_zip (s := { s with heap := h', toks := tk }) z' fun h'' z'' sb => ?_⟩
    have hT2 : h''.get? s.heap.objs.size = some { cls := .type "tuple", data := .seq #[x1, x2, x3] } := (sb.2 _ (Nat.ne_of_gt hzl)).trans hT
    have new : ObjOk X.prog X.w (upd H s.heap.objs.size (.tup [x, y, u])) h'' s.heap.objs.size (.tup [x, y, u]) :=
      ⟨by show 3 ≤ sizeLine; decide, [x1, x2, x3], .cons ru1 (.cons ru2 (.cons ru3 .nil)), ⟨_, hT2, rfl, _, rfl⟩⟩
    have I1 : Inv X pins σ (upd H s.heap.objs.size (.tup [x, y, u])) { s with heap := h'', toks := tk } :=
      I.turnedNew (t' := tk) (ch := [z, TI, TO, i1, i2, i3]) (fun d o hb q => (sb.2 d (fun q' => hb (by simp [q']))).trans (hk d o (fun q' => hb (by simp [q'])) (fun q' => hb (by simp [q'])) (fun q' => hb (by simp [q'])) (fun q' => hb (by simp [q'])) (fun q' => hb (by simp [q'])) q)) hf (Nat.le_refl _) new
    have nz : ∀ {it t : Addr} {i : Nat}, s.heap.IsTupleIter it t i → it ≠ z := fun ⟨o, e, c1, _⟩ q => by
      subst q
      rw [hz] at e
      cases e
      exact absurd (Value.type.inj c1) (by decide)
    refine ⟨.ref s.heap.objs.size, _, I1, rfl, ⟨_, x, y, u, rfl, I.hok.fresh (Nat.le_refl _), rfl, fun l hl => by rw [I.tuple_inj hl hqx]; exact hx, fun l hl => by rw [I.tuple_inj hl hqy]; exact hy, fun l hl => by rw [I.tuple_inj hl hqz]; exact hu⟩, ⟨z'', ?_, ⟨x1, x2, x3, ?_⟩, ?_, ?_, ?_⟩, fun d hdm => ?_⟩
    · exact (sb.2 _ S.TIz).trans (hk _ _ S.TIz S.TITO S.TIi1 S.TIi2 S.TIi3 hTI)
    · exact (sb.2 _ S.TOz).trans TO'
    · exact st1.1.at fun o q => (sb.2 _ (nz h1)).trans q
    · exact st2.1.at fun o q => (sb.2 _ (nz h2)).trans q
    · exact st3.1.at fun o q => (sb.2 _ (nz h3)).trans q
    · have hlt : d < s.heap.objs.size := by
        have e' : d = z ∨ d = TI ∨ d = TO ∨ d = i1 ∨ d = i2 ∨ d = i3 := by simpa using hdm
        rcases e' with q | q | q | q | q | q
        · rw [q]; exact hzl
        · rw [q]; exact Heap.lt_size hTI
        · rw [q]; exact Heap.lt_size hTO
        · rw [q]; obtain ⟨_, e1, _⟩ := h1; exact Heap.lt_size e1
        · rw [q]; obtain ⟨_, e1, _⟩ := h2; exact Heap.lt_size e1
        · rw [q]; obtain ⟨_, e1, _⟩ := h3; exact Heap.lt_size e1
      rw [upd_ne (Nat.ne_of_lt hlt)]
      exact (hf d hdm).1
  done := by
    intro X hP hw hK hc i pins s σ H E I hf st hg
    subst hP hw hK
    obtain ⟨hz, hTI, ⟨x0, y0, z0, hTO⟩, h1, h2, h3⟩ := st
    obtain ⟨xs, ys, zs, hqx, hqy, hqz, ⟨l1, l2, l3⟩, hend⟩ := hg
    obtain ⟨its, rv, p, _⟩ := I.tuple hqx
    obtain ⟨its2, rv2, p2, _⟩ := I.tuple hqy
    obtain ⟨its3, rv3, p3, _⟩ := I.tuple hqz
    have k1 := rv.length
    have k2 := rv2.length
    have k3 := rv3.length
    have hh : X.A.in1.handled = none := I.ok.hd hc
    have ap : ∀ {it t : Addr} {i : Nat} {its : Array Value}, s.heap.IsTupleIter it t i → s.heap.IsTuple t its → t ≠ it := fun ⟨o, e, c1, _⟩ ⟨o', e', c2, _⟩ q => by
      subst q
      rw [e] at e'
      cases e'
      rw [c1] at c2
      exact absurd (Value.type.inj c2) (by decide)
    refine wpAny_pyNext_zipD3_end S (Draws.tuple hh i1 a (ap h1 p) its.toArray) (Draws.tuple hh i2 b (ap h2 p2) its2.toArray) (Draws.tuple hh i3 c (ap h3 p3) its3.toArray) hz hTI hTO ⟨h1, p⟩ ⟨h2, p2⟩ ⟨h3, p3⟩ (by simp; omega) (by simp; omega) (by simp; omega) (by simp; omega) fun h' tk hk => ⟨rfl, I.turnedL (t' := tk) (ch := [z, TI, TO, i1, i2, i3]) (fun c o hb q =>
      hk c o (fun q' => hb (by simp [q'])) (fun q' => hb (by simp [q'])) (fun q' => hb (by simp [q'])) (fun q' => hb (by simp [q'])) (fun q' => hb (by simp [q'])) q) hf⟩
  self := fun A i s Q E st h => wpAny_pyIter_zip st.1 h
/-- zip of three tuples, data -/
def zip3D (ds es fs : List D) : List D := (ds.zip (es.zip fs)).map fun p => D.tup [p.1, p.2.1, p.2.2]
theorem zip3D_get {ds es fs : List D} {i : Nat} {d e f : D} (h1 : ds[i]? = some d) (h2 : es[i]? = some e) (h3 : fs[i]? = some f) : (zip3D ds es fs)[i]? = some (.tup [d, e, f]) := by
  unfold zip3D
  rw [List.getElem?_map, (List.getElem?_zip_eq_some (z := (d, (e, f)))).mpr ⟨h1, (List.getElem?_zip_eq_some (z := (e, f))).mpr ⟨h2, h3⟩⟩]
  rfl
theorem zip3D_len {ds es fs : List D} : (zip3D ds es fs).length = min ds.length (min es.length fs.length) := by simp [zip3D]
/-- the walk stops at the shortest's end -/
theorem itok_zip3 {K : PySem.W.Frag} {H0 : Hp} {m0 : List Addr} {h0 : DH} {a b c : Addr} {vs ws us : List V} {ds es fs : List D} (w0 : Wd K H0 m0 h0) (s : SqT K H0 a vs) (r : RepL K H0 m0 ds vs) (s2 : SqT K H0 b ws) (r2 : RepL K H0 m0 es ws) (s3 : SqT K H0 c us) (r3 : RepL K H0 m0 fs us) :
    ItOk K H0 m0 (Itz3 K a b c) (zip3D ds es fs) (fun _ => True) where
  go := fun i H m h g w _ hi => by
    rw [zip3D_len] at hi
    obtain ⟨v, e, _⟩ := r.get (List.getElem?_eq_getElem (show i < ds.length by omega))
    obtain ⟨v2, e2, _⟩ := r2.get (List.getElem?_eq_getElem (show i < es.length by omega))
    obtain ⟨v3, e3, _⟩ := r3.get (List.getElem?_eq_getElem (show i < fs.length by omega))
    exact ⟨vs, ws, us, v, v2, v3, g.tup w0 s, g.tup w0 s2, g.tup w0 s3, e, e2, e3⟩
  stop := fun i H m h g w _ hi => by
    rw [zip3D_len] at hi
    refine ⟨vs, ws, us, g.tup w0 s, g.tup w0 s2, g.tup w0 s3, ?_, ?_⟩
    · rw [r.length, r2.length, r3.length]; omega
    · rw [r.length, r2.length, r3.length]; omega
  yld := fun i H m h x H' g w _ hi y => by
    obtain ⟨T, v, v2, v3, rfl, hT, rfl, y, y2, y3⟩ := y
    obtain ⟨d, e, q⟩ := r.get' (y vs (g.tup w0 s))
    obtain ⟨d2, e2, q2⟩ := r2.get' (y2 ws (g.tup w0 s2))
    obtain ⟨d3, e3, q3⟩ := r3.get' (y3 us (g.tup w0 s3))
    exact ⟨Go.lay hT, w.lay hT, .tup [d, d2, d3], zip3D_get e e2 e3, ⟨T, _, rfl, SqX.of upd_same, ⟨v, _, rfl, (q.go g w0).go (Go.lay hT) w, ⟨v2, _, rfl, (q2.go g w0).go (Go.lay hT) w, ⟨v3, [], rfl, (q3.go g w0).go (Go.lay hT) w, rfl⟩⟩⟩⟩⟩
end Dt
namespace Dt
open PySem PySem.Spec PyProof.Rows L2 RZ
def iZip3 (f g k : DE) : DI' := fun ρ h => bindR (f ρ h) fun d h1 => bindR (g ρ h1) fun d2 h2 => bindR (k ρ h2) fun d3 h3 => match d, d2, d3 with
  | .tup xs, .tup ys, .tup zs => ret (zip3D xs ys zs, sT) h3
  | _, _, _ => none
def iZipV3 (K : PySem.W.Frag) (ta : TA) : TI := fun σ H R => ta σ H fun vs H1 => ∃ a b c xs ys zs, vs = [.ref a, .ref b, .ref c] ∧ SqT K H1 a xs ∧ SqT K H1 b ys ∧ SqT K H1 c zs ∧ R (Itz3 K a b c) H1
section
variable {X : Cx} {W : WX} {e e2 e3 : Expr} {f f2 f3 : DE} {pos p : Pos}
theorem pi_zip3 {ta : TA} {tpos : Pos} {elts : List Expr} {kk : Nat} (hg : Gl X "zip") (hm : X.mg "zip" = none) (ha : PA X [e, e2, e3] ta)
    (hs : starEach [e, e2, e3] X.env = (false, eval e X.env) :: starEach [e2, e3] X.env := by rfl) (hpl : (backTo pos (starEach [e2, e3] X.env)).any (·.1) = false := by rfl) :
    PI X (.Tuple elts kk tpos) (.Call (.Name "zip" p) [e, e2, e3] [] pos) (iZipV3 X.K ta) := by
  refine ⟨fun pins s σ H R I h => ?_⟩
  refine Call_ (ld_blt I hg hm PyProof.Rows.boot_zip (PyProof.Rows.callWith_type1 (thn (ha.run pos pins s σ H _ I h) fun us s1 ⟨vs, H1, I1, r1, q1⟩ => ?_) hs hpl))
  obtain ⟨a, b, c, xs, ys, zs, ex, hqx, hqy, hqz, q⟩ := q1
  subst ex
  cases r1 with
  | cons r rr =>
    cases rr with
    | cons r' rr =>
      cases rr with
      | cons r'' rr =>
        cases rr
        cases r
        cases r'
        cases r''
        obtain ⟨its, rv, p1, _⟩ := I1.tuple hqx
        obtain ⟨its2, rv2, p2, _⟩ := I1.tuple hqy
        obtain ⟨its3, rv3, p3, _⟩ := I1.tuple hqz
        obtain ⟨o1, ho1, _⟩ := id p1
        obtain ⟨o2, ho2, _⟩ := id p2
        obtain ⟨o3, ho3, _⟩ := id p3
        refine zip_begins3 (begins_tuple a its.toArray) (begins_tuple b its2.toArray) (begins_tuple c its3.toArray) p1 p2 p3 fun h' hz hTI hTO g1 g2 g3 hsz hk => wpAny_pyIter_zip hz ?_
        have I2 : Inv X pins σ H1 { s1 with heap := h' } := I1.kept (t' := s1.toks) hk
        have fr : ∀ d, d ∈ [s1.heap.objs.size + 5, s1.heap.objs.size + 3, s1.heap.objs.size + 4, s1.heap.objs.size, s1.heap.objs.size + 1, s1.heap.objs.size + 2] → FpOk X pins H1 d := fun d hd => by
          have e' : d = s1.heap.objs.size + 5 ∨ d = s1.heap.objs.size + 3 ∨ d = s1.heap.objs.size + 4 ∨ d = s1.heap.objs.size ∨ d = s1.heap.objs.size + 1 ∨ d = s1.heap.objs.size + 2 := by simpa using hd
          have hle : s1.heap.objs.size ≤ d := by
            rcases e' with z | z | z | z | z | z
            · rw [z]; exact Nat.le_add_right _ _
            · rw [z]; exact Nat.le_add_right _ _
            · rw [z]; exact Nat.le_add_right _ _
            · rw [z]; exact Nat.le_refl _
            · rw [z]; exact Nat.le_add_right _ _
            · rw [z]; exact Nat.le_add_right _ _
          exact I1.fpOk hle (I1.hok.fresh hle)
        have lt1 : ∀ d ∈ [a], d < s1.heap.objs.size := fun d hd => by rw [List.mem_singleton.mp hd]; exact Heap.lt_size ho1
        have lt2 : ∀ d ∈ [b], d < s1.heap.objs.size := fun d hd => by rw [List.mem_singleton.mp hd]; exact Heap.lt_size ho2
        have lt3 : ∀ d ∈ [c], d < s1.heap.objs.size := fun d hd => by rw [List.mem_singleton.mp hd]; exact Heap.lt_size ho3
        exact ⟨s1.heap.objs.size + 5, _, _, _, H1, rfl, I2, turn_zip3 (zip_sep3 lt1 lt2 lt3), ⟨hz, hTI, ⟨_, _, _, hTO⟩, ⟨_, g1, rfl, rfl⟩, ⟨_, g2, rfl, rfl⟩, ⟨_, g3, rfl, rfl⟩⟩, fr, q⟩
theorem pdj_zip3 {elts : List Expr} {kk : Nat} {tpos : Pos} (hm : X.mg "zip" = none) (ha : PD X W e f) (hb : PD X W e2 f2) (hd : PD X W e3 f3) (hg : Gl X "zip" := by rfl) (hs : starEach [e, e2, e3] X.env = (false, eval e X.env) :: starEach [e2, e3] X.env := by rfl) (hs2 : starEach [e2, e3] X.env = (false, eval e2 X.env) :: starEach [e3] X.env := by rfl)
    (hs3 : starEach [e3] X.env = (false, eval e3 X.env) :: starEach [] X.env := by rfl)
    (hpl : (backTo pos (starEach [e2, e3] X.env)).any (·.1) = false := by rfl) : PDj X W (.Tuple elts kk tpos) (.Call (.Name "zip" p) [e, e2, e3] [] pos) (iZip3 f f2 f3) := by
  refine ⟨(pi_zip3 hg hm (pa_cons ha.pe (pa_cons hb.pe (pa_cons hd.pe pa_nil hs3) hs2) hs) hs hpl).imp fun σ H Q h => ?_⟩
  obtain ⟨m, ρ, h, w, en, o⟩ := h
  refine ⟨m, ρ, h, w, en, o.bind.mono fun d h1 H1 m1 g1 w1 o1 v rv => ?_⟩
  refine ⟨m1, ρ, h1, w1, en.go g1 w, o1.bind.mono fun d2 h2 H2 m2 g2 w2 o2 v2 rv2 => ?_⟩
  refine ⟨m2, ρ, h2, w2, (en.go g1 w).go g2 w1, o2.bind.mono fun d3 h3 H3 m3 g3 w3 o3 v3 rv3 => ?_⟩
  split at o3
  · rename_i xs ys zs
    obtain ⟨a, vs, rfl, s, q⟩ := (rv.go g2 w1).go g3 w2
    obtain ⟨b, ws, rfl, s2, q2⟩ := rv2.go g3 w2
    obtain ⟨c, us, rfl, s3, q3⟩ := rv3
    exact ⟨a, b, c, vs, ws, us, rfl, s.1, s2.1, s3.1, o3.ret w3 _ (itok_zip3 w3 s.1 q s2.1 q2 s3.1 q3)⟩
  · exact o3.elim
end
end Dt

set_option Elab.async false
set_option autoImplicit false
set_option linter.all false
set_option maxRecDepth 100000
set_option maxHeartbeats 2000000
namespace Dt
open PySem PySem.Spec PyProof.Rows L2 RZ

/-! ### sorted(d), d a dict whose keys are tuples of ints -/
def ltI (a b : List Int) : Bool := lexLt itemOrd (a.map Sum.inl) (b.map Sum.inl)
def insI (x : List Int) : List (List Int) → List (List Int)
  | [] => [x]
  | y :: r => if ltI y x then y :: insI x r else x :: y :: r
def sortI : List (List Int) → List (List Int)
  | [] => []
  | x :: r => insI x (sortI r)
theorem insI_perm (x : List Int) : ∀ l, (insI x l).Perm (x :: l)
  | [] => .refl _
  | y :: r => by
    unfold insI
    split
    · exact ((insI_perm x r).cons y).trans (.swap x y r)
    · exact .refl _
theorem sortI_perm : ∀ l, (sortI l).Perm l
  | [] => .refl _
  | x :: r => (insI_perm x _).trans ((sortI_perm r).cons x)
theorem ltI_trans {a b c : List Int} (h1 : ltI a b = true) (h2 : ltI b c = true) : ltI a c = true := (listOrd itemOrd).trans _ _ _ h1 h2
theorem ltI_neg {a b c : List Int} (h : ltI a c = true) : ltI a b = true ∨ ltI b c = true := (listOrd itemOrd).negTrans _ _ _ h
theorem map_inl_inj : ∀ {a b : List Int}, a.map (Sum.inl (β := List Nat)) = b.map Sum.inl → a = b
  | [], [], _ => rfl
  | x :: r, y :: t, e => by
    rw [List.map_cons, List.map_cons] at e
    injection e with e1 e2
    rw [Sum.inl.inj e1, map_inl_inj e2]
theorem ltI_total {a b : List Int} (h1 : ltI a b = false) (h2 : ltI b a = false) : a = b := map_inl_inj ((listOrd itemOrd).total _ _ h1 h2)
theorem ltI_asymm {a b : List Int} (h : ltI a b = true) : ltI b a = false := by
  cases e : ltI b a with
  | false => rfl
  | true =>
    have : ltI a a = true := ltI_trans h e
    rw [show ltI a a = false from (listOrd itemOrd).irrefl _] at this
    cases this
theorem leI_trans {a b c : List Int} (h1 : ltI b a = false) (h2 : ltI c b = false) : ltI c a = false := by
  cases e : ltI c a with
  | false => rfl
  | true =>
    rcases ltI_neg (b := b) e with z | z
    · rw [h2] at z; cases z
    · rw [h1] at z; cases z
theorem insI_sorted (x : List Int) : ∀ l, l.Pairwise (fun a b => ltI b a = false) → (insI x l).Pairwise (fun a b => ltI b a = false)
  | [], _ => List.pairwise_singleton _ _
  | y :: r, h => by
    unfold insI
    rw [List.pairwise_cons] at h
    split
    · rename_i hl
      rw [List.pairwise_cons]
      refine ⟨fun z hz => ?_, insI_sorted x r h.2⟩
      rcases List.mem_cons.mp ((insI_perm x r).mem_iff.mp hz) with e | hz
      · rw [e]; exact ltI_asymm hl
      · exact h.1 z hz
    · rename_i hl
      have hl : ltI y x = false := by simpa using hl
      rw [List.pairwise_cons]
      refine ⟨fun z hz => ?_, by rw [List.pairwise_cons]; exact h⟩
      rcases List.mem_cons.mp hz with e | hz
      · rw [e]; exact hl
      · exact leI_trans hl (h.1 z hz)
theorem sortI_sorted : ∀ l, (sortI l).Pairwise (fun a b => ltI b a = false)
  | [] => List.Pairwise.nil
  | x :: r => insI_sorted x _ (sortI_sorted r)
theorem sortI_of {l m : List (List Int)} (p : m.Perm l) (s : m.Pairwise (fun a b => ltI b a = false)) : m = sortI l :=
  List.Perm.eq_of_pairwise (fun a b _ _ h1 h2 => ltI_total h2 h1) s (sortI_sorted l) (p.trans (sortI_perm l).symm)

/-! ### at the library's level -/
def adr : Value → Addr
  | .ref a => a
  | _ => 0
theorem tupKey_ints {h : Heap} {t : Addr} {o : Obj} {xs : Array Value} {n : Nat} {ns : List Int} (ho : h.get? t = some o) (hc : o.cls = .type "tuple") (hd : o.data = .seq xs n) (hi : IntsAre xs.toList ns) :
    G.tupKeyC h (fun _ => false) (.ref t) = some (ns.map Sum.inl) := by
  unfold G.tupKeyC
  have e1 : G.isTupObj h (.ref t) = true := by simp [G.isTupObj, ho, hc]
  rw [if_pos e1]
  simp only [tupKey, ho, hd]
  have go : ∀ (us : List Value) (ns : List Int) (i : Nat), IntsAre us ns → tupItems (fun _ => false) i us = some (ns.map Sum.inl) := by
    intro us
    induction us with
    | nil => intro ns i h; cases h; rfl
    | cons u us ih =>
      intro ns i h
      cases h with
      | cons k t h' =>
        show (if (false : Bool) = true then none else (tupItems (fun _ => false) (i + 1) us).map (Sum.inl k :: ·)) = _
        rw [if_neg Bool.false_ne_true, ih _ (i + 1) h']
        rfl
  exact go _ _ 0 hi
def rSortDT : List V → Hp → VK → Prop := fun xs H Q => ∃ (a : Addr) (kvs : List (List Key × V)) (is : List (List Int)), xs = [.ref a] ∧ Rd H a (.dT kvs) ∧ kvs.map (·.1) = is.map (·.map Sum.inl) ∧ (∀ k ∈ is, k ≠ []) ∧
  ∀ (cs : List Addr) (p : Addr), cs.length = (sortI is).length → (∀ (i : Nat) (c : Addr) (k : List Int), cs[i]? = some c → (sortI is)[i]? = some k → H c = some (.tup (k.map V.int))) → H p = none → Q (.ref p) (upd H p (.lst (cs.map V.ref)))
theorem kV_inl (k : List Int) : (k.map (Sum.inl (β := Str))).map kV = k.map V.int := by rw [List.map_map]; rfl
theorem intsAre_rel : ∀ {ns : List Int} {us : List Value}, Vals (ns.map V.int) us → IntsAre us ns
  | [], _, .nil => .nil
  | n :: ns, _, .cons r t => by
    obtain ⟨k, rfl⟩ := r
    exact .cons n k (intsAre_rel t)
theorem pgetD {α β : Type} {F : α → β → Prop} : ∀ {l₁ : List α} {l₂ : List β} {j : Nat} {x : β}, Paired F l₁ l₂ → l₂[j]? = some x → ∃ y, l₁[j]? = some y ∧ F y x
  | _, _, _, _, .nil, e => by simp at e
  | _, _, 0, _, .cons h _, e => by
    simp at e
    subst e
    exact ⟨_, rfl, h⟩
  | _, _, j + 1, _, .cons _ t, e => by
    obtain ⟨y, e1, e2⟩ := pgetD t (j := j) (by simpa using e)
    exact ⟨y, by simpa using e1, e2⟩
theorem call_sortDT {X : Cx} (hcalm : X.calm = true) : CallR X (.builtin "sorted") rSortDT := by
  intro pins s σ H xs us Q I r q
  obtain ⟨a, kvs, is, ex, hd, hks, hne, q⟩ := q
  subst ex
  obtain ⟨u, eu, rx⟩ := vals1 r
  subst eu
  cases rx
  obtain ⟨z, hs, ks, pr, o, es, ep, ho, hx, hdt, he, hn⟩ := (show ObjOk X.prog X.w H s.heap a (.dT kvs) from hd.ok I.hok)
  have l1 : es.size = ks.length := size_of_entries he
  have l2 : kvs.length = ks.length := Paired.length pr
  refine Calls.call_function_entry PyProof.Rows.kind_sorted PyProof.Rows.plain_sorted PyProof.Rows.entry_sorted (PyProof.Rows.args_sorted1 _) ?_
  unfold Builtin.«sorted»
  refine wpAny_bind (m := checkCount "sorted" 1 1 _) (wpAny_pure ?_)
  refine wpAny_bind (PySem.W.kdu_collect (A := X.A.in1) (kdl_raw hs hx hdt) (I.ok.hd hcalm) ho (by omega) fun h' tk acc' hk it => ?_)
  have ea : acc'.toList = ks.map fun x => Value.ref x.2.1 := by
    have hl : acc'.toList.length = ks.length := by rw [Array.length_toList, it.1]; exact l1
    apply List.ext_getElem?
    intro j
    rw [List.getElem?_map]
    cases hj : acc'.toList[j]? with
    | none =>
      have h1 := List.getElem?_eq_none_iff.mp hj
      rw [List.getElem?_eq_none (by omega)]
      all_goals rfl
    | some v =>
      obtain ⟨en, hen, hv⟩ := it.2 j v (by rw [← Array.getElem?_toList]; exact hj)
      have qe := entry_at he j
      rw [hen] at qe
      cases hb : ks[j]? with
      | none =>
        rw [hb] at qe
        exact nomatch (show some en = none from qe)
      | some b =>
        rw [hb] at qe
        have e2 : en = entryOfKey (tupleKind (mixKind X.prog X.w)) b := Option.some.inj qe
        rw [hv, e2]
        all_goals rfl
  rw [ea]
  generalize hvs : (ks.map fun x => Value.ref x.2.1) = vs
  have hvl : vs.length = kvs.length := by rw [← hvs, List.length_map, l2]
  have I1 : Inv X pins σ H { s with heap := h', toks := tk } := I.kept hk
  have hz : vs.length ≤ sizeLine := by rw [hvl]; exact z
  -- every key is a tuple of ints
  have key : ∀ (j : Nat) (v : Value), vs[j]? = some v → ∃ (c : Addr) (k : List Int), v = .ref c ∧ is[j]? = some k ∧ H c = some (.tup (k.map V.int)) := by
    intro j v hj
    rw [← hvs, List.getElem?_map] at hj
    cases hb : ks[j]? with
    | none => rw [hb] at hj; cases hj
    | some b =>
      rw [hb] at hj
      cases hj
      obtain ⟨kv, hkv, r1, r2, _⟩ := pgetD pr hb
      have e3 : (kvs.map (·.1))[j]? = some kv.1 := by rw [List.getElem?_map, hkv]; rfl
      rw [hks, List.getElem?_map] at e3
      cases hi : is[j]? with
      | none => rw [hi] at e3; cases e3
      | some k =>
        rw [hi] at e3
        have e4 : k.map Sum.inl = kv.1 := Option.some.inj e3
        refine ⟨b.2.1, k, rfl, rfl, ?_⟩
        rw [r2, ← e4, kV_inl]
  have tupAt : ∀ (c : Addr) (k : List Int), H c = some (.tup (k.map V.int)) → ∃ (o : Obj) (xs : Array Value) (n : Nat), h'.get? c = some o ∧ o.cls = .type "tuple" ∧ o.data = .seq xs n ∧ IntsAre xs.toList k := fun c k hc => by
    obtain ⟨_, its, rv, ob, e, hcl, n, hdd⟩ := (show ObjOk X.prog X.w H h' c (.tup (k.map V.int)) from I1.hok c _ hc)
    exact ⟨ob, its.toArray, n, e, hcl, hdd, by simpa using intsAre_rel rv⟩
  refine wpAny_bind (wpAny_newList ?_ hz)
  have hoL : (h'.push (seqObj "list" vs.toArray 0)).get? h'.objs.size = some (seqObj "list" vs.toArray 0) := Heap.get?_push_size _ rfl
  show wpAny _ _ _ _ _ { s with heap := h'.push (seqObj "list" vs.toArray 0), toks := tk }
  have kp2 : ∀ b ob, h'.get? b = some ob → (h'.push (seqObj "list" vs.toArray 0)).get? b = some ob := fun b ob e => Heap.get?_push_of_some _ e
  have keyAt : ∀ (c : Addr) (k : List Int), H c = some (.tup (k.map V.int)) → G.tupKeyC (h'.push (seqObj "list" vs.toArray 0)) (fun _ => false) (.ref c) = some (k.map Sum.inl) := fun c k hc => by
    obtain ⟨ob, xs, n, e, hcl, hdd, hi⟩ := tupAt c k hc
    exact tupKey_ints (kp2 _ _ e) hcl hdd hi
  have inVs : ∀ v ∈ vs, ∃ (c : Addr) (k : List Int), v = .ref c ∧ k ∈ is ∧ H c = some (.tup (k.map V.int)) := fun v hv => by
    obtain ⟨j, hj⟩ := List.mem_iff_getElem?.mp hv
    obtain ⟨c, k, e, hi, hc⟩ := key j v hj
    exact ⟨c, k, e, List.mem_of_getElem? hi, hc⟩
  have firsts : ∀ l : List Value, (∀ v ∈ l, v ∈ vs) → ∃ fs, TupsOf (h'.push (seqObj "list" vs.toArray 0)) (fun _ => false) l fs := by
    intro l
    induction l with
    | nil => intro _; exact ⟨[], .nil⟩
    | cons v l ih =>
      intro hl
      obtain ⟨fs, hfs⟩ := ih fun w hw => hl w (List.mem_cons_of_mem _ hw)
      obtain ⟨c, k, rfl, hki, hc⟩ := inVs v (hl v List.mem_cons_self)
      obtain ⟨ob, xs, n, e, hcl, hdd, hi⟩ := tupAt c k hc
      cases hk0 : xs.toList with
      | nil =>
        rw [hk0] at hi
        cases hi
        exact absurd rfl (hne [] hki)
      | cons f r =>
        rw [hk0] at hi
        cases hi with
        | cons n0 t h0 =>
          refine ⟨_ :: fs, .cons ⟨c, ob, xs, n, rfl, kp2 _ _ e, hcl, hdd, ?_, fun _ => ⟨n0, t, rfl⟩, fun z => by cases z⟩ hfs⟩
          rw [← Array.getElem?_toList, hk0]
          rfl
  obtain ⟨fs, hfs⟩ := firsts vs fun v hv => hv
  refine wpAny_bind (wpAny_holding (wpAny_call_entry PyProof.Rows.slot_list_sort ⟨_, hoL, rfl⟩ PyProof.Rows.entry_list_sort
    (G.list_sort_tups (s := { s with heap := h'.push (seqObj "list" vs.toArray 0), toks := tk }) (shape := fun _ => false) hoL hfs (fun v hv => ?_) hz fun st' g1 g2 _ => ⟨_, rfl, ?_⟩) (PyProof.Rows.args_list_sort _)))
  · obtain ⟨c, k, rfl, _, hc⟩ := inVs v hv
    exact ⟨_, keyAt c k hc⟩
  · generalize harr : arrOf st' = arr at g1 g2 ⊢
    have gp : arr.toList.Perm (vs.zip vs) := by
      have e := Array.perm_iff_toList_perm.mp g1
      rw [pairsOf_toList] at e
      exact e
    obtain ⟨e', he'⟩ := PyProof.Rows.sortedHeap_at (vs := vs) (out := arr.map (·.2)) hoL
    have op : (arr.toList.map (·.2)).Perm vs := by
      have z := gp.map Prod.snd
      rw [List.map_snd_zip (Nat.le_refl _)] at z
      exact z
    have same : ∀ p ∈ arr.toList, p.1 = p.2 := fun p hp => (mem_zip_self (gp.mem_iff.mp hp)).1
    -- the addresses in order
    have orf : ∀ u ∈ arr.toList.map (·.2), u = Value.ref (adr u) := fun u hu => by
      obtain ⟨c, k, rfl, _, _⟩ := inVs u (op.mem_iff.mp hu)
      rfl
    have out : arr.toList.map (·.2) = ((arr.toList.map (·.2)).map adr).map Value.ref := by
      rw [List.map_map]
      refine (List.map_id _).symm.trans (List.map_congr_left fun u hu => orf u hu)
    -- the keys in order
    let κ : Value → List Int := fun u => match H (adr u) with
      | some (.tup ys) => ys.map fun y => match y with | .int i => i | _ => 0
      | _ => []
    have κat : ∀ (c : Addr) (k : List Int), H c = some (.tup (k.map V.int)) → κ (.ref c) = k := fun c k hc => by
      show (match H c with | some (.tup ys) => ys.map fun y => (match y with | .int i => i | _ => 0) | _ => []) = k
      rw [hc]
      show (k.map V.int).map _ = k
      rw [List.map_map]
      exact (List.map_congr_left (fun _ _ => rfl)).trans (List.map_id k)
    have κvs : vs.map κ = is := by
      have hlen : vs.length = is.length := by
        rw [hvl]
        have := congrArg List.length hks
        simpa using this
      apply List.ext_getElem?
      intro j
      rw [List.getElem?_map]
      cases hj : vs[j]? with
      | none =>
        have h1 := List.getElem?_eq_none_iff.mp hj
        rw [List.getElem?_eq_none (by omega)]
        rfl
      | some v =>
        obtain ⟨c, k, rfl, hi, hc⟩ := key j v hj
        rw [hi]
        show some (κ (.ref c)) = some k
        rw [κat c k hc]
    have srt : (arr.toList.map (·.2)).map κ = sortI is := by
      refine sortI_of ?_ ?_
      · rw [← κvs]
        exact op.map κ
      · rw [List.map_map, List.pairwise_map, List.pairwise_iff_getElem]
        intro i j hi hj hij
        have hsz : (pairsOf vs).size = arr.size := by
          rw [pairsOf_size, ← Array.length_toList, gp.length_eq]
          simp
        have q2 := g2 i j (Nat.le_of_lt hij) (by rw [hsz, ← Array.length_toList]; exact hj)
        have kk : ∀ (i : Nat) (hi : i < arr.toList.length), KK (G.tupKindC (h'.push (seqObj "list" vs.toArray 0)) fun _ => false) arr i = (κ (arr.toList[i]).2).map Sum.inl := fun i hi => by
          have hm : arr.toList[i] ∈ arr.toList := List.getElem_mem hi
          have hm2 : (arr.toList[i]).2 ∈ vs := op.mem_iff.mp (List.mem_map_of_mem hm)
          obtain ⟨c, k, ec, _, hc⟩ := inVs _ hm2
          have e0 : arr[i]? = some arr.toList[i] := by rw [← Array.getElem?_toList]; exact List.getElem?_eq_getElem hi
          unfold KK
          rw [e0]
          show (G.tupKeyC _ _ (arr.toList[i]).1).getD [] = _
          rw [same _ hm, ec, keyAt c k hc, κat c k hc]
          rfl
        have q3 : lexLt itemOrd (KK (G.tupKindC (h'.push (seqObj "list" vs.toArray 0)) fun _ => false) arr j) (KK (G.tupKindC (h'.push (seqObj "list" vs.toArray 0)) fun _ => false) arr i) = false := q2
        rw [kk i hi, kk j hj] at q3
        exact q3
    have hcl : ((arr.toList.map (·.2)).map adr).length = (sortI is).length := by rw [← srt]; simp
    have hlen : (((arr.toList.map (·.2)).map adr).map V.ref).length ≤ sizeLine := by
      rw [List.length_map, List.length_map, op.length_eq]
      exact hz
    refine wpAny_pure ⟨_, rfl, .ref h'.objs.size, upd H h'.objs.size (.lst (((arr.toList.map (·.2)).map adr).map V.ref)), I1.laid (t' := tk) (fun b u e => ?_) (Nat.le_refl _)
      (show ObjOk X.prog X.w _ _ _ (.lst (((arr.toList.map (·.2)).map adr).map V.ref)) from ⟨hlen, arr.toList.map (·.2), e', ?_, ?_⟩), rfl, q _ _ hcl (fun i c k hc hk => ?_) (I1.hok.fresh (Nat.le_refl _))⟩
    · have hb : b < h'.objs.size := Heap.lt_size e
      rw [PyProof.Rows.sortedHeap_old (Nat.ne_of_lt hb) (by rw [size_push']; exact Nat.lt_succ_of_lt hb)]
      exact Heap.get?_push_of_some _ e
    · have vr : ∀ bs : List Addr, Vals (bs.map V.ref) (bs.map Value.ref) := vals_refs
      have := vr ((arr.toList.map (·.2)).map adr)
      rw [← out] at this
      exact this
    · have e5 : (arr.map (·.2)) = (arr.toList.map (·.2)).toArray := by
        apply Array.ext'
        simp
      rw [← e5]
      exact he'
    · rw [← srt, List.getElem?_map] at hk
      rw [List.getElem?_map] at hc
      cases hu : (arr.toList.map (·.2))[i]? with
      | none => rw [hu] at hc; cases hc
      | some u =>
        rw [hu] at hc hk
        have ec : adr u = c := Option.some.inj hc
        have ek : κ u = k := Option.some.inj hk
        obtain ⟨c', k', rfl, _, hc'⟩ := inVs u (op.mem_iff.mp (List.mem_of_getElem? hu))
        rw [κat c' k' hc'] at ek
        subst ek
        have ec' : c' = c := ec
        subst ec'
        exact hc'
/-! ### on data -/
def intKey : List Key → Option (List Int)
  | [] => some []
  | .inl i :: r => (intKey r).map (i :: ·)
  | .inr _ :: _ => none
theorem intKey_ok : ∀ {k : List Key} {l : List Int}, intKey k = some l → k = l.map Sum.inl
  | [], l, e => by cases e; rfl
  | .inl i :: r, l, e => by
    have e1 : (intKey r).map (i :: ·) = some l := e
    cases e2 : intKey r with
    | none => rw [e2] at e1; cases e1
    | some l' =>
      rw [e2] at e1
      cases e1
      rw [intKey_ok e2]
      rfl
  | .inr _ :: _, l, e => by cases e
def intKeys : List (List Key × D) → Option (List (List Int))
  | [] => some []
  | kv :: r => match intKey kv.1, intKeys r with
    | some (i :: k), some l => some ((i :: k) :: l)
    | _, _ => none
theorem intKeys_ok : ∀ {kvs : List (List Key × D)} {is : List (List Int)}, intKeys kvs = some is → kvs.map (·.1) = is.map (·.map Sum.inl) ∧ ∀ k ∈ is, k ≠ []
  | [], is, e => by cases e; exact ⟨rfl, fun k h => by cases h⟩
  | kv :: r, is, e => by
    unfold intKeys at e
    split at e
    · rename_i i k l e1 e2
      cases e
      obtain ⟨h1, h2⟩ := intKeys_ok e2
      refine ⟨by rw [List.map_cons, List.map_cons, h1, intKey_ok e1], fun k' hk => ?_⟩
      rcases List.mem_cons.mp hk with z | z
      · rw [z]; exact fun w => nomatch w
      · exact h2 k' z
    · cases e
def lSortD (f : DE) : DA := fun ρ h => bindR (f ρ h) fun o h1 => match o with
  | .ref k => (match h1[k]? with
    | some (.dT kvs) => (match intKeys kvs with
      | some is => ret ((sortI is).map fun l => D.tup (l.map D.int)) h1
      | none => none)
    | _ => none)
  | _ => none
theorem repKeys {K : PySem.W.Frag} {H : Hp} {m : List Addr} : ∀ {ls : List (List Int)} {cs : List Addr}, cs.length = ls.length → (∀ (i : Nat) (c : Addr) (k : List Int), cs[i]? = some c → ls[i]? = some k → H c = some (.tup (k.map V.int))) →
    RepL K H m (ls.map fun l => D.tup (l.map D.int)) (cs.map V.ref)
  | [], [], _, _ => rfl
  | [], _ :: _, h, _ => by simp at h
  | _ :: _, [], h, _ => by simp at h
  | l :: ls, c :: cs, h, f => by
    have hc := f 0 c l rfl rfl
    exact ⟨V.ref c, cs.map V.ref, rfl, ⟨c, l.map V.int, rfl, SqX.of hc, RepL.ints l⟩, repKeys (by simpa using h) fun i c' k' h1 h2 => f (i + 1) c' k' (by simpa using h1) (by simpa using h2)⟩
section
variable {X : Cx} {W : WX} {e : Expr} {f : DE} {pos p : Pos}
theorem pdl_sortD (hcalm : X.calm = true) (hm : X.mg "sorted" = none) (ha : PD X W e f) (hg : Gl X "sorted" := by rfl)
    (he : starEach [e] X.env = (false, eval e X.env) :: starEach [] X.env := by rfl) (hpl : (backTo pos (starEach [] X.env)).any (·.1) = false := by rfl) : PDl X W (.Call (.Name "sorted" p) [e] [] pos) (lSortD f) := by
  refine ⟨(pe_callB (call_sortDT hcalm) hg hm (by decide +kernel) (pa_cons ha.pe pa_nil he) (by decide) (by decide) he hpl).imp fun σ H Q h => ?_⟩
  obtain ⟨m, ρ, h, w, en, o⟩ := h
  refine ⟨m, ρ, h, w, en, o.bind.mono fun d h1 H1 m1 g1 w1 o1 v rv => ?_⟩
  split at o1
  · rename_i k
    split at o1
    · rename_i kvs e1
      split at o1
      · rename_i is e2
        obtain ⟨a, rfl, ha⟩ := rv
        obtain ⟨lv, z, rl⟩ := w1.at_ k a _ ha e1
        obtain ⟨h1', h2'⟩ := intKeys_ok e2
        refine ⟨a, lv, is, rfl, .inl z, ?_, h2', fun cs p hl hc hp => ?_⟩
        · rw [kv_len.kv_fst' rl]; exact h1'
        · exact lay_l g1 w1 (repKeys hl hc) hp o1
      · exact o1.elim
    · exact o1.elim
  · exact o1.elim
end
end Dt

set_option Elab.async false
set_option autoImplicit false
set_option linter.all false
set_option maxRecDepth 100000
set_option maxHeartbeats 4000000
namespace Wk
open PySem PySem.Spec PyProof.Rows L2 RZ Dt
def k_FIRST_PRIME : D := .int 2
def k_NIL : D := .tup [.int 0, .int 1]
def k_ONE : D := .tup [.int 1, .int 1]
def k_PAIR_numbers : D := .int 2
def k_LETTERS : D := .int 3
def k_TWO : D := .int 2
def k_PAIR_maps : D := .int 2
def k_STILL : D := .tup [k_ONE, k_NIL]
def k_THREE_maps : D := .int 3
def k_PAIR_restmaps : D := .int 2
def k_THREE_restmaps : D := .int 3
def k_HOME : D := .tup [.int 0, .int 0]
structure Blt (mg : Str → Option Value) : Prop where
  abs : mg "abs" = none
  all : mg "all" = none
  any : mg "any" = none
  bool : mg "bool" = none
  dict : mg "dict" = none
  enumerate : mg "enumerate" = none
  int : mg "int" = none
  isinstance : mg "isinstance" = none
  len : mg "len" = none
  list : mg "list" = none
  max : mg "max" = none
  min : mg "min" = none
  range : mg "range" = none
  set : mg "set" = none
  sorted : mg "sorted" = none
  str : mg "str" = none
  sum : mg "sum" = none
  tuple : mg "tuple" = none
  zip : mg "zip" = none
structure Facts (K : PySem.W.Frag) (mg : Str → Option Value) : Prop where
  B : Blt mg
  k_FIRST_PRIME : ConD K mg "FIRST_PRIME" k_FIRST_PRIME
  k_NIL : ConD K mg "NIL" k_NIL
  k_ONE : ConD K mg "ONE" k_ONE
  k_PAIR_numbers : ConD K mg "PAIR_numbers" k_PAIR_numbers
  k_LETTERS : ConD K mg "LETTERS" k_LETTERS
  k_TWO : ConD K mg "TWO" k_TWO
  k_PAIR_maps : ConD K mg "PAIR_maps" k_PAIR_maps
  k_STILL : ConD K mg "STILL" k_STILL
  k_THREE_maps : ConD K mg "THREE_maps" k_THREE_maps
  k_PAIR_restmaps : ConD K mg "PAIR_restmaps" k_PAIR_restmaps
  k_THREE_restmaps : ConD K mg "THREE_restmaps" k_THREE_restmaps
  k_HOME : ConD K mg "HOME" k_HOME
  x_NoPaper : ExD K mg "NoPaper"
  d_p_tupled : DefD K mg "tupled" (defArgs (top 5)) (defBody (top 5)) (defScope (top 5))
  d_p_is_number : DefD K mg "is_number" (defArgs (top 6)) (defBody (top 6)) (defScope (top 6))
  d_p_is_count : DefD K mg "is_count" (defArgs (top 7)) (defBody (top 7)) (defScope (top 7))
  d_p_is_below : DefD K mg "is_below" (defArgs (top 8)) (defBody (top 8)) (defScope (top 8))
  d_p_is_tuple_of : DefD K mg "is_tuple_of" (defArgs (top 9)) (defBody (top 9)) (defScope (top 9))
  d_p_are_numbers : DefD K mg "are_numbers" (defArgs (top 10)) (defBody (top 10)) (defScope (top 10))
  d_p_told : DefD K mg "told" (defArgs (top 11)) (defBody (top 11)) (defScope (top 11))
  d_p_sure_number : DefD K mg "sure_number" (defArgs (top 12)) (defBody (top 12)) (defScope (top 12))
  d_p_shared : DefD K mg "shared" (defArgs (top 18)) (defBody (top 18)) (defScope (top 18))
  d_p_made : DefD K mg "made" (defArgs (top 19)) (defBody (top 19)) (defScope (top 19))
  d_p_is_fraction : DefD K mg "is_fraction" (defArgs (top 20)) (defBody (top 20)) (defScope (top 20))
  d_p_sure_fraction : DefD K mg "sure_fraction" (defArgs (top 21)) (defBody (top 21)) (defScope (top 21))
  d_p_sure_not_nil : DefD K mg "sure_not_nil" (defArgs (top 22)) (defBody (top 22)) (defScope (top 22))
  d_p_fraction : DefD K mg "fraction" (defArgs (top 23)) (defBody (top 23)) (defScope (top 23))
  d_p_add : DefD K mg "add" (defArgs (top 24)) (defBody (top 24)) (defScope (top 24))
  d_p_take : DefD K mg "take" (defArgs (top 25)) (defBody (top 25)) (defScope (top 25))
  d_p_multiply : DefD K mg "multiply" (defArgs (top 26)) (defBody (top 26)) (defScope (top 26))
  d_p_divide : DefD K mg "divide" (defArgs (top 27)) (defBody (top 27)) (defScope (top 27))
  d_p_opposite : DefD K mg "opposite" (defArgs (top 28)) (defBody (top 28)) (defScope (top 28))
  d_p_plus : DefD K mg "plus" (defArgs (top 29)) (defBody (top 29)) (defScope (top 29))
  d_p_less : DefD K mg "less" (defArgs (top 30)) (defBody (top 30)) (defScope (top 30))
  d_p_times : DefD K mg "times" (defArgs (top 31)) (defBody (top 31)) (defScope (top 31))
  d_p_over : DefD K mg "over" (defArgs (top 32)) (defBody (top 32)) (defScope (top 32))
  d_p_prime_so : DefD K mg "prime_so" (defArgs (top 33)) (defBody (top 33)) (defScope (top 33))
  d_p_is_prime : DefD K mg "is_prime" (defArgs (top 34)) (defBody (top 34)) (defScope (top 34))
  d_p_sure_prime : DefD K mg "sure_prime" (defArgs (top 35)) (defBody (top 35)) (defScope (top 35))
  d_p_inverse_rest : DefD K mg "inverse_rest" (defArgs (top 36)) (defBody (top 36)) (defScope (top 36))
  d_p_rest_over : DefD K mg "rest_over" (defArgs (top 37)) (defBody (top 37)) (defScope (top 37))
  d_p_rest_of : DefD K mg "rest_of" (defArgs (top 38)) (defBody (top 38)) (defScope (top 38))
  d_p_is_word : DefD K mg "is_word" (defArgs (top 42)) (defBody (top 42)) (defScope (top 42))
  d_p_sure_word : DefD K mg "sure_word" (defArgs (top 43)) (defBody (top 43)) (defScope (top 43))
  d_p_is_two : DefD K mg "is_two" (defArgs (top 44)) (defBody (top 44)) (defScope (top 44))
  d_p_sure_two : DefD K mg "sure_two" (defArgs (top 45)) (defBody (top 45)) (defScope (top 45))
  d_p_is_map : DefD K mg "is_map" (defArgs (top 50)) (defBody (top 50)) (defScope (top 50))
  d_p_sure_map : DefD K mg "sure_map" (defArgs (top 51)) (defBody (top 51)) (defScope (top 51))
  d_p_are_maps : DefD K mg "are_maps" (defArgs (top 52)) (defBody (top 52)) (defScope (top 52))
  d_p_sure_maps : DefD K mg "sure_maps" (defArgs (top 53)) (defBody (top 53)) (defScope (top 53))
  d_p_behind : DefD K mg "behind" (defArgs (top 54)) (defBody (top 54)) (defScope (top 54))
  d_p_undone_map : DefD K mg "undone_map" (defArgs (top 55)) (defBody (top 55)) (defScope (top 55))
  d_p_led_by : DefD K mg "led_by" (defArgs (top 56)) (defBody (top 56)) (defScope (top 56))
  d_p_of_word : DefD K mg "of_word" (defArgs (top 57)) (defBody (top 57)) (defScope (top 57))
  d_p_told_letters : DefD K mg "told_letters" (defArgs (top 58)) (defBody (top 58)) (defScope (top 58))
  d_p_map_row : DefD K mg "map_row" (defArgs (top 59)) (defBody (top 59)) (defScope (top 59))
  d_p_map_back : DefD K mg "map_back" (defArgs (top 60)) (defBody (top 60)) (defScope (top 60))
  d_p_often_done : DefD K mg "often_done" (defArgs (top 61)) (defBody (top 61)) (defScope (top 61))
  d_p_map_often : DefD K mg "map_often" (defArgs (top 62)) (defBody (top 62)) (defScope (top 62))
  d_p_led : DefD K mg "led" (defArgs (top 63)) (defBody (top 63)) (defScope (top 63))
  d_p_kept_place : DefD K mg "kept_place" (defArgs (top 64)) (defBody (top 64)) (defScope (top 64))
  d_p_kept_point : DefD K mg "kept_point" (defArgs (top 65)) (defBody (top 65)) (defScope (top 65))
  d_p_word_map : DefD K mg "word_map" (defArgs (top 66)) (defBody (top 66)) (defScope (top 66))
  d_p_map_between : DefD K mg "map_between" (defArgs (top 67)) (defBody (top 67)) (defScope (top 67))
  d_p_turned_map : DefD K mg "turned_map" (defArgs (top 68)) (defBody (top 68)) (defScope (top 68))
  d_p_maps_turned : DefD K mg "maps_turned" (defArgs (top 69)) (defBody (top 69)) (defScope (top 69))
  d_p_fits_rest : DefD K mg "fits_rest" (defArgs (top 73)) (defBody (top 73)) (defScope (top 73))
  d_p_is_rest_map : DefD K mg "is_rest_map" (defArgs (top 74)) (defBody (top 74)) (defScope (top 74))
  d_p_sure_rest_map : DefD K mg "sure_rest_map" (defArgs (top 75)) (defBody (top 75)) (defScope (top 75))
  d_p_sure_rest_maps : DefD K mg "sure_rest_maps" (defArgs (top 76)) (defBody (top 76)) (defScope (top 76))
  d_p_sure_rest : DefD K mg "sure_rest" (defArgs (top 77)) (defBody (top 77)) (defScope (top 77))
  d_p_rest_behind : DefD K mg "rest_behind" (defArgs (top 78)) (defBody (top 78)) (defScope (top 78))
  d_p_rest_undone : DefD K mg "rest_undone" (defArgs (top 79)) (defBody (top 79)) (defScope (top 79))
  d_p_rest_row_in : DefD K mg "rest_row_in" (defArgs (top 80)) (defBody (top 80)) (defScope (top 80))
  d_p_rest_row : DefD K mg "rest_row" (defArgs (top 81)) (defBody (top 81)) (defScope (top 81))
  d_p_rest_back : DefD K mg "rest_back" (defArgs (top 82)) (defBody (top 82)) (defScope (top 82))
  d_p_rest_often_in : DefD K mg "rest_often_in" (defArgs (top 83)) (defBody (top 83)) (defScope (top 83))
  d_p_rest_often : DefD K mg "rest_often" (defArgs (top 84)) (defBody (top 84)) (defScope (top 84))
  d_p_rest_led : DefD K mg "rest_led" (defArgs (top 85)) (defBody (top 85)) (defScope (top 85))
  d_p_rest_word_in : DefD K mg "rest_word_in" (defArgs (top 86)) (defBody (top 86)) (defScope (top 86))
  d_p_rest_word : DefD K mg "rest_word" (defArgs (top 87)) (defBody (top 87)) (defScope (top 87))
  d_p_home_in : DefD K mg "home_in" (defArgs (top 88)) (defBody (top 88)) (defScope (top 88))
  d_p_rest_times_home : DefD K mg "rest_times_home" (defArgs (top 89)) (defBody (top 89)) (defScope (top 89))
  d_p_rest_kept : DefD K mg "rest_kept" (defArgs (top 90)) (defBody (top 90)) (defScope (top 90))
  d_p_rests_of : DefD K mg "rests_of" (defArgs (top 91)) (defBody (top 91)) (defScope (top 91))
  d_p_rest_map_between : DefD K mg "rest_map_between" (defArgs (top 92)) (defBody (top 92)) (defScope (top 92))
  d_p_rest_maps_turned : DefD K mg "rest_maps_turned" (defArgs (top 93)) (defBody (top 93)) (defScope (top 93))
  d_p_do_rest_maps_exchange : DefD K mg "do_rest_maps_exchange" (defArgs (top 94)) (defBody (top 94)) (defScope (top 94))
  d_p_are_lot : DefD K mg "are_lot" (defArgs (top 96)) (defBody (top 96)) (defScope (top 96))
  d_p_sure_lot : DefD K mg "sure_lot" (defArgs (top 97)) (defBody (top 97)) (defScope (top 97))
  d_p_maps_gap_in : DefD K mg "maps_gap_in" (defArgs (top 98)) (defBody (top 98)) (defScope (top 98))
  d_p_maps_gap : DefD K mg "maps_gap" (defArgs (top 99)) (defBody (top 99)) (defScope (top 99))
  d_p_turned_in : DefD K mg "turned_in" (defArgs (top 100)) (defBody (top 100)) (defScope (top 100))
  d_p_lot_turned : DefD K mg "lot_turned" (defArgs (top 101)) (defBody (top 101)) (defScope (top 101))
  d_p_step_from : DefD K mg "step_from" (defArgs (top 104)) (defBody (top 104)) (defScope (top 104))
  d_p_walk_in : DefD K mg "walk_in" (defArgs (top 105)) (defBody (top 105)) (defScope (top 105))
  d_p_flow_in : DefD K mg "flow_in" (defArgs (top 106)) (defBody (top 106)) (defScope (top 106))
  d_p_flow_folded : DefD K mg "flow_folded" (defArgs (top 108)) (defBody (top 108)) (defScope (top 108))
  d_p_alike_by_rests : DefD K mg "alike_by_rests" (defArgs (top 109)) (defBody (top 109)) (defScope (top 109))
  d_law_box : DefD K mg "_law_box" (defArgs (top 111)) (defBody (top 111)) (defScope (top 111))
  d_law_take : DefD K mg "_law_take" (defArgs (top 112)) (defBody (top 112)) (defScope (top 112))
  d_law_cells : DefD K mg "_law_cells" (defArgs (top 113)) (defBody (top 113)) (defScope (top 113))
  d_law_of : DefD K mg "_law_of" (defArgs (top 114)) (defBody (top 114)) (defScope (top 114))
  d_law_same : DefD K mg "_law_same" (defArgs (top 115)) (defBody (top 115)) (defScope (top 115))
  d_law_gcd : DefD K mg "_law_gcd" (defArgs (top 116)) (defBody (top 116)) (defScope (top 116))
  d_law_fr : DefD K mg "_law_fr" (defArgs (top 117)) (defBody (top 117)) (defScope (top 117))
  d_law_map : DefD K mg "_law_map" (defArgs (top 118)) (defBody (top 118)) (defScope (top 118))
  d_law_maps : DefD K mg "_law_maps" (defArgs (top 119)) (defBody (top 119)) (defScope (top 119))
  d_law_letter : DefD K mg "_law_letter" (defArgs (top 120)) (defBody (top 120)) (defScope (top 120))
  d_law_word : DefD K mg "_law_word" (defArgs (top 121)) (defBody (top 121)) (defScope (top 121))
  d_law_rest_back : DefD K mg "_law_rest_back" (defArgs (top 122)) (defBody (top 122)) (defScope (top 122))
  d_law_rest_two : DefD K mg "_law_rest_two" (defArgs (top 123)) (defBody (top 123)) (defScope (top 123))
  d_law_rest_undo : DefD K mg "_law_rest_undo" (defArgs (top 124)) (defBody (top 124)) (defScope (top 124))
  d_law_rest_led : DefD K mg "_law_rest_led" (defArgs (top 125)) (defBody (top 125)) (defScope (top 125))
  d_law_rest : DefD K mg "_law_rest" (defArgs (top 126)) (defBody (top 126)) (defScope (top 126))
  d_law_rests : DefD K mg "_law_rests" (defArgs (top 127)) (defBody (top 127)) (defScope (top 127))
  d_law_heard : DefD K mg "_law_heard" (defArgs (top 128)) (defBody (top 128)) (defScope (top 128))
  d_law_numbers_right : DefD K mg "_law_numbers_right" (defArgs (top 129)) (defBody (top 129)) (defScope (top 129))
  d_law_maps_right : DefD K mg "_law_maps_right" (defArgs (top 130)) (defBody (top 130)) (defScope (top 130))
  d_law_between_right : DefD K mg "_law_between_right" (defArgs (top 131)) (defBody (top 131)) (defScope (top 131))
  d_law_turned_right : DefD K mg "_law_turned_right" (defArgs (top 132)) (defBody (top 132)) (defScope (top 132))
  d_p_law : DefD K mg "law" (defArgs (top 133)) (defBody (top 133)) (defScope (top 133))
section
variable {P : Program} {w : World} {K : PySem.W.Frag} {mg : Str → Option Value} {base : Heap}
noncomputable def b_p_tupled (φ : DF) : DS := (sRet (dIf (dTru (dIsi2 "list" "tuple" (dV 0))) (dL φTup (lLc (iSeq (dV 0)) (gN 1) bYes (dFn 1 φ (aCons (dV 1) aNil)) [1])) (dV 0)))
noncomputable def φ_p_tupled : Nat → DF
  | 0 => fun _ _ => none
  | k + 1 => runF 1 2 (b_p_tupled (φ_p_tupled k))
theorem c_p_tupled' (F : Facts K mg) : ∀ k, CalD P w K mg base (1 + k) "tupled" 1 (φ_p_tupled k)
  | 0 => calD_never _ F.d_p_tupled ["thing"] rfl (fun _ _ _ _ _ _ us hl => match us, hl with | [_], _ => rfl)
  | k + 1 => by
    have c := c_p_tupled' F k
    exact calD (k := 1 + k) (n := 1) ["thing", "part"] ["thing"] F.d_p_tupled (by rfl) rfl (fun _ _ _ _ _ _ us hl => match us, hl with | [_], _ => rfl) fun f cdv A outer s H E hr tk hp => by
      have hN : (["thing", "part"] : List Str).Nodup := by decide
      have hu64 : (A.deeper (envOfC "tupled" (defScope (top 5)) s.heap.objs.size f cdv)).units + 64 < cLine := by have := hr.un; omega
      have hu65 : (A.deeper (envOfC "tupled" (defScope (top 5)) s.heap.objs.size f cdv)).units + 65 < cLine := by have := hr.un; omega
      have hu1 : (A.deeper (envOfC "tupled" (defScope (top 5)) s.heap.objs.size f cdv)).units + 1 < cLine := by have := hr.un; omega
      exact (pdss_one (pds_ret (pd_if (pt_truD (pd_isi2 F.B.isinstance F.B.list (by decide +kernel) F.B.tuple (by decide +kernel) (by decide) (by decide) (pd_v 0))) (pd_LT call_tuple_of ld_tup F.B.tuple (by decide +kernel) (pdl_lc (own := [("part", 1)]) rfl hN (pdj_seq (pd_v 0)) (blkOk_by (by rfl)) (fun _ _ _ _ _ => (pdg_n (i := 1) hN)) (fun _ _ _ _ _ => pdts_nil) (fun _ _ _ _ _ => (pd_callC c (by omega) hr takesF (pda_cons (pd_v 1) pda_nil))) (sl_n (by decide)))) (pd_v 0))))
theorem c_p_tupled (F : Facts K mg) : CalD P w K mg base 9 "tupled" 1 (φ_p_tupled 8) := c_p_tupled' F 8
noncomputable def b_p_is_number : DS := (sRet (dAnd (dIsi "int" (dV 0)) (dNot (dIsi "bool" (dV 0)))))
noncomputable def φ_p_is_number : DF := runF 1 1 b_p_is_number
theorem c_p_is_number (F : Facts K mg) : CalD P w K mg base 1 "is_number" 1 φ_p_is_number := by
  exact calD (k := 0) (n := 1) ["thing"] ["thing"] F.d_p_is_number (by rfl) rfl (fun _ _ _ _ _ _ us hl => match us, hl with | [_], _ => rfl) fun f cdv A outer s H E hr tk hp => by
    have hN : (["thing"] : List Str).Nodup := by decide
    have hu64 : (A.deeper (envOfC "is_number" (defScope (top 6)) s.heap.objs.size f cdv)).units + 64 < cLine := by have := hr.un; omega
    have hu65 : (A.deeper (envOfC "is_number" (defScope (top 6)) s.heap.objs.size f cdv)).units + 65 < cLine := by have := hr.un; omega
    have hu1 : (A.deeper (envOfC "is_number" (defScope (top 6)) s.heap.objs.size f cdv)).units + 1 < cLine := by have := hr.un; omega
    exact (pdss_one (pds_ret (pd_andT (pd_isi F.B.isinstance F.B.int (by decide +kernel) (by decide) (pd_v 0)) (pd_one (pd_notT (pd_isi F.B.isinstance F.B.bool (by decide +kernel) (by decide) (pd_v 0)))))))
noncomputable def b_p_is_count : DS := (sRet (dAnd (dFn 1 φ_p_is_number (aCons (dV 0) aNil)) (dBin oGe (dV 0) (dC (.int 0)))))
noncomputable def φ_p_is_count : DF := runF 1 1 b_p_is_count
theorem c_p_is_count (F : Facts K mg) : CalD P w K mg base 2 "is_count" 1 φ_p_is_count := by
  exact calD (k := 1) (n := 1) ["thing"] ["thing"] F.d_p_is_count (by rfl) rfl (fun _ _ _ _ _ _ us hl => match us, hl with | [_], _ => rfl) fun f cdv A outer s H E hr tk hp => by
    have hN : (["thing"] : List Str).Nodup := by decide
    have hu64 : (A.deeper (envOfC "is_count" (defScope (top 7)) s.heap.objs.size f cdv)).units + 64 < cLine := by have := hr.un; omega
    have hu65 : (A.deeper (envOfC "is_count" (defScope (top 7)) s.heap.objs.size f cdv)).units + 65 < cLine := by have := hr.un; omega
    have hu1 : (A.deeper (envOfC "is_count" (defScope (top 7)) s.heap.objs.size f cdv)).units + 1 < cLine := by have := hr.un; omega
    exact (pdss_one (pds_ret (pd_andT (pd_callC (c_p_is_number F) (by omega) hr tk (pda_cons (pd_v 0) pda_nil)) (pd_one (pd_cmp op_ge od_ge (pd_v 0) pd_int)))))
noncomputable def b_p_is_below : DS := (sRet (dAnd (dFn 1 φ_p_is_count (aCons (dV 0) aNil)) (dBin oLt (dV 0) (dV 1))))
noncomputable def φ_p_is_below : DF := runF 2 2 b_p_is_below
theorem c_p_is_below (F : Facts K mg) : CalD P w K mg base 3 "is_below" 2 φ_p_is_below := by
  exact calD (k := 2) (n := 2) ["thing", "bound"] ["thing", "bound"] F.d_p_is_below (by rfl) rfl (fun _ _ _ _ _ _ us hl => match us, hl with | [_, _], _ => rfl) fun f cdv A outer s H E hr tk hp => by
    have hN : (["thing", "bound"] : List Str).Nodup := by decide
    have hu64 : (A.deeper (envOfC "is_below" (defScope (top 8)) s.heap.objs.size f cdv)).units + 64 < cLine := by have := hr.un; omega
    have hu65 : (A.deeper (envOfC "is_below" (defScope (top 8)) s.heap.objs.size f cdv)).units + 65 < cLine := by have := hr.un; omega
    have hu1 : (A.deeper (envOfC "is_below" (defScope (top 8)) s.heap.objs.size f cdv)).units + 1 < cLine := by have := hr.un; omega
    exact (pdss_one (pds_ret (pd_andT (pd_callC (c_p_is_count F) (by omega) hr tk (pda_cons (pd_v 0) pda_nil)) (pd_one (pd_cmp op_lt od_lt (pd_v 0) (pd_v 1))))))
noncomputable def b_p_is_tuple_of : DS := (sRet (dAnd (dIsi "tuple" (dV 0)) (dBin oEq (dCall fLen (aCons (dV 0) aNil)) (dV 1))))
noncomputable def φ_p_is_tuple_of : DF := runF 2 2 b_p_is_tuple_of
theorem c_p_is_tuple_of (F : Facts K mg) : CalD P w K mg base 1 "is_tuple_of" 2 φ_p_is_tuple_of := by
  exact calD (k := 0) (n := 2) ["thing", "size"] ["thing", "size"] F.d_p_is_tuple_of (by rfl) rfl (fun _ _ _ _ _ _ us hl => match us, hl with | [_, _], _ => rfl) fun f cdv A outer s H E hr tk hp => by
    have hN : (["thing", "size"] : List Str).Nodup := by decide
    have hu64 : (A.deeper (envOfC "is_tuple_of" (defScope (top 9)) s.heap.objs.size f cdv)).units + 64 < cLine := by have := hr.un; omega
    have hu65 : (A.deeper (envOfC "is_tuple_of" (defScope (top 9)) s.heap.objs.size f cdv)).units + 65 < cLine := by have := hr.un; omega
    have hu1 : (A.deeper (envOfC "is_tuple_of" (defScope (top 9)) s.heap.objs.size f cdv)).units + 1 < cLine := by have := hr.un; omega
    exact (pdss_one (pds_ret (pd_andT (pd_isi F.B.isinstance F.B.tuple (by decide +kernel) (by decide) (pd_v 0)) (pd_one (pd_cmp (op_eqD hu64) od_eq (pd_callB call_len_seq cd_len F.B.len (by decide +kernel) (pda_cons (pd_v 0) pda_nil)) (pd_v 1))))))
noncomputable def b_p_are_numbers : DS := (sRet (dAnd (dFn 2 φ_p_is_tuple_of (aCons (dV 0) (aCons (dV 1) aNil))) (dL φAll (lLc (iSeq (dV 0)) (gN 2) bYes (dFn 1 φ_p_is_number (aCons (dV 2) aNil)) [2]))))
noncomputable def φ_p_are_numbers : DF := runF 2 3 b_p_are_numbers
theorem c_p_are_numbers (F : Facts K mg) : CalD P w K mg base 2 "are_numbers" 2 φ_p_are_numbers := by
  exact calD (k := 1) (n := 2) ["thing", "size", "part"] ["thing", "size"] F.d_p_are_numbers (by rfl) rfl (fun _ _ _ _ _ _ us hl => match us, hl with | [_, _], _ => rfl) fun f cdv A outer s H E hr tk hp => by
    have hN : (["thing", "size", "part"] : List Str).Nodup := by decide
    have hu64 : (A.deeper (envOfC "are_numbers" (defScope (top 10)) s.heap.objs.size f cdv)).units + 64 < cLine := by have := hr.un; omega
    have hu65 : (A.deeper (envOfC "are_numbers" (defScope (top 10)) s.heap.objs.size f cdv)).units + 65 < cLine := by have := hr.un; omega
    have hu1 : (A.deeper (envOfC "are_numbers" (defScope (top 10)) s.heap.objs.size f cdv)).units + 1 < cLine := by have := hr.un; omega
    exact (pdss_one (pds_ret (pd_andT (pd_callC (c_p_is_tuple_of F) (by omega) hr tk (pda_cons (pd_v 0) (pda_cons (pd_v 1) pda_nil))) (pd_one (pd_LB (cr_all rfl) ld_all F.B.all (by decide +kernel) (pdl_lc (own := [("part", 2)]) rfl hN (pdj_seq (pd_v 0)) (blkOk_by (by rfl)) (fun _ _ _ _ _ => (pdg_n (i := 2) hN)) (fun _ _ _ _ _ => pdts_nil) (fun _ _ _ _ _ => (pd_callC (c_p_is_number F) (by omega) hr takesF (pda_cons (pd_v 2) pda_nil))) (sl_n (by decide))))))))
noncomputable def b_p_told : DS := (sRet (dL φTup (lLc (iNew (lSortD (dV 0))) (gN 1) (dTest (dBin oNe (dIxD (dV 0) (dV 1)) (dC (.int 0)))) (dTup (aCons (dV 1) (aCons (dIxD (dV 0) (dV 1)) aNil))) [1])))
noncomputable def φ_p_told : DF := runF 1 2 b_p_told
theorem c_p_told (F : Facts K mg) : CalD P w K mg base 1 "told" 1 φ_p_told := by
  exact calD (k := 0) (n := 1) ["table", "place"] ["table"] F.d_p_told (by rfl) rfl (fun _ _ _ _ _ _ us hl => match us, hl with | [_], _ => rfl) fun f cdv A outer s H E hr tk hp => by
    have hN : (["table", "place"] : List Str).Nodup := by decide
    have hu64 : (A.deeper (envOfC "told" (defScope (top 11)) s.heap.objs.size f cdv)).units + 64 < cLine := by have := hr.un; omega
    have hu65 : (A.deeper (envOfC "told" (defScope (top 11)) s.heap.objs.size f cdv)).units + 65 < cLine := by have := hr.un; omega
    have hu1 : (A.deeper (envOfC "told" (defScope (top 11)) s.heap.objs.size f cdv)).units + 1 < cLine := by have := hr.un; omega
    exact (pdss_one (pds_ret (pd_LT call_tuple_of ld_tup F.B.tuple (by decide +kernel) (pdl_lc (own := [("place", 1)]) rfl hN (pdj_new (pdl_sortD rfl F.B.sorted (pd_v 0))) (blkOk_by (by rfl)) (fun _ _ _ _ _ => (pdg_n (i := 1) hN)) (fun _ _ _ _ _ => (pdts_one (pt_cmpD (op_neD hu64) od_ne (pd_ixD hu1 (pd_v 0) (pd_v 1)) pd_int))) (fun _ _ _ _ _ => (pd_tup (pda_cons (pd_v 1) (pda_cons (pd_ixD hu1 (pd_v 0) (pd_v 1)) pda_nil)))) (sl_n (by decide))))))
noncomputable def b_p_sure_number : DS := (sSeq (sIf (bNot (dTru (dFn 1 φ_p_is_number (aCons (dV 0) aNil)))) sNever sNext)
  (sRet (dV 0)))
noncomputable def φ_p_sure_number : DF := runF 1 1 b_p_sure_number
theorem c_p_sure_number (F : Facts K mg) : CalD P w K mg base 2 "sure_number" 1 φ_p_sure_number := by
  exact calD (k := 1) (n := 1) ["number"] ["number"] F.d_p_sure_number (by rfl) rfl (fun _ _ _ _ _ _ us hl => match us, hl with | [_], _ => rfl) fun f cdv A outer s H E hr tk hp => by
    have hN : (["number"] : List Str).Nodup := by decide
    have hu64 : (A.deeper (envOfC "sure_number" (defScope (top 12)) s.heap.objs.size f cdv)).units + 64 < cLine := by have := hr.un; omega
    have hu65 : (A.deeper (envOfC "sure_number" (defScope (top 12)) s.heap.objs.size f cdv)).units + 65 < cLine := by have := hr.un; omega
    have hu1 : (A.deeper (envOfC "sure_number" (defScope (top 12)) s.heap.objs.size f cdv)).units + 1 < cLine := by have := hr.un; omega
    exact (pdss_cons (pds_if (pt_notD (pt_truD (pd_callC (c_p_is_number F) (by omega) hr tk (pda_cons (pd_v 0) pda_nil)))) (pdss_one pds_never) pdss_nil)
    (pdss_one (pds_ret (pd_v 0))))
noncomputable def b_p_shared : DS := (sSeq (sPar 2 3 (aCons (dCall fAbs (aCons (dV 0) aNil)) (aCons (dCall fAbs (aCons (dV 1) aNil)) aNil)))
  (sSeq (sWhile (dTest (dBin oGt (dV 3) (dC (.int 0)))) (sPar 2 3 (aCons (dV 3) (aCons (dBin oMod (dV 2) (dV 3)) aNil))))
  (sRet (dV 2))))
noncomputable def φ_p_shared : DF := runF 2 4 b_p_shared
theorem c_p_shared (F : Facts K mg) : CalD P w K mg base 1 "shared" 2 φ_p_shared := by
  exact calD (k := 0) (n := 2) ["one", "other", "near", "far"] ["one", "other"] F.d_p_shared (by rfl) rfl (fun _ _ _ _ _ _ us hl => match us, hl with | [_, _], _ => rfl) fun f cdv A outer s H E hr tk hp => by
    have hN : (["one", "other", "near", "far"] : List Str).Nodup := by decide
    have hu64 : (A.deeper (envOfC "shared" (defScope (top 18)) s.heap.objs.size f cdv)).units + 64 < cLine := by have := hr.un; omega
    have hu65 : (A.deeper (envOfC "shared" (defScope (top 18)) s.heap.objs.size f cdv)).units + 65 < cLine := by have := hr.un; omega
    have hu1 : (A.deeper (envOfC "shared" (defScope (top 18)) s.heap.objs.size f cdv)).units + 1 < cLine := by have := hr.un; omega
    exact (pdss_cons (pds_par (i := 2) (j := 3) rfl hN (pda_cons (pd_callB call_abs cd_abs F.B.abs (by decide +kernel) (pda_cons (pd_v 0) pda_nil)) (pda_cons (pd_callB call_abs cd_abs F.B.abs (by decide +kernel) (pda_cons (pd_v 1) pda_nil)) pda_nil)))
    (pdss_cons (pds_while hp (pt_cmpD op_gt od_gt (pd_v 3) pd_int) (pdss_one (pds_par (i := 2) (j := 3) rfl hN (pda_cons (pd_v 3) (pda_cons (pd_bin op_modN od_mod (pd_v 2) (pd_v 3)) pda_nil)))))
    (pdss_one (pds_ret (pd_v 2)))))
noncomputable def b_p_made : DS := (sSeq (sAsg (dFn 2 φ_p_shared (aCons (dV 0) (aCons (dV 1) aNil))) (gN 2))
  (sSeq (sAsg (dIf (dTest (dBin oGt (dV 1) (dC (.int 0)))) (dC (.int 1)) (dUn uNeg (dC (.int 1)))) (gN 3))
  (sRet (dTup (aCons (dBin oDiv (dBin oMul (dV 3) (dV 0)) (dV 2)) (aCons (dBin oDiv (dBin oMul (dV 3) (dV 1)) (dV 2)) aNil))))))
noncomputable def φ_p_made : DF := runF 2 4 b_p_made
theorem c_p_made (F : Facts K mg) : CalD P w K mg base 2 "made" 2 φ_p_made := by
  exact calD (k := 1) (n := 2) ["top", "bottom", "much", "sign"] ["top", "bottom"] F.d_p_made (by rfl) rfl (fun _ _ _ _ _ _ us hl => match us, hl with | [_, _], _ => rfl) fun f cdv A outer s H E hr tk hp => by
    have hN : (["top", "bottom", "much", "sign"] : List Str).Nodup := by decide
    have hu64 : (A.deeper (envOfC "made" (defScope (top 19)) s.heap.objs.size f cdv)).units + 64 < cLine := by have := hr.un; omega
    have hu65 : (A.deeper (envOfC "made" (defScope (top 19)) s.heap.objs.size f cdv)).units + 65 < cLine := by have := hr.un; omega
    have hu1 : (A.deeper (envOfC "made" (defScope (top 19)) s.heap.objs.size f cdv)).units + 1 < cLine := by have := hr.un; omega
    exact (pdss_cons (pds_set (i := 2) hN (pd_callC (c_p_shared F) (by omega) hr tk (pda_cons (pd_v 0) (pda_cons (pd_v 1) pda_nil))))
    (pdss_cons (pds_set (i := 3) hN (pd_if (pt_cmpD op_gt od_gt (pd_v 1) pd_int) pd_int (pd_un un_neg ud_neg pd_int)))
    (pdss_one (pds_ret (pd_tup (pda_cons (pd_bin op_fdivD od_div (pd_bin op_mulA od_mul (pd_v 3) (pd_v 0)) (pd_v 2)) (pda_cons (pd_bin op_fdivD od_div (pd_bin op_mulA od_mul (pd_v 3) (pd_v 1)) (pd_v 2)) pda_nil)))))))
noncomputable def b_p_is_fraction : DS := (sRet (dAnd (dFn 2 φ_p_are_numbers (aCons (dV 0) (aCons (dC k_PAIR_numbers) aNil))) (dAnd (dBin oGt (dBin oIx (dV 0) (dC (.int 1))) (dC (.int 0))) (dBin oEq (dFn 2 φ_p_shared (aCons (dBin oIx (dV 0) (dC (.int 0))) (aCons (dBin oIx (dV 0) (dC (.int 1))) aNil))) (dC (.int 1))))))
noncomputable def φ_p_is_fraction : DF := runF 1 1 b_p_is_fraction
theorem c_p_is_fraction (F : Facts K mg) : CalD P w K mg base 3 "is_fraction" 1 φ_p_is_fraction := by
  exact calD (k := 2) (n := 1) ["thing"] ["thing"] F.d_p_is_fraction (by rfl) rfl (fun _ _ _ _ _ _ us hl => match us, hl with | [_], _ => rfl) fun f cdv A outer s H E hr tk hp => by
    have hN : (["thing"] : List Str).Nodup := by decide
    have hu64 : (A.deeper (envOfC "is_fraction" (defScope (top 20)) s.heap.objs.size f cdv)).units + 64 < cLine := by have := hr.un; omega
    have hu65 : (A.deeper (envOfC "is_fraction" (defScope (top 20)) s.heap.objs.size f cdv)).units + 65 < cLine := by have := hr.un; omega
    have hu1 : (A.deeper (envOfC "is_fraction" (defScope (top 20)) s.heap.objs.size f cdv)).units + 1 < cLine := by have := hr.un; omega
    exact (pdss_one (pds_ret (pd_andT (pd_callC (c_p_are_numbers F) (by omega) hr tk (pda_cons (pd_v 0) (pda_cons (pd_con F.k_PAIR_numbers) pda_nil))) (pd_andT (pd_cmp op_gt od_gt (pd_ix (pd_v 0) pd_int) pd_int) (pd_one (pd_cmp (op_eqD hu64) od_eq (pd_callC (c_p_shared F) (by omega) hr tk (pda_cons (pd_ix (pd_v 0) pd_int) (pda_cons (pd_ix (pd_v 0) pd_int) pda_nil))) pd_int))))))
noncomputable def b_p_sure_fraction : DS := (sSeq (sAsg (dFn 1 (φ_p_tupled 8) (aCons (dV 0) aNil)) (gN 1))
  (sSeq (sIf (bNot (dTru (dFn 1 φ_p_is_fraction (aCons (dV 1) aNil)))) sNever sNext)
  (sRet (dV 1))))
noncomputable def φ_p_sure_fraction : DF := runF 1 2 b_p_sure_fraction
theorem c_p_sure_fraction (F : Facts K mg) : CalD P w K mg base 10 "sure_fraction" 1 φ_p_sure_fraction := by
  exact calD (k := 9) (n := 1) ["number", "own"] ["number"] F.d_p_sure_fraction (by rfl) rfl (fun _ _ _ _ _ _ us hl => match us, hl with | [_], _ => rfl) fun f cdv A outer s H E hr tk hp => by
    have hN : (["number", "own"] : List Str).Nodup := by decide
    have hu64 : (A.deeper (envOfC "sure_fraction" (defScope (top 21)) s.heap.objs.size f cdv)).units + 64 < cLine := by have := hr.un; omega
    have hu65 : (A.deeper (envOfC "sure_fraction" (defScope (top 21)) s.heap.objs.size f cdv)).units + 65 < cLine := by have := hr.un; omega
    have hu1 : (A.deeper (envOfC "sure_fraction" (defScope (top 21)) s.heap.objs.size f cdv)).units + 1 < cLine := by have := hr.un; omega
    exact (pdss_cons (pds_set (i := 1) hN (pd_callC (c_p_tupled F) (by omega) hr tk (pda_cons (pd_v 0) pda_nil)))
    (pdss_cons (pds_if (pt_notD (pt_truD (pd_callC (c_p_is_fraction F) (by omega) hr tk (pda_cons (pd_v 1) pda_nil)))) (pdss_one pds_never) pdss_nil)
    (pdss_one (pds_ret (pd_v 1)))))
noncomputable def b_p_sure_not_nil : DS := (sSeq (sAsg (dFn 1 φ_p_sure_fraction (aCons (dV 0) aNil)) (gN 1))
  (sSeq (sIf (dTest (dBin oEq (dV 1) (dC k_NIL))) sNever sNext)
  (sRet (dV 1))))
noncomputable def φ_p_sure_not_nil : DF := runF 1 2 b_p_sure_not_nil
theorem c_p_sure_not_nil (F : Facts K mg) : CalD P w K mg base 11 "sure_not_nil" 1 φ_p_sure_not_nil := by
  exact calD (k := 10) (n := 1) ["number", "own"] ["number"] F.d_p_sure_not_nil (by rfl) rfl (fun _ _ _ _ _ _ us hl => match us, hl with | [_], _ => rfl) fun f cdv A outer s H E hr tk hp => by
    have hN : (["number", "own"] : List Str).Nodup := by decide
    have hu64 : (A.deeper (envOfC "sure_not_nil" (defScope (top 22)) s.heap.objs.size f cdv)).units + 64 < cLine := by have := hr.un; omega
    have hu65 : (A.deeper (envOfC "sure_not_nil" (defScope (top 22)) s.heap.objs.size f cdv)).units + 65 < cLine := by have := hr.un; omega
    have hu1 : (A.deeper (envOfC "sure_not_nil" (defScope (top 22)) s.heap.objs.size f cdv)).units + 1 < cLine := by have := hr.un; omega
    exact (pdss_cons (pds_set (i := 1) hN (pd_callC (c_p_sure_fraction F) (by omega) hr tk (pda_cons (pd_v 0) pda_nil)))
    (pdss_cons (pds_if (pt_cmpD (op_eqD hu64) od_eq (pd_v 1) (pd_con F.k_NIL)) (pdss_one pds_never) pdss_nil)
    (pdss_one (pds_ret (pd_v 1)))))
noncomputable def b_p_fraction : DS := (sSeq (sPar 2 3 (aCons (dFn 1 φ_p_sure_number (aCons (dV 0) aNil)) (aCons (dFn 1 φ_p_sure_number (aCons (dV 1) aNil)) aNil)))
  (sSeq (sIf (dTest (dBin oEq (dV 3) (dC (.int 0)))) sNever sNext)
  (sRet (dFn 2 φ_p_made (aCons (dV 2) (aCons (dV 3) aNil))))))
noncomputable def φ_p_fraction : DF := runF 2 4 b_p_fraction
theorem c_p_fraction (F : Facts K mg) : CalD P w K mg base 3 "fraction" 2 φ_p_fraction := by
  exact calD (k := 2) (n := 2) ["top", "bottom", "near", "far"] ["top", "bottom"] F.d_p_fraction (by rfl) rfl (fun _ _ _ _ _ _ us hl => match us, hl with | [_, _], _ => rfl) fun f cdv A outer s H E hr tk hp => by
    have hN : (["top", "bottom", "near", "far"] : List Str).Nodup := by decide
    have hu64 : (A.deeper (envOfC "fraction" (defScope (top 23)) s.heap.objs.size f cdv)).units + 64 < cLine := by have := hr.un; omega
    have hu65 : (A.deeper (envOfC "fraction" (defScope (top 23)) s.heap.objs.size f cdv)).units + 65 < cLine := by have := hr.un; omega
    have hu1 : (A.deeper (envOfC "fraction" (defScope (top 23)) s.heap.objs.size f cdv)).units + 1 < cLine := by have := hr.un; omega
    exact (pdss_cons (pds_par (i := 2) (j := 3) rfl hN (pda_cons (pd_callC (c_p_sure_number F) (by omega) hr tk (pda_cons (pd_v 0) pda_nil)) (pda_cons (pd_callC (c_p_sure_number F) (by omega) hr tk (pda_cons (pd_v 1) pda_nil)) pda_nil)))
    (pdss_cons (pds_if (pt_cmpD (op_eqD hu64) od_eq (pd_v 3) pd_int) (pdss_one pds_never) pdss_nil)
    (pdss_one (pds_ret (pd_callC (c_p_made F) (by omega) hr tk (pda_cons (pd_v 2) (pda_cons (pd_v 3) pda_nil)))))))
noncomputable def b_p_add : DS := (sRet (dFn 2 φ_p_made (aCons (dBin oAdd (dBin oMul (dBin oIx (dV 0) (dC (.int 0))) (dBin oIx (dV 1) (dC (.int 1)))) (dBin oMul (dBin oIx (dV 1) (dC (.int 0))) (dBin oIx (dV 0) (dC (.int 1))))) (aCons (dBin oMul (dBin oIx (dV 0) (dC (.int 1))) (dBin oIx (dV 1) (dC (.int 1)))) aNil))))
noncomputable def φ_p_add : DF := runF 2 2 b_p_add
theorem c_p_add (F : Facts K mg) : CalD P w K mg base 3 "add" 2 φ_p_add := by
  exact calD (k := 2) (n := 2) ["one", "other"] ["one", "other"] F.d_p_add (by rfl) rfl (fun _ _ _ _ _ _ us hl => match us, hl with | [_, _], _ => rfl) fun f cdv A outer s H E hr tk hp => by
    have hN : (["one", "other"] : List Str).Nodup := by decide
    have hu64 : (A.deeper (envOfC "add" (defScope (top 24)) s.heap.objs.size f cdv)).units + 64 < cLine := by have := hr.un; omega
    have hu65 : (A.deeper (envOfC "add" (defScope (top 24)) s.heap.objs.size f cdv)).units + 65 < cLine := by have := hr.un; omega
    have hu1 : (A.deeper (envOfC "add" (defScope (top 24)) s.heap.objs.size f cdv)).units + 1 < cLine := by have := hr.un; omega
    exact (pdss_one (pds_ret (pd_callC (c_p_made F) (by omega) hr tk (pda_cons (pd_bin op_addD od_add (pd_bin op_mulA od_mul (pd_ix (pd_v 0) pd_int) (pd_ix (pd_v 1) pd_int)) (pd_bin op_mulA od_mul (pd_ix (pd_v 1) pd_int) (pd_ix (pd_v 0) pd_int))) (pda_cons (pd_bin op_mulA od_mul (pd_ix (pd_v 0) pd_int) (pd_ix (pd_v 1) pd_int)) pda_nil)))))
noncomputable def b_p_take : DS := (sRet (dFn 2 φ_p_made (aCons (dBin oSub (dBin oMul (dBin oIx (dV 0) (dC (.int 0))) (dBin oIx (dV 1) (dC (.int 1)))) (dBin oMul (dBin oIx (dV 1) (dC (.int 0))) (dBin oIx (dV 0) (dC (.int 1))))) (aCons (dBin oMul (dBin oIx (dV 0) (dC (.int 1))) (dBin oIx (dV 1) (dC (.int 1)))) aNil))))
noncomputable def φ_p_take : DF := runF 2 2 b_p_take
theorem c_p_take (F : Facts K mg) : CalD P w K mg base 3 "take" 2 φ_p_take := by
  exact calD (k := 2) (n := 2) ["one", "other"] ["one", "other"] F.d_p_take (by rfl) rfl (fun _ _ _ _ _ _ us hl => match us, hl with | [_, _], _ => rfl) fun f cdv A outer s H E hr tk hp => by
    have hN : (["one", "other"] : List Str).Nodup := by decide
    have hu64 : (A.deeper (envOfC "take" (defScope (top 25)) s.heap.objs.size f cdv)).units + 64 < cLine := by have := hr.un; omega
    have hu65 : (A.deeper (envOfC "take" (defScope (top 25)) s.heap.objs.size f cdv)).units + 65 < cLine := by have := hr.un; omega
    have hu1 : (A.deeper (envOfC "take" (defScope (top 25)) s.heap.objs.size f cdv)).units + 1 < cLine := by have := hr.un; omega
    exact (pdss_one (pds_ret (pd_callC (c_p_made F) (by omega) hr tk (pda_cons (pd_bin op_sub od_sub (pd_bin op_mulA od_mul (pd_ix (pd_v 0) pd_int) (pd_ix (pd_v 1) pd_int)) (pd_bin op_mulA od_mul (pd_ix (pd_v 1) pd_int) (pd_ix (pd_v 0) pd_int))) (pda_cons (pd_bin op_mulA od_mul (pd_ix (pd_v 0) pd_int) (pd_ix (pd_v 1) pd_int)) pda_nil)))))
noncomputable def b_p_multiply : DS := (sRet (dFn 2 φ_p_made (aCons (dBin oMul (dBin oIx (dV 0) (dC (.int 0))) (dBin oIx (dV 1) (dC (.int 0)))) (aCons (dBin oMul (dBin oIx (dV 0) (dC (.int 1))) (dBin oIx (dV 1) (dC (.int 1)))) aNil))))
noncomputable def φ_p_multiply : DF := runF 2 2 b_p_multiply
theorem c_p_multiply (F : Facts K mg) : CalD P w K mg base 3 "multiply" 2 φ_p_multiply := by
  exact calD (k := 2) (n := 2) ["one", "other"] ["one", "other"] F.d_p_multiply (by rfl) rfl (fun _ _ _ _ _ _ us hl => match us, hl with | [_, _], _ => rfl) fun f cdv A outer s H E hr tk hp => by
    have hN : (["one", "other"] : List Str).Nodup := by decide
    have hu64 : (A.deeper (envOfC "multiply" (defScope (top 26)) s.heap.objs.size f cdv)).units + 64 < cLine := by have := hr.un; omega
    have hu65 : (A.deeper (envOfC "multiply" (defScope (top 26)) s.heap.objs.size f cdv)).units + 65 < cLine := by have := hr.un; omega
    have hu1 : (A.deeper (envOfC "multiply" (defScope (top 26)) s.heap.objs.size f cdv)).units + 1 < cLine := by have := hr.un; omega
    exact (pdss_one (pds_ret (pd_callC (c_p_made F) (by omega) hr tk (pda_cons (pd_bin op_mulA od_mul (pd_ix (pd_v 0) pd_int) (pd_ix (pd_v 1) pd_int)) (pda_cons (pd_bin op_mulA od_mul (pd_ix (pd_v 0) pd_int) (pd_ix (pd_v 1) pd_int)) pda_nil)))))
noncomputable def b_p_divide : DS := (sRet (dFn 2 φ_p_made (aCons (dBin oMul (dBin oIx (dV 0) (dC (.int 0))) (dBin oIx (dV 1) (dC (.int 1)))) (aCons (dBin oMul (dBin oIx (dV 0) (dC (.int 1))) (dBin oIx (dV 1) (dC (.int 0)))) aNil))))
noncomputable def φ_p_divide : DF := runF 2 2 b_p_divide
theorem c_p_divide (F : Facts K mg) : CalD P w K mg base 3 "divide" 2 φ_p_divide := by
  exact calD (k := 2) (n := 2) ["one", "other"] ["one", "other"] F.d_p_divide (by rfl) rfl (fun _ _ _ _ _ _ us hl => match us, hl with | [_, _], _ => rfl) fun f cdv A outer s H E hr tk hp => by
    have hN : (["one", "other"] : List Str).Nodup := by decide
    have hu64 : (A.deeper (envOfC "divide" (defScope (top 27)) s.heap.objs.size f cdv)).units + 64 < cLine := by have := hr.un; omega
    have hu65 : (A.deeper (envOfC "divide" (defScope (top 27)) s.heap.objs.size f cdv)).units + 65 < cLine := by have := hr.un; omega
    have hu1 : (A.deeper (envOfC "divide" (defScope (top 27)) s.heap.objs.size f cdv)).units + 1 < cLine := by have := hr.un; omega
    exact (pdss_one (pds_ret (pd_callC (c_p_made F) (by omega) hr tk (pda_cons (pd_bin op_mulA od_mul (pd_ix (pd_v 0) pd_int) (pd_ix (pd_v 1) pd_int)) (pda_cons (pd_bin op_mulA od_mul (pd_ix (pd_v 0) pd_int) (pd_ix (pd_v 1) pd_int)) pda_nil)))))
noncomputable def b_p_opposite : DS := (sRet (dTup (aCons (dUn uNeg (dBin oIx (dV 0) (dC (.int 0)))) (aCons (dBin oIx (dV 0) (dC (.int 1))) aNil))))
noncomputable def φ_p_opposite : DF := runF 1 1 b_p_opposite
theorem c_p_opposite (F : Facts K mg) : CalD P w K mg base 1 "opposite" 1 φ_p_opposite := by
  exact calD (k := 0) (n := 1) ["number"] ["number"] F.d_p_opposite (by rfl) rfl (fun _ _ _ _ _ _ us hl => match us, hl with | [_], _ => rfl) fun f cdv A outer s H E hr tk hp => by
    have hN : (["number"] : List Str).Nodup := by decide
    have hu64 : (A.deeper (envOfC "opposite" (defScope (top 28)) s.heap.objs.size f cdv)).units + 64 < cLine := by have := hr.un; omega
    have hu65 : (A.deeper (envOfC "opposite" (defScope (top 28)) s.heap.objs.size f cdv)).units + 65 < cLine := by have := hr.un; omega
    have hu1 : (A.deeper (envOfC "opposite" (defScope (top 28)) s.heap.objs.size f cdv)).units + 1 < cLine := by have := hr.un; omega
    exact (pdss_one (pds_ret (pd_tup (pda_cons (pd_un un_neg ud_neg (pd_ix (pd_v 0) pd_int)) (pda_cons (pd_ix (pd_v 0) pd_int) pda_nil)))))
noncomputable def b_p_plus : DS := (sSeq (sPar 2 3 (aCons (dFn 1 φ_p_sure_fraction (aCons (dV 0) aNil)) (aCons (dFn 1 φ_p_sure_fraction (aCons (dV 1) aNil)) aNil)))
  (sRet (dFn 2 φ_p_add (aCons (dV 2) (aCons (dV 3) aNil)))))
noncomputable def φ_p_plus : DF := runF 2 4 b_p_plus
theorem c_p_plus (F : Facts K mg) : CalD P w K mg base 11 "plus" 2 φ_p_plus := by
  exact calD (k := 10) (n := 2) ["one", "other", "near", "far"] ["one", "other"] F.d_p_plus (by rfl) rfl (fun _ _ _ _ _ _ us hl => match us, hl with | [_, _], _ => rfl) fun f cdv A outer s H E hr tk hp => by
    have hN : (["one", "other", "near", "far"] : List Str).Nodup := by decide
    have hu64 : (A.deeper (envOfC "plus" (defScope (top 29)) s.heap.objs.size f cdv)).units + 64 < cLine := by have := hr.un; omega
    have hu65 : (A.deeper (envOfC "plus" (defScope (top 29)) s.heap.objs.size f cdv)).units + 65 < cLine := by have := hr.un; omega
    have hu1 : (A.deeper (envOfC "plus" (defScope (top 29)) s.heap.objs.size f cdv)).units + 1 < cLine := by have := hr.un; omega
    exact (pdss_cons (pds_par (i := 2) (j := 3) rfl hN (pda_cons (pd_callC (c_p_sure_fraction F) (by omega) hr tk (pda_cons (pd_v 0) pda_nil)) (pda_cons (pd_callC (c_p_sure_fraction F) (by omega) hr tk (pda_cons (pd_v 1) pda_nil)) pda_nil)))
    (pdss_one (pds_ret (pd_callC (c_p_add F) (by omega) hr tk (pda_cons (pd_v 2) (pda_cons (pd_v 3) pda_nil))))))
noncomputable def b_p_less : DS := (sSeq (sPar 2 3 (aCons (dFn 1 φ_p_sure_fraction (aCons (dV 0) aNil)) (aCons (dFn 1 φ_p_sure_fraction (aCons (dV 1) aNil)) aNil)))
  (sRet (dFn 2 φ_p_take (aCons (dV 2) (aCons (dV 3) aNil)))))
noncomputable def φ_p_less : DF := runF 2 4 b_p_less
theorem c_p_less (F : Facts K mg) : CalD P w K mg base 11 "less" 2 φ_p_less := by
  exact calD (k := 10) (n := 2) ["one", "other", "near", "far"] ["one", "other"] F.d_p_less (by rfl) rfl (fun _ _ _ _ _ _ us hl => match us, hl with | [_, _], _ => rfl) fun f cdv A outer s H E hr tk hp => by
    have hN : (["one", "other", "near", "far"] : List Str).Nodup := by decide
    have hu64 : (A.deeper (envOfC "less" (defScope (top 30)) s.heap.objs.size f cdv)).units + 64 < cLine := by have := hr.un; omega
    have hu65 : (A.deeper (envOfC "less" (defScope (top 30)) s.heap.objs.size f cdv)).units + 65 < cLine := by have := hr.un; omega
    have hu1 : (A.deeper (envOfC "less" (defScope (top 30)) s.heap.objs.size f cdv)).units + 1 < cLine := by have := hr.un; omega
    exact (pdss_cons (pds_par (i := 2) (j := 3) rfl hN (pda_cons (pd_callC (c_p_sure_fraction F) (by omega) hr tk (pda_cons (pd_v 0) pda_nil)) (pda_cons (pd_callC (c_p_sure_fraction F) (by omega) hr tk (pda_cons (pd_v 1) pda_nil)) pda_nil)))
    (pdss_one (pds_ret (pd_callC (c_p_take F) (by omega) hr tk (pda_cons (pd_v 2) (pda_cons (pd_v 3) pda_nil))))))
noncomputable def b_p_times : DS := (sSeq (sPar 2 3 (aCons (dFn 1 φ_p_sure_fraction (aCons (dV 0) aNil)) (aCons (dFn 1 φ_p_sure_fraction (aCons (dV 1) aNil)) aNil)))
  (sRet (dFn 2 φ_p_multiply (aCons (dV 2) (aCons (dV 3) aNil)))))
noncomputable def φ_p_times : DF := runF 2 4 b_p_times
theorem c_p_times (F : Facts K mg) : CalD P w K mg base 11 "times" 2 φ_p_times := by
  exact calD (k := 10) (n := 2) ["one", "other", "near", "far"] ["one", "other"] F.d_p_times (by rfl) rfl (fun _ _ _ _ _ _ us hl => match us, hl with | [_, _], _ => rfl) fun f cdv A outer s H E hr tk hp => by
    have hN : (["one", "other", "near", "far"] : List Str).Nodup := by decide
    have hu64 : (A.deeper (envOfC "times" (defScope (top 31)) s.heap.objs.size f cdv)).units + 64 < cLine := by have := hr.un; omega
    have hu65 : (A.deeper (envOfC "times" (defScope (top 31)) s.heap.objs.size f cdv)).units + 65 < cLine := by have := hr.un; omega
    have hu1 : (A.deeper (envOfC "times" (defScope (top 31)) s.heap.objs.size f cdv)).units + 1 < cLine := by have := hr.un; omega
    exact (pdss_cons (pds_par (i := 2) (j := 3) rfl hN (pda_cons (pd_callC (c_p_sure_fraction F) (by omega) hr tk (pda_cons (pd_v 0) pda_nil)) (pda_cons (pd_callC (c_p_sure_fraction F) (by omega) hr tk (pda_cons (pd_v 1) pda_nil)) pda_nil)))
    (pdss_one (pds_ret (pd_callC (c_p_multiply F) (by omega) hr tk (pda_cons (pd_v 2) (pda_cons (pd_v 3) pda_nil))))))
noncomputable def b_p_over : DS := (sSeq (sPar 2 3 (aCons (dFn 1 φ_p_sure_fraction (aCons (dV 0) aNil)) (aCons (dFn 1 φ_p_sure_not_nil (aCons (dV 1) aNil)) aNil)))
  (sRet (dFn 2 φ_p_divide (aCons (dV 2) (aCons (dV 3) aNil)))))
noncomputable def φ_p_over : DF := runF 2 4 b_p_over
theorem c_p_over (F : Facts K mg) : CalD P w K mg base 12 "over" 2 φ_p_over := by
  exact calD (k := 11) (n := 2) ["one", "other", "near", "far"] ["one", "other"] F.d_p_over (by rfl) rfl (fun _ _ _ _ _ _ us hl => match us, hl with | [_, _], _ => rfl) fun f cdv A outer s H E hr tk hp => by
    have hN : (["one", "other", "near", "far"] : List Str).Nodup := by decide
    have hu64 : (A.deeper (envOfC "over" (defScope (top 32)) s.heap.objs.size f cdv)).units + 64 < cLine := by have := hr.un; omega
    have hu65 : (A.deeper (envOfC "over" (defScope (top 32)) s.heap.objs.size f cdv)).units + 65 < cLine := by have := hr.un; omega
    have hu1 : (A.deeper (envOfC "over" (defScope (top 32)) s.heap.objs.size f cdv)).units + 1 < cLine := by have := hr.un; omega
    exact (pdss_cons (pds_par (i := 2) (j := 3) rfl hN (pda_cons (pd_callC (c_p_sure_fraction F) (by omega) hr tk (pda_cons (pd_v 0) pda_nil)) (pda_cons (pd_callC (c_p_sure_not_nil F) (by omega) hr tk (pda_cons (pd_v 1) pda_nil)) pda_nil)))
    (pdss_one (pds_ret (pd_callC (c_p_divide F) (by omega) hr tk (pda_cons (pd_v 2) (pda_cons (pd_v 3) pda_nil))))))
noncomputable def b_p_prime_so : DS := (sSeq (sIf (dTest (dBin oLt (dV 0) (dC k_FIRST_PRIME))) (sRet (dC (.bl false))) sNext)
  (sSeq (sAsg (dC k_FIRST_PRIME) (gN 1))
  (sSeq (sWhile (dTest (dBin oLe (dBin oMul (dV 1) (dV 1)) (dV 0))) (sSeq (sIf (dTest (dBin oEq (dBin oMod (dV 0) (dV 1)) (dC (.int 0)))) (sRet (dC (.bl false))) sNext)
  (sAsg (dBin oAdd (dV 1) (dC (.int 1))) (gN 1))))
  (sRet (dC (.bl true))))))
noncomputable def φ_p_prime_so : DF := runF 1 2 b_p_prime_so
theorem c_p_prime_so (F : Facts K mg) : CalD P w K mg base 1 "prime_so" 1 φ_p_prime_so := by
  exact calD (k := 0) (n := 1) ["number", "own"] ["number"] F.d_p_prime_so (by rfl) rfl (fun _ _ _ _ _ _ us hl => match us, hl with | [_], _ => rfl) fun f cdv A outer s H E hr tk hp => by
    have hN : (["number", "own"] : List Str).Nodup := by decide
    have hu64 : (A.deeper (envOfC "prime_so" (defScope (top 33)) s.heap.objs.size f cdv)).units + 64 < cLine := by have := hr.un; omega
    have hu65 : (A.deeper (envOfC "prime_so" (defScope (top 33)) s.heap.objs.size f cdv)).units + 65 < cLine := by have := hr.un; omega
    have hu1 : (A.deeper (envOfC "prime_so" (defScope (top 33)) s.heap.objs.size f cdv)).units + 1 < cLine := by have := hr.un; omega
    exact (pdss_cons (pds_if (pt_cmpD op_lt od_lt (pd_v 0) (pd_con F.k_FIRST_PRIME)) (pdss_one (pds_ret pd_bl)) pdss_nil)
    (pdss_cons (pds_set (i := 1) hN (pd_con F.k_FIRST_PRIME))
    (pdss_cons (pds_while hp (pt_cmpD op_le od_le (pd_bin op_mulA od_mul (pd_v 1) (pd_v 1)) (pd_v 0)) (pdss_cons (pds_if (pt_cmpD (op_eqD hu64) od_eq (pd_bin op_modN od_mod (pd_v 0) (pd_v 1)) pd_int) (pdss_one (pds_ret pd_bl)) pdss_nil)
    (pdss_one (pds_set (i := 1) hN (pd_bin op_addD od_add (pd_v 1) pd_int)))))
    (pdss_one (pds_ret pd_bl)))))
noncomputable def b_p_is_prime : DS := (sRet (dFn 1 φ_p_prime_so (aCons (dFn 1 φ_p_sure_number (aCons (dV 0) aNil)) aNil)))
noncomputable def φ_p_is_prime : DF := runF 1 1 b_p_is_prime
theorem c_p_is_prime (F : Facts K mg) : CalD P w K mg base 3 "is_prime" 1 φ_p_is_prime := by
  exact calD (k := 2) (n := 1) ["number"] ["number"] F.d_p_is_prime (by rfl) rfl (fun _ _ _ _ _ _ us hl => match us, hl with | [_], _ => rfl) fun f cdv A outer s H E hr tk hp => by
    have hN : (["number"] : List Str).Nodup := by decide
    have hu64 : (A.deeper (envOfC "is_prime" (defScope (top 34)) s.heap.objs.size f cdv)).units + 64 < cLine := by have := hr.un; omega
    have hu65 : (A.deeper (envOfC "is_prime" (defScope (top 34)) s.heap.objs.size f cdv)).units + 65 < cLine := by have := hr.un; omega
    have hu1 : (A.deeper (envOfC "is_prime" (defScope (top 34)) s.heap.objs.size f cdv)).units + 1 < cLine := by have := hr.un; omega
    exact (pdss_one (pds_ret (pd_callC (c_p_prime_so F) (by omega) hr tk (pda_cons (pd_callC (c_p_sure_number F) (by omega) hr tk (pda_cons (pd_v 0) pda_nil)) pda_nil))))
noncomputable def b_p_sure_prime : DS := (sSeq (sIf (bOr (bNot (dTru (dFn 1 φ_p_is_number (aCons (dV 0) aNil)))) (bNot (dTru (dFn 1 φ_p_prime_so (aCons (dV 0) aNil))))) sNever sNext)
  (sRet (dV 0)))
noncomputable def φ_p_sure_prime : DF := runF 1 1 b_p_sure_prime
theorem c_p_sure_prime (F : Facts K mg) : CalD P w K mg base 2 "sure_prime" 1 φ_p_sure_prime := by
  exact calD (k := 1) (n := 1) ["prime"] ["prime"] F.d_p_sure_prime (by rfl) rfl (fun _ _ _ _ _ _ us hl => match us, hl with | [_], _ => rfl) fun f cdv A outer s H E hr tk hp => by
    have hN : (["prime"] : List Str).Nodup := by decide
    have hu64 : (A.deeper (envOfC "sure_prime" (defScope (top 35)) s.heap.objs.size f cdv)).units + 64 < cLine := by have := hr.un; omega
    have hu65 : (A.deeper (envOfC "sure_prime" (defScope (top 35)) s.heap.objs.size f cdv)).units + 65 < cLine := by have := hr.un; omega
    have hu1 : (A.deeper (envOfC "sure_prime" (defScope (top 35)) s.heap.objs.size f cdv)).units + 1 < cLine := by have := hr.un; omega
    exact (pdss_cons (pds_if (PDw.t (pw_orD (pt_notD (pt_truD (pd_callC (c_p_is_number F) (by omega) hr tk (pda_cons (pd_v 0) pda_nil)))) (pw_or1D (pt_notD (pt_truD (pd_callC (c_p_prime_so F) (by omega) hr tk (pda_cons (pd_v 0) pda_nil))))))) (pdss_one pds_never) pdss_nil)
    (pdss_one (pds_ret (pd_v 0))))
noncomputable def b_p_inverse_rest : DS := (sSeq (sAsg (dTup (aCons (dBin oMod (dV 0) (dV 1)) (aCons (dV 1) (aCons (dC (.int 1)) (aCons (dC (.int 0)) aNil))))) (gT 4 (gC (gN 2) (gC (gN 3) (gC (gN 4) (gC (gN 5) gN0))))))
  (sSeq (sWhile (dTest (dBin oGt (dV 2) (dC (.int 1)))) (sSeq (sAsg (dBin oDiv (dV 3) (dV 2)) (gN 6))
  (sAsg (dTup (aCons (dBin oSub (dV 3) (dBin oMul (dV 6) (dV 2))) (aCons (dV 2) (aCons (dBin oSub (dV 5) (dBin oMul (dV 6) (dV 4))) (aCons (dV 4) aNil))))) (gT 4 (gC (gN 2) (gC (gN 3) (gC (gN 4) (gC (gN 5) gN0))))))))
  (sRet (dBin oMod (dV 4) (dV 1)))))
noncomputable def φ_p_inverse_rest : DF := runF 2 7 b_p_inverse_rest
theorem c_p_inverse_rest (F : Facts K mg) : CalD P w K mg base 1 "inverse_rest" 2 φ_p_inverse_rest := by
  exact calD (k := 0) (n := 2) ["number", "prime", "near", "far", "one", "other", "much"] ["number", "prime"] F.d_p_inverse_rest (by rfl) rfl (fun _ _ _ _ _ _ us hl => match us, hl with | [_, _], _ => rfl) fun f cdv A outer s H E hr tk hp => by
    have hN : (["number", "prime", "near", "far", "one", "other", "much"] : List Str).Nodup := by decide
    have hu64 : (A.deeper (envOfC "inverse_rest" (defScope (top 36)) s.heap.objs.size f cdv)).units + 64 < cLine := by have := hr.un; omega
    have hu65 : (A.deeper (envOfC "inverse_rest" (defScope (top 36)) s.heap.objs.size f cdv)).units + 65 < cLine := by have := hr.un; omega
    have hu1 : (A.deeper (envOfC "inverse_rest" (defScope (top 36)) s.heap.objs.size f cdv)).units + 1 < cLine := by have := hr.un; omega
    exact (pdss_cons (pds_asg (pd_tup (pda_cons (pd_bin op_modN od_mod (pd_v 0) (pd_v 1)) (pda_cons (pd_v 1) (pda_cons pd_int (pda_cons pd_int pda_nil))))) (pdg_t rfl (pdgs_cons (pdg_n (i := 2) hN) (pdgs_cons (pdg_n (i := 3) hN) (pdgs_cons (pdg_n (i := 4) hN) (pdgs_cons (pdg_n (i := 5) hN) pdgs_nil))))))
    (pdss_cons (pds_while hp (pt_cmpD op_gt od_gt (pd_v 2) pd_int) (pdss_cons (pds_set (i := 6) hN (pd_bin op_fdivD od_div (pd_v 3) (pd_v 2)))
    (pdss_one (pds_asg (pd_tup (pda_cons (pd_bin op_sub od_sub (pd_v 3) (pd_bin op_mulA od_mul (pd_v 6) (pd_v 2))) (pda_cons (pd_v 2) (pda_cons (pd_bin op_sub od_sub (pd_v 5) (pd_bin op_mulA od_mul (pd_v 6) (pd_v 4))) (pda_cons (pd_v 4) pda_nil))))) (pdg_t rfl (pdgs_cons (pdg_n (i := 2) hN) (pdgs_cons (pdg_n (i := 3) hN) (pdgs_cons (pdg_n (i := 4) hN) (pdgs_cons (pdg_n (i := 5) hN) pdgs_nil)))))))))
    (pdss_one (pds_ret (pd_bin op_modN od_mod (pd_v 4) (pd_v 1))))))
noncomputable def b_p_rest_over : DS := (sSeq (sPar 3 4 (aCons (dFn 1 φ_p_sure_number (aCons (dV 0) aNil)) (aCons (dFn 1 φ_p_sure_number (aCons (dV 1) aNil)) aNil)))
  (sSeq (sAsg (dFn 1 φ_p_sure_prime (aCons (dV 2) aNil)) (gN 5))
  (sSeq (sIf (dTest (dBin oEq (dBin oMod (dV 4) (dV 5)) (dC (.int 0)))) sNever sNext)
  (sRet (dBin oMod (dBin oMul (dV 3) (dFn 2 φ_p_inverse_rest (aCons (dV 4) (aCons (dV 5) aNil)))) (dV 5))))))
noncomputable def φ_p_rest_over : DF := runF 3 6 b_p_rest_over
theorem c_p_rest_over (F : Facts K mg) : CalD P w K mg base 3 "rest_over" 3 φ_p_rest_over := by
  exact calD (k := 2) (n := 3) ["one", "other", "prime", "near", "far", "base"] ["one", "other", "prime"] F.d_p_rest_over (by rfl) rfl (fun _ _ _ _ _ _ us hl => match us, hl with | [_, _, _], _ => rfl) fun f cdv A outer s H E hr tk hp => by
    have hN : (["one", "other", "prime", "near", "far", "base"] : List Str).Nodup := by decide
    have hu64 : (A.deeper (envOfC "rest_over" (defScope (top 37)) s.heap.objs.size f cdv)).units + 64 < cLine := by have := hr.un; omega
    have hu65 : (A.deeper (envOfC "rest_over" (defScope (top 37)) s.heap.objs.size f cdv)).units + 65 < cLine := by have := hr.un; omega
    have hu1 : (A.deeper (envOfC "rest_over" (defScope (top 37)) s.heap.objs.size f cdv)).units + 1 < cLine := by have := hr.un; omega
    exact (pdss_cons (pds_par (i := 3) (j := 4) rfl hN (pda_cons (pd_callC (c_p_sure_number F) (by omega) hr tk (pda_cons (pd_v 0) pda_nil)) (pda_cons (pd_callC (c_p_sure_number F) (by omega) hr tk (pda_cons (pd_v 1) pda_nil)) pda_nil)))
    (pdss_cons (pds_set (i := 5) hN (pd_callC (c_p_sure_prime F) (by omega) hr tk (pda_cons (pd_v 2) pda_nil)))
    (pdss_cons (pds_if (pt_cmpD (op_eqD hu64) od_eq (pd_bin op_modN od_mod (pd_v 4) (pd_v 5)) pd_int) (pdss_one pds_never) pdss_nil)
    (pdss_one (pds_ret (pd_bin op_modN od_mod (pd_bin op_mulA od_mul (pd_v 3) (pd_callC (c_p_inverse_rest F) (by omega) hr tk (pda_cons (pd_v 4) (pda_cons (pd_v 5) pda_nil)))) (pd_v 5)))))))
noncomputable def b_p_rest_of : DS := (sSeq (sAsg (dFn 1 φ_p_sure_fraction (aCons (dV 0) aNil)) (gT 2 (gC (gN 2) (gC (gN 3) gN0))))
  (sRet (dFn 3 φ_p_rest_over (aCons (dV 2) (aCons (dV 3) (aCons (dV 1) aNil))))))
noncomputable def φ_p_rest_of : DF := runF 2 4 b_p_rest_of
theorem c_p_rest_of (F : Facts K mg) : CalD P w K mg base 11 "rest_of" 2 φ_p_rest_of := by
  exact calD (k := 10) (n := 2) ["number", "prime", "top", "bottom"] ["number", "prime"] F.d_p_rest_of (by rfl) rfl (fun _ _ _ _ _ _ us hl => match us, hl with | [_, _], _ => rfl) fun f cdv A outer s H E hr tk hp => by
    have hN : (["number", "prime", "top", "bottom"] : List Str).Nodup := by decide
    have hu64 : (A.deeper (envOfC "rest_of" (defScope (top 38)) s.heap.objs.size f cdv)).units + 64 < cLine := by have := hr.un; omega
    have hu65 : (A.deeper (envOfC "rest_of" (defScope (top 38)) s.heap.objs.size f cdv)).units + 65 < cLine := by have := hr.un; omega
    have hu1 : (A.deeper (envOfC "rest_of" (defScope (top 38)) s.heap.objs.size f cdv)).units + 1 < cLine := by have := hr.un; omega
    exact (pdss_cons (pds_asg (pd_callC (c_p_sure_fraction F) (by omega) hr tk (pda_cons (pd_v 0) pda_nil)) (pdg_t rfl (pdgs_cons (pdg_n (i := 2) hN) (pdgs_cons (pdg_n (i := 3) hN) pdgs_nil))))
    (pdss_one (pds_ret (pd_callC (c_p_rest_over F) (by omega) hr tk (pda_cons (pd_v 2) (pda_cons (pd_v 3) (pda_cons (pd_v 1) pda_nil)))))))
noncomputable def b_p_is_word : DS := (sRet (dAnd (dIsi "tuple" (dV 0)) (dL φAll (lLc (iSeq (dV 0)) (gN 1) bYes (dAnd (dFn 1 φ_p_is_number (aCons (dV 1) aNil)) (dChain oLe oLe (dC (.int 1)) (dCall fAbs (aCons (dV 1) aNil)) (dC k_LETTERS))) [1]))))
noncomputable def φ_p_is_word : DF := runF 1 2 b_p_is_word
theorem c_p_is_word (F : Facts K mg) : CalD P w K mg base 2 "is_word" 1 φ_p_is_word := by
  exact calD (k := 1) (n := 1) ["thing", "letter"] ["thing"] F.d_p_is_word (by rfl) rfl (fun _ _ _ _ _ _ us hl => match us, hl with | [_], _ => rfl) fun f cdv A outer s H E hr tk hp => by
    have hN : (["thing", "letter"] : List Str).Nodup := by decide
    have hu64 : (A.deeper (envOfC "is_word" (defScope (top 42)) s.heap.objs.size f cdv)).units + 64 < cLine := by have := hr.un; omega
    have hu65 : (A.deeper (envOfC "is_word" (defScope (top 42)) s.heap.objs.size f cdv)).units + 65 < cLine := by have := hr.un; omega
    have hu1 : (A.deeper (envOfC "is_word" (defScope (top 42)) s.heap.objs.size f cdv)).units + 1 < cLine := by have := hr.un; omega
    exact (pdss_one (pds_ret (pd_andT (pd_isi F.B.isinstance F.B.tuple (by decide +kernel) (by decide) (pd_v 0)) (pd_one (pd_LB (cr_all rfl) ld_all F.B.all (by decide +kernel) (pdl_lc (own := [("letter", 1)]) rfl hN (pdj_seq (pd_v 0)) (blkOk_by (by rfl)) (fun _ _ _ _ _ => (pdg_n (i := 1) hN)) (fun _ _ _ _ _ => pdts_nil) (fun _ _ _ _ _ => (pd_andT (pd_callC (c_p_is_number F) (by omega) hr takesF (pda_cons (pd_v 1) pda_nil)) (pd_one (pd_chain op_le od_le op_le od_le pd_int (pd_callB call_abs cd_abs F.B.abs (by decide +kernel) (pda_cons (pd_v 1) pda_nil)) (pd_con F.k_LETTERS))))) (sl_n (by decide))))))))
noncomputable def b_p_sure_word : DS := (sSeq (sAsg (dFn 1 (φ_p_tupled 8) (aCons (dV 0) aNil)) (gN 1))
  (sSeq (sIf (bNot (dTru (dFn 1 φ_p_is_word (aCons (dV 1) aNil)))) sNever sNext)
  (sRet (dV 1))))
noncomputable def φ_p_sure_word : DF := runF 1 2 b_p_sure_word
theorem c_p_sure_word (F : Facts K mg) : CalD P w K mg base 10 "sure_word" 1 φ_p_sure_word := by
  exact calD (k := 9) (n := 1) ["word", "own"] ["word"] F.d_p_sure_word (by rfl) rfl (fun _ _ _ _ _ _ us hl => match us, hl with | [_], _ => rfl) fun f cdv A outer s H E hr tk hp => by
    have hN : (["word", "own"] : List Str).Nodup := by decide
    have hu64 : (A.deeper (envOfC "sure_word" (defScope (top 43)) s.heap.objs.size f cdv)).units + 64 < cLine := by have := hr.un; omega
    have hu65 : (A.deeper (envOfC "sure_word" (defScope (top 43)) s.heap.objs.size f cdv)).units + 65 < cLine := by have := hr.un; omega
    have hu1 : (A.deeper (envOfC "sure_word" (defScope (top 43)) s.heap.objs.size f cdv)).units + 1 < cLine := by have := hr.un; omega
    exact (pdss_cons (pds_set (i := 1) hN (pd_callC (c_p_tupled F) (by omega) hr tk (pda_cons (pd_v 0) pda_nil)))
    (pdss_cons (pds_if (pt_notD (pt_truD (pd_callC (c_p_is_word F) (by omega) hr tk (pda_cons (pd_v 1) pda_nil)))) (pdss_one pds_never) pdss_nil)
    (pdss_one (pds_ret (pd_v 1)))))
noncomputable def b_p_is_two : DS := (sRet (dL φAll (lLc (iSeq (dV 0)) (gN 1) bYes (dBin oLe (dCall fAbs (aCons (dV 1) aNil)) (dC k_TWO)) [1])))
noncomputable def φ_p_is_two : DF := runF 1 2 b_p_is_two
theorem c_p_is_two (F : Facts K mg) : CalD P w K mg base 1 "is_two" 1 φ_p_is_two := by
  exact calD (k := 0) (n := 1) ["word", "letter"] ["word"] F.d_p_is_two (by rfl) rfl (fun _ _ _ _ _ _ us hl => match us, hl with | [_], _ => rfl) fun f cdv A outer s H E hr tk hp => by
    have hN : (["word", "letter"] : List Str).Nodup := by decide
    have hu64 : (A.deeper (envOfC "is_two" (defScope (top 44)) s.heap.objs.size f cdv)).units + 64 < cLine := by have := hr.un; omega
    have hu65 : (A.deeper (envOfC "is_two" (defScope (top 44)) s.heap.objs.size f cdv)).units + 65 < cLine := by have := hr.un; omega
    have hu1 : (A.deeper (envOfC "is_two" (defScope (top 44)) s.heap.objs.size f cdv)).units + 1 < cLine := by have := hr.un; omega
    exact (pdss_one (pds_ret (pd_LB (cr_all rfl) ld_all F.B.all (by decide +kernel) (pdl_lc (own := [("letter", 1)]) rfl hN (pdj_seq (pd_v 0)) (blkOk_by (by rfl)) (fun _ _ _ _ _ => (pdg_n (i := 1) hN)) (fun _ _ _ _ _ => pdts_nil) (fun _ _ _ _ _ => (pd_cmp op_le od_le (pd_callB call_abs cd_abs F.B.abs (by decide +kernel) (pda_cons (pd_v 1) pda_nil)) (pd_con F.k_TWO))) (sl_n (by decide))))))
noncomputable def b_p_sure_two : DS := (sSeq (sAsg (dFn 1 φ_p_sure_word (aCons (dV 0) aNil)) (gN 1))
  (sSeq (sIf (bNot (dTru (dFn 1 φ_p_is_two (aCons (dV 1) aNil)))) sNever sNext)
  (sRet (dV 1))))
noncomputable def φ_p_sure_two : DF := runF 1 2 b_p_sure_two
theorem c_p_sure_two (F : Facts K mg) : CalD P w K mg base 11 "sure_two" 1 φ_p_sure_two := by
  exact calD (k := 10) (n := 1) ["word", "own"] ["word"] F.d_p_sure_two (by rfl) rfl (fun _ _ _ _ _ _ us hl => match us, hl with | [_], _ => rfl) fun f cdv A outer s H E hr tk hp => by
    have hN : (["word", "own"] : List Str).Nodup := by decide
    have hu64 : (A.deeper (envOfC "sure_two" (defScope (top 45)) s.heap.objs.size f cdv)).units + 64 < cLine := by have := hr.un; omega
    have hu65 : (A.deeper (envOfC "sure_two" (defScope (top 45)) s.heap.objs.size f cdv)).units + 65 < cLine := by have := hr.un; omega
    have hu1 : (A.deeper (envOfC "sure_two" (defScope (top 45)) s.heap.objs.size f cdv)).units + 1 < cLine := by have := hr.un; omega
    exact (pdss_cons (pds_set (i := 1) hN (pd_callC (c_p_sure_word F) (by omega) hr tk (pda_cons (pd_v 0) pda_nil)))
    (pdss_cons (pds_if (pt_notD (pt_truD (pd_callC (c_p_is_two F) (by omega) hr tk (pda_cons (pd_v 1) pda_nil)))) (pdss_one pds_never) pdss_nil)
    (pdss_one (pds_ret (pd_v 1)))))
noncomputable def b_p_is_map : DS := (sRet (dAnd (dFn 2 φ_p_is_tuple_of (aCons (dV 0) (aCons (dC k_PAIR_maps) aNil))) (dAnd (dL φAll (lLc (iSeq (dV 0)) (gN 1) bYes (dFn 1 φ_p_is_fraction (aCons (dV 1) aNil)) [1])) (dBin oNe (dBin oIx (dV 0) (dC (.int 0))) (dC k_NIL)))))
noncomputable def φ_p_is_map : DF := runF 1 2 b_p_is_map
theorem c_p_is_map (F : Facts K mg) : CalD P w K mg base 4 "is_map" 1 φ_p_is_map := by
  exact calD (k := 3) (n := 1) ["thing", "part"] ["thing"] F.d_p_is_map (by rfl) rfl (fun _ _ _ _ _ _ us hl => match us, hl with | [_], _ => rfl) fun f cdv A outer s H E hr tk hp => by
    have hN : (["thing", "part"] : List Str).Nodup := by decide
    have hu64 : (A.deeper (envOfC "is_map" (defScope (top 50)) s.heap.objs.size f cdv)).units + 64 < cLine := by have := hr.un; omega
    have hu65 : (A.deeper (envOfC "is_map" (defScope (top 50)) s.heap.objs.size f cdv)).units + 65 < cLine := by have := hr.un; omega
    have hu1 : (A.deeper (envOfC "is_map" (defScope (top 50)) s.heap.objs.size f cdv)).units + 1 < cLine := by have := hr.un; omega
    exact (pdss_one (pds_ret (pd_andT (pd_callC (c_p_is_tuple_of F) (by omega) hr tk (pda_cons (pd_v 0) (pda_cons (pd_con F.k_PAIR_maps) pda_nil))) (pd_andT (pd_LB (cr_all rfl) ld_all F.B.all (by decide +kernel) (pdl_lc (own := [("part", 1)]) rfl hN (pdj_seq (pd_v 0)) (blkOk_by (by rfl)) (fun _ _ _ _ _ => (pdg_n (i := 1) hN)) (fun _ _ _ _ _ => pdts_nil) (fun _ _ _ _ _ => (pd_callC (c_p_is_fraction F) (by omega) hr takesF (pda_cons (pd_v 1) pda_nil))) (sl_n (by decide)))) (pd_one (pd_cmp (op_neD hu64) od_ne (pd_ix (pd_v 0) pd_int) (pd_con F.k_NIL)))))))
noncomputable def b_p_sure_map : DS := (sSeq (sAsg (dFn 1 (φ_p_tupled 8) (aCons (dV 0) aNil)) (gN 1))
  (sSeq (sIf (bNot (dTru (dFn 1 φ_p_is_map (aCons (dV 1) aNil)))) sNever sNext)
  (sRet (dV 1))))
noncomputable def φ_p_sure_map : DF := runF 1 2 b_p_sure_map
theorem c_p_sure_map (F : Facts K mg) : CalD P w K mg base 10 "sure_map" 1 φ_p_sure_map := by
  exact calD (k := 9) (n := 1) ["thing", "own"] ["thing"] F.d_p_sure_map (by rfl) rfl (fun _ _ _ _ _ _ us hl => match us, hl with | [_], _ => rfl) fun f cdv A outer s H E hr tk hp => by
    have hN : (["thing", "own"] : List Str).Nodup := by decide
    have hu64 : (A.deeper (envOfC "sure_map" (defScope (top 51)) s.heap.objs.size f cdv)).units + 64 < cLine := by have := hr.un; omega
    have hu65 : (A.deeper (envOfC "sure_map" (defScope (top 51)) s.heap.objs.size f cdv)).units + 65 < cLine := by have := hr.un; omega
    have hu1 : (A.deeper (envOfC "sure_map" (defScope (top 51)) s.heap.objs.size f cdv)).units + 1 < cLine := by have := hr.un; omega
    exact (pdss_cons (pds_set (i := 1) hN (pd_callC (c_p_tupled F) (by omega) hr tk (pda_cons (pd_v 0) pda_nil)))
    (pdss_cons (pds_if (pt_notD (pt_truD (pd_callC (c_p_is_map F) (by omega) hr tk (pda_cons (pd_v 1) pda_nil)))) (pdss_one pds_never) pdss_nil)
    (pdss_one (pds_ret (pd_v 1)))))
noncomputable def b_p_are_maps : DS := (sRet (dAnd (dIsi "tuple" (dV 0)) (dAnd (dBin oIn (dCall fLen (aCons (dV 0) aNil)) (dV 1)) (dL φAll (lLc (iSeq (dV 0)) (gN 2) bYes (dFn 1 φ_p_is_map (aCons (dV 2) aNil)) [2])))))
noncomputable def φ_p_are_maps : DF := runF 2 3 b_p_are_maps
theorem c_p_are_maps (F : Facts K mg) : CalD P w K mg base 5 "are_maps" 2 φ_p_are_maps := by
  exact calD (k := 4) (n := 2) ["thing", "counts", "part"] ["thing", "counts"] F.d_p_are_maps (by rfl) rfl (fun _ _ _ _ _ _ us hl => match us, hl with | [_, _], _ => rfl) fun f cdv A outer s H E hr tk hp => by
    have hN : (["thing", "counts", "part"] : List Str).Nodup := by decide
    have hu64 : (A.deeper (envOfC "are_maps" (defScope (top 52)) s.heap.objs.size f cdv)).units + 64 < cLine := by have := hr.un; omega
    have hu65 : (A.deeper (envOfC "are_maps" (defScope (top 52)) s.heap.objs.size f cdv)).units + 65 < cLine := by have := hr.un; omega
    have hu1 : (A.deeper (envOfC "are_maps" (defScope (top 52)) s.heap.objs.size f cdv)).units + 1 < cLine := by have := hr.un; omega
    exact (pdss_one (pds_ret (pd_andT (pd_isi F.B.isinstance F.B.tuple (by decide +kernel) (by decide) (pd_v 0)) (pd_andT (pd_cmp (op_inA hu65) od_in (pd_callB call_len_seq cd_len F.B.len (by decide +kernel) (pda_cons (pd_v 0) pda_nil)) (pd_v 1) (by with_unfolding_all rfl)) (pd_one (pd_LB (cr_all rfl) ld_all F.B.all (by decide +kernel) (pdl_lc (own := [("part", 2)]) rfl hN (pdj_seq (pd_v 0)) (blkOk_by (by rfl)) (fun _ _ _ _ _ => (pdg_n (i := 2) hN)) (fun _ _ _ _ _ => pdts_nil) (fun _ _ _ _ _ => (pd_callC (c_p_is_map F) (by omega) hr takesF (pda_cons (pd_v 2) pda_nil))) (sl_n (by decide)))))))))
noncomputable def b_p_sure_maps : DS := (sSeq (sAsg (dFn 1 (φ_p_tupled 8) (aCons (dV 0) aNil)) (gN 1))
  (sSeq (sIf (bNot (dTru (dFn 2 φ_p_are_maps (aCons (dV 1) (aCons (dTup (aCons (dC k_PAIR_maps) (aCons (dC k_THREE_maps) aNil))) aNil))))) sNever sNext)
  (sRet (dV 1))))
noncomputable def φ_p_sure_maps : DF := runF 1 2 b_p_sure_maps
theorem c_p_sure_maps (F : Facts K mg) : CalD P w K mg base 10 "sure_maps" 1 φ_p_sure_maps := by
  exact calD (k := 9) (n := 1) ["maps", "own"] ["maps"] F.d_p_sure_maps (by rfl) rfl (fun _ _ _ _ _ _ us hl => match us, hl with | [_], _ => rfl) fun f cdv A outer s H E hr tk hp => by
    have hN : (["maps", "own"] : List Str).Nodup := by decide
    have hu64 : (A.deeper (envOfC "sure_maps" (defScope (top 53)) s.heap.objs.size f cdv)).units + 64 < cLine := by have := hr.un; omega
    have hu65 : (A.deeper (envOfC "sure_maps" (defScope (top 53)) s.heap.objs.size f cdv)).units + 65 < cLine := by have := hr.un; omega
    have hu1 : (A.deeper (envOfC "sure_maps" (defScope (top 53)) s.heap.objs.size f cdv)).units + 1 < cLine := by have := hr.un; omega
    exact (pdss_cons (pds_set (i := 1) hN (pd_callC (c_p_tupled F) (by omega) hr tk (pda_cons (pd_v 0) pda_nil)))
    (pdss_cons (pds_if (pt_notD (pt_truD (pd_callC (c_p_are_maps F) (by omega) hr tk (pda_cons (pd_v 1) (pda_cons (pd_tup (pda_cons (pd_con F.k_PAIR_maps) (pda_cons (pd_con F.k_THREE_maps) pda_nil))) pda_nil))))) (pdss_one pds_never) pdss_nil)
    (pdss_one (pds_ret (pd_v 1)))))
noncomputable def b_p_behind : DS := (sRet (dTup (aCons (dFn 2 φ_p_multiply (aCons (dBin oIx (dV 0) (dC (.int 0))) (aCons (dBin oIx (dV 1) (dC (.int 0))) aNil))) (aCons (dFn 2 φ_p_add (aCons (dFn 2 φ_p_multiply (aCons (dBin oIx (dV 0) (dC (.int 0))) (aCons (dBin oIx (dV 1) (dC (.int 1))) aNil))) (aCons (dBin oIx (dV 0) (dC (.int 1))) aNil))) aNil))))
noncomputable def φ_p_behind : DF := runF 2 2 b_p_behind
theorem c_p_behind (F : Facts K mg) : CalD P w K mg base 4 "behind" 2 φ_p_behind := by
  exact calD (k := 3) (n := 2) ["one", "other"] ["one", "other"] F.d_p_behind (by rfl) rfl (fun _ _ _ _ _ _ us hl => match us, hl with | [_, _], _ => rfl) fun f cdv A outer s H E hr tk hp => by
    have hN : (["one", "other"] : List Str).Nodup := by decide
    have hu64 : (A.deeper (envOfC "behind" (defScope (top 54)) s.heap.objs.size f cdv)).units + 64 < cLine := by have := hr.un; omega
    have hu65 : (A.deeper (envOfC "behind" (defScope (top 54)) s.heap.objs.size f cdv)).units + 65 < cLine := by have := hr.un; omega
    have hu1 : (A.deeper (envOfC "behind" (defScope (top 54)) s.heap.objs.size f cdv)).units + 1 < cLine := by have := hr.un; omega
    exact (pdss_one (pds_ret (pd_tup (pda_cons (pd_callC (c_p_multiply F) (by omega) hr tk (pda_cons (pd_ix (pd_v 0) pd_int) (pda_cons (pd_ix (pd_v 1) pd_int) pda_nil))) (pda_cons (pd_callC (c_p_add F) (by omega) hr tk (pda_cons (pd_callC (c_p_multiply F) (by omega) hr tk (pda_cons (pd_ix (pd_v 0) pd_int) (pda_cons (pd_ix (pd_v 1) pd_int) pda_nil))) (pda_cons (pd_ix (pd_v 0) pd_int) pda_nil))) pda_nil)))))
noncomputable def b_p_undone_map : DS := (sRet (dTup (aCons (dFn 2 φ_p_divide (aCons (dC k_ONE) (aCons (dBin oIx (dV 0) (dC (.int 0))) aNil))) (aCons (dFn 1 φ_p_opposite (aCons (dFn 2 φ_p_divide (aCons (dBin oIx (dV 0) (dC (.int 1))) (aCons (dBin oIx (dV 0) (dC (.int 0))) aNil))) aNil)) aNil))))
noncomputable def φ_p_undone_map : DF := runF 1 1 b_p_undone_map
theorem c_p_undone_map (F : Facts K mg) : CalD P w K mg base 4 "undone_map" 1 φ_p_undone_map := by
  exact calD (k := 3) (n := 1) ["own"] ["own"] F.d_p_undone_map (by rfl) rfl (fun _ _ _ _ _ _ us hl => match us, hl with | [_], _ => rfl) fun f cdv A outer s H E hr tk hp => by
    have hN : (["own"] : List Str).Nodup := by decide
    have hu64 : (A.deeper (envOfC "undone_map" (defScope (top 55)) s.heap.objs.size f cdv)).units + 64 < cLine := by have := hr.un; omega
    have hu65 : (A.deeper (envOfC "undone_map" (defScope (top 55)) s.heap.objs.size f cdv)).units + 65 < cLine := by have := hr.un; omega
    have hu1 : (A.deeper (envOfC "undone_map" (defScope (top 55)) s.heap.objs.size f cdv)).units + 1 < cLine := by have := hr.un; omega
    exact (pdss_one (pds_ret (pd_tup (pda_cons (pd_callC (c_p_divide F) (by omega) hr tk (pda_cons (pd_con F.k_ONE) (pda_cons (pd_ix (pd_v 0) pd_int) pda_nil))) (pda_cons (pd_callC (c_p_opposite F) (by omega) hr tk (pda_cons (pd_callC (c_p_divide F) (by omega) hr tk (pda_cons (pd_ix (pd_v 0) pd_int) (pda_cons (pd_ix (pd_v 0) pd_int) pda_nil))) pda_nil)) pda_nil)))))
noncomputable def b_p_led_by : DS := (sRet (dFn 2 φ_p_add (aCons (dFn 2 φ_p_multiply (aCons (dBin oIx (dV 0) (dC (.int 0))) (aCons (dV 1) aNil))) (aCons (dBin oIx (dV 0) (dC (.int 1))) aNil))))
noncomputable def φ_p_led_by : DF := runF 2 2 b_p_led_by
theorem c_p_led_by (F : Facts K mg) : CalD P w K mg base 4 "led_by" 2 φ_p_led_by := by
  exact calD (k := 3) (n := 2) ["own", "place"] ["own", "place"] F.d_p_led_by (by rfl) rfl (fun _ _ _ _ _ _ us hl => match us, hl with | [_, _], _ => rfl) fun f cdv A outer s H E hr tk hp => by
    have hN : (["own", "place"] : List Str).Nodup := by decide
    have hu64 : (A.deeper (envOfC "led_by" (defScope (top 56)) s.heap.objs.size f cdv)).units + 64 < cLine := by have := hr.un; omega
    have hu65 : (A.deeper (envOfC "led_by" (defScope (top 56)) s.heap.objs.size f cdv)).units + 65 < cLine := by have := hr.un; omega
    have hu1 : (A.deeper (envOfC "led_by" (defScope (top 56)) s.heap.objs.size f cdv)).units + 1 < cLine := by have := hr.un; omega
    exact (pdss_one (pds_ret (pd_callC (c_p_add F) (by omega) hr tk (pda_cons (pd_callC (c_p_multiply F) (by omega) hr tk (pda_cons (pd_ix (pd_v 0) pd_int) (pda_cons (pd_v 1) pda_nil))) (pda_cons (pd_ix (pd_v 0) pd_int) pda_nil)))))
noncomputable def b_p_of_word : DS := (sSeq (sPar 2 3 (aCons (dNum (lLc (iSeq (dV 0)) (gN 5) bYes (dFn 1 φ_p_undone_map (aCons (dV 5) aNil)) [5])) (aCons (dC k_STILL) aNil)))
  (sSeq (sFor (iSeq (dV 1)) (gN 4) (sAsg (dFn 2 φ_p_behind (aCons (dV 3) (aCons (dIf (dTest (dBin oGt (dV 4) (dC (.int 0)))) (dBin oIx (dV 0) (dBin oSub (dV 4) (dC (.int 1)))) (dBin oIx (dV 2) (dBin oSub (dUn uNeg (dV 4)) (dC (.int 1))))) aNil))) (gN 3)))
  (sRet (dV 3))))
noncomputable def φ_p_of_word : DF := runF 2 6 b_p_of_word
theorem c_p_of_word (F : Facts K mg) : CalD P w K mg base 5 "of_word" 2 φ_p_of_word := by
  exact calD (k := 4) (n := 2) ["maps", "word", "backs", "found", "letter", "own"] ["maps", "word"] F.d_p_of_word (by rfl) rfl (fun _ _ _ _ _ _ us hl => match us, hl with | [_, _], _ => rfl) fun f cdv A outer s H E hr tk hp => by
    have hN : (["maps", "word", "backs", "found", "letter", "own"] : List Str).Nodup := by decide
    have hu64 : (A.deeper (envOfC "of_word" (defScope (top 57)) s.heap.objs.size f cdv)).units + 64 < cLine := by have := hr.un; omega
    have hu65 : (A.deeper (envOfC "of_word" (defScope (top 57)) s.heap.objs.size f cdv)).units + 65 < cLine := by have := hr.un; omega
    have hu1 : (A.deeper (envOfC "of_word" (defScope (top 57)) s.heap.objs.size f cdv)).units + 1 < cLine := by have := hr.un; omega
    exact (pdss_cons (pds_par (i := 2) (j := 3) rfl hN (pda_cons (pd_num (pdl_lc (own := [("own", 5)]) rfl hN (pdj_seq (pd_v 0)) (blkOk_by (by rfl)) (fun _ _ _ _ _ => (pdg_n (i := 5) hN)) (fun _ _ _ _ _ => pdts_nil) (fun _ _ _ _ _ => (pd_callC (c_p_undone_map F) (by omega) hr takesF (pda_cons (pd_v 5) pda_nil))) (sl_n (by decide)))) (pda_cons (pd_con F.k_STILL) pda_nil)))
    (pdss_cons (pds_for hp rfl (pdj_seq (pd_v 1)) (pdg_n (i := 4) hN) (pdss_one (pds_set (i := 3) hN (pd_callC (c_p_behind F) (by omega) hr tk (pda_cons (pd_v 3) (pda_cons (pd_if (pt_cmpD op_gt od_gt (pd_v 4) pd_int) (pd_ix (pd_v 0) (pd_bin op_sub od_sub (pd_v 4) pd_int)) (pd_ix (pd_v 2) (pd_bin op_sub od_sub (pd_un un_neg ud_neg (pd_v 4)) pd_int))) pda_nil))))))
    (pdss_one (pds_ret (pd_v 3)))))
noncomputable def b_p_told_letters : DS := (sSeq (sFor (iSeq (dV 1)) (gN 2) (sIf (dTest (dBin oGt (dCall fAbs (aCons (dV 2) aNil)) (dV 0))) sNever sNext))
  (sRet (dV 1)))
noncomputable def φ_p_told_letters : DF := runF 2 3 b_p_told_letters
theorem c_p_told_letters (F : Facts K mg) : CalD P w K mg base 1 "told_letters" 2 φ_p_told_letters := by
  exact calD (k := 0) (n := 2) ["many", "word", "letter"] ["many", "word"] F.d_p_told_letters (by rfl) rfl (fun _ _ _ _ _ _ us hl => match us, hl with | [_, _], _ => rfl) fun f cdv A outer s H E hr tk hp => by
    have hN : (["many", "word", "letter"] : List Str).Nodup := by decide
    have hu64 : (A.deeper (envOfC "told_letters" (defScope (top 58)) s.heap.objs.size f cdv)).units + 64 < cLine := by have := hr.un; omega
    have hu65 : (A.deeper (envOfC "told_letters" (defScope (top 58)) s.heap.objs.size f cdv)).units + 65 < cLine := by have := hr.un; omega
    have hu1 : (A.deeper (envOfC "told_letters" (defScope (top 58)) s.heap.objs.size f cdv)).units + 1 < cLine := by have := hr.un; omega
    exact (pdss_cons (pds_for hp rfl (pdj_seq (pd_v 1)) (pdg_n (i := 2) hN) (pdss_one (pds_if (pt_cmpD op_gt od_gt (pd_callB call_abs cd_abs F.B.abs (by decide +kernel) (pda_cons (pd_v 2) pda_nil)) (pd_v 0)) (pdss_one pds_never) pdss_nil)))
    (pdss_one (pds_ret (pd_v 1))))
noncomputable def b_p_map_row : DS := (sSeq (sPar 1 2 (aCons (dFn 1 (φ_p_tupled 8) (aCons (dV 0) aNil)) (aCons (dC k_STILL) aNil)))
  (sSeq (sIf (bOr (bNot (dTru (dIsi "tuple" (dV 1)))) (bNot (dTru (dL φAll (lLc (iSeq (dV 1)) (gN 3) bYes (dFn 1 φ_p_is_map (aCons (dV 3) aNil)) [3]))))) sNever sNext)
  (sSeq (sFor (iSeq (dV 1)) (gN 3) (sAsg (dFn 2 φ_p_behind (aCons (dV 2) (aCons (dV 3) aNil))) (gN 2)))
  (sRet (dV 2)))))
noncomputable def φ_p_map_row : DF := runF 1 4 b_p_map_row
theorem c_p_map_row (F : Facts K mg) : CalD P w K mg base 10 "map_row" 1 φ_p_map_row := by
  exact calD (k := 9) (n := 1) ["row", "own", "found", "part"] ["row"] F.d_p_map_row (by rfl) rfl (fun _ _ _ _ _ _ us hl => match us, hl with | [_], _ => rfl) fun f cdv A outer s H E hr tk hp => by
    have hN : (["row", "own", "found", "part"] : List Str).Nodup := by decide
    have hu64 : (A.deeper (envOfC "map_row" (defScope (top 59)) s.heap.objs.size f cdv)).units + 64 < cLine := by have := hr.un; omega
    have hu65 : (A.deeper (envOfC "map_row" (defScope (top 59)) s.heap.objs.size f cdv)).units + 65 < cLine := by have := hr.un; omega
    have hu1 : (A.deeper (envOfC "map_row" (defScope (top 59)) s.heap.objs.size f cdv)).units + 1 < cLine := by have := hr.un; omega
    exact (pdss_cons (pds_par (i := 1) (j := 2) rfl hN (pda_cons (pd_callC (c_p_tupled F) (by omega) hr tk (pda_cons (pd_v 0) pda_nil)) (pda_cons (pd_con F.k_STILL) pda_nil)))
    (pdss_cons (pds_if (PDw.t (pw_orD (pt_notD (pt_truD (pd_isi F.B.isinstance F.B.tuple (by decide +kernel) (by decide) (pd_v 1)))) (pw_or1D (pt_notD (pt_truD (pd_LB (cr_all rfl) ld_all F.B.all (by decide +kernel) (pdl_lc (own := [("part", 3)]) rfl hN (pdj_seq (pd_v 1)) (blkOk_by (by rfl)) (fun _ _ _ _ _ => (pdg_n (i := 3) hN)) (fun _ _ _ _ _ => pdts_nil) (fun _ _ _ _ _ => (pd_callC (c_p_is_map F) (by omega) hr takesF (pda_cons (pd_v 3) pda_nil))) (sl_n (by decide))))))))) (pdss_one pds_never) pdss_nil)
    (pdss_cons (pds_for hp rfl (pdj_seq (pd_v 1)) (pdg_n (i := 3) hN) (pdss_one (pds_set (i := 2) hN (pd_callC (c_p_behind F) (by omega) hr tk (pda_cons (pd_v 2) (pda_cons (pd_v 3) pda_nil))))))
    (pdss_one (pds_ret (pd_v 2))))))
noncomputable def b_p_map_back : DS := (sRet (dFn 1 φ_p_undone_map (aCons (dFn 1 φ_p_sure_map (aCons (dV 0) aNil)) aNil)))
noncomputable def φ_p_map_back : DF := runF 1 1 b_p_map_back
theorem c_p_map_back (F : Facts K mg) : CalD P w K mg base 11 "map_back" 1 φ_p_map_back := by
  exact calD (k := 10) (n := 1) ["mapping"] ["mapping"] F.d_p_map_back (by rfl) rfl (fun _ _ _ _ _ _ us hl => match us, hl with | [_], _ => rfl) fun f cdv A outer s H E hr tk hp => by
    have hN : (["mapping"] : List Str).Nodup := by decide
    have hu64 : (A.deeper (envOfC "map_back" (defScope (top 60)) s.heap.objs.size f cdv)).units + 64 < cLine := by have := hr.un; omega
    have hu65 : (A.deeper (envOfC "map_back" (defScope (top 60)) s.heap.objs.size f cdv)).units + 65 < cLine := by have := hr.un; omega
    have hu1 : (A.deeper (envOfC "map_back" (defScope (top 60)) s.heap.objs.size f cdv)).units + 1 < cLine := by have := hr.un; omega
    exact (pdss_one (pds_ret (pd_callC (c_p_undone_map F) (by omega) hr tk (pda_cons (pd_callC (c_p_sure_map F) (by omega) hr tk (pda_cons (pd_v 0) pda_nil)) pda_nil))))
noncomputable def b_p_often_done : DS := (sSeq (sPar3 2 3 4 (aCons (dIf (dTest (dBin oGe (dV 1) (dC (.int 0)))) (dV 0) (dFn 1 φ_p_undone_map (aCons (dV 0) aNil))) (aCons (dCall fAbs (aCons (dV 1) aNil)) (aCons (dC k_STILL) aNil))))
  (sSeq (sWhile (dTest (dBin oGt (dV 3) (dC (.int 0)))) (sSeq (sAsg (dIf (dTest (dBin oEq (dBin oMod (dV 3) (dC k_PAIR_maps)) (dC (.int 1)))) (dFn 2 φ_p_behind (aCons (dV 4) (aCons (dV 2) aNil))) (dV 4)) (gN 4))
  (sPar 2 3 (aCons (dFn 2 φ_p_behind (aCons (dV 2) (aCons (dV 2) aNil))) (aCons (dBin oDiv (dV 3) (dC k_PAIR_maps)) aNil)))))
  (sRet (dV 4))))
noncomputable def φ_p_often_done : DF := runF 2 5 b_p_often_done
theorem c_p_often_done (F : Facts K mg) : CalD P w K mg base 5 "often_done" 2 φ_p_often_done := by
  exact calD (k := 4) (n := 2) ["own", "many", "base", "left", "found"] ["own", "many"] F.d_p_often_done (by rfl) rfl (fun _ _ _ _ _ _ us hl => match us, hl with | [_, _], _ => rfl) fun f cdv A outer s H E hr tk hp => by
    have hN : (["own", "many", "base", "left", "found"] : List Str).Nodup := by decide
    have hu64 : (A.deeper (envOfC "often_done" (defScope (top 61)) s.heap.objs.size f cdv)).units + 64 < cLine := by have := hr.un; omega
    have hu65 : (A.deeper (envOfC "often_done" (defScope (top 61)) s.heap.objs.size f cdv)).units + 65 < cLine := by have := hr.un; omega
    have hu1 : (A.deeper (envOfC "often_done" (defScope (top 61)) s.heap.objs.size f cdv)).units + 1 < cLine := by have := hr.un; omega
    exact (pdss_cons (pds_par3 (i := 2) (j := 3) (l := 4) rfl hN (pda_cons (pd_if (pt_cmpD op_ge od_ge (pd_v 1) pd_int) (pd_v 0) (pd_callC (c_p_undone_map F) (by omega) hr tk (pda_cons (pd_v 0) pda_nil))) (pda_cons (pd_callB call_abs cd_abs F.B.abs (by decide +kernel) (pda_cons (pd_v 1) pda_nil)) (pda_cons (pd_con F.k_STILL) pda_nil))))
    (pdss_cons (pds_while hp (pt_cmpD op_gt od_gt (pd_v 3) pd_int) (pdss_cons (pds_set (i := 4) hN (pd_if (pt_cmpD (op_eqD hu64) od_eq (pd_bin op_modN od_mod (pd_v 3) (pd_con F.k_PAIR_maps)) pd_int) (pd_callC (c_p_behind F) (by omega) hr tk (pda_cons (pd_v 4) (pda_cons (pd_v 2) pda_nil))) (pd_v 4)))
    (pdss_one (pds_par (i := 2) (j := 3) rfl hN (pda_cons (pd_callC (c_p_behind F) (by omega) hr tk (pda_cons (pd_v 2) (pda_cons (pd_v 2) pda_nil))) (pda_cons (pd_bin op_fdivD od_div (pd_v 3) (pd_con F.k_PAIR_maps)) pda_nil))))))
    (pdss_one (pds_ret (pd_v 4)))))
noncomputable def b_p_map_often : DS := (sSeq (sAsg (dFn 1 φ_p_sure_map (aCons (dV 0) aNil)) (gN 2))
  (sRet (dFn 2 φ_p_often_done (aCons (dV 2) (aCons (dFn 1 φ_p_sure_number (aCons (dV 1) aNil)) aNil)))))
noncomputable def φ_p_map_often : DF := runF 2 3 b_p_map_often
theorem c_p_map_often (F : Facts K mg) : CalD P w K mg base 11 "map_often" 2 φ_p_map_often := by
  exact calD (k := 10) (n := 2) ["mapping", "many", "own"] ["mapping", "many"] F.d_p_map_often (by rfl) rfl (fun _ _ _ _ _ _ us hl => match us, hl with | [_, _], _ => rfl) fun f cdv A outer s H E hr tk hp => by
    have hN : (["mapping", "many", "own"] : List Str).Nodup := by decide
    have hu64 : (A.deeper (envOfC "map_often" (defScope (top 62)) s.heap.objs.size f cdv)).units + 64 < cLine := by have := hr.un; omega
    have hu65 : (A.deeper (envOfC "map_often" (defScope (top 62)) s.heap.objs.size f cdv)).units + 65 < cLine := by have := hr.un; omega
    have hu1 : (A.deeper (envOfC "map_often" (defScope (top 62)) s.heap.objs.size f cdv)).units + 1 < cLine := by have := hr.un; omega
    exact (pdss_cons (pds_set (i := 2) hN (pd_callC (c_p_sure_map F) (by omega) hr tk (pda_cons (pd_v 0) pda_nil)))
    (pdss_one (pds_ret (pd_callC (c_p_often_done F) (by omega) hr tk (pda_cons (pd_v 2) (pda_cons (pd_callC (c_p_sure_number F) (by omega) hr tk (pda_cons (pd_v 1) pda_nil)) pda_nil))))))
noncomputable def b_p_led : DS := (sSeq (sAsg (dFn 1 φ_p_sure_map (aCons (dV 0) aNil)) (gN 2))
  (sRet (dFn 2 φ_p_led_by (aCons (dV 2) (aCons (dFn 1 φ_p_sure_fraction (aCons (dV 1) aNil)) aNil)))))
noncomputable def φ_p_led : DF := runF 2 3 b_p_led
theorem c_p_led (F : Facts K mg) : CalD P w K mg base 11 "led" 2 φ_p_led := by
  exact calD (k := 10) (n := 2) ["mapping", "place", "own"] ["mapping", "place"] F.d_p_led (by rfl) rfl (fun _ _ _ _ _ _ us hl => match us, hl with | [_, _], _ => rfl) fun f cdv A outer s H E hr tk hp => by
    have hN : (["mapping", "place", "own"] : List Str).Nodup := by decide
    have hu64 : (A.deeper (envOfC "led" (defScope (top 63)) s.heap.objs.size f cdv)).units + 64 < cLine := by have := hr.un; omega
    have hu65 : (A.deeper (envOfC "led" (defScope (top 63)) s.heap.objs.size f cdv)).units + 65 < cLine := by have := hr.un; omega
    have hu1 : (A.deeper (envOfC "led" (defScope (top 63)) s.heap.objs.size f cdv)).units + 1 < cLine := by have := hr.un; omega
    exact (pdss_cons (pds_set (i := 2) hN (pd_callC (c_p_sure_map F) (by omega) hr tk (pda_cons (pd_v 0) pda_nil)))
    (pdss_one (pds_ret (pd_callC (c_p_led_by F) (by omega) hr tk (pda_cons (pd_v 2) (pda_cons (pd_callC (c_p_sure_fraction F) (by omega) hr tk (pda_cons (pd_v 1) pda_nil)) pda_nil))))))
noncomputable def b_p_kept_place : DS := (sRet (dIf (dTest (dBin oNe (dBin oIx (dV 0) (dC (.int 0))) (dC k_ONE))) (dFn 2 φ_p_divide (aCons (dBin oIx (dV 0) (dC (.int 1))) (aCons (dFn 2 φ_p_take (aCons (dC k_ONE) (aCons (dBin oIx (dV 0) (dC (.int 0))) aNil))) aNil))) (dC .non)))
noncomputable def φ_p_kept_place : DF := runF 1 1 b_p_kept_place
theorem c_p_kept_place (F : Facts K mg) : CalD P w K mg base 4 "kept_place" 1 φ_p_kept_place := by
  exact calD (k := 3) (n := 1) ["own"] ["own"] F.d_p_kept_place (by rfl) rfl (fun _ _ _ _ _ _ us hl => match us, hl with | [_], _ => rfl) fun f cdv A outer s H E hr tk hp => by
    have hN : (["own"] : List Str).Nodup := by decide
    have hu64 : (A.deeper (envOfC "kept_place" (defScope (top 64)) s.heap.objs.size f cdv)).units + 64 < cLine := by have := hr.un; omega
    have hu65 : (A.deeper (envOfC "kept_place" (defScope (top 64)) s.heap.objs.size f cdv)).units + 65 < cLine := by have := hr.un; omega
    have hu1 : (A.deeper (envOfC "kept_place" (defScope (top 64)) s.heap.objs.size f cdv)).units + 1 < cLine := by have := hr.un; omega
    exact (pdss_one (pds_ret (pd_if (pt_cmpD (op_neD hu64) od_ne (pd_ix (pd_v 0) pd_int) (pd_con F.k_ONE)) (pd_callC (c_p_divide F) (by omega) hr tk (pda_cons (pd_ix (pd_v 0) pd_int) (pda_cons (pd_callC (c_p_take F) (by omega) hr tk (pda_cons (pd_con F.k_ONE) (pda_cons (pd_ix (pd_v 0) pd_int) pda_nil))) pda_nil))) pd_non)))
noncomputable def b_p_kept_point : DS := (sSeq (sAsg (dFn 1 φ_p_kept_place (aCons (dFn 1 φ_p_sure_map (aCons (dV 0) aNil)) aNil)) (gN 1))
  (sSeq (sIf (dTest (dBin oIsN (dV 1) (dC .non))) (sRaise "NoPaper") sNext)
  (sRet (dV 1))))
noncomputable def φ_p_kept_point : DF := runF 1 2 b_p_kept_point
theorem c_p_kept_point (F : Facts K mg) : CalD P w K mg base 11 "kept_point" 1 φ_p_kept_point := by
  exact calD (k := 10) (n := 1) ["mapping", "found"] ["mapping"] F.d_p_kept_point (by rfl) rfl (fun _ _ _ _ _ _ us hl => match us, hl with | [_], _ => rfl) fun f cdv A outer s H E hr tk hp => by
    have hN : (["mapping", "found"] : List Str).Nodup := by decide
    have hu64 : (A.deeper (envOfC "kept_point" (defScope (top 65)) s.heap.objs.size f cdv)).units + 64 < cLine := by have := hr.un; omega
    have hu65 : (A.deeper (envOfC "kept_point" (defScope (top 65)) s.heap.objs.size f cdv)).units + 65 < cLine := by have := hr.un; omega
    have hu1 : (A.deeper (envOfC "kept_point" (defScope (top 65)) s.heap.objs.size f cdv)).units + 1 < cLine := by have := hr.un; omega
    exact (pdss_cons (pds_set (i := 1) hN (pd_callC (c_p_kept_place F) (by omega) hr tk (pda_cons (pd_callC (c_p_sure_map F) (by omega) hr tk (pda_cons (pd_v 0) pda_nil)) pda_nil)))
    (pdss_cons (pds_if (pt_cmpD op_isN od_isN (pd_v 1) pd_non) (pdss_one (F.x_NoPaper.raise rfl tk)) pdss_nil)
    (pdss_one (pds_ret (pd_v 1)))))
noncomputable def b_p_word_map : DS := (sSeq (sPar 2 3 (aCons (dFn 1 φ_p_sure_maps (aCons (dV 0) aNil)) (aCons (dFn 1 φ_p_sure_word (aCons (dV 1) aNil)) aNil)))
  (sRet (dFn 2 φ_p_of_word (aCons (dV 2) (aCons (dFn 2 φ_p_told_letters (aCons (dCall fLen (aCons (dV 2) aNil)) (aCons (dV 3) aNil))) aNil)))))
noncomputable def φ_p_word_map : DF := runF 2 4 b_p_word_map
theorem c_p_word_map (F : Facts K mg) : CalD P w K mg base 11 "word_map" 2 φ_p_word_map := by
  exact calD (k := 10) (n := 2) ["maps", "word", "own", "far"] ["maps", "word"] F.d_p_word_map (by rfl) rfl (fun _ _ _ _ _ _ us hl => match us, hl with | [_, _], _ => rfl) fun f cdv A outer s H E hr tk hp => by
    have hN : (["maps", "word", "own", "far"] : List Str).Nodup := by decide
    have hu64 : (A.deeper (envOfC "word_map" (defScope (top 66)) s.heap.objs.size f cdv)).units + 64 < cLine := by have := hr.un; omega
    have hu65 : (A.deeper (envOfC "word_map" (defScope (top 66)) s.heap.objs.size f cdv)).units + 65 < cLine := by have := hr.un; omega
    have hu1 : (A.deeper (envOfC "word_map" (defScope (top 66)) s.heap.objs.size f cdv)).units + 1 < cLine := by have := hr.un; omega
    exact (pdss_cons (pds_par (i := 2) (j := 3) rfl hN (pda_cons (pd_callC (c_p_sure_maps F) (by omega) hr tk (pda_cons (pd_v 0) pda_nil)) (pda_cons (pd_callC (c_p_sure_word F) (by omega) hr tk (pda_cons (pd_v 1) pda_nil)) pda_nil)))
    (pdss_one (pds_ret (pd_callC (c_p_of_word F) (by omega) hr tk (pda_cons (pd_v 2) (pda_cons (pd_callC (c_p_told_letters F) (by omega) hr tk (pda_cons (pd_callB call_len_seq cd_len F.B.len (by decide +kernel) (pda_cons (pd_v 2) pda_nil)) (pda_cons (pd_v 3) pda_nil))) pda_nil))))))
noncomputable def b_p_map_between : DS := (sSeq (sPar 4 5 (aCons (dFn 1 φ_p_sure_fraction (aCons (dV 0) aNil)) (aCons (dFn 1 φ_p_sure_fraction (aCons (dV 1) aNil)) aNil)))
  (sSeq (sPar 6 7 (aCons (dFn 1 φ_p_sure_fraction (aCons (dV 2) aNil)) (aCons (dFn 1 φ_p_sure_fraction (aCons (dV 3) aNil)) aNil)))
  (sSeq (sIf (bOr (dTest (dBin oEq (dV 4) (dV 5))) (dTest (dBin oEq (dV 6) (dV 7)))) sNever sNext)
  (sSeq (sAsg (dFn 2 φ_p_divide (aCons (dFn 2 φ_p_take (aCons (dV 7) (aCons (dV 6) aNil))) (aCons (dFn 2 φ_p_take (aCons (dV 5) (aCons (dV 4) aNil))) aNil))) (gN 8))
  (sRet (dTup (aCons (dV 8) (aCons (dFn 2 φ_p_take (aCons (dV 6) (aCons (dFn 2 φ_p_multiply (aCons (dV 8) (aCons (dV 4) aNil))) aNil))) aNil))))))))
noncomputable def φ_p_map_between : DF := runF 4 9 b_p_map_between
theorem c_p_map_between (F : Facts K mg) : CalD P w K mg base 11 "map_between" 4 φ_p_map_between := by
  exact calD (k := 10) (n := 4) ["one", "other", "goal", "far", "near", "last", "first", "then", "stretch"] ["one", "other", "goal", "far"] F.d_p_map_between (by rfl) rfl (fun _ _ _ _ _ _ us hl => match us, hl with | [_, _, _, _], _ => rfl) fun f cdv A outer s H E hr tk hp => by
    have hN : (["one", "other", "goal", "far", "near", "last", "first", "then", "stretch"] : List Str).Nodup := by decide
    have hu64 : (A.deeper (envOfC "map_between" (defScope (top 67)) s.heap.objs.size f cdv)).units + 64 < cLine := by have := hr.un; omega
    have hu65 : (A.deeper (envOfC "map_between" (defScope (top 67)) s.heap.objs.size f cdv)).units + 65 < cLine := by have := hr.un; omega
    have hu1 : (A.deeper (envOfC "map_between" (defScope (top 67)) s.heap.objs.size f cdv)).units + 1 < cLine := by have := hr.un; omega
    exact (pdss_cons (pds_par (i := 4) (j := 5) rfl hN (pda_cons (pd_callC (c_p_sure_fraction F) (by omega) hr tk (pda_cons (pd_v 0) pda_nil)) (pda_cons (pd_callC (c_p_sure_fraction F) (by omega) hr tk (pda_cons (pd_v 1) pda_nil)) pda_nil)))
    (pdss_cons (pds_par (i := 6) (j := 7) rfl hN (pda_cons (pd_callC (c_p_sure_fraction F) (by omega) hr tk (pda_cons (pd_v 2) pda_nil)) (pda_cons (pd_callC (c_p_sure_fraction F) (by omega) hr tk (pda_cons (pd_v 3) pda_nil)) pda_nil)))
    (pdss_cons (pds_if (PDw.t (pw_orD (pt_cmpD (op_eqD hu64) od_eq (pd_v 4) (pd_v 5)) (pw_or1D (pt_cmpD (op_eqD hu64) od_eq (pd_v 6) (pd_v 7))))) (pdss_one pds_never) pdss_nil)
    (pdss_cons (pds_set (i := 8) hN (pd_callC (c_p_divide F) (by omega) hr tk (pda_cons (pd_callC (c_p_take F) (by omega) hr tk (pda_cons (pd_v 7) (pda_cons (pd_v 6) pda_nil))) (pda_cons (pd_callC (c_p_take F) (by omega) hr tk (pda_cons (pd_v 5) (pda_cons (pd_v 4) pda_nil))) pda_nil))))
    (pdss_one (pds_ret (pd_tup (pda_cons (pd_v 8) (pda_cons (pd_callC (c_p_take F) (by omega) hr tk (pda_cons (pd_v 6) (pda_cons (pd_callC (c_p_multiply F) (by omega) hr tk (pda_cons (pd_v 8) (pda_cons (pd_v 4) pda_nil))) pda_nil))) pda_nil)))))))))
noncomputable def b_p_turned_map : DS := (sRet (dFn 2 φ_p_behind (aCons (dFn 2 φ_p_behind (aCons (dV 1) (aCons (dV 0) aNil))) (aCons (dFn 1 φ_p_undone_map (aCons (dV 1) aNil)) aNil))))
noncomputable def φ_p_turned_map : DF := runF 2 2 b_p_turned_map
theorem c_p_turned_map (F : Facts K mg) : CalD P w K mg base 5 "turned_map" 2 φ_p_turned_map := by
  exact calD (k := 4) (n := 2) ["own", "turner"] ["own", "turner"] F.d_p_turned_map (by rfl) rfl (fun _ _ _ _ _ _ us hl => match us, hl with | [_, _], _ => rfl) fun f cdv A outer s H E hr tk hp => by
    have hN : (["own", "turner"] : List Str).Nodup := by decide
    have hu64 : (A.deeper (envOfC "turned_map" (defScope (top 68)) s.heap.objs.size f cdv)).units + 64 < cLine := by have := hr.un; omega
    have hu65 : (A.deeper (envOfC "turned_map" (defScope (top 68)) s.heap.objs.size f cdv)).units + 65 < cLine := by have := hr.un; omega
    have hu1 : (A.deeper (envOfC "turned_map" (defScope (top 68)) s.heap.objs.size f cdv)).units + 1 < cLine := by have := hr.un; omega
    exact (pdss_one (pds_ret (pd_callC (c_p_behind F) (by omega) hr tk (pda_cons (pd_callC (c_p_behind F) (by omega) hr tk (pda_cons (pd_v 1) (pda_cons (pd_v 0) pda_nil))) (pda_cons (pd_callC (c_p_undone_map F) (by omega) hr tk (pda_cons (pd_v 1) pda_nil)) pda_nil)))))
noncomputable def b_p_maps_turned : DS := (sSeq (sAsg (dTup (aCons (dFn 1 φ_p_sure_maps (aCons (dV 0) aNil)) (aCons (dFn 1 φ_p_sure_map (aCons (dV 1) aNil)) aNil))) (gT 2 (gC (gN 2) (gC (gN 3) gN0))))
  (sRet (dL φTup (lLc (iSeq (dV 2)) (gN 4) bYes (dFn 2 φ_p_turned_map (aCons (dV 4) (aCons (dV 3) aNil))) [4]))))
noncomputable def φ_p_maps_turned : DF := runF 2 5 b_p_maps_turned
theorem c_p_maps_turned (F : Facts K mg) : CalD P w K mg base 11 "maps_turned" 2 φ_p_maps_turned := by
  exact calD (k := 10) (n := 2) ["maps", "mapping", "own", "turner", "part"] ["maps", "mapping"] F.d_p_maps_turned (by rfl) rfl (fun _ _ _ _ _ _ us hl => match us, hl with | [_, _], _ => rfl) fun f cdv A outer s H E hr tk hp => by
    have hN : (["maps", "mapping", "own", "turner", "part"] : List Str).Nodup := by decide
    have hu64 : (A.deeper (envOfC "maps_turned" (defScope (top 69)) s.heap.objs.size f cdv)).units + 64 < cLine := by have := hr.un; omega
    have hu65 : (A.deeper (envOfC "maps_turned" (defScope (top 69)) s.heap.objs.size f cdv)).units + 65 < cLine := by have := hr.un; omega
    have hu1 : (A.deeper (envOfC "maps_turned" (defScope (top 69)) s.heap.objs.size f cdv)).units + 1 < cLine := by have := hr.un; omega
    exact (pdss_cons (pds_asg (pd_tup (pda_cons (pd_callC (c_p_sure_maps F) (by omega) hr tk (pda_cons (pd_v 0) pda_nil)) (pda_cons (pd_callC (c_p_sure_map F) (by omega) hr tk (pda_cons (pd_v 1) pda_nil)) pda_nil))) (pdg_t rfl (pdgs_cons (pdg_n (i := 2) hN) (pdgs_cons (pdg_n (i := 3) hN) pdgs_nil))))
    (pdss_one (pds_ret (pd_LT call_tuple_of ld_tup F.B.tuple (by decide +kernel) (pdl_lc (own := [("part", 4)]) rfl hN (pdj_seq (pd_v 2)) (blkOk_by (by rfl)) (fun _ _ _ _ _ => (pdg_n (i := 4) hN)) (fun _ _ _ _ _ => pdts_nil) (fun _ _ _ _ _ => (pd_callC (c_p_turned_map F) (by omega) hr takesF (pda_cons (pd_v 4) (pda_cons (pd_v 3) pda_nil)))) (sl_n (by decide)))))))
noncomputable def b_p_fits_rest : DS := (sRet (dAnd (dFn 2 φ_p_are_numbers (aCons (dV 1) (aCons (dC k_PAIR_restmaps) aNil))) (dAnd (dChain oLt oLt (dC (.int 0)) (dBin oIx (dV 1) (dC (.int 0))) (dV 0)) (dChain oLe oLt (dC (.int 0)) (dBin oIx (dV 1) (dC (.int 1))) (dV 0)))))
noncomputable def φ_p_fits_rest : DF := runF 2 2 b_p_fits_rest
theorem c_p_fits_rest (F : Facts K mg) : CalD P w K mg base 3 "fits_rest" 2 φ_p_fits_rest := by
  exact calD (k := 2) (n := 2) ["prime", "thing"] ["prime", "thing"] F.d_p_fits_rest (by rfl) rfl (fun _ _ _ _ _ _ us hl => match us, hl with | [_, _], _ => rfl) fun f cdv A outer s H E hr tk hp => by
    have hN : (["prime", "thing"] : List Str).Nodup := by decide
    have hu64 : (A.deeper (envOfC "fits_rest" (defScope (top 73)) s.heap.objs.size f cdv)).units + 64 < cLine := by have := hr.un; omega
    have hu65 : (A.deeper (envOfC "fits_rest" (defScope (top 73)) s.heap.objs.size f cdv)).units + 65 < cLine := by have := hr.un; omega
    have hu1 : (A.deeper (envOfC "fits_rest" (defScope (top 73)) s.heap.objs.size f cdv)).units + 1 < cLine := by have := hr.un; omega
    exact (pdss_one (pds_ret (pd_andT (pd_callC (c_p_are_numbers F) (by omega) hr tk (pda_cons (pd_v 1) (pda_cons (pd_con F.k_PAIR_restmaps) pda_nil))) (pd_andT (pd_chain op_lt od_lt op_lt od_lt pd_int (pd_ix (pd_v 1) pd_int) (pd_v 0)) (pd_one (pd_chain op_le od_le op_lt od_lt pd_int (pd_ix (pd_v 1) pd_int) (pd_v 0)))))))
noncomputable def b_p_is_rest_map : DS := (sRet (dFn 2 φ_p_fits_rest (aCons (dFn 1 φ_p_sure_prime (aCons (dV 0) aNil)) (aCons (dV 1) aNil))))
noncomputable def φ_p_is_rest_map : DF := runF 2 2 b_p_is_rest_map
theorem c_p_is_rest_map (F : Facts K mg) : CalD P w K mg base 4 "is_rest_map" 2 φ_p_is_rest_map := by
  exact calD (k := 3) (n := 2) ["prime", "thing"] ["prime", "thing"] F.d_p_is_rest_map (by rfl) rfl (fun _ _ _ _ _ _ us hl => match us, hl with | [_, _], _ => rfl) fun f cdv A outer s H E hr tk hp => by
    have hN : (["prime", "thing"] : List Str).Nodup := by decide
    have hu64 : (A.deeper (envOfC "is_rest_map" (defScope (top 74)) s.heap.objs.size f cdv)).units + 64 < cLine := by have := hr.un; omega
    have hu65 : (A.deeper (envOfC "is_rest_map" (defScope (top 74)) s.heap.objs.size f cdv)).units + 65 < cLine := by have := hr.un; omega
    have hu1 : (A.deeper (envOfC "is_rest_map" (defScope (top 74)) s.heap.objs.size f cdv)).units + 1 < cLine := by have := hr.un; omega
    exact (pdss_one (pds_ret (pd_callC (c_p_fits_rest F) (by omega) hr tk (pda_cons (pd_callC (c_p_sure_prime F) (by omega) hr tk (pda_cons (pd_v 0) pda_nil)) (pda_cons (pd_v 1) pda_nil)))))
noncomputable def b_p_sure_rest_map : DS := (sSeq (sAsg (dFn 1 (φ_p_tupled 8) (aCons (dV 1) aNil)) (gN 2))
  (sSeq (sIf (bNot (dTru (dFn 2 φ_p_fits_rest (aCons (dV 0) (aCons (dV 2) aNil))))) sNever sNext)
  (sRet (dV 2))))
noncomputable def φ_p_sure_rest_map : DF := runF 2 3 b_p_sure_rest_map
theorem c_p_sure_rest_map (F : Facts K mg) : CalD P w K mg base 10 "sure_rest_map" 2 φ_p_sure_rest_map := by
  exact calD (k := 9) (n := 2) ["prime", "mapping", "own"] ["prime", "mapping"] F.d_p_sure_rest_map (by rfl) rfl (fun _ _ _ _ _ _ us hl => match us, hl with | [_, _], _ => rfl) fun f cdv A outer s H E hr tk hp => by
    have hN : (["prime", "mapping", "own"] : List Str).Nodup := by decide
    have hu64 : (A.deeper (envOfC "sure_rest_map" (defScope (top 75)) s.heap.objs.size f cdv)).units + 64 < cLine := by have := hr.un; omega
    have hu65 : (A.deeper (envOfC "sure_rest_map" (defScope (top 75)) s.heap.objs.size f cdv)).units + 65 < cLine := by have := hr.un; omega
    have hu1 : (A.deeper (envOfC "sure_rest_map" (defScope (top 75)) s.heap.objs.size f cdv)).units + 1 < cLine := by have := hr.un; omega
    exact (pdss_cons (pds_set (i := 2) hN (pd_callC (c_p_tupled F) (by omega) hr tk (pda_cons (pd_v 1) pda_nil)))
    (pdss_cons (pds_if (pt_notD (pt_truD (pd_callC (c_p_fits_rest F) (by omega) hr tk (pda_cons (pd_v 0) (pda_cons (pd_v 2) pda_nil))))) (pdss_one pds_never) pdss_nil)
    (pdss_one (pds_ret (pd_v 2)))))
noncomputable def b_p_sure_rest_maps : DS := (sSeq (sAsg (dFn 1 (φ_p_tupled 8) (aCons (dV 1) aNil)) (gN 3))
  (sSeq (sIf (bOr (bNot (dTru (dIsi "tuple" (dV 3)))) (bOr (dTest (dBin oNotIn (dCall fLen (aCons (dV 3) aNil)) (dV 2))) (bNot (dTru (dL φAll (lLc (iSeq (dV 3)) (gN 4) bYes (dFn 2 φ_p_fits_rest (aCons (dV 0) (aCons (dV 4) aNil))) [4])))))) sNever sNext)
  (sRet (dV 3))))
noncomputable def φ_p_sure_rest_maps : DF := runF 3 5 b_p_sure_rest_maps
theorem c_p_sure_rest_maps (F : Facts K mg) : CalD P w K mg base 10 "sure_rest_maps" 3 φ_p_sure_rest_maps := by
  exact calD (k := 9) (n := 3) ["prime", "maps", "counts", "own", "part"] ["prime", "maps", "counts"] F.d_p_sure_rest_maps (by rfl) rfl (fun _ _ _ _ _ _ us hl => match us, hl with | [_, _, _], _ => rfl) fun f cdv A outer s H E hr tk hp => by
    have hN : (["prime", "maps", "counts", "own", "part"] : List Str).Nodup := by decide
    have hu64 : (A.deeper (envOfC "sure_rest_maps" (defScope (top 76)) s.heap.objs.size f cdv)).units + 64 < cLine := by have := hr.un; omega
    have hu65 : (A.deeper (envOfC "sure_rest_maps" (defScope (top 76)) s.heap.objs.size f cdv)).units + 65 < cLine := by have := hr.un; omega
    have hu1 : (A.deeper (envOfC "sure_rest_maps" (defScope (top 76)) s.heap.objs.size f cdv)).units + 1 < cLine := by have := hr.un; omega
    exact (pdss_cons (pds_set (i := 3) hN (pd_callC (c_p_tupled F) (by omega) hr tk (pda_cons (pd_v 1) pda_nil)))
    (pdss_cons (pds_if (PDw.t (pw_orD (pt_notD (pt_truD (pd_isi F.B.isinstance F.B.tuple (by decide +kernel) (by decide) (pd_v 3)))) (pw_orD (pt_cmpD op_notIn_seq od_notIn (pd_callB call_len_seq cd_len F.B.len (by decide +kernel) (pda_cons (pd_v 3) pda_nil)) (pd_v 2) (by with_unfolding_all rfl)) (pw_or1D (pt_notD (pt_truD (pd_LB (cr_all rfl) ld_all F.B.all (by decide +kernel) (pdl_lc (own := [("part", 4)]) rfl hN (pdj_seq (pd_v 3)) (blkOk_by (by rfl)) (fun _ _ _ _ _ => (pdg_n (i := 4) hN)) (fun _ _ _ _ _ => pdts_nil) (fun _ _ _ _ _ => (pd_callC (c_p_fits_rest F) (by omega) hr takesF (pda_cons (pd_v 0) (pda_cons (pd_v 4) pda_nil)))) (sl_n (by decide)))))))))) (pdss_one pds_never) pdss_nil)
    (pdss_one (pds_ret (pd_v 3)))))
noncomputable def b_p_sure_rest : DS := (sSeq (sIf (bNot (dTru (dFn 2 φ_p_is_below (aCons (dV 1) (aCons (dV 0) aNil))))) sNever sNext)
  (sRet (dV 1)))
noncomputable def φ_p_sure_rest : DF := runF 2 2 b_p_sure_rest
theorem c_p_sure_rest (F : Facts K mg) : CalD P w K mg base 4 "sure_rest" 2 φ_p_sure_rest := by
  exact calD (k := 3) (n := 2) ["prime", "number"] ["prime", "number"] F.d_p_sure_rest (by rfl) rfl (fun _ _ _ _ _ _ us hl => match us, hl with | [_, _], _ => rfl) fun f cdv A outer s H E hr tk hp => by
    have hN : (["prime", "number"] : List Str).Nodup := by decide
    have hu64 : (A.deeper (envOfC "sure_rest" (defScope (top 77)) s.heap.objs.size f cdv)).units + 64 < cLine := by have := hr.un; omega
    have hu65 : (A.deeper (envOfC "sure_rest" (defScope (top 77)) s.heap.objs.size f cdv)).units + 65 < cLine := by have := hr.un; omega
    have hu1 : (A.deeper (envOfC "sure_rest" (defScope (top 77)) s.heap.objs.size f cdv)).units + 1 < cLine := by have := hr.un; omega
    exact (pdss_cons (pds_if (pt_notD (pt_truD (pd_callC (c_p_is_below F) (by omega) hr tk (pda_cons (pd_v 1) (pda_cons (pd_v 0) pda_nil))))) (pdss_one pds_never) pdss_nil)
    (pdss_one (pds_ret (pd_v 1))))
noncomputable def b_p_rest_behind : DS := (sRet (dTup (aCons (dBin oMod (dBin oMul (dBin oIx (dV 1) (dC (.int 0))) (dBin oIx (dV 2) (dC (.int 0)))) (dV 0)) (aCons (dBin oMod (dBin oAdd (dBin oMul (dBin oIx (dV 1) (dC (.int 0))) (dBin oIx (dV 2) (dC (.int 1)))) (dBin oIx (dV 1) (dC (.int 1)))) (dV 0)) aNil))))
noncomputable def φ_p_rest_behind : DF := runF 3 3 b_p_rest_behind
theorem c_p_rest_behind (F : Facts K mg) : CalD P w K mg base 1 "rest_behind" 3 φ_p_rest_behind := by
  exact calD (k := 0) (n := 3) ["prime", "one", "other"] ["prime", "one", "other"] F.d_p_rest_behind (by rfl) rfl (fun _ _ _ _ _ _ us hl => match us, hl with | [_, _, _], _ => rfl) fun f cdv A outer s H E hr tk hp => by
    have hN : (["prime", "one", "other"] : List Str).Nodup := by decide
    have hu64 : (A.deeper (envOfC "rest_behind" (defScope (top 78)) s.heap.objs.size f cdv)).units + 64 < cLine := by have := hr.un; omega
    have hu65 : (A.deeper (envOfC "rest_behind" (defScope (top 78)) s.heap.objs.size f cdv)).units + 65 < cLine := by have := hr.un; omega
    have hu1 : (A.deeper (envOfC "rest_behind" (defScope (top 78)) s.heap.objs.size f cdv)).units + 1 < cLine := by have := hr.un; omega
    exact (pdss_one (pds_ret (pd_tup (pda_cons (pd_bin op_modN od_mod (pd_bin op_mulA od_mul (pd_ix (pd_v 1) pd_int) (pd_ix (pd_v 2) pd_int)) (pd_v 0)) (pda_cons (pd_bin op_modN od_mod (pd_bin op_addD od_add (pd_bin op_mulA od_mul (pd_ix (pd_v 1) pd_int) (pd_ix (pd_v 2) pd_int)) (pd_ix (pd_v 1) pd_int)) (pd_v 0)) pda_nil)))))
noncomputable def b_p_rest_undone : DS := (sSeq (sAsg (dFn 2 φ_p_inverse_rest (aCons (dBin oIx (dV 1) (dC (.int 0))) (aCons (dV 0) aNil))) (gN 2))
  (sRet (dTup (aCons (dV 2) (aCons (dBin oMod (dBin oMul (dUn uNeg (dV 2)) (dBin oIx (dV 1) (dC (.int 1)))) (dV 0)) aNil)))))
noncomputable def φ_p_rest_undone : DF := runF 2 3 b_p_rest_undone
theorem c_p_rest_undone (F : Facts K mg) : CalD P w K mg base 2 "rest_undone" 2 φ_p_rest_undone := by
  exact calD (k := 1) (n := 2) ["prime", "own", "stretch"] ["prime", "own"] F.d_p_rest_undone (by rfl) rfl (fun _ _ _ _ _ _ us hl => match us, hl with | [_, _], _ => rfl) fun f cdv A outer s H E hr tk hp => by
    have hN : (["prime", "own", "stretch"] : List Str).Nodup := by decide
    have hu64 : (A.deeper (envOfC "rest_undone" (defScope (top 79)) s.heap.objs.size f cdv)).units + 64 < cLine := by have := hr.un; omega
    have hu65 : (A.deeper (envOfC "rest_undone" (defScope (top 79)) s.heap.objs.size f cdv)).units + 65 < cLine := by have := hr.un; omega
    have hu1 : (A.deeper (envOfC "rest_undone" (defScope (top 79)) s.heap.objs.size f cdv)).units + 1 < cLine := by have := hr.un; omega
    exact (pdss_cons (pds_set (i := 2) hN (pd_callC (c_p_inverse_rest F) (by omega) hr tk (pda_cons (pd_ix (pd_v 1) pd_int) (pda_cons (pd_v 0) pda_nil))))
    (pdss_one (pds_ret (pd_tup (pda_cons (pd_v 2) (pda_cons (pd_bin op_modN od_mod (pd_bin op_mulA od_mul (pd_un un_neg ud_neg (pd_v 2)) (pd_ix (pd_v 1) pd_int)) (pd_v 0)) pda_nil))))))
noncomputable def b_p_rest_row_in : DS := (sSeq (sAsg (dTup (aCons (dC (.int 1)) (aCons (dC (.int 0)) aNil))) (gN 2))
  (sSeq (sFor (iSeq (dV 1)) (gN 3) (sAsg (dFn 3 φ_p_rest_behind (aCons (dV 0) (aCons (dV 2) (aCons (dV 3) aNil)))) (gN 2)))
  (sRet (dV 2))))
noncomputable def φ_p_rest_row_in : DF := runF 2 4 b_p_rest_row_in
theorem c_p_rest_row_in (F : Facts K mg) : CalD P w K mg base 2 "rest_row_in" 2 φ_p_rest_row_in := by
  exact calD (k := 1) (n := 2) ["prime", "row", "found", "part"] ["prime", "row"] F.d_p_rest_row_in (by rfl) rfl (fun _ _ _ _ _ _ us hl => match us, hl with | [_, _], _ => rfl) fun f cdv A outer s H E hr tk hp => by
    have hN : (["prime", "row", "found", "part"] : List Str).Nodup := by decide
    have hu64 : (A.deeper (envOfC "rest_row_in" (defScope (top 80)) s.heap.objs.size f cdv)).units + 64 < cLine := by have := hr.un; omega
    have hu65 : (A.deeper (envOfC "rest_row_in" (defScope (top 80)) s.heap.objs.size f cdv)).units + 65 < cLine := by have := hr.un; omega
    have hu1 : (A.deeper (envOfC "rest_row_in" (defScope (top 80)) s.heap.objs.size f cdv)).units + 1 < cLine := by have := hr.un; omega
    exact (pdss_cons (pds_set (i := 2) hN (pd_tup (pda_cons pd_int (pda_cons pd_int pda_nil))))
    (pdss_cons (pds_for hp rfl (pdj_seq (pd_v 1)) (pdg_n (i := 3) hN) (pdss_one (pds_set (i := 2) hN (pd_callC (c_p_rest_behind F) (by omega) hr tk (pda_cons (pd_v 0) (pda_cons (pd_v 2) (pda_cons (pd_v 3) pda_nil)))))))
    (pdss_one (pds_ret (pd_v 2)))))
noncomputable def b_p_rest_row : DS := (sSeq (sAsg (dTup (aCons (dFn 1 φ_p_sure_prime (aCons (dV 0) aNil)) (aCons (dFn 1 (φ_p_tupled 8) (aCons (dV 1) aNil)) aNil))) (gT 2 (gC (gN 2) (gC (gN 3) gN0))))
  (sSeq (sIf (bOr (bNot (dTru (dIsi "tuple" (dV 3)))) (bNot (dTru (dL φAll (lLc (iSeq (dV 3)) (gN 4) bYes (dFn 2 φ_p_fits_rest (aCons (dV 2) (aCons (dV 4) aNil))) [4]))))) sNever sNext)
  (sRet (dFn 2 φ_p_rest_row_in (aCons (dV 2) (aCons (dV 3) aNil))))))
noncomputable def φ_p_rest_row : DF := runF 2 5 b_p_rest_row
theorem c_p_rest_row (F : Facts K mg) : CalD P w K mg base 10 "rest_row" 2 φ_p_rest_row := by
  exact calD (k := 9) (n := 2) ["prime", "row", "base", "own", "part"] ["prime", "row"] F.d_p_rest_row (by rfl) rfl (fun _ _ _ _ _ _ us hl => match us, hl with | [_, _], _ => rfl) fun f cdv A outer s H E hr tk hp => by
    have hN : (["prime", "row", "base", "own", "part"] : List Str).Nodup := by decide
    have hu64 : (A.deeper (envOfC "rest_row" (defScope (top 81)) s.heap.objs.size f cdv)).units + 64 < cLine := by have := hr.un; omega
    have hu65 : (A.deeper (envOfC "rest_row" (defScope (top 81)) s.heap.objs.size f cdv)).units + 65 < cLine := by have := hr.un; omega
    have hu1 : (A.deeper (envOfC "rest_row" (defScope (top 81)) s.heap.objs.size f cdv)).units + 1 < cLine := by have := hr.un; omega
    exact (pdss_cons (pds_asg (pd_tup (pda_cons (pd_callC (c_p_sure_prime F) (by omega) hr tk (pda_cons (pd_v 0) pda_nil)) (pda_cons (pd_callC (c_p_tupled F) (by omega) hr tk (pda_cons (pd_v 1) pda_nil)) pda_nil))) (pdg_t rfl (pdgs_cons (pdg_n (i := 2) hN) (pdgs_cons (pdg_n (i := 3) hN) pdgs_nil))))
    (pdss_cons (pds_if (PDw.t (pw_orD (pt_notD (pt_truD (pd_isi F.B.isinstance F.B.tuple (by decide +kernel) (by decide) (pd_v 3)))) (pw_or1D (pt_notD (pt_truD (pd_LB (cr_all rfl) ld_all F.B.all (by decide +kernel) (pdl_lc (own := [("part", 4)]) rfl hN (pdj_seq (pd_v 3)) (blkOk_by (by rfl)) (fun _ _ _ _ _ => (pdg_n (i := 4) hN)) (fun _ _ _ _ _ => pdts_nil) (fun _ _ _ _ _ => (pd_callC (c_p_fits_rest F) (by omega) hr takesF (pda_cons (pd_v 2) (pda_cons (pd_v 4) pda_nil)))) (sl_n (by decide))))))))) (pdss_one pds_never) pdss_nil)
    (pdss_one (pds_ret (pd_callC (c_p_rest_row_in F) (by omega) hr tk (pda_cons (pd_v 2) (pda_cons (pd_v 3) pda_nil)))))))
noncomputable def b_p_rest_back : DS := (sSeq (sAsg (dFn 1 φ_p_sure_prime (aCons (dV 0) aNil)) (gN 2))
  (sRet (dFn 2 φ_p_rest_undone (aCons (dV 2) (aCons (dFn 2 φ_p_sure_rest_map (aCons (dV 2) (aCons (dV 1) aNil))) aNil)))))
noncomputable def φ_p_rest_back : DF := runF 2 3 b_p_rest_back
theorem c_p_rest_back (F : Facts K mg) : CalD P w K mg base 11 "rest_back" 2 φ_p_rest_back := by
  exact calD (k := 10) (n := 2) ["prime", "mapping", "base"] ["prime", "mapping"] F.d_p_rest_back (by rfl) rfl (fun _ _ _ _ _ _ us hl => match us, hl with | [_, _], _ => rfl) fun f cdv A outer s H E hr tk hp => by
    have hN : (["prime", "mapping", "base"] : List Str).Nodup := by decide
    have hu64 : (A.deeper (envOfC "rest_back" (defScope (top 82)) s.heap.objs.size f cdv)).units + 64 < cLine := by have := hr.un; omega
    have hu65 : (A.deeper (envOfC "rest_back" (defScope (top 82)) s.heap.objs.size f cdv)).units + 65 < cLine := by have := hr.un; omega
    have hu1 : (A.deeper (envOfC "rest_back" (defScope (top 82)) s.heap.objs.size f cdv)).units + 1 < cLine := by have := hr.un; omega
    exact (pdss_cons (pds_set (i := 2) hN (pd_callC (c_p_sure_prime F) (by omega) hr tk (pda_cons (pd_v 0) pda_nil)))
    (pdss_one (pds_ret (pd_callC (c_p_rest_undone F) (by omega) hr tk (pda_cons (pd_v 2) (pda_cons (pd_callC (c_p_sure_rest_map F) (by omega) hr tk (pda_cons (pd_v 2) (pda_cons (pd_v 1) pda_nil))) pda_nil))))))
noncomputable def b_p_rest_often_in : DS := (sSeq (sPar3 3 4 5 (aCons (dIf (dTest (dBin oGe (dV 2) (dC (.int 0)))) (dV 1) (dFn 2 φ_p_rest_undone (aCons (dV 0) (aCons (dV 1) aNil)))) (aCons (dCall fAbs (aCons (dV 2) aNil)) (aCons (dTup (aCons (dC (.int 1)) (aCons (dC (.int 0)) aNil))) aNil))))
  (sSeq (sWhile (dTest (dBin oGt (dV 4) (dC (.int 0)))) (sSeq (sAsg (dIf (dTest (dBin oEq (dBin oMod (dV 4) (dC k_PAIR_restmaps)) (dC (.int 1)))) (dFn 3 φ_p_rest_behind (aCons (dV 0) (aCons (dV 5) (aCons (dV 3) aNil)))) (dV 5)) (gN 5))
  (sPar 3 4 (aCons (dFn 3 φ_p_rest_behind (aCons (dV 0) (aCons (dV 3) (aCons (dV 3) aNil)))) (aCons (dBin oDiv (dV 4) (dC k_PAIR_restmaps)) aNil)))))
  (sRet (dV 5))))
noncomputable def φ_p_rest_often_in : DF := runF 3 6 b_p_rest_often_in
theorem c_p_rest_often_in (F : Facts K mg) : CalD P w K mg base 3 "rest_often_in" 3 φ_p_rest_often_in := by
  exact calD (k := 2) (n := 3) ["prime", "own", "many", "base", "left", "found"] ["prime", "own", "many"] F.d_p_rest_often_in (by rfl) rfl (fun _ _ _ _ _ _ us hl => match us, hl with | [_, _, _], _ => rfl) fun f cdv A outer s H E hr tk hp => by
    have hN : (["prime", "own", "many", "base", "left", "found"] : List Str).Nodup := by decide
    have hu64 : (A.deeper (envOfC "rest_often_in" (defScope (top 83)) s.heap.objs.size f cdv)).units + 64 < cLine := by have := hr.un; omega
    have hu65 : (A.deeper (envOfC "rest_often_in" (defScope (top 83)) s.heap.objs.size f cdv)).units + 65 < cLine := by have := hr.un; omega
    have hu1 : (A.deeper (envOfC "rest_often_in" (defScope (top 83)) s.heap.objs.size f cdv)).units + 1 < cLine := by have := hr.un; omega
    exact (pdss_cons (pds_par3 (i := 3) (j := 4) (l := 5) rfl hN (pda_cons (pd_if (pt_cmpD op_ge od_ge (pd_v 2) pd_int) (pd_v 1) (pd_callC (c_p_rest_undone F) (by omega) hr tk (pda_cons (pd_v 0) (pda_cons (pd_v 1) pda_nil)))) (pda_cons (pd_callB call_abs cd_abs F.B.abs (by decide +kernel) (pda_cons (pd_v 2) pda_nil)) (pda_cons (pd_tup (pda_cons pd_int (pda_cons pd_int pda_nil))) pda_nil))))
    (pdss_cons (pds_while hp (pt_cmpD op_gt od_gt (pd_v 4) pd_int) (pdss_cons (pds_set (i := 5) hN (pd_if (pt_cmpD (op_eqD hu64) od_eq (pd_bin op_modN od_mod (pd_v 4) (pd_con F.k_PAIR_restmaps)) pd_int) (pd_callC (c_p_rest_behind F) (by omega) hr tk (pda_cons (pd_v 0) (pda_cons (pd_v 5) (pda_cons (pd_v 3) pda_nil)))) (pd_v 5)))
    (pdss_one (pds_par (i := 3) (j := 4) rfl hN (pda_cons (pd_callC (c_p_rest_behind F) (by omega) hr tk (pda_cons (pd_v 0) (pda_cons (pd_v 3) (pda_cons (pd_v 3) pda_nil)))) (pda_cons (pd_bin op_fdivD od_div (pd_v 4) (pd_con F.k_PAIR_restmaps)) pda_nil))))))
    (pdss_one (pds_ret (pd_v 5)))))
noncomputable def b_p_rest_often : DS := (sSeq (sAsg (dFn 1 φ_p_sure_prime (aCons (dV 0) aNil)) (gN 3))
  (sSeq (sAsg (dFn 2 φ_p_sure_rest_map (aCons (dV 3) (aCons (dV 1) aNil))) (gN 4))
  (sRet (dFn 3 φ_p_rest_often_in (aCons (dV 3) (aCons (dV 4) (aCons (dFn 1 φ_p_sure_number (aCons (dV 2) aNil)) aNil)))))))
noncomputable def φ_p_rest_often : DF := runF 3 5 b_p_rest_often
theorem c_p_rest_often (F : Facts K mg) : CalD P w K mg base 11 "rest_often" 3 φ_p_rest_often := by
  exact calD (k := 10) (n := 3) ["prime", "mapping", "many", "base", "own"] ["prime", "mapping", "many"] F.d_p_rest_often (by rfl) rfl (fun _ _ _ _ _ _ us hl => match us, hl with | [_, _, _], _ => rfl) fun f cdv A outer s H E hr tk hp => by
    have hN : (["prime", "mapping", "many", "base", "own"] : List Str).Nodup := by decide
    have hu64 : (A.deeper (envOfC "rest_often" (defScope (top 84)) s.heap.objs.size f cdv)).units + 64 < cLine := by have := hr.un; omega
    have hu65 : (A.deeper (envOfC "rest_often" (defScope (top 84)) s.heap.objs.size f cdv)).units + 65 < cLine := by have := hr.un; omega
    have hu1 : (A.deeper (envOfC "rest_often" (defScope (top 84)) s.heap.objs.size f cdv)).units + 1 < cLine := by have := hr.un; omega
    exact (pdss_cons (pds_set (i := 3) hN (pd_callC (c_p_sure_prime F) (by omega) hr tk (pda_cons (pd_v 0) pda_nil)))
    (pdss_cons (pds_set (i := 4) hN (pd_callC (c_p_sure_rest_map F) (by omega) hr tk (pda_cons (pd_v 3) (pda_cons (pd_v 1) pda_nil))))
    (pdss_one (pds_ret (pd_callC (c_p_rest_often_in F) (by omega) hr tk (pda_cons (pd_v 3) (pda_cons (pd_v 4) (pda_cons (pd_callC (c_p_sure_number F) (by omega) hr tk (pda_cons (pd_v 2) pda_nil)) pda_nil))))))))
noncomputable def b_p_rest_led : DS := (sSeq (sAsg (dFn 1 φ_p_sure_prime (aCons (dV 0) aNil)) (gN 3))
  (sSeq (sAsg (dFn 2 φ_p_sure_rest_map (aCons (dV 3) (aCons (dV 1) aNil))) (gN 4))
  (sRet (dBin oMod (dBin oAdd (dBin oMul (dBin oIx (dV 4) (dC (.int 0))) (dFn 2 φ_p_sure_rest (aCons (dV 3) (aCons (dV 2) aNil)))) (dBin oIx (dV 4) (dC (.int 1)))) (dV 3)))))
noncomputable def φ_p_rest_led : DF := runF 3 5 b_p_rest_led
theorem c_p_rest_led (F : Facts K mg) : CalD P w K mg base 11 "rest_led" 3 φ_p_rest_led := by
  exact calD (k := 10) (n := 3) ["prime", "mapping", "rest", "base", "own"] ["prime", "mapping", "rest"] F.d_p_rest_led (by rfl) rfl (fun _ _ _ _ _ _ us hl => match us, hl with | [_, _, _], _ => rfl) fun f cdv A outer s H E hr tk hp => by
    have hN : (["prime", "mapping", "rest", "base", "own"] : List Str).Nodup := by decide
    have hu64 : (A.deeper (envOfC "rest_led" (defScope (top 85)) s.heap.objs.size f cdv)).units + 64 < cLine := by have := hr.un; omega
    have hu65 : (A.deeper (envOfC "rest_led" (defScope (top 85)) s.heap.objs.size f cdv)).units + 65 < cLine := by have := hr.un; omega
    have hu1 : (A.deeper (envOfC "rest_led" (defScope (top 85)) s.heap.objs.size f cdv)).units + 1 < cLine := by have := hr.un; omega
    exact (pdss_cons (pds_set (i := 3) hN (pd_callC (c_p_sure_prime F) (by omega) hr tk (pda_cons (pd_v 0) pda_nil)))
    (pdss_cons (pds_set (i := 4) hN (pd_callC (c_p_sure_rest_map F) (by omega) hr tk (pda_cons (pd_v 3) (pda_cons (pd_v 1) pda_nil))))
    (pdss_one (pds_ret (pd_bin op_modN od_mod (pd_bin op_addD od_add (pd_bin op_mulA od_mul (pd_ix (pd_v 4) pd_int) (pd_callC (c_p_sure_rest F) (by omega) hr tk (pda_cons (pd_v 3) (pda_cons (pd_v 2) pda_nil)))) (pd_ix (pd_v 4) pd_int)) (pd_v 3))))))
noncomputable def b_p_rest_word_in : DS := (sSeq (sAsg (dTup (aCons (dC (.int 1)) (aCons (dC (.int 0)) aNil))) (gN 3))
  (sSeq (sFor (iSeq (dV 2)) (gN 5) (sSeq (sAsg (dBin oIx (dV 1) (dBin oSub (dCall fAbs (aCons (dV 5) aNil)) (dC (.int 1)))) (gN 4))
  (sAsg (dFn 3 φ_p_rest_behind (aCons (dV 0) (aCons (dV 3) (aCons (dIf (dTest (dBin oGt (dV 5) (dC (.int 0)))) (dV 4) (dFn 2 φ_p_rest_undone (aCons (dV 0) (aCons (dV 4) aNil)))) aNil)))) (gN 3))))
  (sRet (dV 3))))
noncomputable def φ_p_rest_word_in : DF := runF 3 6 b_p_rest_word_in
theorem c_p_rest_word_in (F : Facts K mg) : CalD P w K mg base 3 "rest_word_in" 3 φ_p_rest_word_in := by
  exact calD (k := 2) (n := 3) ["prime", "maps", "word", "found", "own", "letter"] ["prime", "maps", "word"] F.d_p_rest_word_in (by rfl) rfl (fun _ _ _ _ _ _ us hl => match us, hl with | [_, _, _], _ => rfl) fun f cdv A outer s H E hr tk hp => by
    have hN : (["prime", "maps", "word", "found", "own", "letter"] : List Str).Nodup := by decide
    have hu64 : (A.deeper (envOfC "rest_word_in" (defScope (top 86)) s.heap.objs.size f cdv)).units + 64 < cLine := by have := hr.un; omega
    have hu65 : (A.deeper (envOfC "rest_word_in" (defScope (top 86)) s.heap.objs.size f cdv)).units + 65 < cLine := by have := hr.un; omega
    have hu1 : (A.deeper (envOfC "rest_word_in" (defScope (top 86)) s.heap.objs.size f cdv)).units + 1 < cLine := by have := hr.un; omega
    exact (pdss_cons (pds_set (i := 3) hN (pd_tup (pda_cons pd_int (pda_cons pd_int pda_nil))))
    (pdss_cons (pds_for hp rfl (pdj_seq (pd_v 2)) (pdg_n (i := 5) hN) (pdss_cons (pds_set (i := 4) hN (pd_ix (pd_v 1) (pd_bin op_sub od_sub (pd_callB call_abs cd_abs F.B.abs (by decide +kernel) (pda_cons (pd_v 5) pda_nil)) pd_int)))
    (pdss_one (pds_set (i := 3) hN (pd_callC (c_p_rest_behind F) (by omega) hr tk (pda_cons (pd_v 0) (pda_cons (pd_v 3) (pda_cons (pd_if (pt_cmpD op_gt od_gt (pd_v 5) pd_int) (pd_v 4) (pd_callC (c_p_rest_undone F) (by omega) hr tk (pda_cons (pd_v 0) (pda_cons (pd_v 4) pda_nil)))) pda_nil))))))))
    (pdss_one (pds_ret (pd_v 3)))))
noncomputable def b_p_rest_word : DS := (sSeq (sAsg (dFn 1 φ_p_sure_prime (aCons (dV 0) aNil)) (gN 3))
  (sSeq (sPar 4 5 (aCons (dFn 3 φ_p_sure_rest_maps (aCons (dV 3) (aCons (dV 1) (aCons (dTup (aCons (dC k_PAIR_restmaps) (aCons (dC k_THREE_restmaps) aNil))) aNil)))) (aCons (dFn 1 φ_p_sure_word (aCons (dV 2) aNil)) aNil)))
  (sSeq (sFor (iSeq (dV 5)) (gN 6) (sIf (dTest (dBin oGt (dCall fAbs (aCons (dV 6) aNil)) (dCall fLen (aCons (dV 4) aNil)))) sNever sNext))
  (sRet (dFn 3 φ_p_rest_word_in (aCons (dV 3) (aCons (dV 4) (aCons (dV 5) aNil))))))))
noncomputable def φ_p_rest_word : DF := runF 3 7 b_p_rest_word
theorem c_p_rest_word (F : Facts K mg) : CalD P w K mg base 11 "rest_word" 3 φ_p_rest_word := by
  exact calD (k := 10) (n := 3) ["prime", "maps", "word", "base", "own", "far", "letter"] ["prime", "maps", "word"] F.d_p_rest_word (by rfl) rfl (fun _ _ _ _ _ _ us hl => match us, hl with | [_, _, _], _ => rfl) fun f cdv A outer s H E hr tk hp => by
    have hN : (["prime", "maps", "word", "base", "own", "far", "letter"] : List Str).Nodup := by decide
    have hu64 : (A.deeper (envOfC "rest_word" (defScope (top 87)) s.heap.objs.size f cdv)).units + 64 < cLine := by have := hr.un; omega
    have hu65 : (A.deeper (envOfC "rest_word" (defScope (top 87)) s.heap.objs.size f cdv)).units + 65 < cLine := by have := hr.un; omega
    have hu1 : (A.deeper (envOfC "rest_word" (defScope (top 87)) s.heap.objs.size f cdv)).units + 1 < cLine := by have := hr.un; omega
    exact (pdss_cons (pds_set (i := 3) hN (pd_callC (c_p_sure_prime F) (by omega) hr tk (pda_cons (pd_v 0) pda_nil)))
    (pdss_cons (pds_par (i := 4) (j := 5) rfl hN (pda_cons (pd_callC (c_p_sure_rest_maps F) (by omega) hr tk (pda_cons (pd_v 3) (pda_cons (pd_v 1) (pda_cons (pd_tup (pda_cons (pd_con F.k_PAIR_restmaps) (pda_cons (pd_con F.k_THREE_restmaps) pda_nil))) pda_nil)))) (pda_cons (pd_callC (c_p_sure_word F) (by omega) hr tk (pda_cons (pd_v 2) pda_nil)) pda_nil)))
    (pdss_cons (pds_for hp rfl (pdj_seq (pd_v 5)) (pdg_n (i := 6) hN) (pdss_one (pds_if (pt_cmpD op_gt od_gt (pd_callB call_abs cd_abs F.B.abs (by decide +kernel) (pda_cons (pd_v 6) pda_nil)) (pd_callB call_len_seq cd_len F.B.len (by decide +kernel) (pda_cons (pd_v 4) pda_nil))) (pdss_one pds_never) pdss_nil)))
    (pdss_one (pds_ret (pd_callC (c_p_rest_word_in F) (by omega) hr tk (pda_cons (pd_v 3) (pda_cons (pd_v 4) (pda_cons (pd_v 5) pda_nil)))))))))
noncomputable def b_p_home_in : DS := (sSeq (sIf (dTest (dBin oEq (dBin oIx (dV 1) (dC (.int 0))) (dC (.int 1)))) (sRet (dIf (dTest (dBin oEq (dBin oIx (dV 1) (dC (.int 1))) (dC (.int 0)))) (dC (.int 1)) (dV 0))) sNext)
  (sSeq (sPar 2 3 (aCons (dC (.int 1)) (aCons (dBin oIx (dV 1) (dC (.int 0))) aNil)))
  (sSeq (sWhile (dTest (dBin oNe (dV 3) (dC (.int 1)))) (sPar 2 3 (aCons (dBin oAdd (dV 2) (dC (.int 1))) (aCons (dBin oMod (dBin oMul (dV 3) (dBin oIx (dV 1) (dC (.int 0)))) (dV 0)) aNil))))
  (sRet (dV 2)))))
noncomputable def φ_p_home_in : DF := runF 2 4 b_p_home_in
theorem c_p_home_in (F : Facts K mg) : CalD P w K mg base 1 "home_in" 2 φ_p_home_in := by
  exact calD (k := 0) (n := 2) ["prime", "own", "found", "here"] ["prime", "own"] F.d_p_home_in (by rfl) rfl (fun _ _ _ _ _ _ us hl => match us, hl with | [_, _], _ => rfl) fun f cdv A outer s H E hr tk hp => by
    have hN : (["prime", "own", "found", "here"] : List Str).Nodup := by decide
    have hu64 : (A.deeper (envOfC "home_in" (defScope (top 88)) s.heap.objs.size f cdv)).units + 64 < cLine := by have := hr.un; omega
    have hu65 : (A.deeper (envOfC "home_in" (defScope (top 88)) s.heap.objs.size f cdv)).units + 65 < cLine := by have := hr.un; omega
    have hu1 : (A.deeper (envOfC "home_in" (defScope (top 88)) s.heap.objs.size f cdv)).units + 1 < cLine := by have := hr.un; omega
    exact (pdss_cons (pds_if (pt_cmpD (op_eqD hu64) od_eq (pd_ix (pd_v 1) pd_int) pd_int) (pdss_one (pds_ret (pd_if (pt_cmpD (op_eqD hu64) od_eq (pd_ix (pd_v 1) pd_int) pd_int) pd_int (pd_v 0)))) pdss_nil)
    (pdss_cons (pds_par (i := 2) (j := 3) rfl hN (pda_cons pd_int (pda_cons (pd_ix (pd_v 1) pd_int) pda_nil)))
    (pdss_cons (pds_while hp (pt_cmpD (op_neD hu64) od_ne (pd_v 3) pd_int) (pdss_one (pds_par (i := 2) (j := 3) rfl hN (pda_cons (pd_bin op_addD od_add (pd_v 2) pd_int) (pda_cons (pd_bin op_modN od_mod (pd_bin op_mulA od_mul (pd_v 3) (pd_ix (pd_v 1) pd_int)) (pd_v 0)) pda_nil)))))
    (pdss_one (pds_ret (pd_v 2))))))
noncomputable def b_p_rest_times_home : DS := (sSeq (sAsg (dFn 1 φ_p_sure_prime (aCons (dV 0) aNil)) (gN 2))
  (sRet (dFn 2 φ_p_home_in (aCons (dV 2) (aCons (dFn 2 φ_p_sure_rest_map (aCons (dV 2) (aCons (dV 1) aNil))) aNil)))))
noncomputable def φ_p_rest_times_home : DF := runF 2 3 b_p_rest_times_home
theorem c_p_rest_times_home (F : Facts K mg) : CalD P w K mg base 11 "rest_times_home" 2 φ_p_rest_times_home := by
  exact calD (k := 10) (n := 2) ["prime", "mapping", "base"] ["prime", "mapping"] F.d_p_rest_times_home (by rfl) rfl (fun _ _ _ _ _ _ us hl => match us, hl with | [_, _], _ => rfl) fun f cdv A outer s H E hr tk hp => by
    have hN : (["prime", "mapping", "base"] : List Str).Nodup := by decide
    have hu64 : (A.deeper (envOfC "rest_times_home" (defScope (top 89)) s.heap.objs.size f cdv)).units + 64 < cLine := by have := hr.un; omega
    have hu65 : (A.deeper (envOfC "rest_times_home" (defScope (top 89)) s.heap.objs.size f cdv)).units + 65 < cLine := by have := hr.un; omega
    have hu1 : (A.deeper (envOfC "rest_times_home" (defScope (top 89)) s.heap.objs.size f cdv)).units + 1 < cLine := by have := hr.un; omega
    exact (pdss_cons (pds_set (i := 2) hN (pd_callC (c_p_sure_prime F) (by omega) hr tk (pda_cons (pd_v 0) pda_nil)))
    (pdss_one (pds_ret (pd_callC (c_p_home_in F) (by omega) hr tk (pda_cons (pd_v 2) (pda_cons (pd_callC (c_p_sure_rest_map F) (by omega) hr tk (pda_cons (pd_v 2) (pda_cons (pd_v 1) pda_nil))) pda_nil))))))
noncomputable def b_p_rest_kept : DS := (sSeq (sAsg (dFn 1 φ_p_sure_prime (aCons (dV 0) aNil)) (gN 2))
  (sSeq (sAsg (dFn 2 φ_p_sure_rest_map (aCons (dV 2) (aCons (dV 1) aNil))) (gN 3))
  (sRet (dL φTup (lLc (Dt.iRng1 (dV 2)) (gN 4) (dTest (dBin oEq (dBin oMod (dBin oAdd (dBin oMul (dBin oIx (dV 3) (dC (.int 0))) (dV 4)) (dBin oIx (dV 3) (dC (.int 1)))) (dV 2)) (dV 4))) (dV 4) [4])))))
noncomputable def φ_p_rest_kept : DF := runF 2 5 b_p_rest_kept
theorem c_p_rest_kept (F : Facts K mg) : CalD P w K mg base 11 "rest_kept" 2 φ_p_rest_kept := by
  exact calD (k := 10) (n := 2) ["prime", "mapping", "base", "own", "rest"] ["prime", "mapping"] F.d_p_rest_kept (by rfl) rfl (fun _ _ _ _ _ _ us hl => match us, hl with | [_, _], _ => rfl) fun f cdv A outer s H E hr tk hp => by
    have hN : (["prime", "mapping", "base", "own", "rest"] : List Str).Nodup := by decide
    have hu64 : (A.deeper (envOfC "rest_kept" (defScope (top 90)) s.heap.objs.size f cdv)).units + 64 < cLine := by have := hr.un; omega
    have hu65 : (A.deeper (envOfC "rest_kept" (defScope (top 90)) s.heap.objs.size f cdv)).units + 65 < cLine := by have := hr.un; omega
    have hu1 : (A.deeper (envOfC "rest_kept" (defScope (top 90)) s.heap.objs.size f cdv)).units + 1 < cLine := by have := hr.un; omega
    exact (pdss_cons (pds_set (i := 2) hN (pd_callC (c_p_sure_prime F) (by omega) hr tk (pda_cons (pd_v 0) pda_nil)))
    (pdss_cons (pds_set (i := 3) hN (pd_callC (c_p_sure_rest_map F) (by omega) hr tk (pda_cons (pd_v 2) (pda_cons (pd_v 1) pda_nil))))
    (pdss_one (pds_ret (pd_LT call_tuple_of ld_tup F.B.tuple (by decide +kernel) (pdl_lc (own := [("rest", 4)]) rfl hN (pdj_rng1 F.B.range (pd_v 2)) (blkOk_by (by rfl)) (fun _ _ _ _ _ => (pdg_n (i := 4) hN)) (fun _ _ _ _ _ => (pdts_one (pt_cmpD (op_eqD hu64) od_eq (pd_bin op_modN od_mod (pd_bin op_addD od_add (pd_bin op_mulA od_mul (pd_ix (pd_v 3) pd_int) (pd_v 4)) (pd_ix (pd_v 3) pd_int)) (pd_v 2)) (pd_v 4)))) (fun _ _ _ _ _ => (pd_v 4)) (sl_n (by decide))))))))
noncomputable def b_p_rests_of : DS := (sSeq (sAsg (dTup (aCons (dFn 1 φ_p_sure_prime (aCons (dV 0) aNil)) (aCons (dFn 1 φ_p_sure_map (aCons (dV 1) aNil)) aNil))) (gT 2 (gC (gN 2) (gC (gT 2 (gC (gN 3) (gC (gN 4) gN0))) gN0))))
  (sSeq (sIf (bOr (dTest (dBin oEq (dBin oMod (dBin oIx (dV 3) (dC (.int 0))) (dV 2)) (dC (.int 0)))) (bOr (dTest (dBin oEq (dBin oMod (dBin oIx (dV 3) (dC (.int 1))) (dV 2)) (dC (.int 0)))) (dTest (dBin oEq (dBin oMod (dBin oIx (dV 4) (dC (.int 1))) (dV 2)) (dC (.int 0)))))) (sRaise "NoPaper") sNext)
  (sRet (dL φTup (lLc (iSeq (dTup (aCons (dV 3) (aCons (dV 4) aNil)))) (gN 5) bYes (dBin oMod (dBin oMul (dBin oIx (dV 5) (dC (.int 0))) (dFn 2 φ_p_inverse_rest (aCons (dBin oIx (dV 5) (dC (.int 1))) (aCons (dV 2) aNil)))) (dV 2)) [5])))))
noncomputable def φ_p_rests_of : DF := runF 2 6 b_p_rests_of
theorem c_p_rests_of (F : Facts K mg) : CalD P w K mg base 11 "rests_of" 2 φ_p_rests_of := by
  exact calD (k := 10) (n := 2) ["prime", "mapping", "base", "stretch", "shift", "part"] ["prime", "mapping"] F.d_p_rests_of (by rfl) rfl (fun _ _ _ _ _ _ us hl => match us, hl with | [_, _], _ => rfl) fun f cdv A outer s H E hr tk hp => by
    have hN : (["prime", "mapping", "base", "stretch", "shift", "part"] : List Str).Nodup := by decide
    have hu64 : (A.deeper (envOfC "rests_of" (defScope (top 91)) s.heap.objs.size f cdv)).units + 64 < cLine := by have := hr.un; omega
    have hu65 : (A.deeper (envOfC "rests_of" (defScope (top 91)) s.heap.objs.size f cdv)).units + 65 < cLine := by have := hr.un; omega
    have hu1 : (A.deeper (envOfC "rests_of" (defScope (top 91)) s.heap.objs.size f cdv)).units + 1 < cLine := by have := hr.un; omega
    exact (pdss_cons (pds_asg (pd_tup (pda_cons (pd_callC (c_p_sure_prime F) (by omega) hr tk (pda_cons (pd_v 0) pda_nil)) (pda_cons (pd_callC (c_p_sure_map F) (by omega) hr tk (pda_cons (pd_v 1) pda_nil)) pda_nil))) (pdg_t rfl (pdgs_cons (pdg_n (i := 2) hN) (pdgs_cons (pdg_t rfl (pdgs_cons (pdg_n (i := 3) hN) (pdgs_cons (pdg_n (i := 4) hN) pdgs_nil))) pdgs_nil))))
    (pdss_cons (pds_if (PDw.t (pw_orD (pt_cmpD (op_eqD hu64) od_eq (pd_bin op_modN od_mod (pd_ix (pd_v 3) pd_int) (pd_v 2)) pd_int) (pw_orD (pt_cmpD (op_eqD hu64) od_eq (pd_bin op_modN od_mod (pd_ix (pd_v 3) pd_int) (pd_v 2)) pd_int) (pw_or1D (pt_cmpD (op_eqD hu64) od_eq (pd_bin op_modN od_mod (pd_ix (pd_v 4) pd_int) (pd_v 2)) pd_int))))) (pdss_one (F.x_NoPaper.raise rfl tk)) pdss_nil)
    (pdss_one (pds_ret (pd_LT call_tuple_of ld_tup F.B.tuple (by decide +kernel) (pdl_lc (own := [("part", 5)]) rfl hN (pdj_seq (pd_tup (pda_cons (pd_v 3) (pda_cons (pd_v 4) pda_nil)))) (blkOk_by (by rfl)) (fun _ _ _ _ _ => (pdg_n (i := 5) hN)) (fun _ _ _ _ _ => pdts_nil) (fun _ _ _ _ _ => (pd_bin op_modN od_mod (pd_bin op_mulA od_mul (pd_ix (pd_v 5) pd_int) (pd_callC (c_p_inverse_rest F) (by omega) hr takesF (pda_cons (pd_ix (pd_v 5) pd_int) (pda_cons (pd_v 2) pda_nil)))) (pd_v 2))) (sl_n (by decide))))))))
noncomputable def b_p_rest_map_between : DS := (sSeq (sAsg (dFn 1 φ_p_sure_prime (aCons (dV 0) aNil)) (gN 5))
  (sSeq (sPar 6 7 (aCons (dFn 2 φ_p_sure_rest (aCons (dV 5) (aCons (dV 1) aNil))) (aCons (dFn 2 φ_p_sure_rest (aCons (dV 5) (aCons (dV 2) aNil))) aNil)))
  (sSeq (sPar 8 9 (aCons (dFn 2 φ_p_sure_rest (aCons (dV 5) (aCons (dV 3) aNil))) (aCons (dFn 2 φ_p_sure_rest (aCons (dV 5) (aCons (dV 4) aNil))) aNil)))
  (sSeq (sIf (bOr (dTest (dBin oEq (dV 6) (dV 7))) (dTest (dBin oEq (dV 8) (dV 9)))) sNever sNext)
  (sSeq (sAsg (dBin oMod (dBin oMul (dBin oSub (dV 9) (dV 8)) (dFn 2 φ_p_inverse_rest (aCons (dBin oSub (dV 7) (dV 6)) (aCons (dV 5) aNil)))) (dV 5)) (gN 10))
  (sRet (dTup (aCons (dV 10) (aCons (dBin oMod (dBin oSub (dV 8) (dBin oMul (dV 10) (dV 6))) (dV 5)) aNil)))))))))
noncomputable def φ_p_rest_map_between : DF := runF 5 11 b_p_rest_map_between
theorem c_p_rest_map_between (F : Facts K mg) : CalD P w K mg base 5 "rest_map_between" 5 φ_p_rest_map_between := by
  exact calD (k := 4) (n := 5) ["prime", "one", "other", "goal", "far", "base", "near", "last", "first", "then", "stretch"] ["prime", "one", "other", "goal", "far"] F.d_p_rest_map_between (by rfl) rfl (fun _ _ _ _ _ _ us hl => match us, hl with | [_, _, _, _, _], _ => rfl) fun f cdv A outer s H E hr tk hp => by
    have hN : (["prime", "one", "other", "goal", "far", "base", "near", "last", "first", "then", "stretch"] : List Str).Nodup := by decide
    have hu64 : (A.deeper (envOfC "rest_map_between" (defScope (top 92)) s.heap.objs.size f cdv)).units + 64 < cLine := by have := hr.un; omega
    have hu65 : (A.deeper (envOfC "rest_map_between" (defScope (top 92)) s.heap.objs.size f cdv)).units + 65 < cLine := by have := hr.un; omega
    have hu1 : (A.deeper (envOfC "rest_map_between" (defScope (top 92)) s.heap.objs.size f cdv)).units + 1 < cLine := by have := hr.un; omega
    exact (pdss_cons (pds_set (i := 5) hN (pd_callC (c_p_sure_prime F) (by omega) hr tk (pda_cons (pd_v 0) pda_nil)))
    (pdss_cons (pds_par (i := 6) (j := 7) rfl hN (pda_cons (pd_callC (c_p_sure_rest F) (by omega) hr tk (pda_cons (pd_v 5) (pda_cons (pd_v 1) pda_nil))) (pda_cons (pd_callC (c_p_sure_rest F) (by omega) hr tk (pda_cons (pd_v 5) (pda_cons (pd_v 2) pda_nil))) pda_nil)))
    (pdss_cons (pds_par (i := 8) (j := 9) rfl hN (pda_cons (pd_callC (c_p_sure_rest F) (by omega) hr tk (pda_cons (pd_v 5) (pda_cons (pd_v 3) pda_nil))) (pda_cons (pd_callC (c_p_sure_rest F) (by omega) hr tk (pda_cons (pd_v 5) (pda_cons (pd_v 4) pda_nil))) pda_nil)))
    (pdss_cons (pds_if (PDw.t (pw_orD (pt_cmpD (op_eqD hu64) od_eq (pd_v 6) (pd_v 7)) (pw_or1D (pt_cmpD (op_eqD hu64) od_eq (pd_v 8) (pd_v 9))))) (pdss_one pds_never) pdss_nil)
    (pdss_cons (pds_set (i := 10) hN (pd_bin op_modN od_mod (pd_bin op_mulA od_mul (pd_bin op_sub od_sub (pd_v 9) (pd_v 8)) (pd_callC (c_p_inverse_rest F) (by omega) hr tk (pda_cons (pd_bin op_sub od_sub (pd_v 7) (pd_v 6)) (pda_cons (pd_v 5) pda_nil)))) (pd_v 5)))
    (pdss_one (pds_ret (pd_tup (pda_cons (pd_v 10) (pda_cons (pd_bin op_modN od_mod (pd_bin op_sub od_sub (pd_v 8) (pd_bin op_mulA od_mul (pd_v 10) (pd_v 6))) (pd_v 5)) pda_nil))))))))))
noncomputable def b_p_rest_maps_turned : DS := (sSeq (sAsg (dFn 1 φ_p_sure_prime (aCons (dV 0) aNil)) (gN 3))
  (sSeq (sAsg (dTup (aCons (dFn 3 φ_p_sure_rest_maps (aCons (dV 3) (aCons (dV 1) (aCons (dTup (aCons (dC k_PAIR_restmaps) (aCons (dC k_THREE_restmaps) aNil))) aNil)))) (aCons (dFn 2 φ_p_sure_rest_map (aCons (dV 3) (aCons (dV 2) aNil))) aNil))) (gT 2 (gC (gN 4) (gC (gN 5) gN0))))
  (sSeq (sAsg (dFn 2 φ_p_rest_undone (aCons (dV 3) (aCons (dV 5) aNil))) (gN 6))
  (sRet (dL φTup (lLc (iSeq (dV 4)) (gN 7) bYes (dFn 2 φ_p_rest_row_in (aCons (dV 3) (aCons (dTup (aCons (dV 5) (aCons (dV 7) (aCons (dV 6) aNil)))) aNil))) [7]))))))
noncomputable def φ_p_rest_maps_turned : DF := runF 3 8 b_p_rest_maps_turned
theorem c_p_rest_maps_turned (F : Facts K mg) : CalD P w K mg base 11 "rest_maps_turned" 3 φ_p_rest_maps_turned := by
  exact calD (k := 10) (n := 3) ["prime", "maps", "mapping", "base", "own", "turner", "back", "part"] ["prime", "maps", "mapping"] F.d_p_rest_maps_turned (by rfl) rfl (fun _ _ _ _ _ _ us hl => match us, hl with | [_, _, _], _ => rfl) fun f cdv A outer s H E hr tk hp => by
    have hN : (["prime", "maps", "mapping", "base", "own", "turner", "back", "part"] : List Str).Nodup := by decide
    have hu64 : (A.deeper (envOfC "rest_maps_turned" (defScope (top 93)) s.heap.objs.size f cdv)).units + 64 < cLine := by have := hr.un; omega
    have hu65 : (A.deeper (envOfC "rest_maps_turned" (defScope (top 93)) s.heap.objs.size f cdv)).units + 65 < cLine := by have := hr.un; omega
    have hu1 : (A.deeper (envOfC "rest_maps_turned" (defScope (top 93)) s.heap.objs.size f cdv)).units + 1 < cLine := by have := hr.un; omega
    exact (pdss_cons (pds_set (i := 3) hN (pd_callC (c_p_sure_prime F) (by omega) hr tk (pda_cons (pd_v 0) pda_nil)))
    (pdss_cons (pds_asg (pd_tup (pda_cons (pd_callC (c_p_sure_rest_maps F) (by omega) hr tk (pda_cons (pd_v 3) (pda_cons (pd_v 1) (pda_cons (pd_tup (pda_cons (pd_con F.k_PAIR_restmaps) (pda_cons (pd_con F.k_THREE_restmaps) pda_nil))) pda_nil)))) (pda_cons (pd_callC (c_p_sure_rest_map F) (by omega) hr tk (pda_cons (pd_v 3) (pda_cons (pd_v 2) pda_nil))) pda_nil))) (pdg_t rfl (pdgs_cons (pdg_n (i := 4) hN) (pdgs_cons (pdg_n (i := 5) hN) pdgs_nil))))
    (pdss_cons (pds_set (i := 6) hN (pd_callC (c_p_rest_undone F) (by omega) hr tk (pda_cons (pd_v 3) (pda_cons (pd_v 5) pda_nil))))
    (pdss_one (pds_ret (pd_LT call_tuple_of ld_tup F.B.tuple (by decide +kernel) (pdl_lc (own := [("part", 7)]) rfl hN (pdj_seq (pd_v 4)) (blkOk_by (by rfl)) (fun _ _ _ _ _ => (pdg_n (i := 7) hN)) (fun _ _ _ _ _ => pdts_nil) (fun _ _ _ _ _ => (pd_callC (c_p_rest_row_in F) (by omega) hr takesF (pda_cons (pd_v 3) (pda_cons (pd_tup (pda_cons (pd_v 5) (pda_cons (pd_v 7) (pda_cons (pd_v 6) pda_nil)))) pda_nil)))) (sl_n (by decide)))))))))
noncomputable def b_p_do_rest_maps_exchange : DS := (sSeq (sAsg (dFn 1 φ_p_sure_prime (aCons (dV 0) aNil)) (gN 3))
  (sSeq (sPar 4 5 (aCons (dFn 2 φ_p_sure_rest_map (aCons (dV 3) (aCons (dV 1) aNil))) (aCons (dFn 2 φ_p_sure_rest_map (aCons (dV 3) (aCons (dV 2) aNil))) aNil)))
  (sRet (dBin oEq (dFn 3 φ_p_rest_behind (aCons (dV 3) (aCons (dV 4) (aCons (dV 5) aNil)))) (dFn 3 φ_p_rest_behind (aCons (dV 3) (aCons (dV 5) (aCons (dV 4) aNil))))))))
noncomputable def φ_p_do_rest_maps_exchange : DF := runF 3 6 b_p_do_rest_maps_exchange
theorem c_p_do_rest_maps_exchange (F : Facts K mg) : CalD P w K mg base 11 "do_rest_maps_exchange" 3 φ_p_do_rest_maps_exchange := by
  exact calD (k := 10) (n := 3) ["prime", "one", "other", "base", "near", "far"] ["prime", "one", "other"] F.d_p_do_rest_maps_exchange (by rfl) rfl (fun _ _ _ _ _ _ us hl => match us, hl with | [_, _, _], _ => rfl) fun f cdv A outer s H E hr tk hp => by
    have hN : (["prime", "one", "other", "base", "near", "far"] : List Str).Nodup := by decide
    have hu64 : (A.deeper (envOfC "do_rest_maps_exchange" (defScope (top 94)) s.heap.objs.size f cdv)).units + 64 < cLine := by have := hr.un; omega
    have hu65 : (A.deeper (envOfC "do_rest_maps_exchange" (defScope (top 94)) s.heap.objs.size f cdv)).units + 65 < cLine := by have := hr.un; omega
    have hu1 : (A.deeper (envOfC "do_rest_maps_exchange" (defScope (top 94)) s.heap.objs.size f cdv)).units + 1 < cLine := by have := hr.un; omega
    exact (pdss_cons (pds_set (i := 3) hN (pd_callC (c_p_sure_prime F) (by omega) hr tk (pda_cons (pd_v 0) pda_nil)))
    (pdss_cons (pds_par (i := 4) (j := 5) rfl hN (pda_cons (pd_callC (c_p_sure_rest_map F) (by omega) hr tk (pda_cons (pd_v 3) (pda_cons (pd_v 1) pda_nil))) (pda_cons (pd_callC (c_p_sure_rest_map F) (by omega) hr tk (pda_cons (pd_v 3) (pda_cons (pd_v 2) pda_nil))) pda_nil)))
    (pdss_one (pds_ret (pd_cmp (op_eqD hu64) od_eq (pd_callC (c_p_rest_behind F) (by omega) hr tk (pda_cons (pd_v 3) (pda_cons (pd_v 4) (pda_cons (pd_v 5) pda_nil)))) (pd_callC (c_p_rest_behind F) (by omega) hr tk (pda_cons (pd_v 3) (pda_cons (pd_v 5) (pda_cons (pd_v 4) pda_nil)))))))))
noncomputable def b_p_are_lot : DS := (sRet (dAnd (dIsi "tuple" (dV 0)) (dAnd (dBin oNe (dV 0) (dTup aNil)) (dL φAll (lLc (iSeq (dV 0)) (gN 1) bYes (dFn 1 φ_p_is_map (aCons (dV 1) aNil)) [1])))))
noncomputable def φ_p_are_lot : DF := runF 1 2 b_p_are_lot
theorem c_p_are_lot (F : Facts K mg) : CalD P w K mg base 5 "are_lot" 1 φ_p_are_lot := by
  exact calD (k := 4) (n := 1) ["thing", "part"] ["thing"] F.d_p_are_lot (by rfl) rfl (fun _ _ _ _ _ _ us hl => match us, hl with | [_], _ => rfl) fun f cdv A outer s H E hr tk hp => by
    have hN : (["thing", "part"] : List Str).Nodup := by decide
    have hu64 : (A.deeper (envOfC "are_lot" (defScope (top 96)) s.heap.objs.size f cdv)).units + 64 < cLine := by have := hr.un; omega
    have hu65 : (A.deeper (envOfC "are_lot" (defScope (top 96)) s.heap.objs.size f cdv)).units + 65 < cLine := by have := hr.un; omega
    have hu1 : (A.deeper (envOfC "are_lot" (defScope (top 96)) s.heap.objs.size f cdv)).units + 1 < cLine := by have := hr.un; omega
    exact (pdss_one (pds_ret (pd_andT (pd_isi F.B.isinstance F.B.tuple (by decide +kernel) (by decide) (pd_v 0)) (pd_andT (pd_cmp (op_neD hu64) od_ne (pd_v 0) (pd_tup pda_nil)) (pd_one (pd_LB (cr_all rfl) ld_all F.B.all (by decide +kernel) (pdl_lc (own := [("part", 1)]) rfl hN (pdj_seq (pd_v 0)) (blkOk_by (by rfl)) (fun _ _ _ _ _ => (pdg_n (i := 1) hN)) (fun _ _ _ _ _ => pdts_nil) (fun _ _ _ _ _ => (pd_callC (c_p_is_map F) (by omega) hr takesF (pda_cons (pd_v 1) pda_nil))) (sl_n (by decide)))))))))
noncomputable def b_p_sure_lot : DS := (sSeq (sAsg (dFn 1 (φ_p_tupled 8) (aCons (dV 0) aNil)) (gN 1))
  (sSeq (sIf (bNot (dTru (dFn 1 φ_p_are_lot (aCons (dV 1) aNil)))) sNever sNext)
  (sRet (dV 1))))
noncomputable def φ_p_sure_lot : DF := runF 1 2 b_p_sure_lot
theorem c_p_sure_lot (F : Facts K mg) : CalD P w K mg base 10 "sure_lot" 1 φ_p_sure_lot := by
  exact calD (k := 9) (n := 1) ["lot", "own"] ["lot"] F.d_p_sure_lot (by rfl) rfl (fun _ _ _ _ _ _ us hl => match us, hl with | [_], _ => rfl) fun f cdv A outer s H E hr tk hp => by
    have hN : (["lot", "own"] : List Str).Nodup := by decide
    have hu64 : (A.deeper (envOfC "sure_lot" (defScope (top 97)) s.heap.objs.size f cdv)).units + 64 < cLine := by have := hr.un; omega
    have hu65 : (A.deeper (envOfC "sure_lot" (defScope (top 97)) s.heap.objs.size f cdv)).units + 65 < cLine := by have := hr.un; omega
    have hu1 : (A.deeper (envOfC "sure_lot" (defScope (top 97)) s.heap.objs.size f cdv)).units + 1 < cLine := by have := hr.un; omega
    exact (pdss_cons (pds_set (i := 1) hN (pd_callC (c_p_tupled F) (by omega) hr tk (pda_cons (pd_v 0) pda_nil)))
    (pdss_cons (pds_if (pt_notD (pt_truD (pd_callC (c_p_are_lot F) (by omega) hr tk (pda_cons (pd_v 1) pda_nil)))) (pdss_one pds_never) pdss_nil)
    (pdss_one (pds_ret (pd_v 1)))))
noncomputable def b_p_maps_gap_in : DS := (sRet (dFn 2 φ_p_take (aCons (dFn 2 φ_p_multiply (aCons (dBin oIx (dV 0) (dC (.int 1))) (aCons (dFn 2 φ_p_take (aCons (dC k_ONE) (aCons (dBin oIx (dV 1) (dC (.int 0))) aNil))) aNil))) (aCons (dFn 2 φ_p_multiply (aCons (dBin oIx (dV 1) (dC (.int 1))) (aCons (dFn 2 φ_p_take (aCons (dC k_ONE) (aCons (dBin oIx (dV 0) (dC (.int 0))) aNil))) aNil))) aNil))))
noncomputable def φ_p_maps_gap_in : DF := runF 2 2 b_p_maps_gap_in
theorem c_p_maps_gap_in (F : Facts K mg) : CalD P w K mg base 4 "maps_gap_in" 2 φ_p_maps_gap_in := by
  exact calD (k := 3) (n := 2) ["one", "other"] ["one", "other"] F.d_p_maps_gap_in (by rfl) rfl (fun _ _ _ _ _ _ us hl => match us, hl with | [_, _], _ => rfl) fun f cdv A outer s H E hr tk hp => by
    have hN : (["one", "other"] : List Str).Nodup := by decide
    have hu64 : (A.deeper (envOfC "maps_gap_in" (defScope (top 98)) s.heap.objs.size f cdv)).units + 64 < cLine := by have := hr.un; omega
    have hu65 : (A.deeper (envOfC "maps_gap_in" (defScope (top 98)) s.heap.objs.size f cdv)).units + 65 < cLine := by have := hr.un; omega
    have hu1 : (A.deeper (envOfC "maps_gap_in" (defScope (top 98)) s.heap.objs.size f cdv)).units + 1 < cLine := by have := hr.un; omega
    exact (pdss_one (pds_ret (pd_callC (c_p_take F) (by omega) hr tk (pda_cons (pd_callC (c_p_multiply F) (by omega) hr tk (pda_cons (pd_ix (pd_v 0) pd_int) (pda_cons (pd_callC (c_p_take F) (by omega) hr tk (pda_cons (pd_con F.k_ONE) (pda_cons (pd_ix (pd_v 1) pd_int) pda_nil))) pda_nil))) (pda_cons (pd_callC (c_p_multiply F) (by omega) hr tk (pda_cons (pd_ix (pd_v 1) pd_int) (pda_cons (pd_callC (c_p_take F) (by omega) hr tk (pda_cons (pd_con F.k_ONE) (pda_cons (pd_ix (pd_v 0) pd_int) pda_nil))) pda_nil))) pda_nil)))))
noncomputable def b_p_maps_gap : DS := (sSeq (sPar 2 3 (aCons (dFn 1 φ_p_sure_map (aCons (dV 0) aNil)) (aCons (dFn 1 φ_p_sure_map (aCons (dV 1) aNil)) aNil)))
  (sRet (dFn 2 φ_p_maps_gap_in (aCons (dV 2) (aCons (dV 3) aNil)))))
noncomputable def φ_p_maps_gap : DF := runF 2 4 b_p_maps_gap
theorem c_p_maps_gap (F : Facts K mg) : CalD P w K mg base 11 "maps_gap" 2 φ_p_maps_gap := by
  exact calD (k := 10) (n := 2) ["one", "other", "near", "far"] ["one", "other"] F.d_p_maps_gap (by rfl) rfl (fun _ _ _ _ _ _ us hl => match us, hl with | [_, _], _ => rfl) fun f cdv A outer s H E hr tk hp => by
    have hN : (["one", "other", "near", "far"] : List Str).Nodup := by decide
    have hu64 : (A.deeper (envOfC "maps_gap" (defScope (top 99)) s.heap.objs.size f cdv)).units + 64 < cLine := by have := hr.un; omega
    have hu65 : (A.deeper (envOfC "maps_gap" (defScope (top 99)) s.heap.objs.size f cdv)).units + 65 < cLine := by have := hr.un; omega
    have hu1 : (A.deeper (envOfC "maps_gap" (defScope (top 99)) s.heap.objs.size f cdv)).units + 1 < cLine := by have := hr.un; omega
    exact (pdss_cons (pds_par (i := 2) (j := 3) rfl hN (pda_cons (pd_callC (c_p_sure_map F) (by omega) hr tk (pda_cons (pd_v 0) pda_nil)) (pda_cons (pd_callC (c_p_sure_map F) (by omega) hr tk (pda_cons (pd_v 1) pda_nil)) pda_nil)))
    (pdss_one (pds_ret (pd_callC (c_p_maps_gap_in F) (by omega) hr tk (pda_cons (pd_v 2) (pda_cons (pd_v 3) pda_nil))))))
noncomputable def b_p_turned_in : DS := (sRet (dL φTup (lLc (iSeq (dV 0)) (gN 2) bYes (dFn 2 φ_p_turned_map (aCons (dV 2) (aCons (dV 1) aNil))) [2])))
noncomputable def φ_p_turned_in : DF := runF 2 3 b_p_turned_in
theorem c_p_turned_in (F : Facts K mg) : CalD P w K mg base 6 "turned_in" 2 φ_p_turned_in := by
  exact calD (k := 5) (n := 2) ["lot", "turner", "own"] ["lot", "turner"] F.d_p_turned_in (by rfl) rfl (fun _ _ _ _ _ _ us hl => match us, hl with | [_, _], _ => rfl) fun f cdv A outer s H E hr tk hp => by
    have hN : (["lot", "turner", "own"] : List Str).Nodup := by decide
    have hu64 : (A.deeper (envOfC "turned_in" (defScope (top 100)) s.heap.objs.size f cdv)).units + 64 < cLine := by have := hr.un; omega
    have hu65 : (A.deeper (envOfC "turned_in" (defScope (top 100)) s.heap.objs.size f cdv)).units + 65 < cLine := by have := hr.un; omega
    have hu1 : (A.deeper (envOfC "turned_in" (defScope (top 100)) s.heap.objs.size f cdv)).units + 1 < cLine := by have := hr.un; omega
    exact (pdss_one (pds_ret (pd_LT call_tuple_of ld_tup F.B.tuple (by decide +kernel) (pdl_lc (own := [("own", 2)]) rfl hN (pdj_seq (pd_v 0)) (blkOk_by (by rfl)) (fun _ _ _ _ _ => (pdg_n (i := 2) hN)) (fun _ _ _ _ _ => pdts_nil) (fun _ _ _ _ _ => (pd_callC (c_p_turned_map F) (by omega) hr takesF (pda_cons (pd_v 2) (pda_cons (pd_v 1) pda_nil)))) (sl_n (by decide))))))
noncomputable def b_p_lot_turned : DS := (sSeq (sAsg (dFn 1 φ_p_sure_lot (aCons (dV 0) aNil)) (gN 2))
  (sRet (dFn 2 φ_p_turned_in (aCons (dV 2) (aCons (dFn 1 φ_p_sure_map (aCons (dV 1) aNil)) aNil)))))
noncomputable def φ_p_lot_turned : DF := runF 2 3 b_p_lot_turned
theorem c_p_lot_turned (F : Facts K mg) : CalD P w K mg base 11 "lot_turned" 2 φ_p_lot_turned := by
  exact calD (k := 10) (n := 2) ["lot", "mapping", "own"] ["lot", "mapping"] F.d_p_lot_turned (by rfl) rfl (fun _ _ _ _ _ _ us hl => match us, hl with | [_, _], _ => rfl) fun f cdv A outer s H E hr tk hp => by
    have hN : (["lot", "mapping", "own"] : List Str).Nodup := by decide
    have hu64 : (A.deeper (envOfC "lot_turned" (defScope (top 101)) s.heap.objs.size f cdv)).units + 64 < cLine := by have := hr.un; omega
    have hu65 : (A.deeper (envOfC "lot_turned" (defScope (top 101)) s.heap.objs.size f cdv)).units + 65 < cLine := by have := hr.un; omega
    have hu1 : (A.deeper (envOfC "lot_turned" (defScope (top 101)) s.heap.objs.size f cdv)).units + 1 < cLine := by have := hr.un; omega
    exact (pdss_cons (pds_set (i := 2) hN (pd_callC (c_p_sure_lot F) (by omega) hr tk (pda_cons (pd_v 0) pda_nil)))
    (pdss_one (pds_ret (pd_callC (c_p_turned_in F) (by omega) hr tk (pda_cons (pd_v 2) (pda_cons (pd_callC (c_p_sure_map F) (by omega) hr tk (pda_cons (pd_v 1) pda_nil)) pda_nil))))))
noncomputable def b_p_step_from : DS := (sSeq (sAsg (dIf (dTest (dBin oGt (dV 1) (dC (.int 0)))) (dC (.int 1)) (dUn uNeg (dC (.int 1)))) (gN 2))
  (sRet (dIf (dTest (dBin oEq (dCall fAbs (aCons (dV 1) aNil)) (dC (.int 1)))) (dTup (aCons (dBin oAdd (dBin oIx (dV 0) (dC (.int 0))) (dV 2)) (aCons (dBin oIx (dV 0) (dC (.int 1))) aNil))) (dTup (aCons (dBin oIx (dV 0) (dC (.int 0))) (aCons (dBin oAdd (dBin oIx (dV 0) (dC (.int 1))) (dV 2)) aNil))))))
noncomputable def φ_p_step_from : DF := runF 2 3 b_p_step_from
theorem c_p_step_from (F : Facts K mg) : CalD P w K mg base 1 "step_from" 2 φ_p_step_from := by
  exact calD (k := 0) (n := 2) ["point", "letter", "step"] ["point", "letter"] F.d_p_step_from (by rfl) rfl (fun _ _ _ _ _ _ us hl => match us, hl with | [_, _], _ => rfl) fun f cdv A outer s H E hr tk hp => by
    have hN : (["point", "letter", "step"] : List Str).Nodup := by decide
    have hu64 : (A.deeper (envOfC "step_from" (defScope (top 104)) s.heap.objs.size f cdv)).units + 64 < cLine := by have := hr.un; omega
    have hu65 : (A.deeper (envOfC "step_from" (defScope (top 104)) s.heap.objs.size f cdv)).units + 65 < cLine := by have := hr.un; omega
    have hu1 : (A.deeper (envOfC "step_from" (defScope (top 104)) s.heap.objs.size f cdv)).units + 1 < cLine := by have := hr.un; omega
    exact (pdss_cons (pds_set (i := 2) hN (pd_if (pt_cmpD op_gt od_gt (pd_v 1) pd_int) pd_int (pd_un un_neg ud_neg pd_int)))
    (pdss_one (pds_ret (pd_if (pt_cmpD (op_eqD hu64) od_eq (pd_callB call_abs cd_abs F.B.abs (by decide +kernel) (pda_cons (pd_v 1) pda_nil)) pd_int) (pd_tup (pda_cons (pd_bin op_addD od_add (pd_ix (pd_v 0) pd_int) (pd_v 2)) (pda_cons (pd_ix (pd_v 0) pd_int) pda_nil))) (pd_tup (pda_cons (pd_ix (pd_v 0) pd_int) (pda_cons (pd_bin op_addD od_add (pd_ix (pd_v 0) pd_int) (pd_v 2)) pda_nil)))))))
noncomputable def b_p_walk_in : DS := (sSeq (sAsg (dNum (lLst (aCons (dC k_HOME) aNil))) (gN 1))
  (sSeq (sFor (iSeq (dV 0)) (gN 2) (sDrop (dApp (dV 1) (dFn 2 φ_p_step_from (aCons (dBin oIx (dV 1) (dUn uNeg (dC (.int 1)))) (aCons (dV 2) aNil))))))
  (sRet (dCall fTuple (aCons (dV 1) aNil)))))
noncomputable def φ_p_walk_in : DF := runF 1 3 b_p_walk_in
theorem c_p_walk_in (F : Facts K mg) : CalD P w K mg base 2 "walk_in" 1 φ_p_walk_in := by
  exact calD (k := 1) (n := 1) ["word", "found", "letter"] ["word"] F.d_p_walk_in (by rfl) rfl (fun _ _ _ _ _ _ us hl => match us, hl with | [_], _ => rfl) fun f cdv A outer s H E hr tk hp => by
    have hN : (["word", "found", "letter"] : List Str).Nodup := by decide
    have hu64 : (A.deeper (envOfC "walk_in" (defScope (top 105)) s.heap.objs.size f cdv)).units + 64 < cLine := by have := hr.un; omega
    have hu65 : (A.deeper (envOfC "walk_in" (defScope (top 105)) s.heap.objs.size f cdv)).units + 65 < cLine := by have := hr.un; omega
    have hu1 : (A.deeper (envOfC "walk_in" (defScope (top 105)) s.heap.objs.size f cdv)).units + 1 < cLine := by have := hr.un; omega
    exact (pdss_cons (pds_set (i := 1) hN (pd_num (pdl_lst (pda_cons (pd_con F.k_HOME) pda_nil))))
    (pdss_cons (pds_for hp rfl (pdj_seq (pd_v 0)) (pdg_n (i := 2) hN) (pdss_one (pds_drop (pd_app (pd_v 1) (pd_callC (c_p_step_from F) (by omega) hr tk (pda_cons (pd_ix (pd_v 1) (pd_un un_neg ud_neg pd_int)) (pda_cons (pd_v 2) pda_nil)))))))
    (pdss_one (pds_ret (pd_callTy call_tuple_of cd_tuple F.B.tuple (by decide +kernel) (pda_cons (pd_v 1) pda_nil))))))
noncomputable def b_p_flow_in : DS := (sSeq (sPar 1 2 (aCons (dFn 1 φ_p_walk_in (aCons (dV 0) aNil)) (aCons dNewT aNil)))
  (sSeq (sFor (iZip3 (dV 0) (dV 1) (dSlT (dV 1) (pSo (dC (.int 1))) pNo)) (gT 3 (gC (gN 4) (gC (gN 5) (gC (gN 6) gN0)))) (sSeq (sAsg (dIf (dTest (dBin oGt (dV 4) (dC (.int 0)))) (dTup (aStar (dV 5) (aCons (dV 4) aNil))) (dTup (aStar (dV 6) (aCons (dUn uNeg (dV 4)) aNil)))) (gN 3))
  (sStD (dV 2) (dV 3) (dBin oAdd (dGet2 (dV 2) (dV 3) (dC (.int 0))) (dIf (dTest (dBin oGt (dV 4) (dC (.int 0)))) (dC (.int 1)) (dUn uNeg (dC (.int 1))))))))
  (sRet (dTup (aCons (dBin oIx (dV 1) (dUn uNeg (dC (.int 1)))) (aCons (dFn 1 φ_p_told (aCons (dV 2) aNil)) aNil))))))
noncomputable def φ_p_flow_in : DF := runF 1 7 b_p_flow_in
theorem c_p_flow_in (F : Facts K mg) : CalD P w K mg base 3 "flow_in" 1 φ_p_flow_in := by
  exact calD (k := 2) (n := 1) ["word", "points", "table", "edge", "letter", "near", "far"] ["word"] F.d_p_flow_in (by rfl) rfl (fun _ _ _ _ _ _ us hl => match us, hl with | [_], _ => rfl) fun f cdv A outer s H E hr tk hp => by
    have hN : (["word", "points", "table", "edge", "letter", "near", "far"] : List Str).Nodup := by decide
    have hu64 : (A.deeper (envOfC "flow_in" (defScope (top 106)) s.heap.objs.size f cdv)).units + 64 < cLine := by have := hr.un; omega
    have hu65 : (A.deeper (envOfC "flow_in" (defScope (top 106)) s.heap.objs.size f cdv)).units + 65 < cLine := by have := hr.un; omega
    have hu1 : (A.deeper (envOfC "flow_in" (defScope (top 106)) s.heap.objs.size f cdv)).units + 1 < cLine := by have := hr.un; omega
    exact (pdss_cons (pds_par (i := 1) (j := 2) rfl hN (pda_cons (pd_callC (c_p_walk_in F) (by omega) hr tk (pda_cons (pd_v 0) pda_nil)) (pda_cons pd_newT pda_nil)))
    (pdss_cons (pds_for hp rfl (pdj_zip3 F.B.zip (pd_v 0) (pd_v 1) (pd_slT (pd_v 1) (pdo_some pd_int) pdo_none)) (pdg_t rfl (pdgs_cons (pdg_n (i := 4) hN) (pdgs_cons (pdg_n (i := 5) hN) (pdgs_cons (pdg_n (i := 6) hN) pdgs_nil)))) (pdss_cons (pds_set (i := 3) hN (pd_if (pt_cmpD op_gt od_gt (pd_v 4) pd_int) (pd_tup (pda_star (pd_v 5) (pda_cons (pd_v 4) pda_nil))) (pd_tup (pda_star (pd_v 6) (pda_cons (pd_un un_neg ud_neg (pd_v 4)) pda_nil)))))
    (pdss_one (pds_stD hu1 (pd_v 2) (pd_v 3) (pd_bin op_addD od_add (pd_dget2 hu1 (pd_v 2) (pd_v 3) pd_int) (pd_if (pt_cmpD op_gt od_gt (pd_v 4) pd_int) pd_int (pd_un un_neg ud_neg pd_int)))))))
    (pdss_one (pds_ret (pd_tup (pda_cons (pd_ix (pd_v 1) (pd_un un_neg ud_neg pd_int)) (pda_cons (pd_callC (c_p_told F) (by omega) hr tk (pda_cons (pd_v 2) pda_nil)) pda_nil)))))))
noncomputable def b_p_flow_folded : DS := (sSeq (sPar 2 3 (aCons (dBin oSub (dV 0) (dC (.int 1))) (aCons dNewT aNil)))
  (sSeq (sFor (iSeq (dBin oIx (dV 1) (dC (.int 1)))) (gT 2 (gC (gT 3 (gC (gN 5) (gC (gN 6) (gC (gN 7) gN0)))) (gC (gN 8) gN0))) (sSeq (sAsg (dTup (aCons (dBin oMod (dV 5) (dV 2)) (aCons (dBin oMod (dV 6) (dV 2)) (aCons (dV 7) aNil)))) (gN 4))
  (sStD (dV 3) (dV 4) (dBin oMod (dBin oAdd (dGet2 (dV 3) (dV 4) (dC (.int 0))) (dV 8)) (dV 0)))))
  (sSeq (sAsg (dBin oIx (dV 1) (dC (.int 0))) (gN 9))
  (sRet (dTup (aCons (dTup (aCons (dBin oMod (dBin oIx (dV 9) (dC (.int 0))) (dV 2)) (aCons (dBin oMod (dBin oIx (dV 9) (dC (.int 1))) (dV 2)) aNil))) (aCons (dFn 1 φ_p_told (aCons (dV 3) aNil)) aNil)))))))
noncomputable def φ_p_flow_folded : DF := runF 2 10 b_p_flow_folded
theorem c_p_flow_folded (F : Facts K mg) : CalD P w K mg base 2 "flow_folded" 2 φ_p_flow_folded := by
  exact calD (k := 1) (n := 2) ["prime", "flow", "round_by", "table", "place", "i", "j", "way", "number", "end"] ["prime", "flow"] F.d_p_flow_folded (by rfl) rfl (fun _ _ _ _ _ _ us hl => match us, hl with | [_, _], _ => rfl) fun f cdv A outer s H E hr tk hp => by
    have hN : (["prime", "flow", "round_by", "table", "place", "i", "j", "way", "number", "end"] : List Str).Nodup := by decide
    have hu64 : (A.deeper (envOfC "flow_folded" (defScope (top 108)) s.heap.objs.size f cdv)).units + 64 < cLine := by have := hr.un; omega
    have hu65 : (A.deeper (envOfC "flow_folded" (defScope (top 108)) s.heap.objs.size f cdv)).units + 65 < cLine := by have := hr.un; omega
    have hu1 : (A.deeper (envOfC "flow_folded" (defScope (top 108)) s.heap.objs.size f cdv)).units + 1 < cLine := by have := hr.un; omega
    exact (pdss_cons (pds_par (i := 2) (j := 3) rfl hN (pda_cons (pd_bin op_sub od_sub (pd_v 0) pd_int) (pda_cons pd_newT pda_nil)))
    (pdss_cons (pds_for hp rfl (pdj_seq (pd_ix (pd_v 1) pd_int)) (pdg_t rfl (pdgs_cons (pdg_t rfl (pdgs_cons (pdg_n (i := 5) hN) (pdgs_cons (pdg_n (i := 6) hN) (pdgs_cons (pdg_n (i := 7) hN) pdgs_nil)))) (pdgs_cons (pdg_n (i := 8) hN) pdgs_nil))) (pdss_cons (pds_set (i := 4) hN (pd_tup (pda_cons (pd_bin op_modN od_mod (pd_v 5) (pd_v 2)) (pda_cons (pd_bin op_modN od_mod (pd_v 6) (pd_v 2)) (pda_cons (pd_v 7) pda_nil)))))
    (pdss_one (pds_stD hu1 (pd_v 3) (pd_v 4) (pd_bin op_modN od_mod (pd_bin op_addD od_add (pd_dget2 hu1 (pd_v 3) (pd_v 4) pd_int) (pd_v 8)) (pd_v 0))))))
    (pdss_cons (pds_set (i := 9) hN (pd_ix (pd_v 1) pd_int))
    (pdss_one (pds_ret (pd_tup (pda_cons (pd_tup (pda_cons (pd_bin op_modN od_mod (pd_ix (pd_v 9) pd_int) (pd_v 2)) (pda_cons (pd_bin op_modN od_mod (pd_ix (pd_v 9) pd_int) (pd_v 2)) pda_nil))) (pda_cons (pd_callC (c_p_told F) (by omega) hr tk (pda_cons (pd_v 3) pda_nil)) pda_nil))))))))
noncomputable def b_p_alike_by_rests : DS := (sSeq (sAsg (dFn 1 φ_p_sure_prime (aCons (dV 0) aNil)) (gN 3))
  (sSeq (sPar 4 5 (aCons (dFn 1 φ_p_sure_two (aCons (dV 1) aNil)) (aCons (dFn 1 φ_p_sure_two (aCons (dV 2) aNil)) aNil)))
  (sRet (dBin oEq (dFn 2 φ_p_flow_folded (aCons (dV 3) (aCons (dFn 1 φ_p_flow_in (aCons (dV 4) aNil)) aNil))) (dFn 2 φ_p_flow_folded (aCons (dV 3) (aCons (dFn 1 φ_p_flow_in (aCons (dV 5) aNil)) aNil)))))))
noncomputable def φ_p_alike_by_rests : DF := runF 3 6 b_p_alike_by_rests
theorem c_p_alike_by_rests (F : Facts K mg) : CalD P w K mg base 12 "alike_by_rests" 3 φ_p_alike_by_rests := by
  exact calD (k := 11) (n := 3) ["prime", "one", "other", "base", "near", "far"] ["prime", "one", "other"] F.d_p_alike_by_rests (by rfl) rfl (fun _ _ _ _ _ _ us hl => match us, hl with | [_, _, _], _ => rfl) fun f cdv A outer s H E hr tk hp => by
    have hN : (["prime", "one", "other", "base", "near", "far"] : List Str).Nodup := by decide
    have hu64 : (A.deeper (envOfC "alike_by_rests" (defScope (top 109)) s.heap.objs.size f cdv)).units + 64 < cLine := by have := hr.un; omega
    have hu65 : (A.deeper (envOfC "alike_by_rests" (defScope (top 109)) s.heap.objs.size f cdv)).units + 65 < cLine := by have := hr.un; omega
    have hu1 : (A.deeper (envOfC "alike_by_rests" (defScope (top 109)) s.heap.objs.size f cdv)).units + 1 < cLine := by have := hr.un; omega
    exact (pdss_cons (pds_set (i := 3) hN (pd_callC (c_p_sure_prime F) (by omega) hr tk (pda_cons (pd_v 0) pda_nil)))
    (pdss_cons (pds_par (i := 4) (j := 5) rfl hN (pda_cons (pd_callC (c_p_sure_two F) (by omega) hr tk (pda_cons (pd_v 1) pda_nil)) (pda_cons (pd_callC (c_p_sure_two F) (by omega) hr tk (pda_cons (pd_v 2) pda_nil)) pda_nil)))
    (pdss_one (pds_ret (pd_cmp (op_eqD hu64) od_eq (pd_callC (c_p_flow_folded F) (by omega) hr tk (pda_cons (pd_v 3) (pda_cons (pd_callC (c_p_flow_in F) (by omega) hr tk (pda_cons (pd_v 4) pda_nil)) pda_nil))) (pd_callC (c_p_flow_folded F) (by omega) hr tk (pda_cons (pd_v 3) (pda_cons (pd_callC (c_p_flow_in F) (by omega) hr tk (pda_cons (pd_v 5) pda_nil)) pda_nil))))))))
noncomputable def b_law_box : DS := (sSeq (sAsg (dIf (dTest (dBin oLt (dV 1) (dCall fLen (aCons (dV 0) aNil)))) (dBin oIx (dV 0) (dV 1)) (dC (.int 0))) (gN 2))
  (sRet (dNum (lLst (aCons (dBin oMul (dCall fAbs (aCons (dV 2) aNil)) (dCall fInt (aCons (dBin oGe (dCall fAbs (aCons (dV 2) aNil)) (dBin oPow (dC (.int 10)) (dC (.int 18)))) aNil))) (aCons (dBin oAdd (dBin oAdd (dBin oMod (dCall fInt (aCons (dV 2) aNil)) (dC (.int 2305843009213693951))) (dBin oMul (dC (.int 39373)) (dV 1))) (dC (.int 22186))) (aCons (dC (.int 0)) aNil)))))))
noncomputable def φ_law_box : DF := runF 2 3 b_law_box
theorem c_law_box (F : Facts K mg) : CalD P w K mg base 1 "_law_box" 2 φ_law_box := by
  exact calD (k := 0) (n := 2) ["script", "k", "cell"] ["script", "k"] F.d_law_box (by rfl) rfl (fun _ _ _ _ _ _ us hl => match us, hl with | [_, _], _ => rfl) fun f cdv A outer s H E hr tk hp => by
    have hN : (["script", "k", "cell"] : List Str).Nodup := by decide
    have hu64 : (A.deeper (envOfC "_law_box" (defScope (top 111)) s.heap.objs.size f cdv)).units + 64 < cLine := by have := hr.un; omega
    have hu65 : (A.deeper (envOfC "_law_box" (defScope (top 111)) s.heap.objs.size f cdv)).units + 65 < cLine := by have := hr.un; omega
    have hu1 : (A.deeper (envOfC "_law_box" (defScope (top 111)) s.heap.objs.size f cdv)).units + 1 < cLine := by have := hr.un; omega
    exact (pdss_cons (pds_set (i := 2) hN (pd_if (pt_cmpD op_lt od_lt (pd_v 1) (pd_callB call_len_seq cd_len F.B.len (by decide +kernel) (pda_cons (pd_v 0) pda_nil))) (pd_ix (pd_v 0) (pd_v 1)) pd_int))
    (pdss_one (pds_ret (pd_num (pdl_lst (pda_cons (pd_bin op_mulA od_mul (pd_callB call_abs cd_abs F.B.abs (by decide +kernel) (pda_cons (pd_v 2) pda_nil)) (pd_callTy call_int1 cd_int F.B.int (by decide +kernel) (pda_cons (pd_cmp op_ge od_ge (pd_callB call_abs cd_abs F.B.abs (by decide +kernel) (pda_cons (pd_v 2) pda_nil)) (pd_bin op_pow od_pow pd_int pd_int)) pda_nil))) (pda_cons (pd_bin op_addD od_add (pd_bin op_addD od_add (pd_bin op_modN od_mod (pd_callTy call_int1 cd_int F.B.int (by decide +kernel) (pda_cons (pd_v 2) pda_nil)) pd_int) (pd_bin op_mulA od_mul pd_int (pd_v 1))) pd_int) (pda_cons pd_int pda_nil))))))))
noncomputable def b_law_take : DS := (sSeq (sIf (dTest (dBin oGt (dBin oIx (dV 0) (dC (.int 0))) (dC (.int 0)))) (sSeq (sAsg (dBin oMod (dCall fInt (aCons (dBin oIx (dV 0) (dC (.int 0))) aNil)) (dV 1)) (gN 2))
  (sSeq (sStL (dV 0) (dC (.int 0)) (dBin oDiv (dBin oIx (dV 0) (dC (.int 0))) (dV 1)))
  (sRet (dV 2)))) sNext)
  (sSeq (sStL (dV 0) (dC (.int 2)) (dBin oAdd (dBin oIx (dV 0) (dC (.int 2))) (dC (.int 1))))
  (sSeq (sAsg (dBin oMod (dCall fInt (aCons (dBin oMul (dBin oAdd (dBin oIx (dV 0) (dC (.int 1))) (dBin oMul (dC (.int 48271)) (dBin oIx (dV 0) (dC (.int 2))))) (dBin oAdd (dC (.int 39373)) (dBin oIx (dV 0) (dC (.int 2))))) aNil)) (dC (.int 2147483647))) (gN 3))
  (sSeq (sAsg (dBin oAdd (dBin oMod (dCall fInt (aCons (dV 3) aNil)) (dC (.int 40009))) (dC (.int 7))) (gN 4))
  (sSeq (sAsg (dBin oMod (dCall fInt (aCons (dBin oMul (dBin oAdd (dBin oAdd (dV 3) (dBin oIx (dV 0) (dC (.int 2)))) (dBin oDiv (dBin oIx (dV 0) (dC (.int 1))) (dC (.int 1000003)))) (dV 4)) aNil)) (dC (.int 2147483629))) (gN 5))
  (sRet (dBin oMod (dCall fInt (aCons (dBin oDiv (dBin oMod (dCall fInt (aCons (dBin oAdd (dBin oMul (dV 5) (dC (.int 48271))) (dV 3)) aNil)) (dC (.int 2147483587))) (dC (.int 64))) aNil)) (dV 1))))))))
noncomputable def φ_law_take : DF := runF 2 6 b_law_take
theorem c_law_take (F : Facts K mg) : CalD P w K mg base 1 "_law_take" 2 φ_law_take := by
  exact calD (k := 0) (n := 2) ["tin", "below_so", "drawn", "once_so", "wide_so", "twice_so"] ["tin", "below_so"] F.d_law_take (by rfl) rfl (fun _ _ _ _ _ _ us hl => match us, hl with | [_, _], _ => rfl) fun f cdv A outer s H E hr tk hp => by
    have hN : (["tin", "below_so", "drawn", "once_so", "wide_so", "twice_so"] : List Str).Nodup := by decide
    have hu64 : (A.deeper (envOfC "_law_take" (defScope (top 112)) s.heap.objs.size f cdv)).units + 64 < cLine := by have := hr.un; omega
    have hu65 : (A.deeper (envOfC "_law_take" (defScope (top 112)) s.heap.objs.size f cdv)).units + 65 < cLine := by have := hr.un; omega
    have hu1 : (A.deeper (envOfC "_law_take" (defScope (top 112)) s.heap.objs.size f cdv)).units + 1 < cLine := by have := hr.un; omega
    exact (pdss_cons (pds_if (pt_cmpD op_gt od_gt (pd_ix (pd_v 0) pd_int) pd_int) (pdss_cons (pds_set (i := 2) hN (pd_bin op_modN od_mod (pd_callTy call_int1 cd_int F.B.int (by decide +kernel) (pda_cons (pd_ix (pd_v 0) pd_int) pda_nil)) (pd_v 1)))
    (pdss_cons (pds_stL (pd_v 0) pd_int (pd_bin op_fdivD od_div (pd_ix (pd_v 0) pd_int) (pd_v 1)))
    (pdss_one (pds_ret (pd_v 2))))) pdss_nil)
    (pdss_cons (pds_stL (pd_v 0) pd_int (pd_bin op_addD od_add (pd_ix (pd_v 0) pd_int) pd_int))
    (pdss_cons (pds_set (i := 3) hN (pd_bin op_modN od_mod (pd_callTy call_int1 cd_int F.B.int (by decide +kernel) (pda_cons (pd_bin op_mulA od_mul (pd_bin op_addD od_add (pd_ix (pd_v 0) pd_int) (pd_bin op_mulA od_mul pd_int (pd_ix (pd_v 0) pd_int))) (pd_bin op_addD od_add pd_int (pd_ix (pd_v 0) pd_int))) pda_nil)) pd_int))
    (pdss_cons (pds_set (i := 4) hN (pd_bin op_addD od_add (pd_bin op_modN od_mod (pd_callTy call_int1 cd_int F.B.int (by decide +kernel) (pda_cons (pd_v 3) pda_nil)) pd_int) pd_int))
    (pdss_cons (pds_set (i := 5) hN (pd_bin op_modN od_mod (pd_callTy call_int1 cd_int F.B.int (by decide +kernel) (pda_cons (pd_bin op_mulA od_mul (pd_bin op_addD od_add (pd_bin op_addD od_add (pd_v 3) (pd_ix (pd_v 0) pd_int)) (pd_bin op_fdivD od_div (pd_ix (pd_v 0) pd_int) pd_int)) (pd_v 4)) pda_nil)) pd_int))
    (pdss_one (pds_ret (pd_bin op_modN od_mod (pd_callTy call_int1 cd_int F.B.int (by decide +kernel) (pda_cons (pd_bin op_fdivD od_div (pd_bin op_modN od_mod (pd_callTy call_int1 cd_int F.B.int (by decide +kernel) (pda_cons (pd_bin op_addD od_add (pd_bin op_mulA od_mul (pd_v 5) pd_int) (pd_v 3)) pda_nil)) pd_int) pd_int) pda_nil)) (pd_v 1)))))))))
noncomputable def b_law_cells : DS := (sSeq (sAsg (dOr (dNum (lListL (lSlL (dV 0) pNo (pSo (dV 1))))) (dNum (lLst (aCons (dC (.int 0)) aNil)))) (gN 2))
  (sSeq (sFor (iEnumN (lSlL (dV 0) (pSo (dV 1)) (pSo (dC (.int 63))))) (gT 2 (gC (gN 4) (gC (gN 5) gN0))) (sSeq (sAsg (dBin oMod (dCall fInt (aCons (dV 4) aNil)) (dV 1)) (gN 3))
  (sStL (dV 2) (dV 3) (dBin oAdd (dBin oIx (dV 2) (dV 3)) (dBin oMul (dV 5) (dBin oAdd (dV 4) (dC (.int 2))))))))
  (sRet (dV 2))))
noncomputable def φ_law_cells : DF := runF 2 6 b_law_cells
theorem c_law_cells (F : Facts K mg) : CalD P w K mg base 1 "_law_cells" 2 φ_law_cells := by
  exact calD (k := 0) (n := 2) ["script", "most_so", "cells_so", "at_so", "k", "cell_so"] ["script", "most_so"] F.d_law_cells (by rfl) rfl (fun _ _ _ _ _ _ us hl => match us, hl with | [_, _], _ => rfl) fun f cdv A outer s H E hr tk hp => by
    have hN : (["script", "most_so", "cells_so", "at_so", "k", "cell_so"] : List Str).Nodup := by decide
    have hu64 : (A.deeper (envOfC "_law_cells" (defScope (top 113)) s.heap.objs.size f cdv)).units + 64 < cLine := by have := hr.un; omega
    have hu65 : (A.deeper (envOfC "_law_cells" (defScope (top 113)) s.heap.objs.size f cdv)).units + 65 < cLine := by have := hr.un; omega
    have hu1 : (A.deeper (envOfC "_law_cells" (defScope (top 113)) s.heap.objs.size f cdv)).units + 1 < cLine := by have := hr.un; omega
    exact (pdss_cons (pds_set (i := 2) hN (pd_orT (pd_num (pdl_listL F.B.list (pdl_sl (pd_v 0) pdo_none (pdo_some (pd_v 1))))) (pd_one (pd_num (pdl_lst (pda_cons pd_int pda_nil))))))
    (pdss_cons (pds_for hp rfl (pdj_enumN F.B.enumerate (pdl_sl (pd_v 0) (pdo_some (pd_v 1)) (pdo_some pd_int))) (pdg_t rfl (pdgs_cons (pdg_n (i := 4) hN) (pdgs_cons (pdg_n (i := 5) hN) pdgs_nil))) (pdss_cons (pds_set (i := 3) hN (pd_bin op_modN od_mod (pd_callTy call_int1 cd_int F.B.int (by decide +kernel) (pda_cons (pd_v 4) pda_nil)) (pd_v 1)))
    (pdss_one (pds_stL (pd_v 2) (pd_v 3) (pd_bin op_addD od_add (pd_ix (pd_v 2) (pd_v 3)) (pd_bin op_mulA od_mul (pd_v 5) (pd_bin op_addD od_add (pd_v 4) pd_int)))))))
    (pdss_one (pds_ret (pd_v 2)))))
noncomputable def b_law_of : DS := (sRet (dBin oIx (dV 1) (dFn 2 φ_law_take (aCons (dV 0) (aCons (dCall fLen (aCons (dV 1) aNil)) aNil)))))
noncomputable def φ_law_of : DF := runF 2 2 b_law_of
theorem c_law_of (F : Facts K mg) : CalD P w K mg base 2 "_law_of" 2 φ_law_of := by
  exact calD (k := 1) (n := 2) ["tin", "goods_so"] ["tin", "goods_so"] F.d_law_of (by rfl) rfl (fun _ _ _ _ _ _ us hl => match us, hl with | [_, _], _ => rfl) fun f cdv A outer s H E hr tk hp => by
    have hN : (["tin", "goods_so"] : List Str).Nodup := by decide
    have hu64 : (A.deeper (envOfC "_law_of" (defScope (top 114)) s.heap.objs.size f cdv)).units + 64 < cLine := by have := hr.un; omega
    have hu65 : (A.deeper (envOfC "_law_of" (defScope (top 114)) s.heap.objs.size f cdv)).units + 65 < cLine := by have := hr.un; omega
    have hu1 : (A.deeper (envOfC "_law_of" (defScope (top 114)) s.heap.objs.size f cdv)).units + 1 < cLine := by have := hr.un; omega
    exact (pdss_one (pds_ret (pd_ix (pd_v 1) (pd_callC (c_law_take F) (by omega) hr tk (pda_cons (pd_v 0) (pda_cons (pd_callB call_len_seq cd_len F.B.len (by decide +kernel) (pda_cons (pd_v 1) pda_nil)) pda_nil))))))
noncomputable def b_law_same (φ : DF) : DS := (sSeq (sIf (dTru (dIsi2 "list" "tuple" (dV 1))) (sSeq (sIf (bOr (dTest (dBin oNe (dIsi "list" (dV 0)) (dIsi "list" (dV 1)))) (dTest (dBin oNe (dIsi "tuple" (dV 0)) (dIsi "tuple" (dV 1))))) (sRet (dC (.bl false))) sNext)
  (sRet (dAnd (dBin oEq (dCall fLen (aCons (dV 0) aNil)) (dCall fLen (aCons (dV 1) aNil))) (dL φAll (lLc (iZip2 (dV 0) (dV 1)) (gT 2 (gC (gN 2) (gC (gN 3) gN0))) bYes (dFn 2 φ (aCons (dV 2) (aCons (dV 3) aNil))) [2, 3]))))) sNext)
  (sSeq (sIf (bOr (dTest (dBin oIsN (dV 1) (dC .non))) (dTru (dIsi2 "bool" "str" (dV 1)))) (sRet (dAnd (dBin oEq (dV 0) (dV 1)) (dAnd (dBin oEq (dIsi "bool" (dV 0)) (dIsi "bool" (dV 1))) (dBin oEq (dBin oIsN (dV 0) (dC .non)) (dBin oIsN (dV 1) (dC .non)))))) sNext)
  (sRet (dAnd (dIsi "int" (dV 0)) (dAnd (dNot (dIsi "bool" (dV 0))) (dBin oEq (dV 0) (dV 1)))))))
noncomputable def φ_law_same : Nat → DF
  | 0 => fun _ _ => none
  | k + 1 => runF 2 4 (b_law_same (φ_law_same k))
theorem c_law_same' (F : Facts K mg) : ∀ k, CalD P w K mg base (1 + k) "_law_same" 2 (φ_law_same k)
  | 0 => calD_never _ F.d_law_same ["got", "due"] rfl (fun _ _ _ _ _ _ us hl => match us, hl with | [_, _], _ => rfl)
  | k + 1 => by
    have c := c_law_same' F k
    exact calD (k := 1 + k) (n := 2) ["got", "due", "mine", "its"] ["got", "due"] F.d_law_same (by rfl) rfl (fun _ _ _ _ _ _ us hl => match us, hl with | [_, _], _ => rfl) fun f cdv A outer s H E hr tk hp => by
      have hN : (["got", "due", "mine", "its"] : List Str).Nodup := by decide
      have hu64 : (A.deeper (envOfC "_law_same" (defScope (top 115)) s.heap.objs.size f cdv)).units + 64 < cLine := by have := hr.un; omega
      have hu65 : (A.deeper (envOfC "_law_same" (defScope (top 115)) s.heap.objs.size f cdv)).units + 65 < cLine := by have := hr.un; omega
      have hu1 : (A.deeper (envOfC "_law_same" (defScope (top 115)) s.heap.objs.size f cdv)).units + 1 < cLine := by have := hr.un; omega
      exact (pdss_cons (pds_if (pt_truD (pd_isi2 F.B.isinstance F.B.list (by decide +kernel) F.B.tuple (by decide +kernel) (by decide) (by decide) (pd_v 1))) (pdss_cons (pds_if (PDw.t (pw_orD (pt_cmpD (op_neD hu64) od_ne (pd_isi F.B.isinstance F.B.list (by decide +kernel) (by decide) (pd_v 0)) (pd_isi F.B.isinstance F.B.list (by decide +kernel) (by decide) (pd_v 1))) (pw_or1D (pt_cmpD (op_neD hu64) od_ne (pd_isi F.B.isinstance F.B.tuple (by decide +kernel) (by decide) (pd_v 0)) (pd_isi F.B.isinstance F.B.tuple (by decide +kernel) (by decide) (pd_v 1)))))) (pdss_one (pds_ret pd_bl)) pdss_nil)
      (pdss_one (pds_ret (pd_andT (pd_cmp (op_eqD hu64) od_eq (pd_callB call_len_seq cd_len F.B.len (by decide +kernel) (pda_cons (pd_v 0) pda_nil)) (pd_callB call_len_seq cd_len F.B.len (by decide +kernel) (pda_cons (pd_v 1) pda_nil))) (pd_one (pd_LB (cr_all rfl) ld_all F.B.all (by decide +kernel) (pdl_lc (own := [("mine", 2), ("its", 3)]) rfl hN (pdj_zip F.B.zip (pd_v 0) (pd_v 1)) (blkOk_by (by rfl)) (fun _ _ _ _ _ => (pdg_t rfl (pdgs_cons (pdg_n (i := 2) hN) (pdgs_cons (pdg_n (i := 3) hN) pdgs_nil)))) (fun _ _ _ _ _ => pdts_nil) (fun _ _ _ _ _ => (pd_callC c (by omega) hr takesF (pda_cons (pd_v 2) (pda_cons (pd_v 3) pda_nil)))) (sl_t (sl_c (sl_n (by decide)) (sl_c (sl_n (by decide)) sl_nil)))))))))) pdss_nil)
      (pdss_cons (pds_if (PDw.t (pw_orD (pt_cmpD op_isN od_isN (pd_v 1) pd_non) (pw_or1D (pt_truD (pd_isi2 F.B.isinstance F.B.bool (by decide +kernel) F.B.str (by decide +kernel) (by decide) (by decide) (pd_v 1)))))) (pdss_one (pds_ret (pd_andT (pd_cmp (op_eqD hu64) od_eq (pd_v 0) (pd_v 1)) (pd_andT (pd_cmp (op_eqD hu64) od_eq (pd_isi F.B.isinstance F.B.bool (by decide +kernel) (by decide) (pd_v 0)) (pd_isi F.B.isinstance F.B.bool (by decide +kernel) (by decide) (pd_v 1))) (pd_one (pd_cmp (op_eqD hu64) od_eq (pd_cmp op_isN od_isN (pd_v 0) pd_non) (pd_cmp op_isN od_isN (pd_v 1) pd_non))))))) pdss_nil)
      (pdss_one (pds_ret (pd_andT (pd_isi F.B.isinstance F.B.int (by decide +kernel) (by decide) (pd_v 0)) (pd_andT (pd_notT (pd_isi F.B.isinstance F.B.bool (by decide +kernel) (by decide) (pd_v 0))) (pd_one (pd_cmp (op_eqD hu64) od_eq (pd_v 0) (pd_v 1)))))))))
theorem c_law_same (F : Facts K mg) : CalD P w K mg base 9 "_law_same" 2 (φ_law_same 8) := c_law_same' F 8
noncomputable def b_law_gcd : DS := (sSeq (sWhile (dTest (dBin oNe (dV 1) (dC (.int 0)))) (sPar 0 1 (aCons (dV 1) (aCons (dBin oMod (dV 0) (dV 1)) aNil))))
  (sRet (dCall fAbs (aCons (dV 0) aNil))))
noncomputable def φ_law_gcd : DF := runF 2 2 b_law_gcd
theorem c_law_gcd (F : Facts K mg) : CalD P w K mg base 1 "_law_gcd" 2 φ_law_gcd := by
  exact calD (k := 0) (n := 2) ["one", "other"] ["one", "other"] F.d_law_gcd (by rfl) rfl (fun _ _ _ _ _ _ us hl => match us, hl with | [_, _], _ => rfl) fun f cdv A outer s H E hr tk hp => by
    have hN : (["one", "other"] : List Str).Nodup := by decide
    have hu64 : (A.deeper (envOfC "_law_gcd" (defScope (top 116)) s.heap.objs.size f cdv)).units + 64 < cLine := by have := hr.un; omega
    have hu65 : (A.deeper (envOfC "_law_gcd" (defScope (top 116)) s.heap.objs.size f cdv)).units + 65 < cLine := by have := hr.un; omega
    have hu1 : (A.deeper (envOfC "_law_gcd" (defScope (top 116)) s.heap.objs.size f cdv)).units + 1 < cLine := by have := hr.un; omega
    exact (pdss_cons (pds_while hp (pt_cmpD (op_neD hu64) od_ne (pd_v 1) pd_int) (pdss_one (pds_par (i := 0) (j := 1) rfl hN (pda_cons (pd_v 1) (pda_cons (pd_bin op_modN od_mod (pd_v 0) (pd_v 1)) pda_nil)))))
    (pdss_one (pds_ret (pd_callB call_abs cd_abs F.B.abs (by decide +kernel) (pda_cons (pd_v 0) pda_nil)))))
noncomputable def b_law_fr : DS := (sSeq (sAsg (dFn 2 φ_law_gcd (aCons (dV 0) (aCons (dV 1) aNil))) (gN 2))
  (sRet (dTup (aCons (dBin oDiv (dV 0) (dV 2)) (aCons (dBin oDiv (dV 1) (dV 2)) aNil)))))
noncomputable def φ_law_fr : DF := runF 2 3 b_law_fr
theorem c_law_fr (F : Facts K mg) : CalD P w K mg base 2 "_law_fr" 2 φ_law_fr := by
  exact calD (k := 1) (n := 2) ["high_so", "base_so", "deep_so"] ["high_so", "base_so"] F.d_law_fr (by rfl) rfl (fun _ _ _ _ _ _ us hl => match us, hl with | [_, _], _ => rfl) fun f cdv A outer s H E hr tk hp => by
    have hN : (["high_so", "base_so", "deep_so"] : List Str).Nodup := by decide
    have hu64 : (A.deeper (envOfC "_law_fr" (defScope (top 117)) s.heap.objs.size f cdv)).units + 64 < cLine := by have := hr.un; omega
    have hu65 : (A.deeper (envOfC "_law_fr" (defScope (top 117)) s.heap.objs.size f cdv)).units + 65 < cLine := by have := hr.un; omega
    have hu1 : (A.deeper (envOfC "_law_fr" (defScope (top 117)) s.heap.objs.size f cdv)).units + 1 < cLine := by have := hr.un; omega
    exact (pdss_cons (pds_set (i := 2) hN (pd_callC (c_law_gcd F) (by omega) hr tk (pda_cons (pd_v 0) (pda_cons (pd_v 1) pda_nil))))
    (pdss_one (pds_ret (pd_tup (pda_cons (pd_bin op_fdivD od_div (pd_v 0) (pd_v 2)) (pda_cons (pd_bin op_fdivD od_div (pd_v 1) (pd_v 2)) pda_nil))))))
noncomputable def b_law_map : DS := (sSeq (sAsg (dFn 2 φ_law_fr (aCons (dFn 2 φ_law_of (aCons (dV 0) (aCons (dNum (lLst (aCons (dUn uNeg (dC (.int 3))) (aCons (dUn uNeg (dC (.int 2))) (aCons (dUn uNeg (dC (.int 1))) (aCons (dC (.int 1)) (aCons (dC (.int 2)) (aCons (dC (.int 2)) (aCons (dC (.int 3)) (aCons (dC (.int 4)) aNil)))))))))) aNil))) (aCons (dFn 2 φ_law_of (aCons (dV 0) (aCons (dNum (lLst (aCons (dC (.int 1)) (aCons (dC (.int 1)) (aCons (dC (.int 1)) (aCons (dC (.int 2)) (aCons (dC (.int 3)) aNil))))))) aNil))) aNil))) (gN 1))
  (sRet (dTup (aCons (dV 1) (aCons (dFn 2 φ_law_fr (aCons (dBin oSub (dFn 2 φ_law_take (aCons (dV 0) (aCons (dC (.int 9)) aNil))) (dC (.int 4))) (aCons (dFn 2 φ_law_of (aCons (dV 0) (aCons (dNum (lLst (aCons (dC (.int 1)) (aCons (dC (.int 1)) (aCons (dC (.int 2)) (aCons (dC (.int 3)) aNil)))))) aNil))) aNil))) aNil)))))
noncomputable def φ_law_map : DF := runF 1 2 b_law_map
theorem c_law_map (F : Facts K mg) : CalD P w K mg base 3 "_law_map" 1 φ_law_map := by
  exact calD (k := 2) (n := 1) ["tin", "much"] ["tin"] F.d_law_map (by rfl) rfl (fun _ _ _ _ _ _ us hl => match us, hl with | [_], _ => rfl) fun f cdv A outer s H E hr tk hp => by
    have hN : (["tin", "much"] : List Str).Nodup := by decide
    have hu64 : (A.deeper (envOfC "_law_map" (defScope (top 118)) s.heap.objs.size f cdv)).units + 64 < cLine := by have := hr.un; omega
    have hu65 : (A.deeper (envOfC "_law_map" (defScope (top 118)) s.heap.objs.size f cdv)).units + 65 < cLine := by have := hr.un; omega
    have hu1 : (A.deeper (envOfC "_law_map" (defScope (top 118)) s.heap.objs.size f cdv)).units + 1 < cLine := by have := hr.un; omega
    exact (pdss_cons (pds_set (i := 1) hN (pd_callC (c_law_fr F) (by omega) hr tk (pda_cons (pd_callC (c_law_of F) (by omega) hr tk (pda_cons (pd_v 0) (pda_cons (pd_num (pdl_lst (pda_cons (pd_un un_neg ud_neg pd_int) (pda_cons (pd_un un_neg ud_neg pd_int) (pda_cons (pd_un un_neg ud_neg pd_int) (pda_cons pd_int (pda_cons pd_int (pda_cons pd_int (pda_cons pd_int (pda_cons pd_int pda_nil)))))))))) pda_nil))) (pda_cons (pd_callC (c_law_of F) (by omega) hr tk (pda_cons (pd_v 0) (pda_cons (pd_num (pdl_lst (pda_cons pd_int (pda_cons pd_int (pda_cons pd_int (pda_cons pd_int (pda_cons pd_int pda_nil))))))) pda_nil))) pda_nil))))
    (pdss_one (pds_ret (pd_tup (pda_cons (pd_v 1) (pda_cons (pd_callC (c_law_fr F) (by omega) hr tk (pda_cons (pd_bin op_sub od_sub (pd_callC (c_law_take F) (by omega) hr tk (pda_cons (pd_v 0) (pda_cons pd_int pda_nil))) pd_int) (pda_cons (pd_callC (c_law_of F) (by omega) hr tk (pda_cons (pd_v 0) (pda_cons (pd_num (pdl_lst (pda_cons pd_int (pda_cons pd_int (pda_cons pd_int (pda_cons pd_int pda_nil)))))) pda_nil))) pda_nil))) pda_nil))))))
noncomputable def b_law_maps : DS := (sRet (dL φTup (lLc (Dt.iRng1 (dV 1)) (gN 2) bYes (dFn 1 φ_law_map (aCons (dV 0) aNil)) [2])))
noncomputable def φ_law_maps : DF := runF 2 3 b_law_maps
theorem c_law_maps (F : Facts K mg) : CalD P w K mg base 4 "_law_maps" 2 φ_law_maps := by
  exact calD (k := 3) (n := 2) ["tin", "letters", "lap"] ["tin", "letters"] F.d_law_maps (by rfl) rfl (fun _ _ _ _ _ _ us hl => match us, hl with | [_, _], _ => rfl) fun f cdv A outer s H E hr tk hp => by
    have hN : (["tin", "letters", "lap"] : List Str).Nodup := by decide
    have hu64 : (A.deeper (envOfC "_law_maps" (defScope (top 119)) s.heap.objs.size f cdv)).units + 64 < cLine := by have := hr.un; omega
    have hu65 : (A.deeper (envOfC "_law_maps" (defScope (top 119)) s.heap.objs.size f cdv)).units + 65 < cLine := by have := hr.un; omega
    have hu1 : (A.deeper (envOfC "_law_maps" (defScope (top 119)) s.heap.objs.size f cdv)).units + 1 < cLine := by have := hr.un; omega
    exact (pdss_one (pds_ret (pd_LT call_tuple_of ld_tup F.B.tuple (by decide +kernel) (pdl_lc (own := [("lap", 2)]) rfl hN (pdj_rng1 F.B.range (pd_v 1)) (blkOk_by (by rfl)) (fun _ _ _ _ _ => (pdg_n (i := 2) hN)) (fun _ _ _ _ _ => pdts_nil) (fun _ _ _ _ _ => (pd_callC (c_law_map F) (by omega) hr takesF (pda_cons (pd_v 0) pda_nil))) (sl_n (by decide))))))
noncomputable def b_law_letter : DS := (sRet (dBin oMul (dFn 2 φ_law_of (aCons (dV 0) (aCons (dNum (lLst (aCons (dC (.int 1)) (aCons (dUn uNeg (dC (.int 1))) aNil)))) aNil))) (dBin oAdd (dC (.int 1)) (dFn 2 φ_law_take (aCons (dV 0) (aCons (dV 1) aNil))))))
noncomputable def φ_law_letter : DF := runF 2 2 b_law_letter
theorem c_law_letter (F : Facts K mg) : CalD P w K mg base 3 "_law_letter" 2 φ_law_letter := by
  exact calD (k := 2) (n := 2) ["tin", "letters"] ["tin", "letters"] F.d_law_letter (by rfl) rfl (fun _ _ _ _ _ _ us hl => match us, hl with | [_, _], _ => rfl) fun f cdv A outer s H E hr tk hp => by
    have hN : (["tin", "letters"] : List Str).Nodup := by decide
    have hu64 : (A.deeper (envOfC "_law_letter" (defScope (top 120)) s.heap.objs.size f cdv)).units + 64 < cLine := by have := hr.un; omega
    have hu65 : (A.deeper (envOfC "_law_letter" (defScope (top 120)) s.heap.objs.size f cdv)).units + 65 < cLine := by have := hr.un; omega
    have hu1 : (A.deeper (envOfC "_law_letter" (defScope (top 120)) s.heap.objs.size f cdv)).units + 1 < cLine := by have := hr.un; omega
    exact (pdss_one (pds_ret (pd_bin op_mulA od_mul (pd_callC (c_law_of F) (by omega) hr tk (pda_cons (pd_v 0) (pda_cons (pd_num (pdl_lst (pda_cons pd_int (pda_cons (pd_un un_neg ud_neg pd_int) pda_nil)))) pda_nil))) (pd_bin op_addD od_add pd_int (pd_callC (c_law_take F) (by omega) hr tk (pda_cons (pd_v 0) (pda_cons (pd_v 1) pda_nil)))))))
noncomputable def b_law_word : DS := (sRet (dL φTup (lLc (Dt.iRng1 (dFn 2 φ_law_take (aCons (dV 0) (aCons (dBin oAdd (dV 2) (dC (.int 1))) aNil)))) (gN 3) bYes (dFn 2 φ_law_letter (aCons (dV 0) (aCons (dV 1) aNil))) [3])))
noncomputable def φ_law_word : DF := runF 3 4 b_law_word
theorem c_law_word (F : Facts K mg) : CalD P w K mg base 4 "_law_word" 3 φ_law_word := by
  exact calD (k := 3) (n := 3) ["tin", "letters", "most", "lap"] ["tin", "letters", "most"] F.d_law_word (by rfl) rfl (fun _ _ _ _ _ _ us hl => match us, hl with | [_, _, _], _ => rfl) fun f cdv A outer s H E hr tk hp => by
    have hN : (["tin", "letters", "most", "lap"] : List Str).Nodup := by decide
    have hu64 : (A.deeper (envOfC "_law_word" (defScope (top 121)) s.heap.objs.size f cdv)).units + 64 < cLine := by have := hr.un; omega
    have hu65 : (A.deeper (envOfC "_law_word" (defScope (top 121)) s.heap.objs.size f cdv)).units + 65 < cLine := by have := hr.un; omega
    have hu1 : (A.deeper (envOfC "_law_word" (defScope (top 121)) s.heap.objs.size f cdv)).units + 1 < cLine := by have := hr.un; omega
    exact (pdss_one (pds_ret (pd_LT call_tuple_of ld_tup F.B.tuple (by decide +kernel) (pdl_lc (own := [("lap", 3)]) rfl hN (pdj_rng1 F.B.range (pd_callC (c_law_take F) (by omega) hr tk (pda_cons (pd_v 0) (pda_cons (pd_bin op_addD od_add (pd_v 2) pd_int) pda_nil)))) (blkOk_by (by rfl)) (fun _ _ _ _ _ => (pdg_n (i := 3) hN)) (fun _ _ _ _ _ => pdts_nil) (fun _ _ _ _ _ => (pd_callC (c_law_letter F) (by omega) hr takesF (pda_cons (pd_v 0) (pda_cons (pd_v 1) pda_nil)))) (sl_n (by decide))))))
noncomputable def b_law_rest_back : DS := (sRet (dIxL (lLc (Dt.iRng1 (dV 0)) (gN 2) (dTest (dBin oEq (dBin oMod (dBin oMul (dV 2) (dV 1)) (dV 0)) (dBin oMod (dC (.int 1)) (dV 0)))) (dV 2) [2]) (dC (.int 0))))
noncomputable def φ_law_rest_back : DF := runF 2 3 b_law_rest_back
theorem c_law_rest_back (F : Facts K mg) : CalD P w K mg base 1 "_law_rest_back" 2 φ_law_rest_back := by
  exact calD (k := 0) (n := 2) ["prime", "number", "rest"] ["prime", "number"] F.d_law_rest_back (by rfl) rfl (fun _ _ _ _ _ _ us hl => match us, hl with | [_, _], _ => rfl) fun f cdv A outer s H E hr tk hp => by
    have hN : (["prime", "number", "rest"] : List Str).Nodup := by decide
    have hu64 : (A.deeper (envOfC "_law_rest_back" (defScope (top 122)) s.heap.objs.size f cdv)).units + 64 < cLine := by have := hr.un; omega
    have hu65 : (A.deeper (envOfC "_law_rest_back" (defScope (top 122)) s.heap.objs.size f cdv)).units + 65 < cLine := by have := hr.un; omega
    have hu1 : (A.deeper (envOfC "_law_rest_back" (defScope (top 122)) s.heap.objs.size f cdv)).units + 1 < cLine := by have := hr.un; omega
    exact (pdss_one (pds_ret (pd_ixL (pdl_lc (own := [("rest", 2)]) rfl hN (pdj_rng1 F.B.range (pd_v 0)) (blkOk_by (by rfl)) (fun _ _ _ _ _ => (pdg_n (i := 2) hN)) (fun _ _ _ _ _ => (pdts_one (pt_cmpD (op_eqD hu64) od_eq (pd_bin op_modN od_mod (pd_bin op_mulA od_mul (pd_v 2) (pd_v 1)) (pd_v 0)) (pd_bin op_modN od_mod pd_int (pd_v 0))))) (fun _ _ _ _ _ => (pd_v 2)) (sl_n (by decide))) pd_int)))
noncomputable def b_law_rest_two : DS := (sRet (dTup (aCons (dBin oMod (dBin oMul (dBin oIx (dV 1) (dC (.int 0))) (dBin oIx (dV 2) (dC (.int 0)))) (dV 0)) (aCons (dBin oMod (dBin oAdd (dBin oMul (dBin oIx (dV 1) (dC (.int 0))) (dBin oIx (dV 2) (dC (.int 1)))) (dBin oIx (dV 1) (dC (.int 1)))) (dV 0)) aNil))))
noncomputable def φ_law_rest_two : DF := runF 3 3 b_law_rest_two
theorem c_law_rest_two (F : Facts K mg) : CalD P w K mg base 1 "_law_rest_two" 3 φ_law_rest_two := by
  exact calD (k := 0) (n := 3) ["prime", "one", "other"] ["prime", "one", "other"] F.d_law_rest_two (by rfl) rfl (fun _ _ _ _ _ _ us hl => match us, hl with | [_, _, _], _ => rfl) fun f cdv A outer s H E hr tk hp => by
    have hN : (["prime", "one", "other"] : List Str).Nodup := by decide
    have hu64 : (A.deeper (envOfC "_law_rest_two" (defScope (top 123)) s.heap.objs.size f cdv)).units + 64 < cLine := by have := hr.un; omega
    have hu65 : (A.deeper (envOfC "_law_rest_two" (defScope (top 123)) s.heap.objs.size f cdv)).units + 65 < cLine := by have := hr.un; omega
    have hu1 : (A.deeper (envOfC "_law_rest_two" (defScope (top 123)) s.heap.objs.size f cdv)).units + 1 < cLine := by have := hr.un; omega
    exact (pdss_one (pds_ret (pd_tup (pda_cons (pd_bin op_modN od_mod (pd_bin op_mulA od_mul (pd_ix (pd_v 1) pd_int) (pd_ix (pd_v 2) pd_int)) (pd_v 0)) (pda_cons (pd_bin op_modN od_mod (pd_bin op_addD od_add (pd_bin op_mulA od_mul (pd_ix (pd_v 1) pd_int) (pd_ix (pd_v 2) pd_int)) (pd_ix (pd_v 1) pd_int)) (pd_v 0)) pda_nil)))))
noncomputable def b_law_rest_undo : DS := (sSeq (sAsg (dFn 2 φ_law_rest_back (aCons (dV 0) (aCons (dBin oIx (dV 1) (dC (.int 0))) aNil))) (gN 2))
  (sRet (dTup (aCons (dV 2) (aCons (dBin oMod (dBin oMul (dUn uNeg (dV 2)) (dBin oIx (dV 1) (dC (.int 1)))) (dV 0)) aNil)))))
noncomputable def φ_law_rest_undo : DF := runF 2 3 b_law_rest_undo
theorem c_law_rest_undo (F : Facts K mg) : CalD P w K mg base 2 "_law_rest_undo" 2 φ_law_rest_undo := by
  exact calD (k := 1) (n := 2) ["prime", "own", "back"] ["prime", "own"] F.d_law_rest_undo (by rfl) rfl (fun _ _ _ _ _ _ us hl => match us, hl with | [_, _], _ => rfl) fun f cdv A outer s H E hr tk hp => by
    have hN : (["prime", "own", "back"] : List Str).Nodup := by decide
    have hu64 : (A.deeper (envOfC "_law_rest_undo" (defScope (top 124)) s.heap.objs.size f cdv)).units + 64 < cLine := by have := hr.un; omega
    have hu65 : (A.deeper (envOfC "_law_rest_undo" (defScope (top 124)) s.heap.objs.size f cdv)).units + 65 < cLine := by have := hr.un; omega
    have hu1 : (A.deeper (envOfC "_law_rest_undo" (defScope (top 124)) s.heap.objs.size f cdv)).units + 1 < cLine := by have := hr.un; omega
    exact (pdss_cons (pds_set (i := 2) hN (pd_callC (c_law_rest_back F) (by omega) hr tk (pda_cons (pd_v 0) (pda_cons (pd_ix (pd_v 1) pd_int) pda_nil))))
    (pdss_one (pds_ret (pd_tup (pda_cons (pd_v 2) (pda_cons (pd_bin op_modN od_mod (pd_bin op_mulA od_mul (pd_un un_neg ud_neg (pd_v 2)) (pd_ix (pd_v 1) pd_int)) (pd_v 0)) pda_nil))))))
noncomputable def b_law_rest_led : DS := (sSeq (sAsg (dTup (aCons (dBin oMod (dC (.int 1)) (dV 0)) (aCons (dC (.int 0)) aNil))) (gN 3))
  (sSeq (sFor (iSeq (dV 2)) (gN 5) (sSeq (sAsg (dBin oIx (dV 1) (dBin oSub (dCall fAbs (aCons (dV 5) aNil)) (dC (.int 1)))) (gN 4))
  (sAsg (dFn 3 φ_law_rest_two (aCons (dV 0) (aCons (dV 3) (aCons (dIf (dTest (dBin oGt (dV 5) (dC (.int 0)))) (dV 4) (dFn 2 φ_law_rest_undo (aCons (dV 0) (aCons (dV 4) aNil)))) aNil)))) (gN 3))))
  (sRet (dV 3))))
noncomputable def φ_law_rest_led : DF := runF 3 6 b_law_rest_led
theorem c_law_rest_led (F : Facts K mg) : CalD P w K mg base 3 "_law_rest_led" 3 φ_law_rest_led := by
  exact calD (k := 2) (n := 3) ["prime", "maps", "word", "found", "near", "letter"] ["prime", "maps", "word"] F.d_law_rest_led (by rfl) rfl (fun _ _ _ _ _ _ us hl => match us, hl with | [_, _, _], _ => rfl) fun f cdv A outer s H E hr tk hp => by
    have hN : (["prime", "maps", "word", "found", "near", "letter"] : List Str).Nodup := by decide
    have hu64 : (A.deeper (envOfC "_law_rest_led" (defScope (top 125)) s.heap.objs.size f cdv)).units + 64 < cLine := by have := hr.un; omega
    have hu65 : (A.deeper (envOfC "_law_rest_led" (defScope (top 125)) s.heap.objs.size f cdv)).units + 65 < cLine := by have := hr.un; omega
    have hu1 : (A.deeper (envOfC "_law_rest_led" (defScope (top 125)) s.heap.objs.size f cdv)).units + 1 < cLine := by have := hr.un; omega
    exact (pdss_cons (pds_set (i := 3) hN (pd_tup (pda_cons (pd_bin op_modN od_mod pd_int (pd_v 0)) (pda_cons pd_int pda_nil))))
    (pdss_cons (pds_for hp rfl (pdj_seq (pd_v 2)) (pdg_n (i := 5) hN) (pdss_cons (pds_set (i := 4) hN (pd_ix (pd_v 1) (pd_bin op_sub od_sub (pd_callB call_abs cd_abs F.B.abs (by decide +kernel) (pda_cons (pd_v 5) pda_nil)) pd_int)))
    (pdss_one (pds_set (i := 3) hN (pd_callC (c_law_rest_two F) (by omega) hr tk (pda_cons (pd_v 0) (pda_cons (pd_v 3) (pda_cons (pd_if (pt_cmpD op_gt od_gt (pd_v 5) pd_int) (pd_v 4) (pd_callC (c_law_rest_undo F) (by omega) hr tk (pda_cons (pd_v 0) (pda_cons (pd_v 4) pda_nil)))) pda_nil))))))))
    (pdss_one (pds_ret (pd_v 3)))))
noncomputable def b_law_rest : DS := (sSeq (sIf (dTest (dBin oEq (dBin oMod (dBin oIx (dV 1) (dC (.int 1))) (dV 0)) (dC (.int 0)))) (sRet (dC .non)) sNext)
  (sRet (dBin oMod (dBin oMul (dBin oIx (dV 1) (dC (.int 0))) (dFn 2 φ_law_rest_back (aCons (dV 0) (aCons (dBin oMod (dBin oIx (dV 1) (dC (.int 1))) (dV 0)) aNil)))) (dV 0))))
noncomputable def φ_law_rest : DF := runF 2 2 b_law_rest
theorem c_law_rest (F : Facts K mg) : CalD P w K mg base 2 "_law_rest" 2 φ_law_rest := by
  exact calD (k := 1) (n := 2) ["prime", "much"] ["prime", "much"] F.d_law_rest (by rfl) rfl (fun _ _ _ _ _ _ us hl => match us, hl with | [_, _], _ => rfl) fun f cdv A outer s H E hr tk hp => by
    have hN : (["prime", "much"] : List Str).Nodup := by decide
    have hu64 : (A.deeper (envOfC "_law_rest" (defScope (top 126)) s.heap.objs.size f cdv)).units + 64 < cLine := by have := hr.un; omega
    have hu65 : (A.deeper (envOfC "_law_rest" (defScope (top 126)) s.heap.objs.size f cdv)).units + 65 < cLine := by have := hr.un; omega
    have hu1 : (A.deeper (envOfC "_law_rest" (defScope (top 126)) s.heap.objs.size f cdv)).units + 1 < cLine := by have := hr.un; omega
    exact (pdss_cons (pds_if (pt_cmpD (op_eqD hu64) od_eq (pd_bin op_modN od_mod (pd_ix (pd_v 1) pd_int) (pd_v 0)) pd_int) (pdss_one (pds_ret pd_non)) pdss_nil)
    (pdss_one (pds_ret (pd_bin op_modN od_mod (pd_bin op_mulA od_mul (pd_ix (pd_v 1) pd_int) (pd_callC (c_law_rest_back F) (by omega) hr tk (pda_cons (pd_v 0) (pda_cons (pd_bin op_modN od_mod (pd_ix (pd_v 1) pd_int) (pd_v 0)) pda_nil)))) (pd_v 0)))))
noncomputable def b_law_rests : DS := (sSeq (sAsg (dL φTup (lLc (iSeq (dV 1)) (gN 3) bYes (dFn 2 φ_law_rest (aCons (dV 0) (aCons (dV 3) aNil))) [3])) (gN 2))
  (sRet (dIf (bOr (dTest (dBin oIn (dC .non) (dV 2))) (dTest (dBin oEq (dBin oIx (dV 2) (dC (.int 0))) (dC (.int 0))))) (dC .non) (dV 2))))
noncomputable def φ_law_rests : DF := runF 2 4 b_law_rests
theorem c_law_rests (F : Facts K mg) : CalD P w K mg base 3 "_law_rests" 2 φ_law_rests := by
  exact calD (k := 2) (n := 2) ["prime", "mapping", "told_so", "own"] ["prime", "mapping"] F.d_law_rests (by rfl) rfl (fun _ _ _ _ _ _ us hl => match us, hl with | [_, _], _ => rfl) fun f cdv A outer s H E hr tk hp => by
    have hN : (["prime", "mapping", "told_so", "own"] : List Str).Nodup := by decide
    have hu64 : (A.deeper (envOfC "_law_rests" (defScope (top 127)) s.heap.objs.size f cdv)).units + 64 < cLine := by have := hr.un; omega
    have hu65 : (A.deeper (envOfC "_law_rests" (defScope (top 127)) s.heap.objs.size f cdv)).units + 65 < cLine := by have := hr.un; omega
    have hu1 : (A.deeper (envOfC "_law_rests" (defScope (top 127)) s.heap.objs.size f cdv)).units + 1 < cLine := by have := hr.un; omega
    exact (pdss_cons (pds_set (i := 2) hN (pd_LT call_tuple_of ld_tup F.B.tuple (by decide +kernel) (pdl_lc (own := [("own", 3)]) rfl hN (pdj_seq (pd_v 1)) (blkOk_by (by rfl)) (fun _ _ _ _ _ => (pdg_n (i := 3) hN)) (fun _ _ _ _ _ => pdts_nil) (fun _ _ _ _ _ => (pd_callC (c_law_rest F) (by omega) hr takesF (pda_cons (pd_v 0) (pda_cons (pd_v 3) pda_nil)))) (sl_n (by decide)))))
    (pdss_one (pds_ret (pd_if (PDw.t (pw_orD (pt_cmpD (op_inA hu65) od_in pd_non (pd_v 2) (by with_unfolding_all rfl)) (pw_or1D (pt_cmpD (op_eqD hu64) od_eq (pd_ix (pd_v 2) pd_int) pd_int)))) pd_non (pd_v 2)))))
noncomputable def b_law_heard : DS := (sSeq (sAsg (dC .non) (gN 3))
  (sSeq (sTry "NoPaper" (sAsg (dIf (dTest (dBin oEq (dV 0) (dC (.int 0)))) (dFn 2 φ_p_rests_of (aCons (dV 1) (aCons (dV 2) aNil))) (dFn 1 φ_p_kept_point (aCons (dV 1) aNil))) (gN 3)) (sAsg (dC (.str "none")) (gN 3)))
  (sRet (dV 3))))
noncomputable def φ_law_heard : DF := runF 3 4 b_law_heard
theorem c_law_heard (F : Facts K mg) : CalD P w K mg base 12 "_law_heard" 3 φ_law_heard := by
  exact calD (k := 11) (n := 3) ["door", "one", "two", "found"] ["door", "one", "two"] F.d_law_heard (by rfl) rfl (fun _ _ _ _ _ _ us hl => match us, hl with | [_, _, _], _ => rfl) fun f cdv A outer s H E hr tk hp => by
    have hN : (["door", "one", "two", "found"] : List Str).Nodup := by decide
    have hu64 : (A.deeper (envOfC "_law_heard" (defScope (top 128)) s.heap.objs.size f cdv)).units + 64 < cLine := by have := hr.un; omega
    have hu65 : (A.deeper (envOfC "_law_heard" (defScope (top 128)) s.heap.objs.size f cdv)).units + 65 < cLine := by have := hr.un; omega
    have hu1 : (A.deeper (envOfC "_law_heard" (defScope (top 128)) s.heap.objs.size f cdv)).units + 1 < cLine := by have := hr.un; omega
    exact (pdss_cons (pds_set (i := 3) hN pd_non)
    (pdss_cons (F.x_NoPaper.try rfl rfl tk (fun _ _ _ tk' hp' => (pdss_one (pds_set (i := 3) hN (pd_if (pt_cmpD (op_eqD hu64) od_eq (pd_v 0) pd_int) (pd_callC (c_p_rests_of F) (by omega) hr tk' (pda_cons (pd_v 1) (pda_cons (pd_v 2) pda_nil))) (pd_callC (c_p_kept_point F) (by omega) hr tk' (pda_cons (pd_v 1) pda_nil)))))) (fun _ _ _ => (pdss_one (pds_set (i := 3) hN pd_str))))
    (pdss_one (pds_ret (pd_v 3)))))
noncomputable def b_law_numbers_right : DS := (sSeq (sPar 3 4 (aCons (dFn 2 φ_law_rest (aCons (dV 0) (aCons (dV 1) aNil))) (aCons (dFn 2 φ_law_rest (aCons (dV 0) (aCons (dV 2) aNil))) aNil)))
  (sSeq (sAsg (dNum (lLst (aCons (dFn 2 φ_p_rest_of (aCons (dFn 2 φ_p_plus (aCons (dV 1) (aCons (dV 2) aNil))) (aCons (dV 0) aNil))) (aCons (dFn 2 φ_p_rest_of (aCons (dFn 2 φ_p_less (aCons (dV 1) (aCons (dV 2) aNil))) (aCons (dV 0) aNil))) (aCons (dFn 2 φ_p_rest_of (aCons (dFn 2 φ_p_times (aCons (dV 1) (aCons (dV 2) aNil))) (aCons (dV 0) aNil))) aNil))))) (gN 5))
  (sSeq (sIf (bNot (dTru (dFn 2 (φ_law_same 8) (aCons (dV 5) (aCons (dNum (lLst (aCons (dBin oMod (dBin oAdd (dV 3) (dV 4)) (dV 0)) (aCons (dBin oMod (dBin oSub (dV 3) (dV 4)) (dV 0)) (aCons (dBin oMod (dBin oMul (dV 3) (dV 4)) (dV 0)) aNil))))) aNil))))) (sRet (dC (.bl false))) sNext)
  (sSeq (sIf (dTest (dBin oEq (dV 4) (dC (.int 0)))) (sRet (dC (.bl true))) sNext)
  (sRet (dFn 2 (φ_law_same 8) (aCons (dNum (lLst (aCons (dFn 2 φ_p_rest_of (aCons (dFn 2 φ_p_over (aCons (dV 1) (aCons (dV 2) aNil))) (aCons (dV 0) aNil))) (aCons (dFn 3 φ_p_rest_over (aCons (dV 3) (aCons (dV 4) (aCons (dV 0) aNil)))) (aCons (dFn 2 φ_p_rest_of (aCons (dFn 2 φ_p_fraction (aCons (dBin oIx (dV 1) (dC (.int 0))) (aCons (dBin oIx (dV 1) (dC (.int 1))) aNil))) (aCons (dV 0) aNil))) aNil))))) (aCons (dBin oAdd (dBin oMul (dNum (lLst (aCons (dBin oMod (dBin oMul (dV 3) (dFn 2 φ_law_rest_back (aCons (dV 0) (aCons (dV 4) aNil)))) (dV 0)) aNil))) (dC (.int 2))) (dNum (lLst (aCons (dV 3) aNil)))) aNil))))))))
noncomputable def φ_law_numbers_right : DF := runF 3 6 b_law_numbers_right
theorem c_law_numbers_right (F : Facts K mg) : CalD P w K mg base 13 "_law_numbers_right" 3 φ_law_numbers_right := by
  exact calD (k := 12) (n := 3) ["prime", "one", "other", "near", "far", "got"] ["prime", "one", "other"] F.d_law_numbers_right (by rfl) rfl (fun _ _ _ _ _ _ us hl => match us, hl with | [_, _, _], _ => rfl) fun f cdv A outer s H E hr tk hp => by
    have hN : (["prime", "one", "other", "near", "far", "got"] : List Str).Nodup := by decide
    have hu64 : (A.deeper (envOfC "_law_numbers_right" (defScope (top 129)) s.heap.objs.size f cdv)).units + 64 < cLine := by have := hr.un; omega
    have hu65 : (A.deeper (envOfC "_law_numbers_right" (defScope (top 129)) s.heap.objs.size f cdv)).units + 65 < cLine := by have := hr.un; omega
    have hu1 : (A.deeper (envOfC "_law_numbers_right" (defScope (top 129)) s.heap.objs.size f cdv)).units + 1 < cLine := by have := hr.un; omega
    exact (pdss_cons (pds_par (i := 3) (j := 4) rfl hN (pda_cons (pd_callC (c_law_rest F) (by omega) hr tk (pda_cons (pd_v 0) (pda_cons (pd_v 1) pda_nil))) (pda_cons (pd_callC (c_law_rest F) (by omega) hr tk (pda_cons (pd_v 0) (pda_cons (pd_v 2) pda_nil))) pda_nil)))
    (pdss_cons (pds_set (i := 5) hN (pd_num (pdl_lst (pda_cons (pd_callC (c_p_rest_of F) (by omega) hr tk (pda_cons (pd_callC (c_p_plus F) (by omega) hr tk (pda_cons (pd_v 1) (pda_cons (pd_v 2) pda_nil))) (pda_cons (pd_v 0) pda_nil))) (pda_cons (pd_callC (c_p_rest_of F) (by omega) hr tk (pda_cons (pd_callC (c_p_less F) (by omega) hr tk (pda_cons (pd_v 1) (pda_cons (pd_v 2) pda_nil))) (pda_cons (pd_v 0) pda_nil))) (pda_cons (pd_callC (c_p_rest_of F) (by omega) hr tk (pda_cons (pd_callC (c_p_times F) (by omega) hr tk (pda_cons (pd_v 1) (pda_cons (pd_v 2) pda_nil))) (pda_cons (pd_v 0) pda_nil))) pda_nil))))))
    (pdss_cons (pds_if (pt_notD (pt_truD (pd_callC (c_law_same F) (by omega) hr tk (pda_cons (pd_v 5) (pda_cons (pd_num (pdl_lst (pda_cons (pd_bin op_modN od_mod (pd_bin op_addD od_add (pd_v 3) (pd_v 4)) (pd_v 0)) (pda_cons (pd_bin op_modN od_mod (pd_bin op_sub od_sub (pd_v 3) (pd_v 4)) (pd_v 0)) (pda_cons (pd_bin op_modN od_mod (pd_bin op_mulA od_mul (pd_v 3) (pd_v 4)) (pd_v 0)) pda_nil))))) pda_nil))))) (pdss_one (pds_ret pd_bl)) pdss_nil)
    (pdss_cons (pds_if (pt_cmpD (op_eqD hu64) od_eq (pd_v 4) pd_int) (pdss_one (pds_ret pd_bl)) pdss_nil)
    (pdss_one (pds_ret (pd_callC (c_law_same F) (by omega) hr tk (pda_cons (pd_num (pdl_lst (pda_cons (pd_callC (c_p_rest_of F) (by omega) hr tk (pda_cons (pd_callC (c_p_over F) (by omega) hr tk (pda_cons (pd_v 1) (pda_cons (pd_v 2) pda_nil))) (pda_cons (pd_v 0) pda_nil))) (pda_cons (pd_callC (c_p_rest_over F) (by omega) hr tk (pda_cons (pd_v 3) (pda_cons (pd_v 4) (pda_cons (pd_v 0) pda_nil)))) (pda_cons (pd_callC (c_p_rest_of F) (by omega) hr tk (pda_cons (pd_callC (c_p_fraction F) (by omega) hr tk (pda_cons (pd_ix (pd_v 1) pd_int) (pda_cons (pd_ix (pd_v 1) pd_int) pda_nil))) (pda_cons (pd_v 0) pda_nil))) pda_nil))))) (pda_cons (pd_bin op_addD od_add (pd_bin op_mulA od_mul (pd_num (pdl_lst (pda_cons (pd_bin op_modN od_mod (pd_bin op_mulA od_mul (pd_v 3) (pd_callC (c_law_rest_back F) (by omega) hr tk (pda_cons (pd_v 0) (pda_cons (pd_v 4) pda_nil)))) (pd_v 0)) pda_nil))) pd_int) (pd_num (pdl_lst (pda_cons (pd_v 3) pda_nil)))) pda_nil)))))))))
noncomputable def b_law_maps_right : DS := (sSeq (sPar3 5 6 7 (aCons (dFn 3 φ_law_word (aCons (dV 0) (aCons (dC (.int 2)) (aCons (dC (.int 4)) aNil)))) (aCons (dBin oSub (dFn 2 φ_law_take (aCons (dV 0) (aCons (dC (.int 7)) aNil))) (dC (.int 3))) (aCons (dFn 2 φ_law_rest (aCons (dV 1) (aCons (dV 4) aNil))) aNil))))
  (sSeq (sPar 8 9 (aCons (dFn 2 φ_p_word_map (aCons (dV 2) (aCons (dV 5) aNil))) (aCons (dFn 1 φ_p_map_row (aCons (dV 2) aNil)) aNil)))
  (sSeq (sAsg (dNum (lLst (aCons (dFn 3 φ_law_heard (aCons (dC (.int 0)) (aCons (dV 1) (aCons (dV 9) aNil)))) (aCons (dFn 3 φ_law_heard (aCons (dC (.int 0)) (aCons (dV 1) (aCons (dFn 1 φ_p_map_back (aCons (dBin oIx (dV 2) (dC (.int 0))) aNil)) aNil)))) (aCons (dFn 3 φ_law_heard (aCons (dC (.int 0)) (aCons (dV 1) (aCons (dFn 2 φ_p_map_often (aCons (dBin oIx (dV 2) (dC (.int 1))) (aCons (dV 6) aNil))) aNil)))) (aCons (dFn 3 φ_law_heard (aCons (dC (.int 0)) (aCons (dV 1) (aCons (dV 8) aNil)))) aNil)))))) (gN 10))
  (sSeq (sAsg (dNum (lLst (aCons (dFn 2 φ_p_rest_row (aCons (dV 1) (aCons (dV 3) aNil))) (aCons (dFn 2 φ_p_rest_back (aCons (dV 1) (aCons (dBin oIx (dV 3) (dC (.int 0))) aNil))) (aCons (dFn 3 φ_p_rest_often (aCons (dV 1) (aCons (dBin oIx (dV 3) (dC (.int 1))) (aCons (dV 6) aNil)))) (aCons (dFn 3 φ_p_rest_word (aCons (dV 1) (aCons (dV 3) (aCons (dV 5) aNil)))) aNil)))))) (gN 11))
  (sSeq (sIf (bOr (bNot (dTru (dFn 2 (φ_law_same 8) (aCons (dV 10) (aCons (dV 11) aNil))))) (bOr (bNot (dTru (dFn 2 (φ_law_same 8) (aCons (dBin oIx (dV 11) (dC (.int 3))) (aCons (dFn 3 φ_law_rest_led (aCons (dV 1) (aCons (dV 3) (aCons (dV 5) aNil)))) aNil))))) (bNot (dTru (dFn 2 φ_p_is_rest_map (aCons (dV 1) (aCons (dBin oIx (dV 11) (dC (.int 0))) aNil))))))) (sRet (dC (.bl false))) sNext)
  (sSeq (sIf (bNot (dTru (dFn 2 (φ_law_same 8) (aCons (dFn 2 φ_p_rest_of (aCons (dFn 2 φ_p_led (aCons (dBin oIx (dV 2) (dC (.int 0))) (aCons (dV 4) aNil))) (aCons (dV 1) aNil))) (aCons (dFn 3 φ_p_rest_led (aCons (dV 1) (aCons (dBin oIx (dV 3) (dC (.int 0))) (aCons (dV 7) aNil)))) aNil))))) (sRet (dC (.bl false))) sNext)
  (sSeq (sPar 12 13 (aCons (dFn 3 φ_law_heard (aCons (dC (.int 1)) (aCons (dV 8) (aCons (dC .non) aNil)))) (aCons (dFn 2 φ_p_rest_kept (aCons (dV 1) (aCons (dBin oIx (dV 11) (dC (.int 3))) aNil))) aNil)))
  (sSeq (sIf (bAnd (dTest (dBin oNe (dV 12) (dC (.str "none")))) (dTest (dBin oNe (dBin oIx (dBin oIx (dV 11) (dC (.int 3))) (dC (.int 0))) (dC (.int 1))))) (sIf (bNot (dTru (dFn 2 (φ_law_same 8) (aCons (dV 13) (aCons (dTup (aCons (dFn 2 φ_p_rest_of (aCons (dV 12) (aCons (dV 1) aNil))) aNil)) aNil))))) (sRet (dC (.bl false))) sNext) sNext)
  (sSeq (sAsg (dFn 2 φ_p_rest_times_home (aCons (dV 1) (aCons (dBin oIx (dV 11) (dC (.int 3))) aNil))) (gN 14))
  (sRet (dAnd (dBin oEq (dBin oEq (dCall fLen (aCons (dV 13) aNil)) (dC (.int 1))) (dBin oNe (dBin oIx (dBin oIx (dV 11) (dC (.int 3))) (dC (.int 0))) (dC (.int 1)))) (dFn 2 (φ_law_same 8) (aCons (dFn 3 φ_p_rest_often (aCons (dV 1) (aCons (dBin oIx (dV 11) (dC (.int 3))) (aCons (dV 14) aNil)))) (aCons (dTup (aCons (dBin oMod (dC (.int 1)) (dV 1)) (aCons (dC (.int 0)) aNil))) aNil))))))))))))))
noncomputable def φ_law_maps_right : DF := runF 5 15 b_law_maps_right
theorem c_law_maps_right (F : Facts K mg) : CalD P w K mg base 13 "_law_maps_right" 5 φ_law_maps_right := by
  exact calD (k := 12) (n := 5) ["tin", "prime", "maps", "rests", "place", "word", "many", "here", "whole", "row", "got", "due", "kept", "its", "home"] ["tin", "prime", "maps", "rests", "place"] F.d_law_maps_right (by rfl) rfl (fun _ _ _ _ _ _ us hl => match us, hl with | [_, _, _, _, _], _ => rfl) fun f cdv A outer s H E hr tk hp => by
    have hN : (["tin", "prime", "maps", "rests", "place", "word", "many", "here", "whole", "row", "got", "due", "kept", "its", "home"] : List Str).Nodup := by decide
    have hu64 : (A.deeper (envOfC "_law_maps_right" (defScope (top 130)) s.heap.objs.size f cdv)).units + 64 < cLine := by have := hr.un; omega
    have hu65 : (A.deeper (envOfC "_law_maps_right" (defScope (top 130)) s.heap.objs.size f cdv)).units + 65 < cLine := by have := hr.un; omega
    have hu1 : (A.deeper (envOfC "_law_maps_right" (defScope (top 130)) s.heap.objs.size f cdv)).units + 1 < cLine := by have := hr.un; omega
    exact (pdss_cons (pds_par3 (i := 5) (j := 6) (l := 7) rfl hN (pda_cons (pd_callC (c_law_word F) (by omega) hr tk (pda_cons (pd_v 0) (pda_cons pd_int (pda_cons pd_int pda_nil)))) (pda_cons (pd_bin op_sub od_sub (pd_callC (c_law_take F) (by omega) hr tk (pda_cons (pd_v 0) (pda_cons pd_int pda_nil))) pd_int) (pda_cons (pd_callC (c_law_rest F) (by omega) hr tk (pda_cons (pd_v 1) (pda_cons (pd_v 4) pda_nil))) pda_nil))))
    (pdss_cons (pds_par (i := 8) (j := 9) rfl hN (pda_cons (pd_callC (c_p_word_map F) (by omega) hr tk (pda_cons (pd_v 2) (pda_cons (pd_v 5) pda_nil))) (pda_cons (pd_callC (c_p_map_row F) (by omega) hr tk (pda_cons (pd_v 2) pda_nil)) pda_nil)))
    (pdss_cons (pds_set (i := 10) hN (pd_num (pdl_lst (pda_cons (pd_callC (c_law_heard F) (by omega) hr tk (pda_cons pd_int (pda_cons (pd_v 1) (pda_cons (pd_v 9) pda_nil)))) (pda_cons (pd_callC (c_law_heard F) (by omega) hr tk (pda_cons pd_int (pda_cons (pd_v 1) (pda_cons (pd_callC (c_p_map_back F) (by omega) hr tk (pda_cons (pd_ix (pd_v 2) pd_int) pda_nil)) pda_nil)))) (pda_cons (pd_callC (c_law_heard F) (by omega) hr tk (pda_cons pd_int (pda_cons (pd_v 1) (pda_cons (pd_callC (c_p_map_often F) (by omega) hr tk (pda_cons (pd_ix (pd_v 2) pd_int) (pda_cons (pd_v 6) pda_nil))) pda_nil)))) (pda_cons (pd_callC (c_law_heard F) (by omega) hr tk (pda_cons pd_int (pda_cons (pd_v 1) (pda_cons (pd_v 8) pda_nil)))) pda_nil)))))))
    (pdss_cons (pds_set (i := 11) hN (pd_num (pdl_lst (pda_cons (pd_callC (c_p_rest_row F) (by omega) hr tk (pda_cons (pd_v 1) (pda_cons (pd_v 3) pda_nil))) (pda_cons (pd_callC (c_p_rest_back F) (by omega) hr tk (pda_cons (pd_v 1) (pda_cons (pd_ix (pd_v 3) pd_int) pda_nil))) (pda_cons (pd_callC (c_p_rest_often F) (by omega) hr tk (pda_cons (pd_v 1) (pda_cons (pd_ix (pd_v 3) pd_int) (pda_cons (pd_v 6) pda_nil)))) (pda_cons (pd_callC (c_p_rest_word F) (by omega) hr tk (pda_cons (pd_v 1) (pda_cons (pd_v 3) (pda_cons (pd_v 5) pda_nil)))) pda_nil)))))))
    (pdss_cons (pds_if (PDw.t (pw_orD (pt_notD (pt_truD (pd_callC (c_law_same F) (by omega) hr tk (pda_cons (pd_v 10) (pda_cons (pd_v 11) pda_nil))))) (pw_orD (pt_notD (pt_truD (pd_callC (c_law_same F) (by omega) hr tk (pda_cons (pd_ix (pd_v 11) pd_int) (pda_cons (pd_callC (c_law_rest_led F) (by omega) hr tk (pda_cons (pd_v 1) (pda_cons (pd_v 3) (pda_cons (pd_v 5) pda_nil)))) pda_nil))))) (pw_or1D (pt_notD (pt_truD (pd_callC (c_p_is_rest_map F) (by omega) hr tk (pda_cons (pd_v 1) (pda_cons (pd_ix (pd_v 11) pd_int) pda_nil))))))))) (pdss_one (pds_ret pd_bl)) pdss_nil)
    (pdss_cons (pds_if (pt_notD (pt_truD (pd_callC (c_law_same F) (by omega) hr tk (pda_cons (pd_callC (c_p_rest_of F) (by omega) hr tk (pda_cons (pd_callC (c_p_led F) (by omega) hr tk (pda_cons (pd_ix (pd_v 2) pd_int) (pda_cons (pd_v 4) pda_nil))) (pda_cons (pd_v 1) pda_nil))) (pda_cons (pd_callC (c_p_rest_led F) (by omega) hr tk (pda_cons (pd_v 1) (pda_cons (pd_ix (pd_v 3) pd_int) (pda_cons (pd_v 7) pda_nil)))) pda_nil))))) (pdss_one (pds_ret pd_bl)) pdss_nil)
    (pdss_cons (pds_par (i := 12) (j := 13) rfl hN (pda_cons (pd_callC (c_law_heard F) (by omega) hr tk (pda_cons pd_int (pda_cons (pd_v 8) (pda_cons pd_non pda_nil)))) (pda_cons (pd_callC (c_p_rest_kept F) (by omega) hr tk (pda_cons (pd_v 1) (pda_cons (pd_ix (pd_v 11) pd_int) pda_nil))) pda_nil)))
    (pdss_cons (pds_if (PDw.t (pw_andD (pt_cmpD (op_neD hu64) od_ne (pd_v 12) pd_str) (pw_and1D (pt_cmpD (op_neD hu64) od_ne (pd_ix (pd_ix (pd_v 11) pd_int) pd_int) pd_int)))) (pdss_one (pds_if (pt_notD (pt_truD (pd_callC (c_law_same F) (by omega) hr tk (pda_cons (pd_v 13) (pda_cons (pd_tup (pda_cons (pd_callC (c_p_rest_of F) (by omega) hr tk (pda_cons (pd_v 12) (pda_cons (pd_v 1) pda_nil))) pda_nil)) pda_nil))))) (pdss_one (pds_ret pd_bl)) pdss_nil)) pdss_nil)
    (pdss_cons (pds_set (i := 14) hN (pd_callC (c_p_rest_times_home F) (by omega) hr tk (pda_cons (pd_v 1) (pda_cons (pd_ix (pd_v 11) pd_int) pda_nil))))
    (pdss_one (pds_ret (pd_andT (pd_cmp (op_eqD hu64) od_eq (pd_cmp (op_eqD hu64) od_eq (pd_callB call_len_seq cd_len F.B.len (by decide +kernel) (pda_cons (pd_v 13) pda_nil)) pd_int) (pd_cmp (op_neD hu64) od_ne (pd_ix (pd_ix (pd_v 11) pd_int) pd_int) pd_int)) (pd_one (pd_callC (c_law_same F) (by omega) hr tk (pda_cons (pd_callC (c_p_rest_often F) (by omega) hr tk (pda_cons (pd_v 1) (pda_cons (pd_ix (pd_v 11) pd_int) (pda_cons (pd_v 14) pda_nil)))) (pda_cons (pd_tup (pda_cons (pd_bin op_modN od_mod pd_int (pd_v 1)) (pda_cons pd_int pda_nil))) pda_nil))))))))))))))))
noncomputable def b_law_between_right : DS := (sSeq (sAsg (dV 3) (gT 2 (gC (gN 4) (gC (gN 5) gN0))))
  (sSeq (sAsgL 2 (lLc (iSeq (dV 3)) (gN 10) bYes (dFn 2 φ_law_rest (aCons (dV 0) (aCons (dV 10) aNil))) [10]) (gC (gN 6) (gC (gN 7) gN0)))
  (sSeq (sPar 8 9 (aCons (dFn 2 φ_p_led (aCons (dV 1) (aCons (dV 4) aNil))) (aCons (dFn 2 φ_p_led (aCons (dV 1) (aCons (dV 5) aNil))) aNil)))
  (sSeq (sIf (bAnd (dTest (dBin oNe (dV 4) (dV 5))) (bNot (dTru (dFn 2 (φ_law_same 8) (aCons (dFn 4 φ_p_map_between (aCons (dV 4) (aCons (dV 5) (aCons (dV 8) (aCons (dV 9) aNil))))) (aCons (dV 1) aNil)))))) (sRet (dC (.bl false))) sNext)
  (sSeq (sIf (dTest (dBin oEq (dV 6) (dV 7))) (sRet (dC (.bl true))) sNext)
  (sRet (dFn 2 (φ_law_same 8) (aCons (dFn 5 φ_p_rest_map_between (aCons (dV 0) (aCons (dV 6) (aCons (dV 7) (aCons (dFn 2 φ_p_rest_of (aCons (dV 8) (aCons (dV 0) aNil))) (aCons (dFn 2 φ_p_rest_of (aCons (dV 9) (aCons (dV 0) aNil))) aNil)))))) (aCons (dV 2) aNil)))))))))
noncomputable def φ_law_between_right : DF := runF 4 11 b_law_between_right
theorem c_law_between_right (F : Facts K mg) : CalD P w K mg base 12 "_law_between_right" 4 φ_law_between_right := by
  exact calD (k := 11) (n := 4) ["prime", "mapping", "rests", "places", "one", "other", "near", "far", "goal", "end", "own"] ["prime", "mapping", "rests", "places"] F.d_law_between_right (by rfl) rfl (fun _ _ _ _ _ _ us hl => match us, hl with | [_, _, _, _], _ => rfl) fun f cdv A outer s H E hr tk hp => by
    have hN : (["prime", "mapping", "rests", "places", "one", "other", "near", "far", "goal", "end", "own"] : List Str).Nodup := by decide
    have hu64 : (A.deeper (envOfC "_law_between_right" (defScope (top 131)) s.heap.objs.size f cdv)).units + 64 < cLine := by have := hr.un; omega
    have hu65 : (A.deeper (envOfC "_law_between_right" (defScope (top 131)) s.heap.objs.size f cdv)).units + 65 < cLine := by have := hr.un; omega
    have hu1 : (A.deeper (envOfC "_law_between_right" (defScope (top 131)) s.heap.objs.size f cdv)).units + 1 < cLine := by have := hr.un; omega
    exact (pdss_cons (pds_asg (pd_v 3) (pdg_t rfl (pdgs_cons (pdg_n (i := 4) hN) (pdgs_cons (pdg_n (i := 5) hN) pdgs_nil))))
    (pdss_cons (pds_asgL rfl (pdl_lc (own := [("own", 10)]) rfl hN (pdj_seq (pd_v 3)) (blkOk_by (by rfl)) (fun _ _ _ _ _ => (pdg_n (i := 10) hN)) (fun _ _ _ _ _ => pdts_nil) (fun _ _ _ _ _ => (pd_callC (c_law_rest F) (by omega) hr takesF (pda_cons (pd_v 0) (pda_cons (pd_v 10) pda_nil)))) (sl_n (by decide))) (pdgs_cons (pdg_n (i := 6) hN) (pdgs_cons (pdg_n (i := 7) hN) pdgs_nil)))
    (pdss_cons (pds_par (i := 8) (j := 9) rfl hN (pda_cons (pd_callC (c_p_led F) (by omega) hr tk (pda_cons (pd_v 1) (pda_cons (pd_v 4) pda_nil))) (pda_cons (pd_callC (c_p_led F) (by omega) hr tk (pda_cons (pd_v 1) (pda_cons (pd_v 5) pda_nil))) pda_nil)))
    (pdss_cons (pds_if (PDw.t (pw_andD (pt_cmpD (op_neD hu64) od_ne (pd_v 4) (pd_v 5)) (pw_and1D (pt_notD (pt_truD (pd_callC (c_law_same F) (by omega) hr tk (pda_cons (pd_callC (c_p_map_between F) (by omega) hr tk (pda_cons (pd_v 4) (pda_cons (pd_v 5) (pda_cons (pd_v 8) (pda_cons (pd_v 9) pda_nil))))) (pda_cons (pd_v 1) pda_nil)))))))) (pdss_one (pds_ret pd_bl)) pdss_nil)
    (pdss_cons (pds_if (pt_cmpD (op_eqD hu64) od_eq (pd_v 6) (pd_v 7)) (pdss_one (pds_ret pd_bl)) pdss_nil)
    (pdss_one (pds_ret (pd_callC (c_law_same F) (by omega) hr tk (pda_cons (pd_callC (c_p_rest_map_between F) (by omega) hr tk (pda_cons (pd_v 0) (pda_cons (pd_v 6) (pda_cons (pd_v 7) (pda_cons (pd_callC (c_p_rest_of F) (by omega) hr tk (pda_cons (pd_v 8) (pda_cons (pd_v 0) pda_nil))) (pda_cons (pd_callC (c_p_rest_of F) (by omega) hr tk (pda_cons (pd_v 9) (pda_cons (pd_v 0) pda_nil))) pda_nil)))))) (pda_cons (pd_v 2) pda_nil))))))))))
noncomputable def b_law_turned_right : DS := (sSeq (sAsg (dFn 2 φ_p_lot_turned (aCons (dV 1) (aCons (dV 3) aNil))) (gN 5))
  (sSeq (sAsg (dNum (lLst (aCons (dV 5) (aCons (dL φTup (lLc (iSeq (dV 5)) (gN 8) bYes (dFn 3 φ_law_heard (aCons (dC (.int 0)) (aCons (dV 0) (aCons (dV 8) aNil)))) [8])) (aCons (dFn 2 φ_p_rest_of (aCons (dFn 2 φ_p_maps_gap (aCons (dBin oIx (dV 1) (dC (.int 0))) (aCons (dBin oIx (dV 1) (dC (.int 1))) aNil))) (aCons (dV 0) aNil))) aNil))))) (gN 6))
  (sSeq (sAsg (dBin oMod (dBin oSub (dBin oMul (dBin oIx (dBin oIx (dV 2) (dC (.int 0))) (dC (.int 1))) (dBin oSub (dC (.int 1)) (dBin oIx (dBin oIx (dV 2) (dC (.int 1))) (dC (.int 0))))) (dBin oMul (dBin oIx (dBin oIx (dV 2) (dC (.int 1))) (dC (.int 1))) (dBin oSub (dC (.int 1)) (dBin oIx (dBin oIx (dV 2) (dC (.int 0))) (dC (.int 0)))))) (dV 0)) (gN 7))
  (sSeq (sIf (bNot (dTru (dFn 2 (φ_law_same 8) (aCons (dV 6) (aCons (dNum (lLst (aCons (dFn 2 φ_p_maps_turned (aCons (dV 1) (aCons (dV 3) aNil))) (aCons (dFn 3 φ_p_rest_maps_turned (aCons (dV 0) (aCons (dV 2) (aCons (dV 4) aNil)))) (aCons (dV 7) aNil))))) aNil))))) (sRet (dC (.bl false))) sNext)
  (sRet (dFn 2 (φ_law_same 8) (aCons (dNum (lLst (aCons (dFn 3 φ_p_do_rest_maps_exchange (aCons (dV 0) (aCons (dBin oIx (dV 2) (dC (.int 0))) (aCons (dBin oIx (dV 2) (dC (.int 1))) aNil)))) (aCons (dFn 2 φ_p_rest_of (aCons (dFn 2 φ_p_maps_gap (aCons (dBin oIx (dV 5) (dC (.int 0))) (aCons (dBin oIx (dV 5) (dC (.int 1))) aNil))) (aCons (dV 0) aNil))) aNil)))) (aCons (dNum (lLst (aCons (dBin oEq (dV 7) (dC (.int 0))) (aCons (dBin oMod (dBin oMul (dV 7) (dBin oIx (dV 4) (dC (.int 0)))) (dV 0)) aNil)))) aNil))))))))
noncomputable def φ_law_turned_right : DF := runF 5 9 b_law_turned_right
theorem c_law_turned_right (F : Facts K mg) : CalD P w K mg base 13 "_law_turned_right" 5 φ_law_turned_right := by
  exact calD (k := 12) (n := 5) ["prime", "maps", "rests", "turner", "own", "far", "got", "gap", "its"] ["prime", "maps", "rests", "turner", "own"] F.d_law_turned_right (by rfl) rfl (fun _ _ _ _ _ _ us hl => match us, hl with | [_, _, _, _, _], _ => rfl) fun f cdv A outer s H E hr tk hp => by
    have hN : (["prime", "maps", "rests", "turner", "own", "far", "got", "gap", "its"] : List Str).Nodup := by decide
    have hu64 : (A.deeper (envOfC "_law_turned_right" (defScope (top 132)) s.heap.objs.size f cdv)).units + 64 < cLine := by have := hr.un; omega
    have hu65 : (A.deeper (envOfC "_law_turned_right" (defScope (top 132)) s.heap.objs.size f cdv)).units + 65 < cLine := by have := hr.un; omega
    have hu1 : (A.deeper (envOfC "_law_turned_right" (defScope (top 132)) s.heap.objs.size f cdv)).units + 1 < cLine := by have := hr.un; omega
    exact (pdss_cons (pds_set (i := 5) hN (pd_callC (c_p_lot_turned F) (by omega) hr tk (pda_cons (pd_v 1) (pda_cons (pd_v 3) pda_nil))))
    (pdss_cons (pds_set (i := 6) hN (pd_num (pdl_lst (pda_cons (pd_v 5) (pda_cons (pd_LT call_tuple_of ld_tup F.B.tuple (by decide +kernel) (pdl_lc (own := [("its", 8)]) rfl hN (pdj_seq (pd_v 5)) (blkOk_by (by rfl)) (fun _ _ _ _ _ => (pdg_n (i := 8) hN)) (fun _ _ _ _ _ => pdts_nil) (fun _ _ _ _ _ => (pd_callC (c_law_heard F) (by omega) hr takesF (pda_cons pd_int (pda_cons (pd_v 0) (pda_cons (pd_v 8) pda_nil))))) (sl_n (by decide)))) (pda_cons (pd_callC (c_p_rest_of F) (by omega) hr tk (pda_cons (pd_callC (c_p_maps_gap F) (by omega) hr tk (pda_cons (pd_ix (pd_v 1) pd_int) (pda_cons (pd_ix (pd_v 1) pd_int) pda_nil))) (pda_cons (pd_v 0) pda_nil))) pda_nil))))))
    (pdss_cons (pds_set (i := 7) hN (pd_bin op_modN od_mod (pd_bin op_sub od_sub (pd_bin op_mulA od_mul (pd_ix (pd_ix (pd_v 2) pd_int) pd_int) (pd_bin op_sub od_sub pd_int (pd_ix (pd_ix (pd_v 2) pd_int) pd_int))) (pd_bin op_mulA od_mul (pd_ix (pd_ix (pd_v 2) pd_int) pd_int) (pd_bin op_sub od_sub pd_int (pd_ix (pd_ix (pd_v 2) pd_int) pd_int)))) (pd_v 0)))
    (pdss_cons (pds_if (pt_notD (pt_truD (pd_callC (c_law_same F) (by omega) hr tk (pda_cons (pd_v 6) (pda_cons (pd_num (pdl_lst (pda_cons (pd_callC (c_p_maps_turned F) (by omega) hr tk (pda_cons (pd_v 1) (pda_cons (pd_v 3) pda_nil))) (pda_cons (pd_callC (c_p_rest_maps_turned F) (by omega) hr tk (pda_cons (pd_v 0) (pda_cons (pd_v 2) (pda_cons (pd_v 4) pda_nil)))) (pda_cons (pd_v 7) pda_nil))))) pda_nil))))) (pdss_one (pds_ret pd_bl)) pdss_nil)
    (pdss_one (pds_ret (pd_callC (c_law_same F) (by omega) hr tk (pda_cons (pd_num (pdl_lst (pda_cons (pd_callC (c_p_do_rest_maps_exchange F) (by omega) hr tk (pda_cons (pd_v 0) (pda_cons (pd_ix (pd_v 2) pd_int) (pda_cons (pd_ix (pd_v 2) pd_int) pda_nil)))) (pda_cons (pd_callC (c_p_rest_of F) (by omega) hr tk (pda_cons (pd_callC (c_p_maps_gap F) (by omega) hr tk (pda_cons (pd_ix (pd_v 5) pd_int) (pda_cons (pd_ix (pd_v 5) pd_int) pda_nil))) (pda_cons (pd_v 0) pda_nil))) pda_nil)))) (pda_cons (pd_num (pdl_lst (pda_cons (pd_cmp (op_eqD hu64) od_eq (pd_v 7) pd_int) (pda_cons (pd_bin op_modN od_mod (pd_bin op_mulA od_mul (pd_v 7) (pd_ix (pd_v 4) pd_int)) (pd_v 0)) pda_nil)))) pda_nil)))))))))
noncomputable def b_p_law : DS := (sSeq (sAsg (dFn 2 φ_law_box (aCons (dFn 2 φ_law_cells (aCons (dV 0) (aCons (dC (.int 1)) aNil))) (aCons (dC (.int 0)) aNil))) (gN 1))
  (sSeq (sFor (Dt.iRng1 (dC (.int 4))) (gN 11) (sSeq (sAsg (dFn 2 φ_law_of (aCons (dV 1) (aCons (dNum (lLst (aCons (dC (.int 2)) (aCons (dC (.int 3)) (aCons (dC (.int 5)) (aCons (dC (.int 7)) (aCons (dC (.int 11)) (aCons (dC (.int 13)) aNil)))))))) aNil))) (gN 2))
  (sSeq (sPar 3 4 (aCons (dFn 2 φ_law_maps (aCons (dV 1) (aCons (dC (.int 2)) aNil))) (aCons (dFn 1 φ_law_map (aCons (dV 1) aNil)) aNil)))
  (sSeq (sAsg (dL φTup (lLc (Dt.iRng1 (dC (.int 2))) (gN 12) bYes (dFn 2 φ_law_fr (aCons (dBin oSub (dFn 2 φ_law_take (aCons (dV 1) (aCons (dC (.int 9)) aNil))) (dC (.int 4))) (aCons (dFn 2 φ_law_of (aCons (dV 1) (aCons (dNum (lLst (aCons (dC (.int 1)) (aCons (dC (.int 1)) (aCons (dC (.int 2)) (aCons (dC (.int 3)) aNil)))))) aNil))) aNil))) [12])) (gN 5))
  (sSeq (sPar 6 7 (aCons (dL φTup (lLc (iSeq (dV 3)) (gN 13) bYes (dFn 2 φ_law_rests (aCons (dV 2) (aCons (dV 13) aNil))) [13])) (aCons (dFn 2 φ_law_rests (aCons (dV 2) (aCons (dV 4) aNil))) aNil)))
  (sSeq (sAsg (dNum (lLst (aCons (dFn 1 φ_p_is_prime (aCons (dV 2) aNil)) (aCons (dNum (lLc (iSeq (dBin oAdd (dV 3) (dTup (aCons (dV 4) aNil)))) (gN 13) bYes (dFn 3 φ_law_heard (aCons (dC (.int 0)) (aCons (dV 2) (aCons (dV 13) aNil)))) [13])) aNil)))) (gN 8))
  (sSeq (sIf (bNot (dTru (dFn 2 (φ_law_same 8) (aCons (dV 8) (aCons (dNum (lLst (aCons (dC (.bl true)) (aCons (dNum (lLc (iSeq (dBin oAdd (dV 6) (dTup (aCons (dV 7) aNil)))) (gN 14) bYes (dIf (dTest (dBin oIsN (dV 14) (dC .non))) (dC (.str "none")) (dV 14)) [14])) aNil)))) aNil))))) (sRet (dC (.bl false))) sNext)
  (sSeq (sIf (bOr (dTest (dBin oIn (dC .non) (dV 6))) (bOr (dTest (dBin oIsN (dV 7) (dC .non))) (dTest (dBin oIn (dC .non) (dNum (lLc (iSeq (dV 5)) (gN 15) bYes (dFn 2 φ_law_rest (aCons (dV 2) (aCons (dV 15) aNil))) [15])))))) sCont sNext)
  (sSeq (sIf (bOr (bNot (dTru (dFn 3 φ_law_numbers_right (aCons (dV 2) (aCons (dBin oIx (dV 5) (dC (.int 0))) (aCons (dBin oIx (dV 5) (dC (.int 1))) aNil)))))) (bNot (dTru (dFn 5 φ_law_maps_right (aCons (dV 1) (aCons (dV 2) (aCons (dV 3) (aCons (dV 6) (aCons (dBin oIx (dV 5) (dC (.int 0))) aNil))))))))) (sRet (dC (.bl false))) sNext)
  (sSeq (sIf (bOr (bNot (dTru (dFn 4 φ_law_between_right (aCons (dV 2) (aCons (dBin oIx (dV 3) (dC (.int 0))) (aCons (dBin oIx (dV 6) (dC (.int 0))) (aCons (dV 5) aNil))))))) (bNot (dTru (dFn 5 φ_law_turned_right (aCons (dV 2) (aCons (dV 3) (aCons (dV 6) (aCons (dV 4) (aCons (dV 7) aNil))))))))) (sRet (dC (.bl false))) sNext)
  (sSeq (sPar 9 10 (aCons (dFn 3 φ_law_word (aCons (dV 1) (aCons (dC (.int 2)) (aCons (dC (.int 4)) aNil)))) (aCons (dFn 3 φ_law_word (aCons (dV 1) (aCons (dC (.int 2)) (aCons (dC (.int 4)) aNil)))) aNil)))
  (sIf (bAnd (dTru (dFn 3 φ_p_alike_by_rests (aCons (dV 2) (aCons (dV 9) (aCons (dV 10) aNil))))) (dTest (dBin oNe (dFn 3 φ_p_rest_word (aCons (dV 2) (aCons (dV 6) (aCons (dV 9) aNil)))) (dFn 3 φ_p_rest_word (aCons (dV 2) (aCons (dV 6) (aCons (dV 10) aNil))))))) (sRet (dC (.bl false))) sNext))))))))))))
  (sRet (dC (.bl true)))))
noncomputable def φ_p_law : DF := runF 1 16 b_p_law
theorem ok_law (F : Facts K mg) {f : Addr} {fd : FuncData} (D : FunD K "law" "law" (defArgs (top 133)) (defBody (top 133)) (defScope (top 133)) [] [] f fd) : FnOk P w K mg base (L2.CX P w) 14 f fd ["script"] (spD K 1 φ_p_law) := by
  exact fnD (k := 13) (n := 1) ["script", "tin", "prime", "maps", "turner", "places", "rests", "own", "got", "one", "other", "lap", "k", "mapping", "its", "place"] ["script"] D (by rfl) rfl fun f cdv A outer s H E hr tk hp => by
    have hN : (["script", "tin", "prime", "maps", "turner", "places", "rests", "own", "got", "one", "other", "lap", "k", "mapping", "its", "place"] : List Str).Nodup := by decide
    have hu64 : (A.deeper (envOfC "law" (defScope (top 133)) s.heap.objs.size f cdv)).units + 64 < cLine := by have := hr.un; omega
    have hu65 : (A.deeper (envOfC "law" (defScope (top 133)) s.heap.objs.size f cdv)).units + 65 < cLine := by have := hr.un; omega
    have hu1 : (A.deeper (envOfC "law" (defScope (top 133)) s.heap.objs.size f cdv)).units + 1 < cLine := by have := hr.un; omega
    exact (pdss_cons (pds_set (i := 1) hN (pd_callC (c_law_box F) (by omega) hr tk (pda_cons (pd_callC (c_law_cells F) (by omega) hr tk (pda_cons (pd_v 0) (pda_cons pd_int pda_nil))) (pda_cons pd_int pda_nil))))
    (pdss_cons (pds_for hp rfl (pdj_rng1 F.B.range pd_int) (pdg_n (i := 11) hN) (pdss_cons (pds_set (i := 2) hN (pd_callC (c_law_of F) (by omega) hr tk (pda_cons (pd_v 1) (pda_cons (pd_num (pdl_lst (pda_cons pd_int (pda_cons pd_int (pda_cons pd_int (pda_cons pd_int (pda_cons pd_int (pda_cons pd_int pda_nil)))))))) pda_nil))))
    (pdss_cons (pds_par (i := 3) (j := 4) rfl hN (pda_cons (pd_callC (c_law_maps F) (by omega) hr tk (pda_cons (pd_v 1) (pda_cons pd_int pda_nil))) (pda_cons (pd_callC (c_law_map F) (by omega) hr tk (pda_cons (pd_v 1) pda_nil)) pda_nil)))
    (pdss_cons (pds_set (i := 5) hN (pd_LT call_tuple_of ld_tup F.B.tuple (by decide +kernel) (pdl_lc (own := [("k", 12)]) rfl hN (pdj_rng1 F.B.range pd_int) (blkOk_by (by rfl)) (fun _ _ _ _ _ => (pdg_n (i := 12) hN)) (fun _ _ _ _ _ => pdts_nil) (fun _ _ _ _ _ => (pd_callC (c_law_fr F) (by omega) hr takesF (pda_cons (pd_bin op_sub od_sub (pd_callC (c_law_take F) (by omega) hr takesF (pda_cons (pd_v 1) (pda_cons pd_int pda_nil))) pd_int) (pda_cons (pd_callC (c_law_of F) (by omega) hr takesF (pda_cons (pd_v 1) (pda_cons (pd_num (pdl_lst (pda_cons pd_int (pda_cons pd_int (pda_cons pd_int (pda_cons pd_int pda_nil)))))) pda_nil))) pda_nil)))) (sl_n (by decide)))))
    (pdss_cons (pds_par (i := 6) (j := 7) rfl hN (pda_cons (pd_LT call_tuple_of ld_tup F.B.tuple (by decide +kernel) (pdl_lc (own := [("mapping", 13)]) rfl hN (pdj_seq (pd_v 3)) (blkOk_by (by rfl)) (fun _ _ _ _ _ => (pdg_n (i := 13) hN)) (fun _ _ _ _ _ => pdts_nil) (fun _ _ _ _ _ => (pd_callC (c_law_rests F) (by omega) hr takesF (pda_cons (pd_v 2) (pda_cons (pd_v 13) pda_nil)))) (sl_n (by decide)))) (pda_cons (pd_callC (c_law_rests F) (by omega) hr tk (pda_cons (pd_v 2) (pda_cons (pd_v 4) pda_nil))) pda_nil)))
    (pdss_cons (pds_set (i := 8) hN (pd_num (pdl_lst (pda_cons (pd_callC (c_p_is_prime F) (by omega) hr tk (pda_cons (pd_v 2) pda_nil)) (pda_cons (pd_num (pdl_lc (own := [("mapping", 13)]) rfl hN (pdj_seq (pd_bin op_addD od_add (pd_v 3) (pd_tup (pda_cons (pd_v 4) pda_nil)))) (blkOk_by (by rfl)) (fun _ _ _ _ _ => (pdg_n (i := 13) hN)) (fun _ _ _ _ _ => pdts_nil) (fun _ _ _ _ _ => (pd_callC (c_law_heard F) (by omega) hr takesF (pda_cons pd_int (pda_cons (pd_v 2) (pda_cons (pd_v 13) pda_nil))))) (sl_n (by decide)))) pda_nil)))))
    (pdss_cons (pds_if (pt_notD (pt_truD (pd_callC (c_law_same F) (by omega) hr tk (pda_cons (pd_v 8) (pda_cons (pd_num (pdl_lst (pda_cons pd_bl (pda_cons (pd_num (pdl_lc (own := [("its", 14)]) rfl hN (pdj_seq (pd_bin op_addD od_add (pd_v 6) (pd_tup (pda_cons (pd_v 7) pda_nil)))) (blkOk_by (by rfl)) (fun _ _ _ _ _ => (pdg_n (i := 14) hN)) (fun _ _ _ _ _ => pdts_nil) (fun _ _ _ _ _ => (pd_if (pt_cmpD op_isN od_isN (pd_v 14) pd_non) pd_str (pd_v 14))) (sl_n (by decide)))) pda_nil)))) pda_nil))))) (pdss_one (pds_ret pd_bl)) pdss_nil)
    (pdss_cons (pds_if (PDw.t (pw_orD (pt_cmpD (op_inA hu65) od_in pd_non (pd_v 6) (by with_unfolding_all rfl)) (pw_orD (pt_cmpD op_isN od_isN (pd_v 7) pd_non) (pw_or1D (pt_cmpD (op_inA hu65) od_in pd_non (pd_num (pdl_lc (own := [("place", 15)]) rfl hN (pdj_seq (pd_v 5)) (blkOk_by (by rfl)) (fun _ _ _ _ _ => (pdg_n (i := 15) hN)) (fun _ _ _ _ _ => pdts_nil) (fun _ _ _ _ _ => (pd_callC (c_law_rest F) (by omega) hr takesF (pda_cons (pd_v 2) (pda_cons (pd_v 15) pda_nil)))) (sl_n (by decide)))) (by with_unfolding_all rfl)))))) (pdss_one pds_cont) pdss_nil)
    (pdss_cons (pds_if (PDw.t (pw_orD (pt_notD (pt_truD (pd_callC (c_law_numbers_right F) (by omega) hr tk (pda_cons (pd_v 2) (pda_cons (pd_ix (pd_v 5) pd_int) (pda_cons (pd_ix (pd_v 5) pd_int) pda_nil)))))) (pw_or1D (pt_notD (pt_truD (pd_callC (c_law_maps_right F) (by omega) hr tk (pda_cons (pd_v 1) (pda_cons (pd_v 2) (pda_cons (pd_v 3) (pda_cons (pd_v 6) (pda_cons (pd_ix (pd_v 5) pd_int) pda_nil))))))))))) (pdss_one (pds_ret pd_bl)) pdss_nil)
    (pdss_cons (pds_if (PDw.t (pw_orD (pt_notD (pt_truD (pd_callC (c_law_between_right F) (by omega) hr tk (pda_cons (pd_v 2) (pda_cons (pd_ix (pd_v 3) pd_int) (pda_cons (pd_ix (pd_v 6) pd_int) (pda_cons (pd_v 5) pda_nil))))))) (pw_or1D (pt_notD (pt_truD (pd_callC (c_law_turned_right F) (by omega) hr tk (pda_cons (pd_v 2) (pda_cons (pd_v 3) (pda_cons (pd_v 6) (pda_cons (pd_v 4) (pda_cons (pd_v 7) pda_nil))))))))))) (pdss_one (pds_ret pd_bl)) pdss_nil)
    (pdss_cons (pds_par (i := 9) (j := 10) rfl hN (pda_cons (pd_callC (c_law_word F) (by omega) hr tk (pda_cons (pd_v 1) (pda_cons pd_int (pda_cons pd_int pda_nil)))) (pda_cons (pd_callC (c_law_word F) (by omega) hr tk (pda_cons (pd_v 1) (pda_cons pd_int (pda_cons pd_int pda_nil)))) pda_nil)))
    (pdss_one (pds_if (PDw.t (pw_andD (pt_truD (pd_callC (c_p_alike_by_rests F) (by omega) hr tk (pda_cons (pd_v 2) (pda_cons (pd_v 9) (pda_cons (pd_v 10) pda_nil))))) (pw_and1D (pt_cmpD (op_neD hu64) od_ne (pd_callC (c_p_rest_word F) (by omega) hr tk (pda_cons (pd_v 2) (pda_cons (pd_v 6) (pda_cons (pd_v 9) pda_nil)))) (pd_callC (c_p_rest_word F) (by omega) hr tk (pda_cons (pd_v 2) (pda_cons (pd_v 6) (pda_cons (pd_v 10) pda_nil)))))))) (pdss_one (pds_ret pd_bl)) pdss_nil)))))))))))))
    (pdss_one (pds_ret pd_bl))))
end
end Wk

set_option Elab.async false
set_option autoImplicit false
set_option linter.all false
set_option maxRecDepth 100000
set_option maxHeartbeats 2000000
set_option exponentiation.threshold 10000
namespace Pl
open Dt Wk
open PySem (Str)

/-! ### the reading of denotations -/
@[simp] theorem bindR_ret {α β : Type} (a : α) (h : DH) (k : α → DH → Rh β) : bindR (ret a h) k = k a h := rfl
@[simp] theorem bindR_none {α β : Type} (k : α → DH → Rh β) : bindR (none : Rh α) k = none := rfl
@[simp] theorem bindS_ret {α : Type} (a : α) (h : DH) (ρ : Ev) (k : α → DH → RS) : bindS (ret a h) ρ k = k a h := rfl
theorem gcF_same {h : DH} {d : D} : gcF h (ret d h) = ret d h := by
  unfold gcF ret
  simp only
  split
  · rw [List.take_length]
  · rfl
theorem gcF_app {h t : DH} {d : D} (c : clD h.length d = true) : gcF h (ret d (h ++ t)) = ret d h := by
  unfold gcF ret
  simp only
  have : GcOk h d (h ++ t) := ⟨c, by simp, fun i o hi e => .inl (by rw [List.getElem?_append_left hi] at e; exact e)⟩
  rw [if_pos this]
  rw [List.take_left]
theorem runF_eq {p n : Nat} {f : DS} {ds : List D} {h : DH} (hp : ds.length = p) : runF p n f ds h = gcF h (endF (f (ds.map some ++ List.replicate (n - p) none) h)) := if_pos hp
theorem runF_rt {p n : Nat} {f : DS} {ds : List D} {h : DH} {d : D} (hp : ds.length = p) (e : f (ds.map some ++ List.replicate (n - p) none) h = some (.rt d, h)) : runF p n f ds h = ret d h := by
  rw [runF_eq hp, e]
  exact gcF_same
theorem runF_gc {p n : Nat} {f : DS} {ds : List D} {h t : DH} {d : D} (hp : ds.length = p) (c : clD h.length d = true) (e : f (ds.map some ++ List.replicate (n - p) none) h = some (.rt d, h ++ t)) : runF p n f ds h = ret d h := by
  rw [runF_eq hp, e]
  exact gcF_app c
theorem runF_er {p n : Nat} {f : DS} {ds : List D} {h h' : DH} {c : Str} {ρ : Ev} (hp : ds.length = p) (e : f (ds.map some ++ List.replicate (n - p) none) h = some (.er c ρ, h')) : runF p n f ds h = some (.er c, h') := by
  rw [runF_eq hp, e]
  rfl
@[simp] theorem dV_0 (d : D) (r : Ev) (h : DH) : dV 0 (some d :: r) h = ret d h := rfl
@[simp] theorem dV_1 (a : Option D) (d : D) (r : Ev) (h : DH) : dV 1 (a :: some d :: r) h = ret d h := rfl
@[simp] theorem dV_2 (a b : Option D) (d : D) (r : Ev) (h : DH) : dV 2 (a :: b :: some d :: r) h = ret d h := rfl
@[simp] theorem dV_3 (a b c : Option D) (d : D) (r : Ev) (h : DH) : dV 3 (a :: b :: c :: some d :: r) h = ret d h := rfl
@[simp] theorem dV_4 (a b c e : Option D) (d : D) (r : Ev) (h : DH) : dV 4 (a :: b :: c :: e :: some d :: r) h = ret d h := rfl
@[simp] theorem dV_5 (a b c e f : Option D) (d : D) (r : Ev) (h : DH) : dV 5 (a :: b :: c :: e :: f :: some d :: r) h = ret d h := rfl
@[simp] theorem dV_6 (a b c e f g : Option D) (d : D) (r : Ev) (h : DH) : dV 6 (a :: b :: c :: e :: f :: g :: some d :: r) h = ret d h := rfl
@[simp] theorem dC_ (d : D) (ρ : Ev) (h : DH) : dC d ρ h = ret d h := rfl
@[simp] theorem aNil_ (ρ : Ev) (h : DH) : aNil ρ h = ret [] h := rfl
@[simp] theorem aCons_ (f : DE) (g : DA) (ρ : Ev) (h : DH) : aCons f g ρ h = bindR (f ρ h) fun d h1 => bindR (g ρ h1) fun ds h2 => ret (d :: ds) h2 := rfl
@[simp] theorem dBin_ (op : D2) (f g : DE) (ρ : Ev) (h : DH) : dBin op f g ρ h = bindR (f ρ h) fun x h1 => bindR (g ρ h1) fun y h2 => op x y h2 := rfl
@[simp] theorem dUn_ (op : D1) (f : DE) (ρ : Ev) (h : DH) : dUn op f ρ h = bindR (f ρ h) fun x h1 => op x h1 := rfl
@[simp] theorem dFn_ (n : Nat) (φ : DF) (g : DA) (ρ : Ev) (h : DH) : dFn n φ g ρ h = bindR (g ρ h) fun ds h1 => if ds.length = n then φ ds h1 else none := rfl
@[simp] theorem dCall_ (φ : DF) (g : DA) (ρ : Ev) (h : DH) : dCall φ g ρ h = bindR (g ρ h) φ := rfl
@[simp] theorem dAnd_ (f g : DE) (ρ : Ev) (h : DH) : dAnd f g ρ h = bindR (f ρ h) fun x h1 => bindR (tD x h1) fun b h2 => if b then g ρ h2 else ret x h2 := rfl
@[simp] theorem dOr_ (f g : DE) (ρ : Ev) (h : DH) : dOr f g ρ h = bindR (f ρ h) fun x h1 => bindR (tD x h1) fun b h2 => if b then ret x h2 else g ρ h2 := rfl
@[simp] theorem dNot_ (f : DE) (ρ : Ev) (h : DH) : dNot f ρ h = bindR (f ρ h) fun x h1 => bindR (tD x h1) fun b h2 => ret (.bl (!b)) h2 := rfl
@[simp] theorem dIf_ (c : DB) (f g : DE) (ρ : Ev) (h : DH) : dIf c f g ρ h = bindR (c ρ h) fun b h1 => if b then f ρ h1 else g ρ h1 := rfl
@[simp] theorem dTest_ (f : DE) (ρ : Ev) (h : DH) : dTest f ρ h = bindR (f ρ h) bD := rfl
@[simp] theorem dTru_ (f : DE) (ρ : Ev) (h : DH) : dTru f ρ h = bindR (f ρ h) tD := rfl
@[simp] theorem bNot_ (f : DB) (ρ : Ev) (h : DH) : bNot f ρ h = bindR (f ρ h) fun b h1 => ret (!b) h1 := rfl
@[simp] theorem bAnd_ (f g : DB) (ρ : Ev) (h : DH) : bAnd f g ρ h = bindR (f ρ h) fun b h1 => if b then g ρ h1 else ret false h1 := rfl
@[simp] theorem bOr_ (f g : DB) (ρ : Ev) (h : DH) : bOr f g ρ h = bindR (f ρ h) fun b h1 => if b then ret true h1 else g ρ h1 := rfl
@[simp] theorem bYes_ (ρ : Ev) (h : DH) : bYes ρ h = ret true h := rfl
@[simp] theorem tD_bl (b : Bool) (h : DH) : tD (.bl b) h = ret b h := rfl
@[simp] theorem tD_int (i : Int) (h : DH) : tD (.int i) h = ret (i != 0) h := rfl
@[simp] theorem tD_non (h : DH) : tD .non h = ret false h := rfl
@[simp] theorem tD_tup (xs : List D) (h : DH) : tD (.tup xs) h = ret (!xs.isEmpty) h := rfl
@[simp] theorem bD_bl (b : Bool) (h : DH) : bD (.bl b) h = ret b h := rfl
@[simp] theorem dChain_ (o o' : D2) (f g k : DE) (ρ : Ev) (h : DH) : dChain o o' f g k ρ h = bindR (f ρ h) fun x h1 => bindR (g ρ h1) fun y h2 => bindR (o x y h2) fun z h3 => bindR (bD z h3) fun b h4 => if b then bindR (k ρ h4) fun u h5 => o' y u h5 else ret (.bl false) h4 := rfl
@[simp] theorem oGe_ (i j : Int) (h : DH) : oGe (.int i) (.int j) h = ret (.bl (decide (j ≤ i))) h := rfl
@[simp] theorem oGt_ (i j : Int) (h : DH) : oGt (.int i) (.int j) h = ret (.bl (decide (j < i))) h := rfl
@[simp] theorem oLe_ (i j : Int) (h : DH) : oLe (.int i) (.int j) h = ret (.bl (decide (i ≤ j))) h := rfl
@[simp] theorem oLt_ (i j : Int) (h : DH) : oLt (.int i) (.int j) h = ret (.bl (decide (i < j))) h := rfl
@[simp] theorem oSub_ (i j : Int) (h : DH) : oSub (.int i) (.int j) h = ret (.int (i - j)) h := rfl
@[simp] theorem oAdd_ (i j : Int) (h : DH) : oAdd (.int i) (.int j) h = ret (.int (i + j)) h := rfl
theorem oMul_ {i j : Int} (c : mulOk i j = true) (h : DH) : oMul (.int i) (.int j) h = ret (.int (i * j)) h := if_pos c
theorem oDiv_ {i j : Int} (c : divOk j = true) (h : DH) : oDiv (.int i) (.int j) h = ret (.int (i.fdiv j)) h := if_pos c
theorem oMod_ {i j : Int} (c : j ≠ 0) (h : DH) : oMod (.int i) (.int j) h = ret (.int (i.fmod j)) h := if_pos (decide_eq_true c)
@[simp] theorem uNeg_ (i : Int) (h : DH) : uNeg (.int i) h = ret (.int (-i)) h := rfl
@[simp] theorem fAbs_ (i : Int) (h : DH) : fAbs [.int i] h = ret (.int (if i < 0 then -i else i)) h := rfl
@[simp] theorem fInt_ (i : Int) (h : DH) : fInt [.int i] h = ret (.int i) h := rfl
@[simp] theorem fIntB_ (b : Bool) (h : DH) : fInt [.bl b] h = ret (.int (if b then 1 else 0)) h := rfl
@[simp] theorem fLen_ (xs : List D) (h : DH) : fLen [.tup xs] h = ret (.int xs.length) h := rfl
@[simp] theorem fLenR_ (xs : List D) (h : DH) : fLen [.rol xs] h = ret (.int xs.length) h := rfl
@[simp] theorem oIx_ (xs : List D) (i : Int) (h : DH) : oIx (.tup xs) (.int i) h = (match L2.atI xs i with | some d => ret d h | none => none) := rfl
@[simp] theorem dTup_ (f : DA) (ρ : Ev) (h : DH) : dTup f ρ h = bindR (f ρ h) fun ds h1 => if okLen ds.length then ret (.tup ds) h1 else none := rfl
@[simp] theorem dL_ (φ : DL) (g : DA) (ρ : Ev) (h : DH) : dL φ g ρ h = bindR (g ρ h) φ := rfl
@[simp] theorem φTup_ (ds : List D) (h : DH) : φTup ds h = ret (.tup ds) h := rfl
@[simp] theorem sRet_ (f : DE) (ρ : Ev) (h : DH) : sRet f ρ h = bindS (f ρ h) ρ fun d h1 => some (.rt d, h1) := rfl
@[simp] theorem sSeq_ (f g : DS) (ρ : Ev) (h : DH) : sSeq f g ρ h = seqS (f ρ h) g := rfl
@[simp] theorem seqS_nx (ρ : Ev) (h : DH) (k : Ev → DH → RS) : seqS (some (.nx ρ, h)) k = k ρ h := rfl
@[simp] theorem seqS_rt (d : D) (h : DH) (k : Ev → DH → RS) : seqS (some (.rt d, h)) k = some (.rt d, h) := rfl
@[simp] theorem seqS_er (c : Str) (ρ : Ev) (h : DH) (k : Ev → DH → RS) : seqS (some (.er c ρ, h)) k = some (.er c ρ, h) := rfl
@[simp] theorem seqS_ct (ρ : Ev) (h : DH) (k : Ev → DH → RS) : seqS (some (.ct ρ, h)) k = some (.ct ρ, h) := rfl
@[simp] theorem sIf_ (t : DB) (f g : DS) (ρ : Ev) (h : DH) : sIf t f g ρ h = bindS (t ρ h) ρ fun b h1 => if b then f ρ h1 else g ρ h1 := rfl
@[simp] theorem sNext_ (ρ : Ev) (h : DH) : sNext ρ h = some (.nx ρ, h) := rfl
@[simp] theorem sCont_ (ρ : Ev) (h : DH) : sCont ρ h = some (.ct ρ, h) := rfl
@[simp] theorem sNever_ (ρ : Ev) (h : DH) : sNever ρ h = none := rfl
@[simp] theorem sRaise_ (c : Str) (ρ : Ev) (h : DH) : sRaise c ρ h = some (.er c ρ, h) := rfl
@[simp] theorem sAsg_ (f : DE) (g : Pt) (ρ : Ev) (h : DH) : sAsg f g ρ h = bindS (f ρ h) ρ fun d h1 => match g d with
  | some l => some (.nx (setE ρ l), h1)
  | none => none := rfl
@[simp] theorem sPar_ (i j : Nat) (g : DA) (ρ : Ev) (h : DH) : sPar i j g ρ h = bindS (g ρ h) ρ fun ds h1 => match ds with
  | [x, y] => some (.nx ((ρ.set i (some x)).set j (some y)), h1)
  | _ => none := rfl
@[simp] theorem sPar3_ (i j l : Nat) (g : DA) (ρ : Ev) (h : DH) : sPar3 i j l g ρ h = bindS (g ρ h) ρ fun ds h1 => match ds with
  | [x, y, z] => some (.nx (((ρ.set i (some x)).set j (some y)).set l (some z)), h1)
  | _ => none := rfl
@[simp] theorem gN_ (i : Nat) (d : D) : gN i d = some [(i, d)] := rfl
@[simp] theorem setE_1 (ρ : Ev) (i : Nat) (d : D) : setE ρ [(i, d)] = ρ.set i (some d) := rfl
@[simp] theorem loopK_nx (ρ : Ev) (h : DH) (k : Ev → DH → RS) : loopK (some (.nx ρ, h)) k = k ρ h := rfl
@[simp] theorem loopK_ct (ρ : Ev) (h : DH) (k : Ev → DH → RS) : loopK (some (.ct ρ, h)) k = k ρ h := rfl
@[simp] theorem loopK_rt (d : D) (h : DH) (k : Ev → DH → RS) : loopK (some (.rt d, h)) k = some (.rt d, h) := rfl

theorem e_is_number (a : Int) (h : DH) : φ_p_is_number [.int a] h = ret (.bl true) h := by
  refine runF_rt rfl ?_
  rfl
theorem e_is_count (a : Int) (h : DH) : φ_p_is_count [.int a] h = ret (.bl (decide (0 ≤ a))) h := by
  refine runF_rt rfl ?_
  simp [b_p_is_count, e_is_number]
@[simp] theorem okLen_nil {α : Type} : okLen ([] : List α).length = true := rfl
/-! ### fractions -/
theorem fmod_cast (m n : Nat) : (m : Int).fmod (n : Int) = ((m % n : Nat) : Int) := by
  rw [Int.fmod_eq_emod_of_nonneg _ (Int.natCast_nonneg n)]
  exact (Int.natCast_emod m n).symm
abbrev shC : DB := dTest (dBin oGt (dV 3) (dC (.int 0)))
abbrev shB : DS := sPar 2 3 (aCons (dV 3) (aCons (dBin oMod (dV 2) (dV 3)) aNil))
theorem shared_loop (h : DH) (x y : Option D) : ∀ (n m : Nat), sWhile shC shB [x, y, some (.int (m : Int)), some (.int (n : Int))] h = some (.nx [x, y, some (.int (Nat.gcd m n : Nat)), some (.int 0)], h) := by
  intro n
  induction n using Nat.strongRecOn with
  | _ n ih =>
    intro m
    by_cases hn : n = 0
    · subst hn
      rw [sWhile_false (h1 := h) (by simp [shC]), Nat.gcd_zero_right]
      rfl
    · have hp : 0 < n := Nat.pos_of_ne_zero hn
      have ec : shC [x, y, some (.int (m : Int)), some (.int (n : Int))] h = ret true h := by
        simp only [shC, dTest_, dBin_, dV_3, dC_, bindR_ret, oGt_, bD_bl]
        rw [decide_eq_true (show (0 : Int) < (n : Int) by omega)]
      rw [sWhile_true ec]
      have e : shB [x, y, some (.int (m : Int)), some (.int (n : Int))] h = some (.nx [x, y, some (.int (n : Int)), some (.int ((m % n : Nat) : Int))], h) := by
        simp only [shB, sPar_, aCons_, dV_2, dV_3, bindR_ret, dBin_, aNil_, bindS_ret]
        rw [oMod_ (show ((n : Nat) : Int) ≠ 0 by omega), fmod_cast]
        rfl
      rw [e, loopK_nx, ih (m % n) (Nat.mod_lt _ hp) n]
      rw [Nat.gcd_comm m n, Nat.gcd_rec n m, Nat.gcd_comm (m % n) n]
theorem abs_int (a : Int) : (if a < 0 then -a else a) = (a.natAbs : Int) := by split <;> omega
theorem e_shared (a b : Int) (h : DH) : φ_p_shared [.int a, .int b] h = ret (.int (Int.gcd a b : Nat)) h := by
  refine runF_rt rfl ?_
  show b_p_shared [some (.int a), some (.int b), none, none] h = _
  simp only [b_p_shared, sSeq_, sPar_, aCons_, dCall_, dV_0, dV_1, aNil_, bindR_ret, bindS_ret, fAbs_, seqS_nx, List.set, abs_int]
  rw [shared_loop]
  rfl
/-! sizes -/
theorem log2_lt {i : Int} {k : Nat} (h : i.natAbs < 2 ^ k) : i.natAbs.log2 ≤ k := by
  by_cases h0 : i.natAbs = 0
  · rw [h0]; exact Nat.zero_le _
  · exact Nat.le_of_lt ((Nat.log2_lt h0).mpr h)
theorem mulOk_of {i j : Int} {k l : Nat} (hi : i.natAbs < 2 ^ k) (hj : j.natAbs < 2 ^ l) (hk : k ≤ 20000000) (hl : l ≤ 20000000) : mulOk i j = true := by
  have := log2_lt hi
  have := log2_lt hj
  exact decide_eq_true (by omega)
theorem divOk_of {j : Int} (h0 : 0 < j) (hj : j.natAbs < 2 ^ 8999) : divOk j = true := by
  have := log2_lt hj
  exact decide_eq_true ⟨by omega, .inr ⟨h0, by omega⟩⟩
def eR (q : Rat) : D := .tup [.int q.num, .int (q.den : Int)]
theorem e_made {a b : Int} (hb : b ≠ 0) (ha' : a.natAbs < 2 ^ 8000) (hb' : b.natAbs < 2 ^ 8000) (h : DH) : φ_p_made [.int a, .int b] h = ret (eR (Rat.divInt a b)) h := by
  have hg : 0 < Int.gcd a b := Int.gcd_pos_of_ne_zero_right a hb
  have hgb : Int.gcd a b ≤ b.natAbs := Nat.le_of_dvd (by omega) (Int.gcd_dvd_natAbs_right a b)
  have hd : divOk (Int.gcd a b : Nat) = true := divOk_of (by omega) (by
    have : (2:Nat) ^ 8000 ≤ 2 ^ 8999 := Nat.pow_le_pow_right (by omega) (by omega)
    simp only [Int.natAbs_natCast]
    omega)
  have hs : ((b.sign).natAbs : Nat) < 2 ^ 1 := by
    rcases Int.lt_trichotomy b 0 with z | z | z
    · rw [Int.sign_eq_neg_one_of_neg z]; decide
    · exact absurd z hb
    · rw [Int.sign_eq_one_of_pos z]; decide
  refine runF_rt rfl ?_
  show b_p_made [some (.int a), some (.int b), none, none] h = _
  have hsg : (if 0 < b then (ret (.int 1) h : Rh D) else ret (.int (-1)) h) = ret (.int b.sign) h := by
    split
    · rename_i z; rw [Int.sign_eq_one_of_pos z]
    · rename_i z; rw [Int.sign_eq_neg_one_of_neg (by omega)]
  simp only [b_p_made, sSeq_, sAsg_, dFn_, aCons_, dV_0, dV_1, dV_2, dV_3, aNil_, bindR_ret, bindS_ret, List.length, if_true, e_shared, gN_, setE_1, seqS_nx, List.set, dIf_, dTest_, dBin_, dC_, oGt_, bD_bl, decide_eq_true_eq, dUn_, uNeg_, hsg, sRet_, dTup_]
  simp only [oMul_ (mulOk_of hs ha' (by omega) (by omega)), oMul_ (mulOk_of hs hb' (by omega) (by omega)), bindR_ret, oDiv_ hd]
  have e1 : (b.sign * a).fdiv (Int.gcd a b : Nat) = (Rat.divInt a b).num := by
    rw [Rat.num_divInt, Int.gcd_comm b a]
    exact Int.fdiv_eq_ediv_of_dvd (Int.dvd_mul_of_dvd_right (Int.gcd_dvd_left ..))
  have e2 : (b.sign * b).fdiv (Int.gcd a b : Nat) = ((Rat.divInt a b).den : Int) := by
    rw [Rat.den_divInt, if_neg hb, Int.gcd_comm b a, Int.natCast_ediv]
    rw [Int.fdiv_eq_ediv_of_dvd (Int.dvd_mul_of_dvd_right (Int.gcd_dvd_right ..)), Int.sign_mul_self]
  rw [e1, e2]
  rfl
end Pl

set_option Elab.async false
set_option autoImplicit false
set_option linter.all false
set_option maxRecDepth 100000
set_option maxHeartbeats 2000000
set_option exponentiation.threshold 10000
namespace Pl
open Dt Wk
open PySem (Str)

/-! ### comprehensions -/
@[simp] theorem iSeq_ (f : DE) (ρ : Ev) (h : DH) (xs : List D) (e : f ρ h = ret (.tup xs) h) : iSeq f ρ h = ret (xs, sT) h := by
  unfold iSeq; rw [e]; rfl
theorem lc_map {g : Pt} {tt : DB} {te : DE} {ρ : Ev} {h : DH} (f : D → D) : ∀ (ds : List D), ds.length ≤ 1000000 → (∀ d ∈ ds, ∃ l, g d = some l ∧ tt (setE ρ l) h = ret true h ∧ te (setE ρ l) h = ret (f d) h) →
    lcGo sT g tt te ρ ds h = ret (ds.map f) h
  | [], _, _ => by unfold lcGo; exact if_pos (show sT h from trivial)
  | d :: ds, hl, he => by
    obtain ⟨l, e1, e2, e3⟩ := he d List.mem_cons_self
    have ih := lc_map f ds (Nat.le_trans (Nat.le_succ _) hl) fun x hx => he x (List.mem_cons_of_mem _ hx)
    unfold lcGo
    rw [if_pos (show sT h from trivial), e1]
    simp only [e2, bindR_ret, if_true, e3, ih]
    have : okLen (ds.map f).length = true := decide_eq_true (by rw [List.length_map]; simp at hl; omega)
    rw [if_pos this]
    rfl
theorem lLc_map {src : DI'} {g : Pt} {tt : DB} {te : DE} {own : List Nat} {ρ : Ev} {h : DH} {ds : List D} (f : D → D) (hs : src ρ h = ret (ds, sT) h) (hl : ds.length ≤ 1000000)
    (he : ∀ d ∈ ds, ∃ l, g d = some l ∧ tt (setE (wipeD ρ own) l) h = ret true h ∧ te (setE (wipeD ρ own) l) h = ret (f d) h) : lLc src g tt te own ρ h = ret (ds.map f) h := by
  unfold lLc
  rw [hs, bindR_ret]
  simp only
  rw [lc_map f ds hl he]
  rfl
/-- one name, no test -/
theorem lLc_n {src : DI'} {i : Nat} {te : DE} {own : List Nat} {ρ : Ev} {h : DH} {ds : List D} (f : D → D) (hs : src ρ h = ret (ds, sT) h) (hl : ds.length ≤ 1000000)
    (he : ∀ d ∈ ds, te ((wipeD ρ own).set i (some d)) h = ret (f d) h) : lLc src (gN i) bYes te own ρ h = ret (ds.map f) h :=
  lLc_map f hs hl fun d hd => ⟨_, rfl, rfl, he d hd⟩
theorem bools_map (ds : List D) (p : D → Bool) : bools (ds.map fun d => .bl (p d)) = some (ds.map p) := by
  induction ds with
  | nil => rfl
  | cons d ds ih =>
    show (bools (ds.map fun d => .bl (p d))).map (p d :: ·) = _
    rw [ih]
    rfl
theorem φAll_map (ds : List D) (p : D → Bool) (h : DH) : φAll (ds.map fun d => .bl (p d)) h = ret (.bl (ds.all p)) h := by
  unfold φAll
  rw [bools_map]
  simp [List.all_map, Function.comp_def]
/-! ### isinstance -/
theorem dIsi_ {U : String} {f : DE} {ρ : Ev} {h : DH} {d : D} {T : String} (e : f ρ h = ret d h) (t : tyD h d = some T) : dIsi U f ρ h = ret (.bl (isiT T U)) h := by
  unfold dIsi; rw [e, bindR_ret, t]
theorem dIsi2_ {U U' : String} {f : DE} {ρ : Ev} {h : DH} {d : D} {T : String} (e : f ρ h = ret d h) (t : tyD h d = some T) : dIsi2 U U' f ρ h = ret (.bl (isiT T U || isiT T U')) h := by
  unfold dIsi2; rw [e, bindR_ret, t]
/-! ### tupled -/
def pl : Nat → D → Bool
  | 0, _ => false
  | n + 1, .tup xs => decide (xs.length ≤ 1000000) && xs.all (pl n)
  | n + 1, .int _ => true
  | n + 1, .bl _ => true
  | n + 1, .non => true
  | n + 1, .str _ => true
  | _, _ => false
theorem e_tupled : ∀ (n : Nat) (d : D) (h : DH), pl n d = true → φ_p_tupled n [d] h = ret d h
  | 0, d, h, e => by cases e
  | n + 1, d, h, e => by
    refine runF_rt rfl ?_
    show b_p_tupled (φ_p_tupled n) [some d, none] h = _
    cases d with
    | tup xs =>
      have e2 : (decide (xs.length ≤ 1000000) && xs.all (pl n)) = true := e
      obtain ⟨hl, ha⟩ := Bool.and_eq_true_iff.mp e2
      have hm : xs.map (fun d => d) = xs := List.map_id xs
      have el : lLc (iSeq (dV 0)) (gN 1) bYes (dFn 1 (φ_p_tupled n) (aCons (dV 1) aNil)) [1] [some (.tup xs), none] h = ret (xs.map fun d => d) h :=
        lLc_n (fun d => d) (iSeq_ _ _ _ _ rfl) (of_decide_eq_true hl) fun d hd => by
          have := e_tupled n d h (List.all_eq_true.mp ha d hd)
          simp only [wipeD, List.set, dFn_, aCons_, dV_1, aNil_, bindR_ret, List.length, if_true, this]
      rw [hm] at el
      have ei : dIsi2 "list" "tuple" (dV 0) [some (.tup xs), none] h = ret (.bl true) h := dIsi2_ (d := .tup xs) (T := "tuple") rfl rfl
      simp only [b_p_tupled, sRet_, dIf_, dTru_, dL_, ei, tD_bl, el, bindR_ret, φTup_, if_true]
      rfl
    | int i => rfl
    | bl b => rfl
    | non => rfl
    | str s => rfl
    | rol xs => cases e
    | ref k => cases e
/-! ### fractions as rationals -/
@[simp] theorem ix_eR0 (q : Rat) (h : DH) : oIx (eR q) (.int 0) h = ret (.int q.num) h := rfl
@[simp] theorem ix_eR1 (q : Rat) (h : DH) : oIx (eR q) (.int 1) h = ret (.int (q.den : Int)) h := rfl
structure Sq (k : Nat) (q : Rat) : Prop where
  n : q.num.natAbs < 2 ^ k
  d : q.den < 2 ^ k
theorem Sq.mono {k l : Nat} {q : Rat} (s : Sq k q) (h : k ≤ l) : Sq l q := ⟨Nat.lt_of_lt_of_le s.n (Nat.pow_le_pow_right (by omega) h), Nat.lt_of_lt_of_le s.d (Nat.pow_le_pow_right (by omega) h)⟩
theorem den_pos (q : Rat) : (0 : Int) < q.den := by
  have := q.den_pos
  omega
theorem sq_divInt {a b : Int} {k : Nat} (hb : b ≠ 0) (ha : a.natAbs < 2 ^ k) (hb' : b.natAbs < 2 ^ k) : Sq k (Rat.divInt a b) := by
  refine ⟨?_, ?_⟩
  · rw [Rat.num_divInt]
    have h1 : (b.sign * a / (Int.gcd b a : Nat)).natAbs ≤ (b.sign * a).natAbs := Int.natAbs_ediv_le_natAbs _ _
    have h2 : (b.sign * a).natAbs ≤ a.natAbs := by
      rw [Int.natAbs_mul]
      have : b.sign.natAbs ≤ 1 := by
        rcases Int.lt_trichotomy b 0 with z | z | z
        · rw [Int.sign_eq_neg_one_of_neg z]; decide
        · exact absurd z hb
        · rw [Int.sign_eq_one_of_pos z]; decide
      exact Nat.le_trans (Nat.mul_le_mul_right _ this) (by omega)
    omega
  · rw [Rat.den_divInt, if_neg hb]
    exact Nat.lt_of_le_of_lt (Nat.div_le_self _ _) hb'
theorem mul_lt {a b : Int} {k l : Nat} (ha : a.natAbs < 2 ^ k) (hb : b.natAbs < 2 ^ l) : (a * b).natAbs < 2 ^ (k + l) := by
  rw [Int.natAbs_mul, Nat.pow_add]
  exact Nat.mul_lt_mul_of_lt_of_le ha (Nat.le_of_lt hb) (Nat.two_pow_pos l)
theorem add_lt {a b : Int} {k : Nat} (ha : a.natAbs < 2 ^ k) (hb : b.natAbs < 2 ^ k) : (a + b).natAbs < 2 ^ (k + 1) := by
  rw [Nat.pow_succ]
  omega
theorem sub_lt {a b : Int} {k : Nat} (ha : a.natAbs < 2 ^ k) (hb : b.natAbs < 2 ^ k) : (a - b).natAbs < 2 ^ (k + 1) := by
  rw [Nat.pow_succ]
  omega
theorem Sq.dn {k : Nat} {q : Rat} (s : Sq k q) : ((q.den : Int)).natAbs < 2 ^ k := by rw [Int.natAbs_natCast]; exact s.d
theorem den_ne (q : Rat) : (q.den : Int) ≠ 0 := by have := den_pos q; omega
theorem rat_mul (x y : Rat) : Rat.divInt (x.num * y.num) (x.den * y.den) = x * y := by rw [← Rat.divInt_mul_divInt, Rat.num_divInt_den, Rat.num_divInt_den]
theorem rat_add (x y : Rat) : Rat.divInt (x.num * y.den + y.num * x.den) (x.den * y.den) = x + y := by
  rw [← Rat.divInt_add_divInt _ _ (den_ne x) (den_ne y), Rat.num_divInt_den, Rat.num_divInt_den]
theorem rat_sub (x y : Rat) : Rat.divInt (x.num * y.den - y.num * x.den) (x.den * y.den) = x - y := by
  rw [← Rat.divInt_sub_divInt _ _ (den_ne x) (den_ne y), Rat.num_divInt_den, Rat.num_divInt_den]
theorem rat_div (x y : Rat) : Rat.divInt (x.num * y.den) (x.den * y.num) = x / y := by
  have e1 : Rat.divInt (x.den * y.num) (x.num * y.den) = (Rat.divInt (x.num * y.den) (x.den * y.num))⁻¹ := by rw [Rat.inv_divInt]
  rw [Rat.div_def, ← rat_mul x y⁻¹]
  by_cases h : y = 0
  · subst h
    simp
  · have hn : y.num ≠ 0 := fun z => h (Rat.num_eq_zero.mp z)
    have e2 : y⁻¹ = Rat.divInt y.den y.num := by
      conv => lhs; rw [← Rat.num_divInt_den y]
      rw [Rat.inv_divInt]
    have e3 : Rat.divInt (x.num * y.den) (x.den * y.num) = x * y⁻¹ := by
      rw [← Rat.divInt_mul_divInt, Rat.num_divInt_den, ← e2]
    rw [e3, ← rat_mul]
theorem num_ne {y : Rat} (h : y ≠ 0) : y.num ≠ 0 := fun z => h (Rat.num_eq_zero.mp z)
theorem sq_mul {k l : Nat} {x y : Rat} (hx : Sq k x) (hy : Sq l y) : Sq (k + l) (x * y) := by
  rw [← rat_mul]
  exact sq_divInt (Int.mul_ne_zero (den_ne x) (den_ne y)) (mul_lt hx.n hy.n) (mul_lt hx.dn hy.dn)
theorem sq_add {k l : Nat} {x y : Rat} (hx : Sq k x) (hy : Sq l y) : Sq (k + l + 1) (x + y) := by
  rw [← rat_add]
  refine sq_divInt (Int.mul_ne_zero (den_ne x) (den_ne y)) (add_lt (mul_lt hx.n hy.dn) ?_) (Nat.lt_of_lt_of_le (mul_lt hx.dn hy.dn) (Nat.pow_le_pow_right (by omega) (by omega)))
  rw [Nat.add_comm k l]; exact mul_lt hy.n hx.dn
theorem sq_sub {k l : Nat} {x y : Rat} (hx : Sq k x) (hy : Sq l y) : Sq (k + l + 1) (x - y) := by
  rw [← rat_sub]
  refine sq_divInt (Int.mul_ne_zero (den_ne x) (den_ne y)) (sub_lt (mul_lt hx.n hy.dn) ?_) (Nat.lt_of_lt_of_le (mul_lt hx.dn hy.dn) (Nat.pow_le_pow_right (by omega) (by omega)))
  rw [Nat.add_comm k l]; exact mul_lt hy.n hx.dn
theorem sq_div {k l : Nat} {x y : Rat} (hx : Sq k x) (hy : Sq l y) (h : y ≠ 0) : Sq (k + l) (x / y) := by
  rw [← rat_div]
  exact sq_divInt (Int.mul_ne_zero (den_ne x) (num_ne h)) (mul_lt hx.n hy.dn) (mul_lt hx.dn hy.n)
theorem sq_neg {k : Nat} {x : Rat} (hx : Sq k x) : Sq k (-x) := ⟨by rw [Rat.neg_num, Int.natAbs_neg]; exact hx.n, by rw [Rat.neg_den]; exact hx.d⟩
theorem up {a : Nat} {k l : Nat} (h : a < 2 ^ k) (hk : k ≤ l) : a < 2 ^ l := Nat.lt_of_lt_of_le h (Nat.pow_le_pow_right (by omega) hk)
theorem mOk {i j : Int} {k l : Nat} (hi : i.natAbs < 2 ^ k) (hj : j.natAbs < 2 ^ l) (hk : k ≤ 3000) (hl : l ≤ 3000) : mulOk i j = true := mulOk_of hi hj (by omega) (by omega)
theorem e_multiply {x y : Rat} {k l : Nat} (hx : Sq k x) (hy : Sq l y) (h : DH) (hk : k ≤ 3000 := by omega) (hl : l ≤ 3000 := by omega) : φ_p_multiply [eR x, eR y] h = ret (eR (x * y)) h := by
  refine runF_rt rfl ?_
  show b_p_multiply [some (eR x), some (eR y)] h = _
  simp only [b_p_multiply, sRet_, dFn_, aCons_, dBin_, dV_0, dV_1, dC_, bindR_ret, ix_eR0, ix_eR1, oMul_ (mOk hx.n hy.n hk hl), oMul_ (mOk hx.dn hy.dn hk hl), aNil_, List.length, if_true]
  rw [e_made (Int.mul_ne_zero (den_ne x) (den_ne y)) (up (mul_lt hx.n hy.n) (by omega)) (up (mul_lt hx.dn hy.dn) (by omega)), rat_mul]
  rfl
theorem e_add {x y : Rat} {k l : Nat} (hx : Sq k x) (hy : Sq l y) (h : DH) (hk : k ≤ 3000 := by omega) (hl : l ≤ 3000 := by omega) : φ_p_add [eR x, eR y] h = ret (eR (x + y)) h := by
  refine runF_rt rfl ?_
  show b_p_add [some (eR x), some (eR y)] h = _
  simp only [b_p_add, sRet_, dFn_, aCons_, dBin_, dV_0, dV_1, dC_, bindR_ret, ix_eR0, ix_eR1, oMul_ (mOk hx.n hy.dn hk hl), oMul_ (mOk hy.n hx.dn hl hk), oMul_ (mOk hx.dn hy.dn hk hl), oAdd_, aNil_, List.length, if_true]
  rw [e_made (Int.mul_ne_zero (den_ne x) (den_ne y)) (up (add_lt (k := k + l) (mul_lt hx.n hy.dn) (by rw [Nat.add_comm k l]; exact mul_lt hy.n hx.dn)) (by omega)) (up (mul_lt hx.dn hy.dn) (by omega)), rat_add]
  rfl
theorem e_take {x y : Rat} {k l : Nat} (hx : Sq k x) (hy : Sq l y) (h : DH) (hk : k ≤ 3000 := by omega) (hl : l ≤ 3000 := by omega) : φ_p_take [eR x, eR y] h = ret (eR (x - y)) h := by
  refine runF_rt rfl ?_
  show b_p_take [some (eR x), some (eR y)] h = _
  simp only [b_p_take, sRet_, dFn_, aCons_, dBin_, dV_0, dV_1, dC_, bindR_ret, ix_eR0, ix_eR1, oMul_ (mOk hx.n hy.dn hk hl), oMul_ (mOk hy.n hx.dn hl hk), oMul_ (mOk hx.dn hy.dn hk hl), oSub_, aNil_, List.length, if_true]
  rw [e_made (Int.mul_ne_zero (den_ne x) (den_ne y)) (up (sub_lt (k := k + l) (mul_lt hx.n hy.dn) (by rw [Nat.add_comm k l]; exact mul_lt hy.n hx.dn)) (by omega)) (up (mul_lt hx.dn hy.dn) (by omega)), rat_sub]
  rfl
theorem e_divide {x y : Rat} {k l : Nat} (hx : Sq k x) (hy : Sq l y) (hy0 : y ≠ 0) (h : DH) (hk : k ≤ 3000 := by omega) (hl : l ≤ 3000 := by omega) : φ_p_divide [eR x, eR y] h = ret (eR (x / y)) h := by
  refine runF_rt rfl ?_
  show b_p_divide [some (eR x), some (eR y)] h = _
  simp only [b_p_divide, sRet_, dFn_, aCons_, dBin_, dV_0, dV_1, dC_, bindR_ret, ix_eR0, ix_eR1, oMul_ (mOk hx.n hy.dn hk hl), oMul_ (mOk hx.dn hy.n hk hl), aNil_, List.length, if_true]
  rw [e_made (Int.mul_ne_zero (den_ne x) (num_ne hy0)) (up (mul_lt hx.n hy.dn) (by omega)) (up (mul_lt hx.dn hy.n) (by omega)), rat_div]
  rfl
theorem e_opposite (x : Rat) (h : DH) : φ_p_opposite [eR x] h = ret (eR (-x)) h := by
  refine runF_rt rfl ?_
  show b_p_opposite [some (eR x)] h = _
  simp only [b_p_opposite, sRet_, dTup_, aCons_, dUn_, dBin_, dV_0, dC_, bindR_ret, ix_eR0, ix_eR1, uNeg_, aNil_, eR, Rat.neg_num, Rat.neg_den]
  rfl
end Pl

set_option Elab.async false
set_option autoImplicit false
set_option linter.all false
set_option maxRecDepth 100000
set_option maxHeartbeats 2000000
set_option exponentiation.threshold 10000
namespace Pl
open Dt Wk
open PySem (Str)

/-! ### == -/
theorem toPyH_eR (q : Rat) (h : DH) : toPyH h (eR q) = some (.tuple [.int q.num, .int (q.den : Int)]) := rfl
@[simp] theorem oEq_int (i j : Int) (h : DH) : oEq (.int i) (.int j) h = ret (.bl (i == j)) h := rfl
@[simp] theorem oNe_int (i j : Int) (h : DH) : oNe (.int i) (.int j) h = ret (.bl (!(i == j))) h := rfl
@[simp] theorem oEq_bl (i j : Bool) (h : DH) : oEq (.bl i) (.bl j) h = ret (.bl (i == j)) h := rfl
@[simp] theorem oNe_bl (i j : Bool) (h : DH) : oNe (.bl i) (.bl j) h = ret (.bl (!(i == j))) h := rfl
theorem eqv_int (i j : Int) : PySem.PyData.eqv (.int i) (.int j) = (i == j) := rfl
theorem rat_ext {x y : Rat} (h1 : x.num = y.num) (h2 : x.den = y.den) : x = y := Rat.ext h1 h2
theorem beq_rat (x y : Rat) : ((x.num == y.num) && ((x.den : Int) == (y.den : Int))) = decide (x = y) := by
  rw [Bool.eq_iff_iff]
  simp only [Bool.and_eq_true, beq_iff_eq, decide_eq_true_eq]
  constructor
  · rintro ⟨h1, h2⟩
    exact rat_ext h1 (by omega)
  · rintro rfl
    exact ⟨rfl, rfl⟩
theorem eqv_eR (x y : Rat) : PySem.PyData.eqv (.tuple [.int x.num, .int (x.den : Int)]) (.tuple [.int y.num, .int (y.den : Int)]) = decide (x = y) := by
  rw [← beq_rat]
  simp [PySem.PyData.eqv, PySem.PyData.eqvAll]
@[simp] theorem oEq_eR (x y : Rat) (h : DH) : oEq (eR x) (eR y) h = ret (.bl (decide (x = y))) h := by
  unfold oEq
  rw [toPyH_eR, toPyH_eR]
  simp only
  rw [if_pos (by rfl), eqv_eR]
@[simp] theorem oNe_eR (x y : Rat) (h : DH) : oNe (eR x) (eR y) h = ret (.bl (!decide (x = y))) h := by
  unfold oNe
  rw [toPyH_eR, toPyH_eR]
  simp only
  rw [if_pos (by rfl), eqv_eR]
theorem k_NIL_eq : k_NIL = eR 0 := rfl
theorem k_ONE_eq : k_ONE = eR 1 := rfl
/-! ### the sure ones -/
@[simp] theorem e_is_tuple_of (xs : List D) (n : Int) (h : DH) : φ_p_is_tuple_of [.tup xs, .int n] h = ret (.bl ((xs.length : Int) == n)) h := by
  refine runF_rt rfl ?_
  show b_p_is_tuple_of [some (.tup xs), some (.int n)] h = _
  simp only [b_p_is_tuple_of, sRet_, dAnd_, dIsi_ (U := "tuple") (f := dV 0) (d := .tup xs) (T := "tuple") (ρ := [some (.tup xs), some (.int n)]) (h := h) rfl rfl, bindR_ret, tD_bl, dBin_, dCall_, aCons_, dV_0, dV_1, aNil_, fLen_, oEq_int, show isiT "tuple" "tuple" = true by decide, if_true]
  rfl
/-- int's number -/
theorem e_are_numbers (ns : List Int) (n : Int) (h : DH) (hl : ns.length ≤ 1000000) : φ_p_are_numbers [.tup (ns.map D.int), .int n] h = ret (.bl ((ns.length : Int) == n)) h := by
  refine runF_rt rfl ?_
  show b_p_are_numbers [some (.tup (ns.map D.int)), some (.int n), none] h = _
  have el : lLc (iSeq (dV 0)) (gN 2) bYes (dFn 1 φ_p_is_number (aCons (dV 2) aNil)) [2] [some (.tup (ns.map D.int)), some (.int n), none] h = ret ((ns.map D.int).map fun _ => .bl true) h :=
    lLc_n _ (iSeq_ _ _ _ _ rfl) (by rw [List.length_map]; exact hl) fun d hd => by
      obtain ⟨i, _, rfl⟩ := List.mem_map.mp hd
      simp only [wipeD, List.set, dFn_, aCons_, dV_2, aNil_, bindR_ret, List.length, if_true, e_is_number]
  simp only [b_p_are_numbers, sRet_, dAnd_, dFn_, aCons_, dV_0, dV_1, aNil_, bindR_ret, List.length, if_true, e_is_tuple_of, tD_bl, List.length_map, dL_, el, φAll_map (ns.map D.int) (fun _ => true)]
  cases e : ((ns.length : Int) == n) with
  | true =>
    simp only [if_true, bindS_ret]
    simp
  | false => rfl
@[simp] theorem e_is_fraction (q : Rat) (h : DH) : φ_p_is_fraction [eR q] h = ret (.bl true) h := by
  refine runF_rt rfl ?_
  show b_p_is_fraction [some (eR q)] h = _
  have en : φ_p_are_numbers [eR q, k_PAIR_numbers] h = ret (.bl true) h := e_are_numbers [q.num, (q.den : Int)] 2 h (by simp)
  have eg : Int.gcd q.num (q.den : Int) = 1 := q.reduced
  have ep : decide ((0 : Int) < (q.den : Int)) = true := decide_eq_true (den_pos q)
  simp only [b_p_is_fraction, sRet_, dAnd_, dFn_, aCons_, dV_0, dC_, aNil_, bindR_ret, List.length, if_true, en, tD_bl, dBin_, ix_eR0, ix_eR1, oGt_, ep, e_shared, eg, oEq_int]
  rfl
theorem pl_eR (q : Rat) : pl 7 (eR q) = true := rfl
@[simp] theorem e_sure_fraction (q : Rat) (h : DH) : φ_p_sure_fraction [eR q] h = ret (eR q) h := by
  refine runF_rt rfl ?_
  show b_p_sure_fraction [some (eR q), none] h = _
  simp only [b_p_sure_fraction, sSeq_, sAsg_, dFn_, aCons_, dV_0, dV_1, aNil_, bindR_ret, List.length, if_true, e_tupled 8 (eR q) h rfl, bindS_ret, gN_, setE_1, seqS_nx, List.set, sIf_, bNot_, dTru_, e_is_fraction, tD_bl, Bool.not_true, Bool.false_eq_true, if_false, sNext_, sRet_]
@[simp] theorem e_sure_not_nil {q : Rat} (hq : q ≠ 0) (h : DH) : φ_p_sure_not_nil [eR q] h = ret (eR q) h := by
  refine runF_rt rfl ?_
  show b_p_sure_not_nil [some (eR q), none] h = _
  simp only [b_p_sure_not_nil, sSeq_, sAsg_, dFn_, aCons_, dV_0, dV_1, dC_, aNil_, bindR_ret, List.length, if_true, e_sure_fraction, bindS_ret, gN_, setE_1, seqS_nx, List.set, sIf_, dTest_, dBin_, k_NIL_eq, oEq_eR, bD_bl, decide_eq_false hq, Bool.false_eq_true, if_false, sNext_, sRet_]
@[simp] theorem e_sure_number (a : Int) (h : DH) : φ_p_sure_number [.int a] h = ret (.int a) h := by
  refine runF_rt rfl ?_
  show b_p_sure_number [some (.int a)] h = _
  simp only [b_p_sure_number, sSeq_, sIf_, bNot_, dTru_, dFn_, aCons_, dV_0, aNil_, bindR_ret, List.length, if_true, e_is_number, tD_bl, Bool.not_true, Bool.false_eq_true, if_false, bindS_ret, sNext_, seqS_nx, sRet_]
theorem e_fraction {a b : Int} (hb : b ≠ 0) (ha' : a.natAbs < 2 ^ 8000) (hb' : b.natAbs < 2 ^ 8000) (h : DH) : φ_p_fraction [.int a, .int b] h = ret (eR (Rat.divInt a b)) h := by
  refine runF_rt rfl ?_
  show b_p_fraction [some (.int a), some (.int b), none, none] h = _
  have e0 : (b == 0) = false := beq_false_of_ne hb
  simp only [b_p_fraction, sSeq_, sPar_, dFn_, aCons_, dV_0, dV_1, dV_2, dV_3, aNil_, bindR_ret, List.length, if_true, e_sure_number, bindS_ret, seqS_nx, List.set, sIf_, dTest_, dBin_, dC_, oEq_int, bD_bl, e0, Bool.false_eq_true, if_false, sNext_, sRet_, e_made hb ha' hb']
theorem e_plus {x y : Rat} {k l : Nat} (hx : Sq k x) (hy : Sq l y) (h : DH) (hk : k ≤ 3000 := by omega) (hl : l ≤ 3000 := by omega) : φ_p_plus [eR x, eR y] h = ret (eR (x + y)) h := by
  refine runF_rt rfl ?_
  show b_p_plus [some (eR x), some (eR y), none, none] h = _
  simp only [b_p_plus, sSeq_, sPar_, dFn_, aCons_, dV_0, dV_1, dV_2, dV_3, aNil_, bindR_ret, List.length, if_true, e_sure_fraction, bindS_ret, seqS_nx, List.set, sRet_, e_add hx hy h hk hl]
theorem e_less {x y : Rat} {k l : Nat} (hx : Sq k x) (hy : Sq l y) (h : DH) (hk : k ≤ 3000 := by omega) (hl : l ≤ 3000 := by omega) : φ_p_less [eR x, eR y] h = ret (eR (x - y)) h := by
  refine runF_rt rfl ?_
  show b_p_less [some (eR x), some (eR y), none, none] h = _
  simp only [b_p_less, sSeq_, sPar_, dFn_, aCons_, dV_0, dV_1, dV_2, dV_3, aNil_, bindR_ret, List.length, if_true, e_sure_fraction, bindS_ret, seqS_nx, List.set, sRet_, e_take hx hy h hk hl]
theorem e_times {x y : Rat} {k l : Nat} (hx : Sq k x) (hy : Sq l y) (h : DH) (hk : k ≤ 3000 := by omega) (hl : l ≤ 3000 := by omega) : φ_p_times [eR x, eR y] h = ret (eR (x * y)) h := by
  refine runF_rt rfl ?_
  show b_p_times [some (eR x), some (eR y), none, none] h = _
  simp only [b_p_times, sSeq_, sPar_, dFn_, aCons_, dV_0, dV_1, dV_2, dV_3, aNil_, bindR_ret, List.length, if_true, e_sure_fraction, bindS_ret, seqS_nx, List.set, sRet_, e_multiply hx hy h hk hl]
theorem e_over {x y : Rat} {k l : Nat} (hx : Sq k x) (hy : Sq l y) (hy0 : y ≠ 0) (h : DH) (hk : k ≤ 3000 := by omega) (hl : l ≤ 3000 := by omega) : φ_p_over [eR x, eR y] h = ret (eR (x / y)) h := by
  refine runF_rt rfl ?_
  show b_p_over [some (eR x), some (eR y), none, none] h = _
  simp only [b_p_over, sSeq_, sPar_, dFn_, aCons_, dV_0, dV_1, dV_2, dV_3, aNil_, bindR_ret, List.length, if_true, e_sure_fraction, e_sure_not_nil hy0, bindS_ret, seqS_nx, List.set, sRet_, e_divide hx hy hy0 h hk hl]
/-! ### maps -/
def eM (m : Rat × Rat) : D := .tup [eR m.1, eR m.2]
@[simp] theorem ix_eM0 (m : Rat × Rat) (h : DH) : oIx (eM m) (.int 0) h = ret (eR m.1) h := rfl
@[simp] theorem ix_eM1 (m : Rat × Rat) (h : DH) : oIx (eM m) (.int 1) h = ret (eR m.2) h := rfl
structure Sm (k : Nat) (m : Rat × Rat) : Prop where
  a : Sq k m.1
  b : Sq k m.2
  nz : m.1 ≠ 0
theorem Sm.mono {k l : Nat} {m : Rat × Rat} (s : Sm k m) (h : k ≤ l) : Sm l m := ⟨s.a.mono h, s.b.mono h, s.nz⟩
@[simp] theorem e_is_map {m : Rat × Rat} (hm : m.1 ≠ 0) (h : DH) : φ_p_is_map [eM m] h = ret (.bl true) h := by
  refine runF_rt rfl ?_
  show b_p_is_map [some (eM m), none] h = _
  have el : lLc (iSeq (dV 0)) (gN 1) bYes (dFn 1 φ_p_is_fraction (aCons (dV 1) aNil)) [1] [some (eM m), none] h = ret ([eR m.1, eR m.2].map fun _ => .bl true) h :=
    lLc_n _ (iSeq_ _ _ _ _ rfl) (by simp) fun d hd => by
      have : ∃ q, d = eR q := by
        rcases List.mem_cons.mp hd with z | z
        · exact ⟨_, z⟩
        · exact ⟨_, List.mem_singleton.mp z⟩
      obtain ⟨q, rfl⟩ := this
      simp only [wipeD, List.set, dFn_, aCons_, dV_1, aNil_, bindR_ret, List.length, if_true, e_is_fraction]
  have et : φ_p_is_tuple_of [eM m, k_PAIR_maps] h = ret (.bl true) h := e_is_tuple_of [eR m.1, eR m.2] 2 h
  have en : decide (m.1 = 0) = false := decide_eq_false hm
  simp only [b_p_is_map, sRet_, dAnd_, dFn_, aCons_, dV_0, dC_, aNil_, bindR_ret, List.length, if_true, et, tD_bl, dL_, el, φAll_map [eR m.1, eR m.2] (fun _ => true), dBin_, ix_eM0, k_NIL_eq, oNe_eR, en]
  rfl
@[simp] theorem e_sure_map {m : Rat × Rat} (hm : m.1 ≠ 0) (h : DH) : φ_p_sure_map [eM m] h = ret (eM m) h := by
  refine runF_rt rfl ?_
  show b_p_sure_map [some (eM m), none] h = _
  simp only [b_p_sure_map, sSeq_, sAsg_, dFn_, aCons_, dV_0, dV_1, aNil_, bindR_ret, List.length, if_true, e_tupled 8 (eM m) h rfl, bindS_ret, gN_, setE_1, seqS_nx, List.set, sIf_, bNot_, dTru_, e_is_map hm, tD_bl, Bool.not_true, Bool.false_eq_true, if_false, sNext_, sRet_]
def mBeh (f g : Rat × Rat) : Rat × Rat := (f.1 * g.1, f.1 * g.2 + f.2)
def mInv (f : Rat × Rat) : Rat × Rat := (1 / f.1, -(f.2 / f.1))
def mAt (f : Rat × Rat) (x : Rat) : Rat := f.1 * x + f.2
theorem e_behind {f g : Rat × Rat} {k l : Nat} (hf : Sm k f) (hg : Sm l g) (h : DH) (hk : k ≤ 1000 := by omega) (hl : l ≤ 1000 := by omega) : φ_p_behind [eM f, eM g] h = ret (eM (mBeh f g)) h := by
  refine runF_rt rfl ?_
  show b_p_behind [some (eM f), some (eM g)] h = _
  simp only [b_p_behind, sRet_, dTup_, dFn_, aCons_, dBin_, dV_0, dV_1, dC_, aNil_, bindR_ret, ix_eM0, ix_eM1, List.length, if_true, e_multiply hf.a hg.a h (by omega) (by omega), e_multiply hf.a hg.b h (by omega) (by omega), e_add (sq_mul hf.a hg.b) hf.b h (by omega) (by omega)]
  rfl
theorem sm_beh {f g : Rat × Rat} {k l : Nat} (hf : Sm k f) (hg : Sm l g) : Sm (k + l + k + 1) (mBeh f g) :=
  ⟨(sq_mul hf.a hg.a).mono (by omega), (sq_add (sq_mul hf.a hg.b) hf.b).mono (by omega), fun z => by
    rcases Rat.mul_eq_zero.mp z with z | z
    · exact hf.nz z
    · exact hg.nz z⟩
theorem sq_one : Sq 1 1 := ⟨by decide, by decide⟩
theorem sq_zero : Sq 1 0 := ⟨by decide, by decide⟩
theorem e_undone_map {f : Rat × Rat} {k : Nat} (hf : Sm k f) (h : DH) (hk : k ≤ 1000 := by omega) : φ_p_undone_map [eM f] h = ret (eM (mInv f)) h := by
  refine runF_rt rfl ?_
  show b_p_undone_map [some (eM f)] h = _
  simp only [b_p_undone_map, sRet_, dTup_, dFn_, aCons_, dBin_, dV_0, dC_, aNil_, bindR_ret, ix_eM0, ix_eM1, List.length, if_true, k_ONE_eq, e_divide sq_one hf.a hf.nz h (by omega) (by omega), e_divide hf.b hf.a hf.nz h (by omega) (by omega), e_opposite]
  rfl
theorem sm_inv {f : Rat × Rat} {k : Nat} (hf : Sm k f) : Sm (k + k + 1) (mInv f) :=
  ⟨(sq_div sq_one hf.a hf.nz).mono (by omega), (sq_neg (sq_div hf.b hf.a hf.nz)).mono (by omega), fun z => by
    have e : f.1 * (1 / f.1) = 1 := by rw [Rat.div_def, Rat.one_mul, Rat.mul_inv_cancel _ hf.nz]
    have z2 : 1 / f.1 = 0 := z
    rw [z2, Rat.mul_zero] at e
    exact absurd e (by decide)⟩
theorem e_led_by {f : Rat × Rat} {x : Rat} {k l : Nat} (hf : Sm k f) (hx : Sq l x) (h : DH) (hk : k ≤ 1000 := by omega) (hl : l ≤ 1000 := by omega) : φ_p_led_by [eM f, eR x] h = ret (eR (mAt f x)) h := by
  refine runF_rt rfl ?_
  show b_p_led_by [some (eM f), some (eR x)] h = _
  simp only [b_p_led_by, sRet_, dFn_, aCons_, dBin_, dV_0, dV_1, dC_, aNil_, bindR_ret, ix_eM0, ix_eM1, List.length, if_true, e_multiply hf.a hx h (by omega) (by omega), e_add (sq_mul hf.a hx) hf.b h (by omega) (by omega)]
  rfl
theorem e_led {f : Rat × Rat} {x : Rat} {k l : Nat} (hf : Sm k f) (hx : Sq l x) (h : DH) (hk : k ≤ 1000 := by omega) (hl : l ≤ 1000 := by omega) : φ_p_led [eM f, eR x] h = ret (eR (mAt f x)) h := by
  refine runF_rt rfl ?_
  show b_p_led [some (eM f), some (eR x), none] h = _
  simp only [b_p_led, sSeq_, sAsg_, dFn_, aCons_, dV_0, dV_1, dV_2, aNil_, bindR_ret, List.length, if_true, e_sure_map hf.nz, bindS_ret, gN_, setE_1, seqS_nx, List.set, sRet_, e_sure_fraction, e_led_by hf hx h hk hl]
theorem e_map_back {f : Rat × Rat} {k : Nat} (hf : Sm k f) (h : DH) (hk : k ≤ 1000 := by omega) : φ_p_map_back [eM f] h = ret (eM (mInv f)) h := by
  refine runF_rt rfl ?_
  show b_p_map_back [some (eM f)] h = _
  simp only [b_p_map_back, sRet_, dFn_, aCons_, dV_0, aNil_, bindR_ret, List.length, if_true, e_sure_map hf.nz, e_undone_map hf h hk]
  rfl
theorem e_turned_map {f t : Rat × Rat} {k l : Nat} (hf : Sm k f) (ht : Sm l t) (h : DH) (hk : k ≤ 200 := by omega) (hl : l ≤ 200 := by omega) : φ_p_turned_map [eM f, eM t] h = ret (eM (mBeh (mBeh t f) (mInv t))) h := by
  refine runF_rt rfl ?_
  show b_p_turned_map [some (eM f), some (eM t)] h = _
  simp only [b_p_turned_map, sRet_, dFn_, aCons_, dV_0, dV_1, aNil_, bindR_ret, List.length, if_true, e_behind ht hf h (by omega) (by omega), e_undone_map ht h (by omega), e_behind (sm_beh ht hf) (sm_inv ht) h (by omega) (by omega)]
  rfl
end Pl

set_option Elab.async false
set_option autoImplicit false
set_option linter.all false
set_option maxRecDepth 100000
set_option maxHeartbeats 2000000
set_option exponentiation.threshold 10000
namespace Pl
open Dt Wk
open PySem (Str)

/-! ### words -/
def eW (w : List Int) : D := .tup (w.map D.int)
def wOk (w : List Int) : Prop := w.length ≤ 64 ∧ ∀ l ∈ w, l = 1 ∨ l = -1 ∨ l = 2 ∨ l = -2
theorem wOk.tail {l : Int} {w : List Int} (h : wOk (l :: w)) : wOk w := ⟨by have := h.1; simp at this; omega, fun x hx => h.2 x (List.mem_cons_of_mem _ hx)⟩
theorem pl_ints (w : List Int) (hl : w.length ≤ 1000000) : pl 8 (eW w) = true := by
  show (decide ((w.map D.int).length ≤ 1000000) && (w.map D.int).all (pl 7)) = true
  rw [Bool.and_eq_true]
  refine ⟨decide_eq_true (by rw [List.length_map]; exact hl), List.all_eq_true.mpr fun d hd => ?_⟩
  obtain ⟨i, _, rfl⟩ := List.mem_map.mp hd
  rfl
theorem e_is_word {w : List Int} (hw : wOk w) (h : DH) : φ_p_is_word [eW w] h = ret (.bl true) h := by
  refine runF_rt rfl ?_
  show b_p_is_word [some (eW w), none] h = _
  have el : lLc (iSeq (dV 0)) (gN 1) bYes (dAnd (dFn 1 φ_p_is_number (aCons (dV 1) aNil)) (dChain oLe oLe (dC (.int 1)) (dCall fAbs (aCons (dV 1) aNil)) (dC k_LETTERS))) [1] [some (eW w), none] h = ret ((w.map D.int).map fun _ => .bl true) h :=
    lLc_n _ (iSeq_ _ _ _ _ rfl) (by rw [List.length_map]; have := hw.1; omega) fun d hd => by
      obtain ⟨i, hi, rfl⟩ := List.mem_map.mp hd
      have c := hw.2 i hi
      have e1 : decide ((1 : Int) ≤ (if i < 0 then -i else i)) = true := decide_eq_true (by split <;> omega)
      have e2 : decide ((if i < 0 then -i else i) ≤ 3) = true := decide_eq_true (by split <;> omega)
      simp only [wipeD, List.set, dAnd_, dFn_, aCons_, dV_1, aNil_, bindR_ret, List.length, if_true, e_is_number, tD_bl, dChain_, dC_, dCall_, fAbs_, oLe_, e1, bD_bl, k_LETTERS, e2]
  simp only [b_p_is_word, sRet_, dAnd_, dIsi_ (U := "tuple") (f := dV 0) (d := eW w) (T := "tuple") (ρ := [some (eW w), none]) (h := h) rfl rfl, bindR_ret, tD_bl, show isiT "tuple" "tuple" = true by decide, if_true, dL_, el, φAll_map (w.map D.int) (fun _ => true)]
  simp
theorem e_sure_word {w : List Int} (hw : wOk w) (h : DH) : φ_p_sure_word [eW w] h = ret (eW w) h := by
  refine runF_rt rfl ?_
  show b_p_sure_word [some (eW w), none] h = _
  simp only [b_p_sure_word, sSeq_, sAsg_, dFn_, aCons_, dV_0, dV_1, aNil_, bindR_ret, List.length, if_true, e_tupled 8 (eW w) h (pl_ints w (by have := hw.1; omega)), bindS_ret, gN_, setE_1, seqS_nx, List.set, sIf_, bNot_, dTru_, e_is_word hw, tD_bl, Bool.not_true, Bool.false_eq_true, if_false, sNext_, sRet_]
theorem e_is_two {w : List Int} (hw : wOk w) (h : DH) : φ_p_is_two [eW w] h = ret (.bl true) h := by
  refine runF_rt rfl ?_
  show b_p_is_two [some (eW w), none] h = _
  have el : lLc (iSeq (dV 0)) (gN 1) bYes (dBin oLe (dCall fAbs (aCons (dV 1) aNil)) (dC k_TWO)) [1] [some (eW w), none] h = ret ((w.map D.int).map fun _ => .bl true) h :=
    lLc_n _ (iSeq_ _ _ _ _ rfl) (by rw [List.length_map]; have := hw.1; omega) fun d hd => by
      obtain ⟨i, hi, rfl⟩ := List.mem_map.mp hd
      have c := hw.2 i hi
      have e2 : decide ((if i < 0 then -i else i) ≤ 2) = true := decide_eq_true (by split <;> omega)
      simp only [wipeD, List.set, aCons_, dV_1, aNil_, bindR_ret, dBin_, dC_, dCall_, fAbs_, oLe_, k_TWO, e2]
  simp only [b_p_is_two, sRet_, dL_, el, bindR_ret, φAll_map (w.map D.int) (fun _ => true)]
  simp
theorem e_sure_two {w : List Int} (hw : wOk w) (h : DH) : φ_p_sure_two [eW w] h = ret (eW w) h := by
  refine runF_rt rfl ?_
  show b_p_sure_two [some (eW w), none] h = _
  simp only [b_p_sure_two, sSeq_, sAsg_, dFn_, aCons_, dV_0, dV_1, aNil_, bindR_ret, List.length, if_true, e_sure_word hw, bindS_ret, gN_, setE_1, seqS_nx, List.set, sIf_, bNot_, dTru_, e_is_two hw, tD_bl, Bool.not_true, Bool.false_eq_true, if_false, sNext_, sRet_]
/-! ### two maps -/
abbrev Mp := Rat × Rat
def eMs (m0 m1 : Mp) : D := .tup [eM m0, eM m1]
theorem maps_all {m0 m1 : Mp} (h0 : m0.1 ≠ 0) (h1 : m1.1 ≠ 0) {i : Nat} {src : DI'} {own : List Nat} {ρ : Ev} {h : DH} (hs : src ρ h = ret ([eM m0, eM m1], sT) h) (te : DE)
    (ht : ∀ m : Mp, m.1 ≠ 0 → te ((wipeD ρ own).set i (some (eM m))) h = ret (.bl true) h) : lLc src (gN i) bYes te own ρ h = ret [.bl true, .bl true] h :=
  lLc_n (fun _ => .bl true) hs (by simp) fun d hd => by
    rcases List.mem_cons.mp hd with z | z
    · rw [z]; exact ht m0 h0
    · rw [List.mem_singleton.mp z]; exact ht m1 h1
theorem e_are_maps {m0 m1 : Mp} (h0 : m0.1 ≠ 0) (h1 : m1.1 ≠ 0) (h : DH) : φ_p_are_maps [eMs m0 m1, .tup [.int 2, .int 3]] h = ret (.bl true) h := by
  refine runF_rt rfl ?_
  show b_p_are_maps [some (eMs m0 m1), some (.tup [.int 2, .int 3]), none] h = _
  have el : lLc (iSeq (dV 0)) (gN 2) bYes (dFn 1 φ_p_is_map (aCons (dV 2) aNil)) [2] [some (eMs m0 m1), some (.tup [.int 2, .int 3]), none] h = ret [.bl true, .bl true] h :=
    maps_all h0 h1 (iSeq_ _ _ _ _ rfl) _ fun m hm => by
      simp only [wipeD, List.set, dFn_, aCons_, dV_2, aNil_, bindR_ret, List.length, if_true, e_is_map hm]
  have ei : dIsi "tuple" (dV 0) [some (eMs m0 m1), some (.tup [.int 2, .int 3]), none] h = ret (.bl true) h := dIsi_ (d := eMs m0 m1) (T := "tuple") rfl rfl
  have eo : dBin oIn (dCall fLen (aCons (dV 0) aNil)) (dV 1) [some (eMs m0 m1), some (.tup [.int 2, .int 3]), none] h = ret (.bl true) h := rfl
  simp only [b_p_are_maps, sRet_, dAnd_, ei, eo, bindR_ret, tD_bl, if_true, dL_, el]
  rfl
theorem pl_eMs (m0 m1 : Mp) : pl 8 (eMs m0 m1) = true := rfl
theorem e_sure_maps {m0 m1 : Mp} (h0 : m0.1 ≠ 0) (h1 : m1.1 ≠ 0) (h : DH) : φ_p_sure_maps [eMs m0 m1] h = ret (eMs m0 m1) h := by
  refine runF_rt rfl ?_
  show b_p_sure_maps [some (eMs m0 m1), none] h = _
  have ea := e_are_maps h0 h1 h
  simp only [b_p_sure_maps, sSeq_, sAsg_, dFn_, aCons_, dV_0, dV_1, dC_, dTup_, aNil_, bindR_ret, List.length, if_true, e_tupled 8 (eMs m0 m1) h rfl, bindS_ret, gN_, setE_1, seqS_nx, List.set, sIf_, bNot_, dTru_, k_PAIR_maps, k_THREE_maps, show okLen (0 + 1 + 1) = true by decide, ea, tD_bl, Bool.not_true, Bool.false_eq_true, if_false, sNext_, sRet_]
theorem e_are_lot {m0 m1 : Mp} (h0 : m0.1 ≠ 0) (h1 : m1.1 ≠ 0) (h : DH) : φ_p_are_lot [eMs m0 m1] h = ret (.bl true) h := by
  refine runF_rt rfl ?_
  show b_p_are_lot [some (eMs m0 m1), none] h = _
  have el : lLc (iSeq (dV 0)) (gN 1) bYes (dFn 1 φ_p_is_map (aCons (dV 1) aNil)) [1] [some (eMs m0 m1), none] h = ret [.bl true, .bl true] h :=
    maps_all h0 h1 (iSeq_ _ _ _ _ rfl) _ fun m hm => by
      simp only [wipeD, List.set, dFn_, aCons_, dV_1, aNil_, bindR_ret, List.length, if_true, e_is_map hm]
  have ei : dIsi "tuple" (dV 0) [some (eMs m0 m1), none] h = ret (.bl true) h := dIsi_ (d := eMs m0 m1) (T := "tuple") rfl rfl
  have eo : oNe (eMs m0 m1) (.tup []) h = ret (.bl true) h := by
    unfold oNe
    have e1 : toPyH h (eMs m0 m1) = some (.tuple [.tuple [.tuple [.int m0.1.num, .int (m0.1.den : Int)], .tuple [.int m0.2.num, .int (m0.2.den : Int)]], .tuple [.tuple [.int m1.1.num, .int (m1.1.den : Int)], .tuple [.int m1.2.num, .int (m1.2.den : Int)]]]) := rfl
    have e2 : toPyH h (.tup []) = some (.tuple []) := rfl
    rw [e1, e2]
    simp only
    rw [if_pos (by rfl)]
    simp [PySem.PyData.eqv, PySem.PyData.eqvAll]
  simp only [b_p_are_lot, sRet_, dAnd_, ei, bindR_ret, tD_bl, if_true, dBin_, dV_0, dTup_, aNil_, okLen_nil, eo, dL_, el]
  rfl
theorem e_sure_lot {m0 m1 : Mp} (h0 : m0.1 ≠ 0) (h1 : m1.1 ≠ 0) (h : DH) : φ_p_sure_lot [eMs m0 m1] h = ret (eMs m0 m1) h := by
  refine runF_rt rfl ?_
  show b_p_sure_lot [some (eMs m0 m1), none] h = _
  simp only [b_p_sure_lot, sSeq_, sAsg_, dFn_, aCons_, dV_0, dV_1, aNil_, bindR_ret, List.length, if_true, e_tupled 8 (eMs m0 m1) h rfl, bindS_ret, gN_, setE_1, seqS_nx, List.set, sIf_, bNot_, dTru_, e_are_lot h0 h1, tD_bl, Bool.not_true, Bool.false_eq_true, if_false, sNext_, sRet_]
/-- two maps, one after another -/
theorem maps_each {m0 m1 : Mp} {i : Nat} {src : DI'} {own : List Nat} {ρ : Ev} {h : DH} (hs : src ρ h = ret ([eM m0, eM m1], sT) h) (te : DE) (f : Mp → D)
    (ht : ∀ m : Mp, m = m0 ∨ m = m1 → te ((wipeD ρ own).set i (some (eM m))) h = ret (f m) h) : lLc src (gN i) bYes te own ρ h = ret [f m0, f m1] h := by
  unfold lLc
  rw [hs, bindR_ret]
  simp only
  have e0 := ht m0 (.inl rfl)
  have e1 := ht m1 (.inr rfl)
  have : lcGo sT (gN i) bYes te (wipeD ρ own) [eM m0, eM m1] h = ret [f m0, f m1] h := by
    unfold lcGo
    rw [if_pos (show sT h from trivial)]
    simp only [gN_, setE_1, bYes_, bindR_ret, if_true, e0]
    unfold lcGo
    rw [if_pos (show sT h from trivial)]
    simp only [gN_, setE_1, bYes_, bindR_ret, if_true, e1]
    unfold lcGo
    rw [if_pos (show sT h from trivial)]
    rfl
  rw [this]
  rfl
def mTurn (t f : Mp) : Mp := mBeh (mBeh t f) (mInv t)
theorem e_maps_turned {m0 m1 t : Mp} {k l : Nat} (h0 : Sm k m0) (h1 : Sm k m1) (ht : Sm l t) (h : DH) (hk : k ≤ 200 := by omega) (hl : l ≤ 200 := by omega) : φ_p_maps_turned [eMs m0 m1, eM t] h = ret (eMs (mTurn t m0) (mTurn t m1)) h := by
  refine runF_rt rfl ?_
  show b_p_maps_turned [some (eMs m0 m1), some (eM t), none, none, none] h = _
  have el : lLc (iSeq (dV 2)) (gN 4) bYes (dFn 2 φ_p_turned_map (aCons (dV 4) (aCons (dV 3) aNil))) [4] [some (eMs m0 m1), some (eM t), some (eMs m0 m1), some (eM t), none] h = ret [eM (mTurn t m0), eM (mTurn t m1)] h :=
    maps_each (iSeq_ _ _ _ _ rfl) _ (fun m => eM (mTurn t m)) fun m hm => by
      have hs : Sm k m := by rcases hm with rfl | rfl <;> assumption
      simp only [wipeD, List.set, dFn_, aCons_, dV_4, dV_3, aNil_, bindR_ret, List.length, if_true, e_turned_map hs ht h hk hl]
      rfl
  simp only [b_p_maps_turned, sSeq_, sAsg_, dTup_, dFn_, aCons_, dV_0, dV_1, aNil_, bindR_ret, List.length, if_true, e_sure_maps h0.nz h1.nz, e_sure_map ht.nz, show okLen (0 + 1 + 1) = true by decide, bindS_ret]
  show seqS (some (.nx [some (eMs m0 m1), some (eM t), some (eMs m0 m1), some (eM t), none], h)) _ = _
  simp only [seqS_nx, sRet_, dL_, el, bindR_ret]
  rfl
theorem e_turned_in {m0 m1 t : Mp} {k l : Nat} (h0 : Sm k m0) (h1 : Sm k m1) (ht : Sm l t) (h : DH) (hk : k ≤ 200 := by omega) (hl : l ≤ 200 := by omega) : φ_p_turned_in [eMs m0 m1, eM t] h = ret (eMs (mTurn t m0) (mTurn t m1)) h := by
  refine runF_rt rfl ?_
  show b_p_turned_in [some (eMs m0 m1), some (eM t), none] h = _
  have el : lLc (iSeq (dV 0)) (gN 2) bYes (dFn 2 φ_p_turned_map (aCons (dV 2) (aCons (dV 1) aNil))) [2] [some (eMs m0 m1), some (eM t), none] h = ret [eM (mTurn t m0), eM (mTurn t m1)] h :=
    maps_each (iSeq_ _ _ _ _ rfl) _ (fun m => eM (mTurn t m)) fun m hm => by
      have hs : Sm k m := by rcases hm with rfl | rfl <;> assumption
      simp only [wipeD, List.set, dFn_, aCons_, dV_2, dV_1, aNil_, bindR_ret, List.length, if_true, e_turned_map hs ht h hk hl]
      rfl
  simp only [b_p_turned_in, sRet_, dL_, el, bindR_ret]
  rfl
theorem e_lot_turned {m0 m1 t : Mp} {k l : Nat} (h0 : Sm k m0) (h1 : Sm k m1) (ht : Sm l t) (h : DH) (hk : k ≤ 200 := by omega) (hl : l ≤ 200 := by omega) : φ_p_lot_turned [eMs m0 m1, eM t] h = ret (eMs (mTurn t m0) (mTurn t m1)) h := by
  refine runF_rt rfl ?_
  show b_p_lot_turned [some (eMs m0 m1), some (eM t), none] h = _
  simp only [b_p_lot_turned, sSeq_, sAsg_, dFn_, aCons_, dV_0, dV_1, dV_2, aNil_, bindR_ret, List.length, if_true, e_sure_lot h0.nz h1.nz, e_sure_map ht.nz, bindS_ret, gN_, setE_1, seqS_nx, List.set, sRet_, e_turned_in h0 h1 ht h hk hl]
def mGap (f g : Mp) : Rat := f.2 * (1 - g.1) - g.2 * (1 - f.1)
theorem e_maps_gap {f g : Mp} {k l : Nat} (hf : Sm k f) (hg : Sm l g) (h : DH) (hk : k ≤ 700 := by omega) (hl : l ≤ 700 := by omega) : φ_p_maps_gap [eM f, eM g] h = ret (eR (mGap f g)) h := by
  have e1 : φ_p_maps_gap_in [eM f, eM g] h = ret (eR (mGap f g)) h := by
    refine runF_rt rfl ?_
    show b_p_maps_gap_in [some (eM f), some (eM g)] h = _
    simp only [b_p_maps_gap_in, sRet_, dFn_, aCons_, dBin_, dV_0, dV_1, dC_, aNil_, bindR_ret, ix_eM0, ix_eM1, List.length, if_true, k_ONE_eq, e_take sq_one hg.a h (by omega) (by omega), e_take sq_one hf.a h (by omega) (by omega),
      e_multiply hf.b (sq_sub sq_one hg.a) h (by omega) (by omega), e_multiply hg.b (sq_sub sq_one hf.a) h (by omega) (by omega), e_take (sq_mul hf.b (sq_sub sq_one hg.a)) (sq_mul hg.b (sq_sub sq_one hf.a)) h (by omega) (by omega)]
    rfl
  refine runF_rt rfl ?_
  show b_p_maps_gap [some (eM f), some (eM g), none, none] h = _
  simp only [b_p_maps_gap, sSeq_, sPar_, dFn_, aCons_, dV_0, dV_1, dV_2, dV_3, aNil_, bindR_ret, List.length, if_true, e_sure_map hf.nz, e_sure_map hg.nz, bindS_ret, seqS_nx, List.set, sRet_, e1]
/-! ### kept points -/
theorem e_kept_place {f : Mp} {k : Nat} (hf : Sm k f) (h : DH) (hk : k ≤ 700 := by omega) : φ_p_kept_place [eM f] h = ret (if f.1 = 1 then .non else eR (f.2 / (1 - f.1))) h := by
  refine runF_rt rfl ?_
  show b_p_kept_place [some (eM f)] h = _
  by_cases e : f.1 = 1
  · simp only [b_p_kept_place, sRet_, dIf_, dTest_, dBin_, dV_0, dC_, bindR_ret, ix_eM0, k_ONE_eq, oNe_eR, bD_bl, decide_eq_true e, Bool.not_true, Bool.false_eq_true, if_false, if_pos e]
    rfl
  · have hd : (1 : Rat) - f.1 ≠ 0 := fun z => e (by grind)
    simp only [b_p_kept_place, sRet_, dIf_, dTest_, dFn_, aCons_, aNil_, dBin_, dV_0, dC_, bindR_ret, ix_eM0, ix_eM1, k_ONE_eq, oNe_eR, bD_bl, decide_eq_false e, Bool.not_false, List.length, if_true, if_neg e, e_take sq_one hf.a h (by omega) (by omega), e_divide hf.b (sq_sub sq_one hf.a) hd h (by omega) (by omega)]
    rfl
theorem e_kept_point {f : Mp} {k : Nat} (hf : Sm k f) (h : DH) (hk : k ≤ 700 := by omega) : φ_p_kept_point [eM f] h = (if f.1 = 1 then some (.er "NoPaper", h) else ret (eR (f.2 / (1 - f.1))) h) := by
  by_cases e : f.1 = 1
  · rw [if_pos e]
    refine runF_er (ρ := [some (eM f), some .non]) rfl ?_
    show b_p_kept_point [some (eM f), none] h = _
    simp only [b_p_kept_point, sSeq_, sAsg_, dFn_, aCons_, dV_0, aNil_, bindR_ret, List.length, if_true, e_sure_map hf.nz, e_kept_place hf h hk, if_pos e, bindS_ret, gN_, setE_1, seqS_nx, List.set]
    rfl
  · rw [if_neg e]
    refine runF_rt rfl ?_
    show b_p_kept_point [some (eM f), none] h = _
    simp only [b_p_kept_point, sSeq_, sAsg_, dFn_, aCons_, dV_0, aNil_, bindR_ret, List.length, if_true, e_sure_map hf.nz, e_kept_place hf h hk, if_neg e, bindS_ret, gN_, setE_1, seqS_nx, List.set]
    rfl
theorem e_map_between {a b c d : Rat} {k : Nat} (ha : Sq k a) (hb : Sq k b) (hc : Sq k c) (hd : Sq k d) (hab : a ≠ b) (hcd : c ≠ d) (h : DH) (hk : k ≤ 300 := by omega) : φ_p_map_between [eR a, eR b, eR c, eR d] h = ret (eM ((d - c) / (b - a), c - (d - c) / (b - a) * a)) h := by
  have hn : b - a ≠ 0 := fun z => hab (by grind)
  have s1 := sq_sub hd hc
  have s2 := sq_sub hb ha
  have s3 := sq_div s1 s2 hn
  refine runF_rt rfl ?_
  show b_p_map_between [some (eR a), some (eR b), some (eR c), some (eR d), none, none, none, none, none] h = _
  simp only [b_p_map_between, sSeq_, sPar_, dFn_, aCons_, dV_0, dV_1, dV_2, dV_3, aNil_, bindR_ret, List.length, if_true, e_sure_fraction, bindS_ret, seqS_nx, List.set]
  have dV7 : dV 7 [some (eR a), some (eR b), some (eR c), some (eR d), some (eR a), some (eR b), some (eR c), some (eR d), none] h = ret (eR d) h := rfl
  simp only [sIf_, bOr_, dTest_, dBin_, dV_4, dV_5, dV_6, dV7, bindR_ret, oEq_eR, bD_bl, decide_eq_false hab, decide_eq_false hcd, Bool.false_eq_true, if_false, bindS_ret, sNext_, seqS_nx, sSeq_, sAsg_, dFn_, aCons_, aNil_, List.length, if_true, e_take hd hc h (by omega) (by omega), e_take hb ha h (by omega) (by omega), e_divide s1 s2 hn h (by omega) (by omega), gN_, setE_1, List.set]
  have dV8 : dV 8 [some (eR a), some (eR b), some (eR c), some (eR d), some (eR a), some (eR b), some (eR c), some (eR d), some (eR ((d - c) / (b - a)))] h = ret (eR ((d - c) / (b - a))) h := rfl
  simp only [sRet_, dTup_, dFn_, aCons_, aNil_, dV8, dV_6, dV_4, bindR_ret, List.length, if_true, e_multiply s3 ha h (by omega) (by omega), e_take hc (sq_mul s3 ha) h (by omega) (by omega)]
  rfl
end Pl

set_option Elab.async false
set_option autoImplicit false
set_option linter.all false
set_option maxRecDepth 100000
set_option maxHeartbeats 2000000
set_option exponentiation.threshold 10000
namespace Pl
open Dt Wk
open PySem (Str)

/-! ### a for over a tuple -/
theorem sFor_tup {src : DI'} {g : Pt} {b : DS} {ρ : Ev} {h : DH} {ds : List D} (hs : src ρ h = ret (ds, sT) h) : sFor src g b ρ h = forGo sT g b ds ρ h := by
  unfold sFor
  rw [hs, bindS_ret]
theorem forGo_nil {g : Pt} {b : DS} {ρ : Ev} {h : DH} : forGo sT g b [] ρ h = some (.nx ρ, h) := by
  unfold forGo
  exact if_pos (show sT h from trivial)
theorem forGo_n {i : Nat} {b : DS} {ρ : Ev} {h : DH} {d : D} {ds : List D} : forGo sT (gN i) b (d :: ds) ρ h = loopK (b (ρ.set i (some d)) h) (forGo sT (gN i) b ds) := by
  conv => lhs; unfold forGo
  rw [if_pos (show sT h from trivial)]
  rfl
/-! ### words led through maps -/
def lm (m0 m1 : Mp) (l : Int) : Mp := if l = 1 then m0 else if l = -1 then mInv m0 else if l = 2 then m1 else mInv m1
def wMap (m0 m1 : Mp) (f : Mp) (w : List Int) : Mp := w.foldl (fun f l => mBeh f (lm m0 m1 l)) f
theorem sm_lm {m0 m1 : Mp} {k : Nat} (h0 : Sm k m0) (h1 : Sm k m1) (l : Int) : Sm (k + k + 1) (lm m0 m1 l) := by
  unfold lm
  split
  · exact h0.mono (by omega)
  · split
    · exact sm_inv h0
    · split
      · exact h1.mono (by omega)
      · exact sm_inv h1
def bb (l : Nat) : Nat → Nat
  | 0 => 1
  | n + 1 => bb l n + l + bb l n + 1
theorem bb_le (l : Nat) (n : Nat) : ∀ k, bb l n ≤ bb l (n + k)
  | 0 => Nat.le_refl _
  | k + 1 => by
    have := bb_le l n k
    show bb l n ≤ bb l (n + k) + l + bb l (n + k) + 1
    omega
theorem sm_wMap {m0 m1 : Mp} {k : Nat} (h0 : Sm k m0) (h1 : Sm k m1) : ∀ (w : List Int) (f : Mp) (j : Nat), Sm (bb (k + k + 1) j) f → Sm (bb (k + k + 1) (j + w.length)) (wMap m0 m1 f w)
  | [], f, j, s => s
  | l :: w, f, j, s => by
    have := sm_wMap h0 h1 w (mBeh f (lm m0 m1 l)) (j + 1) (sm_beh s (sm_lm h0 h1 l))
    have e : j + (l :: w).length = j + 1 + w.length := by simp; omega
    rw [e]
    exact this
theorem sm_still : Sm 1 ((1, 0) : Mp) := ⟨sq_one, sq_zero, by decide⟩
theorem k_STILL_eq : k_STILL = eM (1, 0) := rfl
theorem ix_last {h : DH} {xs : List D} (i : Int) : oIx (.ref h.length) (.int i) (h ++ [.lst xs]) = (match L2.atI xs i with | some d => ret d (h ++ [.lst xs]) | none => none) := by
  unfold oIx
  have e : (h ++ [O.lst xs])[h.length]? = some (.lst xs) := by simp
  simp only [e]
  try (cases L2.atI xs i <;> rfl)
noncomputable abbrev owBody : DS := sAsg (dFn 2 φ_p_behind (aCons (dV 3) (aCons (dIf (dTest (dBin oGt (dV 4) (dC (.int 0)))) (dBin oIx (dV 0) (dBin oSub (dV 4) (dC (.int 1)))) (dBin oIx (dV 2) (dBin oSub (dUn uNeg (dV 4)) (dC (.int 1))))) aNil))) (gN 3)
theorem ow_loop {m0 m1 : Mp} {k : Nat} (h0 : Sm k m0) (h1 : Sm k m1) (hk : k ≤ 300) (h : DH) (W : D) : ∀ (w : List Int) (f : Mp) (j : Nat) (x : Option D), wOk w → Sm (bb (k + k + 1) j) f → bb (k + k + 1) (j + w.length) ≤ 1000 →
    ∃ y, forGo sT (gN 4) owBody (w.map D.int) [some (eMs m0 m1), some W, some (.ref h.length), some (eM f), x, none] (h ++ [.lst [eM (mInv m0), eM (mInv m1)]]) =
      some (.nx [some (eMs m0 m1), some W, some (.ref h.length), some (eM (wMap m0 m1 f w)), y, none], h ++ [.lst [eM (mInv m0), eM (mInv m1)]])
  | [], f, j, x, _, _, _ => ⟨x, forGo_nil⟩
  | l :: w, f, j, x, hw, hf, hb => by
    have e : j + (l :: w).length = j + 1 + w.length := by simp; omega
    rw [e] at hb
    have hj : bb (k + k + 1) (j + 1) ≤ 1000 := Nat.le_trans (bb_le _ _ _) hb
    have hj2 : bb (k + k + 1) j ≤ 1000 := by
      have : bb (k + k + 1) (j + 1) = bb (k + k + 1) j + (k + k + 1) + bb (k + k + 1) j + 1 := rfl
      omega
    have eb := e_behind hf (sm_lm h0 h1 l) (h ++ [.lst [eM (mInv m0), eM (mInv m1)]]) hj2 (by omega)
    obtain ⟨y, ih⟩ := ow_loop h0 h1 hk h W w (mBeh f (lm m0 m1 l)) (j + 1) (some (.int l)) hw.tail (sm_beh hf (sm_lm h0 h1 l)) hb
    refine ⟨y, ?_⟩
    rw [List.map_cons, forGo_n]
    have step : owBody ([some (eMs m0 m1), some W, some (.ref h.length), some (eM f), x, none].set 4 (some (.int l))) (h ++ [.lst [eM (mInv m0), eM (mInv m1)]]) =
        some (.nx [some (eMs m0 m1), some W, some (.ref h.length), some (eM (mBeh f (lm m0 m1 l))), some (.int l), none], h ++ [.lst [eM (mInv m0), eM (mInv m1)]]) := by
      rcases hw.2 l List.mem_cons_self with rfl | rfl | rfl | rfl
      · have : lm m0 m1 1 = m0 := if_pos rfl
        rw [this] at eb ⊢
        simp only [owBody, sAsg_, List.set, dFn_, aCons_, dV_3, dIf_, dTest_, dBin_, dV_4, dC_, bindR_ret, oGt_, bD_bl, show decide ((0 : Int) < 1) = true by decide, if_true, dV_0, oSub_, aNil_, List.length]
        have ei : oIx (eMs m0 m1) (.int (1 - 1)) (h ++ [.lst [eM (mInv m0), eM (mInv m1)]]) = ret (eM m0) (h ++ [.lst [eM (mInv m0), eM (mInv m1)]]) := rfl
        simp only [ei, bindR_ret, List.length, eb, bindS_ret, gN_, setE_1, List.set, if_true]
      · have : lm m0 m1 (-1) = mInv m0 := by unfold lm; rw [if_neg (by decide), if_pos rfl]
        rw [this] at eb ⊢
        simp only [owBody, sAsg_, List.set, dFn_, aCons_, dV_3, dIf_, dTest_, dBin_, dV_4, dC_, bindR_ret, oGt_, bD_bl, show decide ((0 : Int) < -1) = false by decide, Bool.false_eq_true, if_false, dV_2, oSub_, aNil_, List.length, dUn_, uNeg_]
        have ei : oIx (.ref h.length) (.int (- -1 - 1)) (h ++ [.lst [eM (mInv m0), eM (mInv m1)]]) = ret (eM (mInv m0)) (h ++ [.lst [eM (mInv m0), eM (mInv m1)]]) := by rw [ix_last]; rfl
        simp only [ei, bindR_ret, List.length, eb, bindS_ret, gN_, setE_1, List.set, if_true]
      · have : lm m0 m1 2 = m1 := by unfold lm; rw [if_neg (by decide), if_neg (by decide), if_pos rfl]
        rw [this] at eb ⊢
        simp only [owBody, sAsg_, List.set, dFn_, aCons_, dV_3, dIf_, dTest_, dBin_, dV_4, dC_, bindR_ret, oGt_, bD_bl, show decide ((0 : Int) < 2) = true by decide, if_true, dV_0, oSub_, aNil_, List.length]
        have ei : oIx (eMs m0 m1) (.int (2 - 1)) (h ++ [.lst [eM (mInv m0), eM (mInv m1)]]) = ret (eM m1) (h ++ [.lst [eM (mInv m0), eM (mInv m1)]]) := rfl
        simp only [ei, bindR_ret, List.length, eb, bindS_ret, gN_, setE_1, List.set, if_true]
      · have : lm m0 m1 (-2) = mInv m1 := by unfold lm; rw [if_neg (by decide), if_neg (by decide), if_neg (by decide)]
        rw [this] at eb ⊢
        simp only [owBody, sAsg_, List.set, dFn_, aCons_, dV_3, dIf_, dTest_, dBin_, dV_4, dC_, bindR_ret, oGt_, bD_bl, show decide ((0 : Int) < -2) = false by decide, Bool.false_eq_true, if_false, dV_2, oSub_, aNil_, List.length, dUn_, uNeg_]
        have ei : oIx (.ref h.length) (.int (- -2 - 1)) (h ++ [.lst [eM (mInv m0), eM (mInv m1)]]) = ret (eM (mInv m1)) (h ++ [.lst [eM (mInv m0), eM (mInv m1)]]) := by rw [ix_last]; rfl
        simp only [ei, bindR_ret, List.length, eb, bindS_ret, gN_, setE_1, List.set, if_true]
    rw [step, loopK_nx]
    exact ih
theorem e_of_word {m0 m1 : Mp} {k : Nat} (h0 : Sm k m0) (h1 : Sm k m1) {w : List Int} (hw : wOk w) (h : DH) (hk : k ≤ 300) (hb : bb (k + k + 1) w.length ≤ 1000) : φ_p_of_word [eMs m0 m1, eW w] h = ret (eM (wMap m0 m1 (1, 0) w)) h := by
  refine runF_gc (t := [.lst [eM (mInv m0), eM (mInv m1)]]) rfl rfl ?_
  show b_p_of_word [some (eMs m0 m1), some (eW w), none, none, none, none] h = _
  have el : lLc (iSeq (dV 0)) (gN 5) bYes (dFn 1 φ_p_undone_map (aCons (dV 5) aNil)) [5] [some (eMs m0 m1), some (eW w), none, none, none, none] h = ret [eM (mInv m0), eM (mInv m1)] h :=
    maps_each (iSeq_ _ _ _ _ rfl) _ (fun m => eM (mInv m)) fun m hm => by
      have hs : Sm k m := by rcases hm with rfl | rfl <;> assumption
      simp only [wipeD, List.set, dFn_, aCons_, dV_5, aNil_, bindR_ret, List.length, if_true, e_undone_map hs h (by omega)]
  obtain ⟨y, lp⟩ := ow_loop h0 h1 hk h (eW w) w (1, 0) 0 none hw sm_still (by rw [Nat.zero_add]; exact hb)
  have en : dNum (lLc (iSeq (dV 0)) (gN 5) bYes (dFn 1 φ_p_undone_map (aCons (dV 5) aNil)) [5]) [some (eMs m0 m1), some (eW w), none, none, none, none] h = ret (.ref h.length) (h ++ [.lst [eM (mInv m0), eM (mInv m1)]]) := by
    unfold dNum
    rw [el]
    rfl
  simp only [b_p_of_word, sSeq_, sPar_, aCons_, aNil_, dC_, en, bindR_ret, bindS_ret, seqS_nx, List.set]
  rw [sFor_tup (ds := w.map D.int) (iSeq_ _ _ _ _ rfl), k_STILL_eq, lp]
  rfl
noncomputable abbrev tlBody : DS := sIf (dTest (dBin oGt (dCall fAbs (aCons (dV 2) aNil)) (dV 0))) sNever sNext
theorem tl_loop (h : DH) (W : D) : ∀ (w : List Int) (x : Option D), wOk w → ∃ y, forGo sT (gN 2) tlBody (w.map D.int) [some (.int 2), some W, x] h = some (.nx [some (.int 2), some W, y], h)
  | [], x, _ => ⟨x, forGo_nil⟩
  | l :: w, x, hw => by
    obtain ⟨y, ih⟩ := tl_loop h W w (some (.int l)) hw.tail
    refine ⟨y, ?_⟩
    have c := hw.2 l List.mem_cons_self
    have e1 : decide ((2 : Int) < (if l < 0 then -l else l)) = false := decide_eq_false (by split <;> omega)
    rw [List.map_cons, forGo_n]
    have step : tlBody ([some (.int 2), some W, x].set 2 (some (.int l))) h = some (.nx [some (.int 2), some W, some (.int l)], h) := by
      simp only [tlBody, List.set, sIf_, dTest_, dBin_, dCall_, aCons_, dV_2, dV_0, aNil_, bindR_ret, fAbs_, oGt_, bD_bl, e1, bindS_ret, Bool.false_eq_true, if_false, sNext_]
    rw [step, loopK_nx]
    exact ih
theorem e_told_letters {w : List Int} (hw : wOk w) (h : DH) : φ_p_told_letters [.int 2, eW w] h = ret (eW w) h := by
  refine runF_rt rfl ?_
  show b_p_told_letters [some (.int 2), some (eW w), none] h = _
  obtain ⟨y, lp⟩ := tl_loop h (eW w) w none hw
  simp only [b_p_told_letters, sSeq_]
  rw [sFor_tup (ds := w.map D.int) (iSeq_ _ _ _ _ rfl), lp]
  rfl
theorem e_word_map {m0 m1 : Mp} {k : Nat} (h0 : Sm k m0) (h1 : Sm k m1) {w : List Int} (hw : wOk w) (h : DH) (hk : k ≤ 300) (hb : bb (k + k + 1) w.length ≤ 1000) : φ_p_word_map [eMs m0 m1, eW w] h = ret (eM (wMap m0 m1 (1, 0) w)) h := by
  refine runF_rt rfl ?_
  show b_p_word_map [some (eMs m0 m1), some (eW w), none, none] h = _
  have el : fLen [eMs m0 m1] h = ret (.int 2) h := rfl
  simp only [b_p_word_map, sSeq_, sPar_, dFn_, aCons_, dV_0, dV_1, dV_2, dV_3, aNil_, bindR_ret, List.length, if_true, e_sure_maps h0.nz h1.nz, e_sure_word hw, bindS_ret, seqS_nx, List.set, sRet_, dCall_, el, e_told_letters hw, e_of_word h0 h1 hw h hk hb]
/-! ### a row of two maps -/
theorem e_map_row {m0 m1 : Mp} {k : Nat} (h0 : Sm k m0) (h1 : Sm k m1) (h : DH) (hk : k ≤ 300) : φ_p_map_row [eMs m0 m1] h = ret (eM (mBeh (mBeh (1, 0) m0) m1)) h := by
  refine runF_rt rfl ?_
  show b_p_map_row [some (eMs m0 m1), none, none, none] h = _
  have el : lLc (iSeq (dV 1)) (gN 3) bYes (dFn 1 φ_p_is_map (aCons (dV 3) aNil)) [3] [some (eMs m0 m1), some (eMs m0 m1), some (eM (1, 0)), none] h = ret [.bl true, .bl true] h :=
    maps_all h0.nz h1.nz (iSeq_ _ _ _ _ rfl) _ fun m hm => by
      simp only [wipeD, List.set, dFn_, aCons_, dV_3, aNil_, bindR_ret, List.length, if_true, e_is_map hm]
  have ei : dIsi "tuple" (dV 1) [some (eMs m0 m1), some (eMs m0 m1), some (eM (1, 0)), none] h = ret (.bl true) h := dIsi_ (d := eMs m0 m1) (T := "tuple") rfl rfl
  have ea : φAll [.bl true, .bl true] h = ret (.bl true) h := rfl
  have b1 := e_behind sm_still h0 h (by omega) (by omega)
  have b2 := e_behind (sm_beh sm_still h0) h1 h (by omega) (by omega)
  simp only [b_p_map_row, sSeq_, sPar_, dFn_, aCons_, dV_0, dC_, aNil_, bindR_ret, List.length, if_true, e_tupled 8 (eMs m0 m1) h rfl, bindS_ret, seqS_nx, List.set, k_STILL_eq, sIf_, bOr_, bNot_, dTru_, ei, tD_bl, Bool.not_true, Bool.false_eq_true, if_false, dL_, el, ea, sNext_]
  rw [sFor_tup (ds := [eM m0, eM m1]) (iSeq_ _ _ _ _ rfl), forGo_n]
  simp only [List.set, sAsg_, dFn_, aCons_, dV_2, dV_3, aNil_, bindR_ret, List.length, if_true, b1, bindS_ret, gN_, setE_1, loopK_nx]
  rw [forGo_n]
  simp only [List.set, sAsg_, dFn_, aCons_, dV_2, dV_3, aNil_, bindR_ret, List.length, if_true, b2, bindS_ret, gN_, setE_1, loopK_nx]
  rw [forGo_nil]
  rfl
end Pl

set_option Elab.async false
set_option autoImplicit false
set_option linter.all false
set_option maxRecDepth 100000
set_option maxHeartbeats 2000000
set_option exponentiation.threshold 10000
namespace Pl
open Dt Wk
open PySem (Str)

/-! ### the primes -/
def P6 : List Int := [2, 3, 5, 7, 11, 13]
abbrev pOk (p : Int) : Prop := p ∈ P6
theorem pOk.pos {p : Int} (h : pOk p) : 0 < p := by
  have : ∀ p ∈ P6, 0 < p := by decide
  exact this p h
theorem pOk.lt {p : Int} (h : pOk p) : p < 14 := by
  have : ∀ p ∈ P6, p < 14 := by decide
  exact this p h
theorem oModP {i p : Int} (hp : 0 < p) (h : DH) : oMod (.int i) (.int p) h = ret (.int (i % p)) h := by
  rw [oMod_ (by omega), Int.fmod_eq_emod_of_nonneg i (by omega)]
theorem sm_mul {i j : Int} {k l : Nat} (hi : i.natAbs < 2 ^ k) (hj : j.natAbs < 2 ^ l) (hk : k ≤ 20000000 := by omega) (hl : l ≤ 20000000 := by omega) (h : DH) : oMul (.int i) (.int j) h = ret (.int (i * j)) h := oMul_ (mulOk_of hi hj hk hl) h
def psL : Nat → Int → Int → Option Bool
  | 0, _, _ => none
  | k + 1, n, own => if own.natAbs < 2 ^ 20 ∧ own ≠ 0 then (if own * own ≤ n then (if n.fmod own == 0 then some false else psL k n (own + 1)) else some true) else none
abbrev psC : DB := dTest (dBin oLe (dBin oMul (dV 1) (dV 1)) (dV 0))
abbrev psB : DS := sSeq (sIf (dTest (dBin oEq (dBin oMod (dV 0) (dV 1)) (dC (.int 0)))) (sRet (dC (.bl false))) sNext) (sAsg (dBin oAdd (dV 1) (dC (.int 1))) (gN 1))
theorem ps_loop (h : DH) (n : Int) : ∀ (k : Nat) (own : Int), psL k n own = some true → ∃ z, sWhile psC psB [some (.int n), some (.int own)] h = some (.nx [some (.int n), some (.int z)], h)
  | 0, own, e => by cases e
  | k + 1, own, e => by
    unfold psL at e
    split at e
    · rename_i hs
      obtain ⟨hs, hne⟩ := hs
      have ec : psC [some (.int n), some (.int own)] h = ret (decide (own * own ≤ n)) h := by
        simp only [psC, dTest_, dBin_, dV_1, dV_0, bindR_ret, sm_mul hs hs (by omega) (by omega), oLe_, bD_bl]
      split at e
      · rename_i hle
        rw [decide_eq_true hle] at ec
        split at e
        · cases e
        · rename_i hm
          obtain ⟨z, ih⟩ := ps_loop h n k (own + 1) e
          refine ⟨z, ?_⟩
          rw [sWhile_true ec]
          have hm' : (n.fmod own == 0) = false := by simpa using hm
          have eb : psB [some (.int n), some (.int own)] h = some (.nx [some (.int n), some (.int (own + 1))], h) := by
            simp only [psB, sSeq_, sIf_, dTest_, dBin_, dV_0, dV_1, dC_, bindR_ret, oMod_ hne, oEq_int, hm', bD_bl, bindS_ret, Bool.false_eq_true, if_false, sNext_, seqS_nx, sAsg_, oAdd_, gN_, setE_1, List.set]
          rw [eb, loopK_nx]
          exact ih
      · rename_i hle
        rw [decide_eq_false hle] at ec
        exact ⟨own, sWhile_false ec⟩
    · cases e
theorem e_prime_so {p : Int} (hp : pOk p) (h : DH) : φ_p_prime_so [.int p] h = ret (.bl true) h := by
  have a1 : ∀ p ∈ P6, psL 10 p 2 = some true ∧ decide (p < 2) = false := by decide
  obtain ⟨e1, e2⟩ := a1 p hp
  obtain ⟨z, lp⟩ := ps_loop h p 10 2 e1
  refine runF_rt rfl ?_
  show b_p_prime_so [some (.int p), none] h = _
  simp only [b_p_prime_so, sSeq_, sIf_, dTest_, dBin_, dV_0, dC_, k_FIRST_PRIME, bindR_ret, oLt_, bD_bl, e2, bindS_ret, Bool.false_eq_true, if_false, sNext_, seqS_nx, sAsg_, gN_, setE_1, List.set, lp, sRet_]
theorem e_is_prime {p : Int} (hp : pOk p) (h : DH) : φ_p_is_prime [.int p] h = ret (.bl true) h := by
  refine runF_rt rfl ?_
  show b_p_is_prime [some (.int p)] h = _
  simp only [b_p_is_prime, sRet_, dFn_, aCons_, dV_0, aNil_, bindR_ret, List.length, if_true, e_sure_number, e_prime_so hp, bindS_ret]
theorem e_sure_prime {p : Int} (hp : pOk p) (h : DH) : φ_p_sure_prime [.int p] h = ret (.int p) h := by
  refine runF_rt rfl ?_
  show b_p_sure_prime [some (.int p)] h = _
  simp only [b_p_sure_prime, sSeq_, sIf_, bOr_, bNot_, dTru_, dFn_, aCons_, dV_0, aNil_, bindR_ret, List.length, if_true, e_is_number, e_prime_so hp, tD_bl, Bool.not_true, Bool.false_eq_true, if_false, bindS_ret, sNext_, seqS_nx, sRet_]
/-! ### inverses -/
def ivL : Nat → Int → Int → Int → Int → Option Int
  | 0, _, _, _, _ => none
  | k + 1, near, far, one, other => if near.natAbs < 2 ^ 20 ∧ far.natAbs < 2 ^ 20 ∧ one.natAbs < 2 ^ 20 ∧ other.natAbs < 2 ^ 20 ∧ (far.fdiv near).natAbs < 2 ^ 20 then
      (if 1 < near then ivL k (far - far.fdiv near * near) near (other - far.fdiv near * one) one else some one) else none
abbrev ivC : DB := dTest (dBin oGt (dV 2) (dC (.int 1)))
abbrev ivB : DS := sSeq (sAsg (dBin oDiv (dV 3) (dV 2)) (gN 6)) (sAsg (dTup (aCons (dBin oSub (dV 3) (dBin oMul (dV 6) (dV 2))) (aCons (dV 2) (aCons (dBin oSub (dV 5) (dBin oMul (dV 6) (dV 4))) (aCons (dV 4) aNil))))) (gT 4 (gC (gN 2) (gC (gN 3) (gC (gN 4) (gC (gN 5) gN0))))))
theorem iv_loop (h : DH) (a b : Option D) : ∀ (k : Nat) (near far one other z : Int) (x : Option D), ivL k near far one other = some z → ∃ y1 y2 y3 y4, sWhile ivC ivB [a, b, some (.int near), some (.int far), some (.int one), some (.int other), x] h = some (.nx [a, b, y1, y2, some (.int z), y3, y4], h)
  | 0, _, _, _, _, _, _, e => by cases e
  | k + 1, near, far, one, other, z, x, e => by
    unfold ivL at e
    split at e
    · rename_i hs
      obtain ⟨s1, s2, s3, s4, s5⟩ := hs
      have ec : ivC [a, b, some (.int near), some (.int far), some (.int one), some (.int other), x] h = ret (decide (1 < near)) h := by
        simp only [ivC, dTest_, dBin_, dV_2, dC_, bindR_ret, oGt_, bD_bl]
      split at e
      · rename_i hlt
        rw [decide_eq_true hlt] at ec
        obtain ⟨y1, y2, y3, y4, ih⟩ := iv_loop h a b k _ _ _ _ z (some (.int (far.fdiv near))) e
        refine ⟨y1, y2, y3, y4, ?_⟩
        rw [sWhile_true ec]
        have hd : divOk near = true := decide_eq_true ⟨by omega, .inl (by omega)⟩
        have eb : ivB [a, b, some (.int near), some (.int far), some (.int one), some (.int other), x] h = some (.nx [a, b, some (.int (far - far.fdiv near * near)), some (.int near), some (.int (other - far.fdiv near * one)), some (.int one), some (.int (far.fdiv near))], h) := by
          simp only [ivB, sSeq_, sAsg_, dBin_, dV_3, dV_2, bindR_ret, oDiv_ hd, bindS_ret, gN_, setE_1, List.set, seqS_nx, dTup_, aCons_, aNil_, dV_4, dV_5, dV_6, sm_mul s5 s1 (by omega) (by omega), sm_mul s5 s3 (by omega) (by omega), oSub_]
          rfl
        rw [eb, loopK_nx]
        exact ih
      · rename_i hlt
        rw [decide_eq_false hlt] at ec
        cases e
        exact ⟨_, _, _, _, sWhile_false ec⟩
    · cases e
def iv (p n : Int) : Int := ((ivL 20 (n % p) p 1 0).getD 0) % p
def resid (p : Int) : List Int := (List.range p.toNat).map fun (i : Nat) => (i : Int)
theorem mem_resid {p r : Int} (h0 : 0 ≤ r) (h1 : r < p) : r ∈ resid p := List.mem_map.mpr ⟨r.toNat, List.mem_range.mpr (by omega), by omega⟩
theorem iv_all : ∀ p ∈ P6, ∀ r ∈ resid p, (ivL 20 r p 1 0).isSome = true ∧ (r ≠ 0 → (r * iv p r) % p = 1 % p ∧ 0 < iv p r ∧ iv p r < p) := by decide +kernel
theorem iv_res (p n : Int) : iv p (n % p) = iv p n := by unfold iv; rw [Int.emod_emod_of_dvd _ (Int.dvd_refl p)]
theorem e_inverse_rest {p : Int} (hp : pOk p) (n : Int) (h : DH) : φ_p_inverse_rest [.int n, .int p] h = ret (.int (iv p n)) h := by
  have h0 : 0 ≤ n % p := Int.emod_nonneg n (by have := hp.pos; omega)
  have h1 : n % p < p := Int.emod_lt_of_pos n hp.pos
  obtain ⟨e1, _⟩ := iv_all p hp (n % p) (mem_resid h0 h1)
  obtain ⟨z, ez⟩ := Option.isSome_iff_exists.mp e1
  obtain ⟨y1, y2, y3, y4, lp⟩ := iv_loop h (some (.int n)) (some (.int p)) 20 _ _ _ _ z none ez
  have eiv : iv p n = z % p := by unfold iv; rw [ez]; rfl
  refine runF_rt rfl ?_
  show b_p_inverse_rest [some (.int n), some (.int p), none, none, none, none, none] h = _
  have ea : sAsg (dTup (aCons (dBin oMod (dV 0) (dV 1)) (aCons (dV 1) (aCons (dC (.int 1)) (aCons (dC (.int 0)) aNil))))) (gT 4 (gC (gN 2) (gC (gN 3) (gC (gN 4) (gC (gN 5) gN0))))) [some (.int n), some (.int p), none, none, none, none, none] h =
      some (.nx [some (.int n), some (.int p), some (.int (n % p)), some (.int p), some (.int 1), some (.int 0), none], h) := by
    simp only [sAsg_, dTup_, aCons_, dBin_, dV_0, dV_1, dC_, aNil_, bindR_ret, oModP hp.pos]
    rfl
  simp only [b_p_inverse_rest, sSeq_, ea, seqS_nx, lp, sRet_, dBin_, dV_4, dV_1, bindR_ret, oModP hp.pos, bindS_ret, eiv]
theorem iv_spec {p n : Int} (hp : pOk p) (hn : n % p ≠ 0) : (n * iv p n) % p = 1 % p ∧ 0 < iv p n ∧ iv p n < p := by
  have h0 : 0 ≤ n % p := Int.emod_nonneg n (by have := hp.pos; omega)
  have h1 : n % p < p := Int.emod_lt_of_pos n hp.pos
  obtain ⟨_, e2⟩ := iv_all p hp (n % p) (mem_resid h0 h1)
  have := e2 hn
  rw [iv_res] at this
  refine ⟨?_, this.2⟩
  rw [← this.1, Int.mul_emod (n % p), Int.emod_emod_of_dvd _ (Int.dvd_refl p), ← Int.mul_emod]
end Pl

set_option Elab.async false
set_option autoImplicit false
set_option linter.all false
set_option maxRecDepth 100000
set_option maxHeartbeats 2000000
set_option exponentiation.threshold 10000
namespace Pl
open Dt Wk
open PySem (Str)

/-! ### rests of numbers -/
def rOver (p a b : Int) : Int := a * iv p b % p
theorem iv_sz {p n : Int} (hp : pOk p) (hn : n % p ≠ 0) : (iv p n).natAbs < 2 ^ 4 := by
  have := (iv_spec hp hn).2
  have := hp.lt
  omega
theorem e_rest_over {p a b : Int} (hp : pOk p) (ha : a.natAbs < 2 ^ 8000) (hb : b % p ≠ 0) (h : DH) : φ_p_rest_over [.int a, .int b, .int p] h = ret (.int (rOver p a b)) h := by
  refine runF_rt rfl ?_
  show b_p_rest_over [some (.int a), some (.int b), some (.int p), none, none, none] h = _
  have e0 : (b % p == 0) = false := beq_false_of_ne hb
  simp only [b_p_rest_over, sSeq_, sPar_, dFn_, aCons_, dV_0, dV_1, dV_2, aNil_, bindR_ret, List.length, if_true, e_sure_number, bindS_ret, seqS_nx, List.set, sAsg_, e_sure_prime hp, gN_, setE_1, sIf_, dTest_, dBin_, dV_4, dV_5, dC_, oModP hp.pos, oEq_int, e0, bD_bl, Bool.false_eq_true, if_false, sNext_, sRet_, dV_3, e_inverse_rest hp, sm_mul ha (iv_sz hp hb) (by omega) (by omega)]
  rfl
def rRat (p : Int) (q : Rat) : Int := rOver p q.num q.den
theorem e_rest_of {p : Int} {q : Rat} {k : Nat} (hp : pOk p) (hq : Sq k q) (hd : (q.den : Int) % p ≠ 0) (h : DH) (hk : k ≤ 8000 := by omega) : φ_p_rest_of [eR q, .int p] h = ret (.int (rRat p q)) h := by
  refine runF_rt rfl ?_
  show b_p_rest_of [some (eR q), some (.int p), none, none] h = _
  have eg : gT 2 (gC (gN 2) (gC (gN 3) gN0)) (eR q) = some [(2, .int q.num), (3, .int (q.den : Int))] := rfl
  simp only [b_p_rest_of, sSeq_, sAsg_, dFn_, aCons_, dV_0, dV_1, aNil_, bindR_ret, List.length, if_true, e_sure_fraction, bindS_ret, eg]
  show seqS (some (.nx [some (eR q), some (.int p), some (.int q.num), some (.int (q.den : Int))], h)) _ = _
  simp only [seqS_nx, sRet_, dFn_, aCons_, dV_2, dV_3, dV_1, aNil_, bindR_ret, List.length, if_true, e_rest_over hp (up hq.n hk) hd, bindS_ret]
  rfl
/-! ### rest maps -/
abbrev Rm := Int × Int
def eP (a : Rm) : D := .tup [.int a.1, .int a.2]
def fit (p : Int) (a : Rm) : Prop := (0 < a.1 ∧ a.1 < p) ∧ 0 ≤ a.2 ∧ a.2 < p
@[simp] theorem ix_eP0 (a : Rm) (h : DH) : oIx (eP a) (.int 0) h = ret (.int a.1) h := rfl
@[simp] theorem ix_eP1 (a : Rm) (h : DH) : oIx (eP a) (.int 1) h = ret (.int a.2) h := rfl
theorem e_fits_rest {p : Int} {a : Rm} (ha : fit p a) (h : DH) : φ_p_fits_rest [.int p, eP a] h = ret (.bl true) h := by
  refine runF_rt rfl ?_
  show b_p_fits_rest [some (.int p), some (eP a)] h = _
  have en : φ_p_are_numbers [eP a, k_PAIR_restmaps] h = ret (.bl true) h := e_are_numbers [a.1, a.2] 2 h (by simp)
  simp only [b_p_fits_rest, sRet_, dAnd_, dFn_, aCons_, dV_0, dV_1, dC_, aNil_, bindR_ret, List.length, if_true, en, tD_bl, dChain_, dBin_, ix_eP0, ix_eP1, oLt_, oLe_, bD_bl, decide_eq_true ha.1.1, decide_eq_true ha.1.2, decide_eq_true ha.2.1, decide_eq_true ha.2.2, bindS_ret]
theorem e_is_rest_map {p : Int} {a : Rm} (hp : pOk p) (ha : fit p a) (h : DH) : φ_p_is_rest_map [.int p, eP a] h = ret (.bl true) h := by
  refine runF_rt rfl ?_
  show b_p_is_rest_map [some (.int p), some (eP a)] h = _
  simp only [b_p_is_rest_map, sRet_, dFn_, aCons_, dV_0, dV_1, aNil_, bindR_ret, List.length, if_true, e_sure_prime hp, e_fits_rest ha, bindS_ret]
theorem e_sure_rest_map {p : Int} {a : Rm} (ha : fit p a) (h : DH) : φ_p_sure_rest_map [.int p, eP a] h = ret (eP a) h := by
  refine runF_rt rfl ?_
  show b_p_sure_rest_map [some (.int p), some (eP a), none] h = _
  simp only [b_p_sure_rest_map, sSeq_, sAsg_, dFn_, aCons_, dV_0, dV_1, dV_2, aNil_, bindR_ret, List.length, if_true, e_tupled 8 (eP a) h rfl, bindS_ret, gN_, setE_1, seqS_nx, List.set, sIf_, bNot_, dTru_, e_fits_rest ha, tD_bl, Bool.not_true, Bool.false_eq_true, if_false, sNext_, sRet_]
def ePs (a b : Rm) : D := .tup [eP a, eP b]
theorem rms_each {a b : Rm} {i : Nat} {src : DI'} {own : List Nat} {ρ : Ev} {h : DH} (hs : src ρ h = ret ([eP a, eP b], sT) h) (te : DE) (f : Rm → D)
    (ht : ∀ m : Rm, m = a ∨ m = b → te ((wipeD ρ own).set i (some (eP m))) h = ret (f m) h) : lLc src (gN i) bYes te own ρ h = ret [f a, f b] h := by
  unfold lLc
  rw [hs, bindR_ret]
  simp only
  have e0 := ht a (.inl rfl)
  have e1 := ht b (.inr rfl)
  have : lcGo sT (gN i) bYes te (wipeD ρ own) [eP a, eP b] h = ret [f a, f b] h := by
    unfold lcGo
    rw [if_pos (show sT h from trivial)]
    simp only [gN_, setE_1, bYes_, bindR_ret, if_true, e0]
    unfold lcGo
    rw [if_pos (show sT h from trivial)]
    simp only [gN_, setE_1, bYes_, bindR_ret, if_true, e1]
    unfold lcGo
    rw [if_pos (show sT h from trivial)]
    rfl
  rw [this]
  rfl
theorem e_sure_rest_maps {p : Int} {a b : Rm} (ha : fit p a) (hb : fit p b) (h : DH) : φ_p_sure_rest_maps [.int p, ePs a b, .tup [.int 2, .int 3]] h = ret (ePs a b) h := by
  refine runF_rt rfl ?_
  show b_p_sure_rest_maps [some (.int p), some (ePs a b), some (.tup [.int 2, .int 3]), none, none] h = _
  have el : lLc (iSeq (dV 3)) (gN 4) bYes (dFn 2 φ_p_fits_rest (aCons (dV 0) (aCons (dV 4) aNil))) [4] [some (.int p), some (ePs a b), some (.tup [.int 2, .int 3]), some (ePs a b), none] h = ret [.bl true, .bl true] h :=
    rms_each (iSeq_ _ _ _ _ rfl) _ (fun _ => .bl true) fun m hm => by
      have hf : fit p m := by rcases hm with rfl | rfl <;> assumption
      simp only [wipeD, List.set, dFn_, aCons_, dV_0, dV_4, aNil_, bindR_ret, List.length, if_true, e_fits_rest hf]
  have ei : dIsi "tuple" (dV 3) [some (.int p), some (ePs a b), some (.tup [.int 2, .int 3]), some (ePs a b), none] h = ret (.bl true) h := dIsi_ (d := ePs a b) (T := "tuple") rfl rfl
  have eo : dBin oNotIn (dCall fLen (aCons (dV 3) aNil)) (dV 2) [some (.int p), some (ePs a b), some (.tup [.int 2, .int 3]), some (ePs a b), none] h = ret (.bl false) h := rfl
  have ea : φAll [.bl true, .bl true] h = ret (.bl true) h := rfl
  simp only [b_p_sure_rest_maps, sSeq_, sAsg_, dFn_, aCons_, dV_1, aNil_, bindR_ret, List.length, if_true, e_tupled 8 (ePs a b) h rfl, bindS_ret, gN_, setE_1, seqS_nx, List.set, sIf_, bOr_, bNot_, dTru_, ei, tD_bl, Bool.not_true, Bool.false_eq_true, if_false, dTest_, eo, bD_bl, dL_, el, ea, sNext_, sRet_, dV_3]
theorem e_sure_rest {p r : Int} (h0 : 0 ≤ r) (h1 : r < p) (h : DH) : φ_p_sure_rest [.int p, .int r] h = ret (.int r) h := by
  have eb : φ_p_is_below [.int r, .int p] h = ret (.bl true) h := by
    refine runF_rt rfl ?_
    show b_p_is_below [some (.int r), some (.int p)] h = _
    simp only [b_p_is_below, sRet_, dAnd_, dFn_, aCons_, dV_0, dV_1, aNil_, bindR_ret, List.length, if_true, e_is_count, decide_eq_true h0, tD_bl, dBin_, oLt_, decide_eq_true h1, bindS_ret]
  refine runF_rt rfl ?_
  show b_p_sure_rest [some (.int p), some (.int r)] h = _
  simp only [b_p_sure_rest, sSeq_, sIf_, bNot_, dTru_, dFn_, aCons_, dV_0, dV_1, aNil_, bindR_ret, List.length, if_true, eb, tD_bl, Bool.not_true, Bool.false_eq_true, if_false, bindS_ret, sNext_, seqS_nx, sRet_]
def rBeh (p : Int) (f g : Rm) : Rm := (f.1 * g.1 % p, (f.1 * g.2 + f.2) % p)
def rInv (p : Int) (f : Rm) : Rm := (iv p f.1, -(iv p f.1) * f.2 % p)
theorem fit.s1 {p : Int} {a : Rm} (hp : pOk p) (ha : fit p a) : a.1.natAbs < 2 ^ 4 := by
  have := hp.lt; have := ha.1; omega
theorem fit.s2 {p : Int} {a : Rm} (hp : pOk p) (ha : fit p a) : a.2.natAbs < 2 ^ 4 := by
  have := hp.lt; have := ha.2; omega
theorem fit.ne {p : Int} {a : Rm} (ha : fit p a) : a.1 % p ≠ 0 := by
  have := ha.1
  rw [Int.emod_eq_of_lt (by omega) (by omega)]
  omega
theorem prime_mul : ∀ p ∈ P6, ∀ a ∈ resid p, ∀ b ∈ resid p, a ≠ 0 → b ≠ 0 → a * b % p ≠ 0 := by decide +kernel
theorem fit_beh {p : Int} {f g : Rm} (hp : pOk p) (hf : fit p f) (hg : fit p g) : fit p (rBeh p f g) := by
  have e := prime_mul p hp f.1 (mem_resid (by have := hf.1; omega) hf.1.2) g.1 (mem_resid (by have := hg.1; omega) hg.1.2) (by have := hf.1; omega) (by have := hg.1; omega)
  have h1 := Int.emod_nonneg (f.1 * g.1) (show p ≠ 0 by have := hp.pos; omega)
  exact ⟨⟨by show 0 < f.1 * g.1 % p; omega, Int.emod_lt_of_pos _ hp.pos⟩, Int.emod_nonneg _ (by have := hp.pos; omega), Int.emod_lt_of_pos _ hp.pos⟩
theorem fit_inv {p : Int} {f : Rm} (hp : pOk p) (hf : fit p f) : fit p (rInv p f) :=
  ⟨(iv_spec hp hf.ne).2, Int.emod_nonneg _ (by have := hp.pos; omega), Int.emod_lt_of_pos _ hp.pos⟩
theorem e_rest_behind {p : Int} {f g : Rm} (hp : pOk p) (hf : fit p f) (hg : fit p g) (h : DH) : φ_p_rest_behind [.int p, eP f, eP g] h = ret (eP (rBeh p f g)) h := by
  refine runF_rt rfl ?_
  show b_p_rest_behind [some (.int p), some (eP f), some (eP g)] h = _
  simp only [b_p_rest_behind, sRet_, dTup_, aCons_, dBin_, dV_0, dV_1, dV_2, dC_, aNil_, bindR_ret, ix_eP0, ix_eP1, sm_mul (hf.s1 hp) (hg.s1 hp) (by omega) (by omega), sm_mul (hf.s1 hp) (hg.s2 hp) (by omega) (by omega), oAdd_, oModP hp.pos]
  rfl
theorem e_rest_undone {p : Int} {f : Rm} (hp : pOk p) (hf : fit p f) (h : DH) : φ_p_rest_undone [.int p, eP f] h = ret (eP (rInv p f)) h := by
  refine runF_rt rfl ?_
  show b_p_rest_undone [some (.int p), some (eP f), none] h = _
  have hs : (-(iv p f.1)).natAbs < 2 ^ 4 := by rw [Int.natAbs_neg]; exact iv_sz hp hf.ne
  simp only [b_p_rest_undone, sSeq_, sAsg_, dFn_, aCons_, dBin_, dV_0, dV_1, dV_2, dC_, aNil_, bindR_ret, ix_eP0, ix_eP1, List.length, if_true, e_inverse_rest hp, bindS_ret, gN_, setE_1, seqS_nx, List.set, sRet_, dTup_, dUn_, uNeg_, sm_mul hs (hf.s2 hp) (by omega) (by omega), oModP hp.pos]
  rfl
/-! ### rows -/
theorem fit_one {p : Int} (hp : pOk p) : fit p (1, 0) := by
  have : ∀ p ∈ P6, 1 < p := by decide
  have := this p hp
  exact ⟨⟨by decide, this⟩, by decide, by show (0 : Int) < p; omega⟩
noncomputable abbrev rrBody : DS := sAsg (dFn 3 φ_p_rest_behind (aCons (dV 0) (aCons (dV 2) (aCons (dV 3) aNil)))) (gN 2)
theorem rr_loop {p : Int} (hp : pOk p) (h : DH) (W : D) : ∀ (ms : List Rm) (f : Rm) (x : Option D), (∀ m ∈ ms, fit p m) → fit p f → ∃ y, forGo sT (gN 3) rrBody (ms.map eP) [some (.int p), some W, some (eP f), x] h = some (.nx [some (.int p), some W, some (eP (ms.foldl (rBeh p) f)), y], h)
  | [], f, x, _, _ => ⟨x, forGo_nil⟩
  | m :: ms, f, x, hm, hf => by
    have h1 := hm m List.mem_cons_self
    obtain ⟨y, ih⟩ := rr_loop hp h W ms (rBeh p f m) (some (eP m)) (fun z hz => hm z (List.mem_cons_of_mem _ hz)) (fit_beh hp hf h1)
    refine ⟨y, ?_⟩
    rw [List.map_cons, forGo_n]
    have step : rrBody ([some (.int p), some W, some (eP f), x].set 3 (some (eP m))) h = some (.nx [some (.int p), some W, some (eP (rBeh p f m)), some (eP m)], h) := by
      simp only [rrBody, List.set, sAsg_, dFn_, aCons_, dV_0, dV_2, dV_3, aNil_, bindR_ret, List.length, if_true, e_rest_behind hp hf h1, bindS_ret, gN_, setE_1]
    rw [step, loopK_nx]
    exact ih
theorem e_rest_row_in {p : Int} (hp : pOk p) (ms : List Rm) (hm : ∀ m ∈ ms, fit p m) (h : DH) : φ_p_rest_row_in [.int p, .tup (ms.map eP)] h = ret (eP (ms.foldl (rBeh p) (1, 0))) h := by
  refine runF_rt rfl ?_
  show b_p_rest_row_in [some (.int p), some (.tup (ms.map eP)), none, none] h = _
  obtain ⟨y, lp⟩ := rr_loop hp h (.tup (ms.map eP)) ms (1, 0) none hm (fit_one hp)
  have ea : sAsg (dTup (aCons (dC (.int 1)) (aCons (dC (.int 0)) aNil))) (gN 2) [some (.int p), some (.tup (ms.map eP)), none, none] h = some (.nx [some (.int p), some (.tup (ms.map eP)), some (eP (1, 0)), none], h) := rfl
  simp only [b_p_rest_row_in, sSeq_, ea, seqS_nx]
  rw [sFor_tup (ds := ms.map eP) (iSeq_ _ _ _ _ rfl), lp]
  rfl
theorem e_rest_row {p : Int} {a b : Rm} (hp : pOk p) (ha : fit p a) (hb : fit p b) (h : DH) : φ_p_rest_row [.int p, ePs a b] h = ret (eP (rBeh p (rBeh p (1, 0) a) b)) h := by
  refine runF_rt rfl ?_
  show b_p_rest_row [some (.int p), some (ePs a b), none, none, none] h = _
  have ea : sAsg (dTup (aCons (dFn 1 φ_p_sure_prime (aCons (dV 0) aNil)) (aCons (dFn 1 (φ_p_tupled 8) (aCons (dV 1) aNil)) aNil))) (gT 2 (gC (gN 2) (gC (gN 3) gN0))) [some (.int p), some (ePs a b), none, none, none] h = some (.nx [some (.int p), some (ePs a b), some (.int p), some (ePs a b), none], h) := by
    simp only [sAsg_, dTup_, dFn_, aCons_, dV_0, dV_1, aNil_, bindR_ret, List.length, if_true, e_sure_prime hp, e_tupled 8 (ePs a b) h rfl]
    rfl
  have el : lLc (iSeq (dV 3)) (gN 4) bYes (dFn 2 φ_p_fits_rest (aCons (dV 2) (aCons (dV 4) aNil))) [4] [some (.int p), some (ePs a b), some (.int p), some (ePs a b), none] h = ret [.bl true, .bl true] h :=
    rms_each (iSeq_ _ _ _ _ rfl) _ (fun _ => .bl true) fun m hm => by
      have hf : fit p m := by rcases hm with rfl | rfl <;> assumption
      simp only [wipeD, List.set, dFn_, aCons_, dV_2, dV_4, aNil_, bindR_ret, List.length, if_true, e_fits_rest hf]
  have ei : dIsi "tuple" (dV 3) [some (.int p), some (ePs a b), some (.int p), some (ePs a b), none] h = ret (.bl true) h := dIsi_ (d := ePs a b) (T := "tuple") rfl rfl
  have eA : φAll [.bl true, .bl true] h = ret (.bl true) h := rfl
  have er := e_rest_row_in hp [a, b] (fun m hm => by
    rcases List.mem_cons.mp hm with z | z
    · rw [z]; exact ha
    · rw [List.mem_singleton.mp z]; exact hb) h
  have er' : φ_p_rest_row_in [.int p, ePs a b] h = ret (eP (rBeh p (rBeh p (1, 0) a) b)) h := er
  simp only [b_p_rest_row, sSeq_, ea, seqS_nx, sIf_, bOr_, bNot_, dTru_, ei, bindR_ret, tD_bl, Bool.not_true, Bool.false_eq_true, if_false, dL_, el, eA, bindS_ret, sNext_, sRet_, dFn_, aCons_, dV_2, dV_3, aNil_, List.length, if_true, er']
theorem e_rest_back {p : Int} {a : Rm} (hp : pOk p) (ha : fit p a) (h : DH) : φ_p_rest_back [.int p, eP a] h = ret (eP (rInv p a)) h := by
  refine runF_rt rfl ?_
  show b_p_rest_back [some (.int p), some (eP a), none] h = _
  simp only [b_p_rest_back, sSeq_, sAsg_, dFn_, aCons_, dV_0, dV_1, dV_2, aNil_, bindR_ret, List.length, if_true, e_sure_prime hp, bindS_ret, gN_, setE_1, seqS_nx, List.set, sRet_, e_sure_rest_map ha, e_rest_undone hp ha]
theorem e_rest_led {p r : Int} {a : Rm} (hp : pOk p) (ha : fit p a) (h0 : 0 ≤ r) (h1 : r < p) (h : DH) : φ_p_rest_led [.int p, eP a, .int r] h = ret (.int ((a.1 * r + a.2) % p)) h := by
  have hr : r.natAbs < 2 ^ 4 := by have := hp.lt; omega
  refine runF_rt rfl ?_
  show b_p_rest_led [some (.int p), some (eP a), some (.int r), none, none] h = _
  simp only [b_p_rest_led, sSeq_, sAsg_, dFn_, aCons_, dV_0, dV_1, dV_2, dV_3, dV_4, dC_, dBin_, aNil_, bindR_ret, List.length, if_true, e_sure_prime hp, bindS_ret, gN_, setE_1, seqS_nx, List.set, sRet_, e_sure_rest_map ha, ix_eP0, ix_eP1, e_sure_rest h0 h1, sm_mul (ha.s1 hp) hr (by omega) (by omega), oAdd_, oModP hp.pos]
theorem e_do_exchange {p : Int} {a b : Rm} (hp : pOk p) (ha : fit p a) (hb : fit p b) (h : DH) : φ_p_do_rest_maps_exchange [.int p, eP a, eP b] h = ret (.bl (decide (rBeh p a b = rBeh p b a))) h := by
  have eo : ∀ x y : Rm, oEq (eP x) (eP y) h = ret (.bl (decide (x = y))) h := fun x y => by
    have e1 : ∀ x : Rm, toPyH h (eP x) = some (.tuple [.int x.1, .int x.2]) := fun _ => rfl
    unfold oEq
    rw [e1, e1]
    simp only
    rw [if_pos (by rfl)]
    have : PySem.PyData.eqv (.tuple [.int x.1, .int x.2]) (.tuple [.int y.1, .int y.2]) = decide (x = y) := by
      rw [Bool.eq_iff_iff]
      obtain ⟨x1, x2⟩ := x
      obtain ⟨y1, y2⟩ := y
      simp [PySem.PyData.eqv, PySem.PyData.eqvAll]
    rw [this]
  refine runF_rt rfl ?_
  show b_p_do_rest_maps_exchange [some (.int p), some (eP a), some (eP b), none, none, none] h = _
  simp only [b_p_do_rest_maps_exchange, sSeq_, sAsg_, sPar_, dFn_, aCons_, dV_0, dV_1, dV_2, dV_3, dV_4, dV_5, dBin_, aNil_, bindR_ret, List.length, if_true, e_sure_prime hp, bindS_ret, gN_, setE_1, seqS_nx, List.set, sRet_, e_sure_rest_map ha, e_sure_rest_map hb, e_rest_behind hp ha hb, e_rest_behind hp hb ha, eo]
end Pl

set_option Elab.async false
set_option autoImplicit false
set_option linter.all false
set_option maxRecDepth 100000
set_option maxHeartbeats 2000000
set_option exponentiation.threshold 10000
namespace Pl
open Dt Wk
open PySem (Str)

/-! ### words by rests -/
def rl (p : Int) (a b : Rm) (l : Int) : Rm := if l = 1 then a else if l = -1 then rInv p a else if l = 2 then b else rInv p b
def rWord (p : Int) (a b : Rm) (f : Rm) (w : List Int) : Rm := w.foldl (fun f l => rBeh p f (rl p a b l)) f
theorem fit_rl {p : Int} {a b : Rm} (hp : pOk p) (ha : fit p a) (hb : fit p b) (l : Int) : fit p (rl p a b l) := by
  unfold rl
  split
  · exact ha
  · split
    · exact fit_inv hp ha
    · split
      · exact hb
      · exact fit_inv hp hb
theorem fit_rWord {p : Int} {a b : Rm} (hp : pOk p) (ha : fit p a) (hb : fit p b) : ∀ (w : List Int) (f : Rm), fit p f → fit p (rWord p a b f w)
  | [], f, hf => hf
  | l :: w, f, hf => fit_rWord hp ha hb w _ (fit_beh hp hf (fit_rl hp ha hb l))
noncomputable abbrev rwBody : DS := sSeq (sAsg (dBin oIx (dV 1) (dBin oSub (dCall fAbs (aCons (dV 5) aNil)) (dC (.int 1)))) (gN 4)) (sAsg (dFn 3 φ_p_rest_behind (aCons (dV 0) (aCons (dV 3) (aCons (dIf (dTest (dBin oGt (dV 5) (dC (.int 0)))) (dV 4) (dFn 2 φ_p_rest_undone (aCons (dV 0) (aCons (dV 4) aNil)))) aNil)))) (gN 3))
theorem rw_loop {p : Int} {a b : Rm} (hp : pOk p) (ha : fit p a) (hb : fit p b) (h : DH) (W : D) : ∀ (w : List Int) (f : Rm) (x y : Option D), wOk w → fit p f →
    ∃ x' y', forGo sT (gN 5) rwBody (w.map D.int) [some (.int p), some (ePs a b), some W, some (eP f), x, y] h = some (.nx [some (.int p), some (ePs a b), some W, some (eP (rWord p a b f w)), x', y'], h)
  | [], f, x, y, _, _ => ⟨x, y, forGo_nil⟩
  | l :: w, f, x, y, hw, hf => by
    have eb := e_rest_behind hp hf (fit_rl hp ha hb l) h
    obtain ⟨x', y', ih⟩ := rw_loop hp ha hb h W w (rBeh p f (rl p a b l)) (some (if l = 1 ∨ l = -1 then eP a else eP b)) (some (.int l)) hw.tail (fit_beh hp hf (fit_rl hp ha hb l))
    refine ⟨x', y', ?_⟩
    rw [List.map_cons, forGo_n]
    have step : rwBody ([some (.int p), some (ePs a b), some W, some (eP f), x, y].set 5 (some (.int l))) h =
        some (.nx [some (.int p), some (ePs a b), some W, some (eP (rBeh p f (rl p a b l))), some (if l = 1 ∨ l = -1 then eP a else eP b), some (.int l)], h) := by
      rcases hw.2 l List.mem_cons_self with rfl | rfl | rfl | rfl
      · have : rl p a b 1 = a := if_pos rfl
        rw [this] at eb ⊢
        have ei : oIx (ePs a b) (.int ((if (1 : Int) < 0 then -1 else 1) - 1)) h = ret (eP a) h := rfl
        simp only [rwBody, sSeq_, sAsg_, List.set, dFn_, aCons_, dBin_, dCall_, dV_0, dV_1, dV_3, dV_4, dV_5, dC_, aNil_, bindR_ret, fAbs_, oSub_, ei, bindS_ret, gN_, setE_1, seqS_nx, dIf_, dTest_, oGt_, bD_bl, show decide ((0 : Int) < 1) = true by decide, if_true, List.length, eb]
        rfl
      · have : rl p a b (-1) = rInv p a := by unfold rl; rw [if_neg (by decide), if_pos rfl]
        rw [this] at eb ⊢
        have ei : oIx (ePs a b) (.int ((if (-1 : Int) < 0 then - -1 else -1) - 1)) h = ret (eP a) h := rfl
        simp only [rwBody, sSeq_, sAsg_, List.set, dFn_, aCons_, dBin_, dCall_, dV_0, dV_1, dV_3, dV_4, dV_5, dC_, aNil_, bindR_ret, fAbs_, oSub_, ei, bindS_ret, gN_, setE_1, seqS_nx, dIf_, dTest_, oGt_, bD_bl, show decide ((0 : Int) < -1) = false by decide, Bool.false_eq_true, if_false, if_true, List.length, e_rest_undone hp ha, eb]
        rfl
      · have : rl p a b 2 = b := by unfold rl; rw [if_neg (by decide), if_neg (by decide), if_pos rfl]
        rw [this] at eb ⊢
        have ei : oIx (ePs a b) (.int ((if (2 : Int) < 0 then -2 else 2) - 1)) h = ret (eP b) h := rfl
        simp only [rwBody, sSeq_, sAsg_, List.set, dFn_, aCons_, dBin_, dCall_, dV_0, dV_1, dV_3, dV_4, dV_5, dC_, aNil_, bindR_ret, fAbs_, oSub_, ei, bindS_ret, gN_, setE_1, seqS_nx, dIf_, dTest_, oGt_, bD_bl, show decide ((0 : Int) < 2) = true by decide, if_true, List.length, eb]
        rfl
      · have : rl p a b (-2) = rInv p b := by unfold rl; rw [if_neg (by decide), if_neg (by decide), if_neg (by decide)]
        rw [this] at eb ⊢
        have ei : oIx (ePs a b) (.int ((if (-2 : Int) < 0 then - -2 else -2) - 1)) h = ret (eP b) h := rfl
        simp only [rwBody, sSeq_, sAsg_, List.set, dFn_, aCons_, dBin_, dCall_, dV_0, dV_1, dV_3, dV_4, dV_5, dC_, aNil_, bindR_ret, fAbs_, oSub_, ei, bindS_ret, gN_, setE_1, seqS_nx, dIf_, dTest_, oGt_, bD_bl, show decide ((0 : Int) < -2) = false by decide, Bool.false_eq_true, if_false, if_true, List.length, e_rest_undone hp hb, eb]
        rfl
    rw [step, loopK_nx]
    exact ih
theorem e_rest_word_in {p : Int} {a b : Rm} (hp : pOk p) (ha : fit p a) (hb : fit p b) {w : List Int} (hw : wOk w) (h : DH) : φ_p_rest_word_in [.int p, ePs a b, eW w] h = ret (eP (rWord p a b (1, 0) w)) h := by
  refine runF_rt rfl ?_
  show b_p_rest_word_in [some (.int p), some (ePs a b), some (eW w), none, none, none] h = _
  obtain ⟨x', y', lp⟩ := rw_loop hp ha hb h (eW w) w (1, 0) none none hw (fit_one hp)
  have ea : sAsg (dTup (aCons (dC (.int 1)) (aCons (dC (.int 0)) aNil))) (gN 3) [some (.int p), some (ePs a b), some (eW w), none, none, none] h = some (.nx [some (.int p), some (ePs a b), some (eW w), some (eP (1, 0)), none, none], h) := rfl
  simp only [b_p_rest_word_in, sSeq_, ea, seqS_nx]
  rw [sFor_tup (ds := w.map D.int) (iSeq_ _ _ _ _ rfl), lp]
  rfl
noncomputable abbrev rwBody2 : DS := sIf (dTest (dBin oGt (dCall fAbs (aCons (dV 6) aNil)) (dCall fLen (aCons (dV 4) aNil)))) sNever sNext
theorem rw_loop2 {a b : Rm} (h : DH) (A B C E W : D) : ∀ (w : List Int) (x : Option D), wOk w → ∃ y, forGo sT (gN 6) rwBody2 (w.map D.int) [some A, some B, some C, some E, some (ePs a b), some W, x] h = some (.nx [some A, some B, some C, some E, some (ePs a b), some W, y], h)
  | [], x, _ => ⟨x, forGo_nil⟩
  | l :: w, x, hw => by
    obtain ⟨y, ih⟩ := rw_loop2 h A B C E W w (some (.int l)) hw.tail
    refine ⟨y, ?_⟩
    have c := hw.2 l List.mem_cons_self
    have e1 : decide ((2 : Int) < (if l < 0 then -l else l)) = false := decide_eq_false (by split <;> omega)
    rw [List.map_cons, forGo_n]
    have el : fLen [ePs a b] h = ret (.int 2) h := rfl
    have step : rwBody2 ([some A, some B, some C, some E, some (ePs a b), some W, x].set 6 (some (.int l))) h = some (.nx [some A, some B, some C, some E, some (ePs a b), some W, some (.int l)], h) := by
      simp only [rwBody2, List.set, sIf_, dTest_, dBin_, dCall_, aCons_, dV_6, dV_4, aNil_, bindR_ret, fAbs_, el, oGt_, bD_bl, e1, bindS_ret, Bool.false_eq_true, if_false, sNext_]
    rw [step, loopK_nx]
    exact ih
theorem e_rest_word {p : Int} {a b : Rm} (hp : pOk p) (ha : fit p a) (hb : fit p b) {w : List Int} (hw : wOk w) (h : DH) : φ_p_rest_word [.int p, ePs a b, eW w] h = ret (eP (rWord p a b (1, 0) w)) h := by
  refine runF_rt rfl ?_
  show b_p_rest_word [some (.int p), some (ePs a b), some (eW w), none, none, none, none] h = _
  obtain ⟨y, lp⟩ := rw_loop2 (a := a) (b := b) h (.int p) (ePs a b) (eW w) (.int p) (eW w) w none hw
  have er := e_sure_rest_maps ha hb h
  simp only [b_p_rest_word, sSeq_, sAsg_, sPar_, dFn_, dTup_, aCons_, dV_0, dV_1, dV_2, dV_3, dC_, aNil_, bindR_ret, List.length, if_true, e_sure_prime hp, bindS_ret, gN_, setE_1, seqS_nx, List.set, k_PAIR_restmaps, k_THREE_restmaps, show okLen (0 + 1 + 1) = true by decide, er, e_sure_word hw]
  rw [sFor_tup (ds := w.map D.int) (iSeq_ _ _ _ _ rfl), lp]
  simp only [seqS_nx, sRet_, dFn_, aCons_, dV_3, dV_4, dV_5, aNil_, bindR_ret, List.length, if_true, e_rest_word_in hp ha hb hw, bindS_ret]
/-! ### turned -/
def rTurn (p : Int) (t a : Rm) : Rm := rBeh p (rBeh p (rBeh p (1, 0) t) a) (rInv p t)
theorem e_rest_maps_turned {p : Int} {a b t : Rm} (hp : pOk p) (ha : fit p a) (hb : fit p b) (ht : fit p t) (h : DH) : φ_p_rest_maps_turned [.int p, ePs a b, eP t] h = ret (ePs (rTurn p t a) (rTurn p t b)) h := by
  refine runF_rt rfl ?_
  show b_p_rest_maps_turned [some (.int p), some (ePs a b), some (eP t), none, none, none, none, none] h = _
  have er := e_sure_rest_maps ha hb h
  have el : lLc (iSeq (dV 4)) (gN 7) bYes (dFn 2 φ_p_rest_row_in (aCons (dV 3) (aCons (dTup (aCons (dV 5) (aCons (dV 7) (aCons (dV 6) aNil)))) aNil))) [7] [some (.int p), some (ePs a b), some (eP t), some (.int p), some (ePs a b), some (eP t), some (eP (rInv p t)), none] h = ret [eP (rTurn p t a), eP (rTurn p t b)] h :=
    rms_each (iSeq_ _ _ _ _ rfl) _ (fun m => eP (rTurn p t m)) fun m hm => by
      have hf : fit p m := by rcases hm with rfl | rfl <;> assumption
      have e := e_rest_row_in hp [t, m, rInv p t] (fun x hx => by
        rcases List.mem_cons.mp hx with z | z
        · rw [z]; exact ht
        · rcases List.mem_cons.mp z with z | z
          · rw [z]; exact hf
          · rw [List.mem_singleton.mp z]; exact fit_inv hp ht) h
      have e' : φ_p_rest_row_in [.int p, .tup [eP t, eP m, eP (rInv p t)]] h = ret (eP (rTurn p t m)) h := e
      have d7 : dV 7 [some (.int p), some (ePs a b), some (eP t), some (.int p), some (ePs a b), some (eP t), some (eP (rInv p t)), some (eP m)] h = ret (eP m) h := rfl
      simp only [wipeD, List.set, dFn_, dTup_, aCons_, dV_3, dV_5, d7, dV_6, aNil_, bindR_ret, List.length, show okLen (0 + 1 + 1 + 1) = true by decide, if_true, e']
  have ea : sAsg (dTup (aCons (dFn 3 φ_p_sure_rest_maps (aCons (dV 3) (aCons (dV 1) (aCons (dTup (aCons (dC k_PAIR_restmaps) (aCons (dC k_THREE_restmaps) aNil))) aNil)))) (aCons (dFn 2 φ_p_sure_rest_map (aCons (dV 3) (aCons (dV 2) aNil))) aNil))) (gT 2 (gC (gN 4) (gC (gN 5) gN0)))
      [some (.int p), some (ePs a b), some (eP t), some (.int p), none, none, none, none] h = some (.nx [some (.int p), some (ePs a b), some (eP t), some (.int p), some (ePs a b), some (eP t), none, none], h) := by
    simp only [sAsg_, dTup_, dFn_, aCons_, dV_1, dV_2, dV_3, dC_, aNil_, bindR_ret, List.length, if_true, k_PAIR_restmaps, k_THREE_restmaps, show okLen (0 + 1 + 1) = true by decide, er, e_sure_rest_map ht]
    rfl
  have ea0 : sAsg (dFn 1 φ_p_sure_prime (aCons (dV 0) aNil)) (gN 3) [some (.int p), some (ePs a b), some (eP t), none, none, none, none, none] h = some (.nx [some (.int p), some (ePs a b), some (eP t), some (.int p), none, none, none, none], h) := by
    simp only [sAsg_, dFn_, aCons_, dV_0, aNil_, bindR_ret, List.length, if_true, e_sure_prime hp, bindS_ret, gN_, setE_1, List.set]
  simp only [b_p_rest_maps_turned, sSeq_, ea0, ea, seqS_nx, sAsg_, dFn_, aCons_, dV_3, dV_5, aNil_, bindR_ret, List.length, if_true, e_rest_undone hp ht, bindS_ret, gN_, setE_1, List.set, sRet_, dL_, el]
  rfl
/-! ### rests of maps -/
def good (p : Int) (q : Rat) : Prop := (q.den : Int) % p ≠ 0
def goodM (p : Int) (m : Mp) : Prop := m.1.num % p ≠ 0 ∧ good p m.1 ∧ good p m.2
def rMap (p : Int) (m : Mp) : Rm := (rRat p m.1, rRat p m.2)
instance (p : Int) (q : Rat) : Decidable (good p q) := inferInstanceAs (Decidable ((q.den : Int) % p ≠ 0))
instance (p : Int) (m : Mp) : Decidable (goodM p m) := inferInstanceAs (Decidable (_ ∧ _ ∧ _))
theorem e_rests_of {p : Int} {m : Mp} {k : Nat} (hp : pOk p) (hm : Sm k m) (h : DH) (hk : k ≤ 8000 := by omega) : φ_p_rests_of [.int p, eM m] h = (if goodM p m then ret (eP (rMap p m)) h else some (.er "NoPaper", h)) := by
  have ea : sAsg (dTup (aCons (dFn 1 φ_p_sure_prime (aCons (dV 0) aNil)) (aCons (dFn 1 φ_p_sure_map (aCons (dV 1) aNil)) aNil))) (gT 2 (gC (gN 2) (gC (gT 2 (gC (gN 3) (gC (gN 4) gN0))) gN0))) [some (.int p), some (eM m), none, none, none, none] h =
      some (.nx [some (.int p), some (eM m), some (.int p), some (eR m.1), some (eR m.2), none], h) := by
    simp only [sAsg_, dTup_, dFn_, aCons_, dV_0, dV_1, aNil_, bindR_ret, List.length, if_true, e_sure_prime hp, e_sure_map hm.nz]
    rfl
  have et : (bOr (dTest (dBin oEq (dBin oMod (dBin oIx (dV 3) (dC (.int 0))) (dV 2)) (dC (.int 0)))) (bOr (dTest (dBin oEq (dBin oMod (dBin oIx (dV 3) (dC (.int 1))) (dV 2)) (dC (.int 0)))) (dTest (dBin oEq (dBin oMod (dBin oIx (dV 4) (dC (.int 1))) (dV 2)) (dC (.int 0))))))
      [some (.int p), some (eM m), some (.int p), some (eR m.1), some (eR m.2), none] h = ret (!decide (goodM p m)) h := by
    simp only [bOr_, dTest_, dBin_, dV_2, dV_3, dV_4, dC_, bindR_ret, ix_eR0, ix_eR1, oModP hp.pos, oEq_int, bD_bl]
    unfold goodM good
    by_cases h1 : m.1.num % p = 0
    · simp [h1]
    · by_cases h2 : (m.1.den : Int) % p = 0
      · simp [h1, h2]
      · by_cases h3 : (m.2.den : Int) % p = 0
        · simp [h1, h2, h3]
        · have b3 : ((m.2.den : Int) % p == 0) = false := beq_false_of_ne h3
          simp [h1, h2, b3, h3]
  by_cases hg : goodM p m
  · rw [if_pos hg]
    have s1 : Sq k m.1 := hm.a
    refine runF_rt rfl ?_
    show b_p_rests_of [some (.int p), some (eM m), none, none, none, none] h = _
    have el : lLc (iSeq (dTup (aCons (dV 3) (aCons (dV 4) aNil)))) (gN 5) bYes (dBin oMod (dBin oMul (dBin oIx (dV 5) (dC (.int 0))) (dFn 2 φ_p_inverse_rest (aCons (dBin oIx (dV 5) (dC (.int 1))) (aCons (dV 2) aNil)))) (dV 2)) [5] [some (.int p), some (eM m), some (.int p), some (eR m.1), some (eR m.2), none] h =
        ret [.int (rRat p m.1), .int (rRat p m.2)] h := by
      unfold lLc
      have hs : iSeq (dTup (aCons (dV 3) (aCons (dV 4) aNil))) [some (.int p), some (eM m), some (.int p), some (eR m.1), some (eR m.2), none] h = ret ([eR m.1, eR m.2], sT) h := iSeq_ _ _ _ _ rfl
      rw [hs, bindR_ret]
      simp only
      have one : ∀ q : Rat, Sq k q → good p q → dBin oMod (dBin oMul (dBin oIx (dV 5) (dC (.int 0))) (dFn 2 φ_p_inverse_rest (aCons (dBin oIx (dV 5) (dC (.int 1))) (aCons (dV 2) aNil)))) (dV 2) ((wipeD [some (.int p), some (eM m), some (.int p), some (eR m.1), some (eR m.2), none] [5]).set 5 (some (eR q))) h = ret (.int (rRat p q)) h := fun q sq gq => by
        simp only [wipeD, List.set, dBin_, dFn_, aCons_, dV_5, dV_2, dC_, aNil_, bindR_ret, ix_eR0, ix_eR1, List.length, if_true, e_inverse_rest hp, sm_mul (up sq.n hk) (iv_sz hp gq) (by omega) (by omega), oModP hp.pos]
        rfl
      have e0 := one m.1 hm.a hg.2.1
      have e1 := one m.2 hm.b hg.2.2
      have : lcGo sT (gN 5) bYes (dBin oMod (dBin oMul (dBin oIx (dV 5) (dC (.int 0))) (dFn 2 φ_p_inverse_rest (aCons (dBin oIx (dV 5) (dC (.int 1))) (aCons (dV 2) aNil)))) (dV 2)) (wipeD [some (.int p), some (eM m), some (.int p), some (eR m.1), some (eR m.2), none] [5]) [eR m.1, eR m.2] h = ret [.int (rRat p m.1), .int (rRat p m.2)] h := by
        unfold lcGo
        rw [if_pos (show sT h from trivial)]
        simp only [gN_, setE_1, bYes_, bindR_ret, if_true, e0]
        unfold lcGo
        rw [if_pos (show sT h from trivial)]
        simp only [gN_, setE_1, bYes_, bindR_ret, if_true, e1]
        unfold lcGo
        rw [if_pos (show sT h from trivial)]
        rfl
      rw [this]
      rfl
    simp only [b_p_rests_of, sSeq_, ea, seqS_nx, sIf_, et, decide_eq_true hg, Bool.not_true, bindS_ret, Bool.false_eq_true, if_false, sNext_, sRet_, dL_, el, bindR_ret]
    rfl
  · rw [if_neg hg]
    refine runF_er (ρ := [some (.int p), some (eM m), some (.int p), some (eR m.1), some (eR m.2), none]) rfl ?_
    show b_p_rests_of [some (.int p), some (eM m), none, none, none, none] h = _
    simp only [b_p_rests_of, sSeq_, ea, seqS_nx, sIf_, et, decide_eq_false hg, Bool.not_false, bindS_ret, if_true, sRaise_, seqS_er]
end Pl

set_option Elab.async false
set_option autoImplicit false
set_option linter.all false
set_option maxRecDepth 100000
set_option maxHeartbeats 2000000
set_option exponentiation.threshold 10000
namespace Pl
open Dt Wk
open PySem (Str)

/-! ### often done -/
def oft {α : Type} (mul : α → α → α) : Nat → α → α → Nat → α
  | 0, _, f, _ => f
  | k + 1, b, f, n => if n = 0 then f else oft mul k (mul b b) (if n % 2 = 1 then mul f b else f) (n / 2)
theorem oft_zero {α : Type} (mul : α → α → α) : ∀ (k : Nat) (b f : α), oft mul k b f 0 = f
  | 0, _, _ => rfl
  | k + 1, _, _ => rfl
theorem fdiv_cast (n : Nat) : ((n : Nat) : Int).fdiv 2 = ((n / 2 : Nat) : Int) := by
  rw [Int.fdiv_eq_ediv_of_nonneg _ (by decide)]
  omega
theorem mod2_cast (n : Nat) : ((n : Nat) : Int).fmod 2 = ((n % 2 : Nat) : Int) := by
  rw [Int.fmod_eq_emod_of_nonneg _ (by decide)]
  omega
theorem div2ok : divOk 2 = true := by decide
abbrev roC : DB := dTest (dBin oGt (dV 4) (dC (.int 0)))
noncomputable abbrev roB : DS := sSeq (sAsg (dIf (dTest (dBin oEq (dBin oMod (dV 4) (dC k_PAIR_restmaps)) (dC (.int 1)))) (dFn 3 φ_p_rest_behind (aCons (dV 0) (aCons (dV 5) (aCons (dV 3) aNil)))) (dV 5)) (gN 5))
  (sPar 3 4 (aCons (dFn 3 φ_p_rest_behind (aCons (dV 0) (aCons (dV 3) (aCons (dV 3) aNil)))) (aCons (dBin oDiv (dV 4) (dC k_PAIR_restmaps)) aNil)))
theorem ro_loop {p : Int} (hp : pOk p) (h : DH) (A B : D) : ∀ (k n : Nat) (b f : Rm), n < 2 ^ k → fit p b → fit p f →
    ∃ y z, sWhile roC roB [some (.int p), some A, some B, some (eP b), some (.int (n : Int)), some (eP f)] h = some (.nx [some (.int p), some A, some B, y, z, some (eP (oft (rBeh p) k b f n))], h)
  | 0, n, b, f, hn, hb, hf => by
    have : n = 0 := by simpa using hn
    subst this
    exact ⟨_, _, sWhile_false (by simp only [roC, dTest_, dBin_, dV_4, dC_, bindR_ret, oGt_, bD_bl]; rfl)⟩
  | k + 1, n, b, f, hn, hb, hf => by
    by_cases h0 : n = 0
    · subst h0
      exact ⟨_, _, sWhile_false (by simp only [roC, dTest_, dBin_, dV_4, dC_, bindR_ret, oGt_, bD_bl]; rfl)⟩
    · have ec : roC [some (.int p), some A, some B, some (eP b), some (.int (n : Int)), some (eP f)] h = ret true h := by
        simp only [roC, dTest_, dBin_, dV_4, dC_, bindR_ret, oGt_, bD_bl]
        rw [decide_eq_true (show (0 : Int) < (n : Int) by omega)]
      have hf2 : fit p (if n % 2 = 1 then rBeh p f b else f) := by
        split
        · exact fit_beh hp hf hb
        · exact hf
      obtain ⟨y, z, ih⟩ := ro_loop hp h A B k (n / 2) (rBeh p b b) (if n % 2 = 1 then rBeh p f b else f) (by rw [Nat.pow_succ] at hn; omega) (fit_beh hp hb hb) hf2
      refine ⟨y, z, ?_⟩
      rw [sWhile_true ec]
      have eb : roB [some (.int p), some A, some B, some (eP b), some (.int (n : Int)), some (eP f)] h = some (.nx [some (.int p), some A, some B, some (eP (rBeh p b b)), some (.int ((n / 2 : Nat) : Int)), some (eP (if n % 2 = 1 then rBeh p f b else f))], h) := by
        have e1 : dIf (dTest (dBin oEq (dBin oMod (dV 4) (dC k_PAIR_restmaps)) (dC (.int 1)))) (dFn 3 φ_p_rest_behind (aCons (dV 0) (aCons (dV 5) (aCons (dV 3) aNil)))) (dV 5) [some (.int p), some A, some B, some (eP b), some (.int (n : Int)), some (eP f)] h = ret (eP (if n % 2 = 1 then rBeh p f b else f)) h := by
          simp only [dIf_, dTest_, dBin_, dV_4, dC_, k_PAIR_restmaps, bindR_ret, oMod_ (show (2 : Int) ≠ 0 by decide), mod2_cast, oEq_int, bD_bl]
          by_cases hm : n % 2 = 1
          · rw [hm]
            simp only [dFn_, aCons_, dV_0, dV_5, dV_3, aNil_, bindR_ret, List.length, e_rest_behind hp hf hb]
            rfl
          · have : n % 2 = 0 := by omega
            rw [this]
            rfl
        simp only [roB, sSeq_, sAsg_, e1, bindS_ret, gN_, setE_1, List.set, seqS_nx]
        simp only [bindS_ret, List.set, sPar_, dFn_, aCons_, aNil_, dBin_, dV_0, dV_3, dV_4, dC_, k_PAIR_restmaps, bindR_ret, List.length, if_true, e_rest_behind hp hb hb, oDiv_ div2ok, fdiv_cast]
      rw [eb, loopK_nx, ih]
      show _ = some (SR.nx [some (.int p), some A, some B, y, z, some (eP (if n = 0 then f else _))], h)
      rw [if_neg h0]
theorem e_rest_often_in {p : Int} {a : Rm} (hp : pOk p) (ha : fit p a) (n : Int) {k : Nat} (hn : n.natAbs < 2 ^ k) (h : DH) : φ_p_rest_often_in [.int p, eP a, .int n] h = ret (eP (oft (rBeh p) k (if 0 ≤ n then a else rInv p a) (1, 0) n.natAbs)) h := by
  have hb : fit p (if 0 ≤ n then a else rInv p a) := by
    split
    · exact ha
    · exact fit_inv hp ha
  obtain ⟨y, z, lp⟩ := ro_loop hp h (eP a) (.int n) k n.natAbs _ (1, 0) hn hb (fit_one hp)
  refine runF_rt rfl ?_
  show b_p_rest_often_in [some (.int p), some (eP a), some (.int n), none, none, none] h = _
  have e1 : dIf (dTest (dBin oGe (dV 2) (dC (.int 0)))) (dV 1) (dFn 2 φ_p_rest_undone (aCons (dV 0) (aCons (dV 1) aNil))) [some (.int p), some (eP a), some (.int n), none, none, none] h = ret (eP (if 0 ≤ n then a else rInv p a)) h := by
    simp only [dIf_, dTest_, dBin_, dV_2, dC_, bindR_ret, oGe_, bD_bl]
    by_cases h0 : 0 ≤ n
    · rw [decide_eq_true h0, if_pos h0]
      rfl
    · rw [decide_eq_false h0, if_neg h0]
      simp only [Bool.false_eq_true, if_false, dFn_, aCons_, dV_0, dV_1, aNil_, bindR_ret, List.length, if_true, e_rest_undone hp ha]
  have e2 : dTup (aCons (dC (.int 1)) (aCons (dC (.int 0)) aNil)) [some (.int p), some (eP a), some (.int n), none, none, none] h = ret (eP (1, 0)) h := rfl
  simp only [b_p_rest_often_in, sSeq_, sPar3_, aCons_, e1, dCall_, dV_2, aNil_, bindR_ret, fAbs_, abs_int, e2, bindS_ret, seqS_nx, List.set, lp]
  rfl
theorem e_rest_often {p : Int} {a : Rm} (hp : pOk p) (ha : fit p a) (n : Int) {k : Nat} (hn : n.natAbs < 2 ^ k) (h : DH) : φ_p_rest_often [.int p, eP a, .int n] h = ret (eP (oft (rBeh p) k (if 0 ≤ n then a else rInv p a) (1, 0) n.natAbs)) h := by
  refine runF_rt rfl ?_
  show b_p_rest_often [some (.int p), some (eP a), some (.int n), none, none] h = _
  simp only [b_p_rest_often, sSeq_, sAsg_, dFn_, aCons_, dV_0, dV_1, dV_2, dV_3, dV_4, aNil_, bindR_ret, List.length, if_true, e_sure_prime hp, bindS_ret, gN_, setE_1, seqS_nx, List.set, e_sure_rest_map ha, sRet_, e_sure_number, e_rest_often_in hp ha n hn]
/-! ### the same of maps -/
def okB : Nat → Nat → Nat → Bool
  | 0, _, kf => decide (kf ≤ 1000)
  | k + 1, kb, kf => decide (kb ≤ 1000) && (decide (kf ≤ 1000) && okB k (kb + kb + kb + 1) (kf + kb + kf + 1))
def finB : Nat → Nat → Nat → Nat
  | 0, _, kf => kf
  | k + 1, kb, kf => finB k (kb + kb + kb + 1) (kf + kb + kf + 1)
theorem finB_le : ∀ (k kb kf : Nat), kf ≤ finB k kb kf
  | 0, _, _ => Nat.le_refl _
  | k + 1, kb, kf => Nat.le_trans (by omega) (finB_le k (kb + kb + kb + 1) (kf + kb + kf + 1))
theorem sm_oft : ∀ (k n : Nat) (b f : Mp) (kb kf : Nat), Sm kb b → Sm kf f → Sm (finB k kb kf) (oft mBeh k b f n)
  | 0, n, b, f, kb, kf, hb, hf => hf
  | k + 1, n, b, f, kb, kf, hb, hf => by
    unfold oft
    split
    · exact hf.mono (finB_le (k + 1) kb kf)
    · refine sm_oft k _ _ _ _ _ ((sm_beh hb hb).mono (by omega)) ?_
      split
      · exact sm_beh hf hb
      · exact hf.mono (by omega)
abbrev odC : DB := dTest (dBin oGt (dV 3) (dC (.int 0)))
noncomputable abbrev odB : DS := sSeq (sAsg (dIf (dTest (dBin oEq (dBin oMod (dV 3) (dC k_PAIR_maps)) (dC (.int 1)))) (dFn 2 φ_p_behind (aCons (dV 4) (aCons (dV 2) aNil))) (dV 4)) (gN 4))
  (sPar 2 3 (aCons (dFn 2 φ_p_behind (aCons (dV 2) (aCons (dV 2) aNil))) (aCons (dBin oDiv (dV 3) (dC k_PAIR_maps)) aNil)))
theorem od_loop (h : DH) (A B : D) : ∀ (k n : Nat) (b f : Mp) (kb kf : Nat), n < 2 ^ k → Sm kb b → Sm kf f → okB k kb kf = true →
    ∃ y z, sWhile odC odB [some A, some B, some (eM b), some (.int (n : Int)), some (eM f)] h = some (.nx [some A, some B, y, z, some (eM (oft mBeh k b f n))], h)
  | 0, n, b, f, kb, kf, hn, hb, hf, hk => by
    have : n = 0 := by simpa using hn
    subst this
    exact ⟨_, _, sWhile_false (by simp only [odC, dTest_, dBin_, dV_3, dC_, bindR_ret, oGt_, bD_bl]; rfl)⟩
  | k + 1, n, b, f, kb, kf, hn, hb, hf, hk => by
    by_cases h0 : n = 0
    · subst h0
      exact ⟨_, _, sWhile_false (by simp only [odC, dTest_, dBin_, dV_3, dC_, bindR_ret, oGt_, bD_bl]; rfl)⟩
    · obtain ⟨k1, k2⟩ := Bool.and_eq_true_iff.mp (show (decide (kb ≤ 1000) && (decide (kf ≤ 1000) && okB k (kb + kb + kb + 1) (kf + kb + kf + 1))) = true from hk)
      obtain ⟨k2, k3⟩ := Bool.and_eq_true_iff.mp k2
      have k1 := of_decide_eq_true k1
      have k2 := of_decide_eq_true k2
      have ec : odC [some A, some B, some (eM b), some (.int (n : Int)), some (eM f)] h = ret true h := by
        simp only [odC, dTest_, dBin_, dV_3, dC_, bindR_ret, oGt_, bD_bl]
        rw [decide_eq_true (show (0 : Int) < (n : Int) by omega)]
      have hf2 : Sm (kf + kb + kf + 1) (if n % 2 = 1 then mBeh f b else f) := by
        split
        · exact sm_beh hf hb
        · exact hf.mono (by omega)
      obtain ⟨y, z, ih⟩ := od_loop h A B k (n / 2) (mBeh b b) (if n % 2 = 1 then mBeh f b else f) (kb + kb + kb + 1) (kf + kb + kf + 1) (by rw [Nat.pow_succ] at hn; omega) ((sm_beh hb hb).mono (by omega)) hf2 k3
      refine ⟨y, z, ?_⟩
      rw [sWhile_true ec]
      have eb : odB [some A, some B, some (eM b), some (.int (n : Int)), some (eM f)] h = some (.nx [some A, some B, some (eM (mBeh b b)), some (.int ((n / 2 : Nat) : Int)), some (eM (if n % 2 = 1 then mBeh f b else f))], h) := by
        have e1 : dIf (dTest (dBin oEq (dBin oMod (dV 3) (dC k_PAIR_maps)) (dC (.int 1)))) (dFn 2 φ_p_behind (aCons (dV 4) (aCons (dV 2) aNil))) (dV 4) [some A, some B, some (eM b), some (.int (n : Int)), some (eM f)] h = ret (eM (if n % 2 = 1 then mBeh f b else f)) h := by
          simp only [dIf_, dTest_, dBin_, dV_3, dC_, k_PAIR_maps, bindR_ret, oMod_ (show (2 : Int) ≠ 0 by decide), mod2_cast, oEq_int, bD_bl]
          by_cases hm : n % 2 = 1
          · rw [hm]
            simp only [dFn_, aCons_, dV_4, dV_2, aNil_, bindR_ret, List.length, e_behind hf hb h k2 k1]
            rfl
          · have : n % 2 = 0 := by omega
            rw [this]
            rfl
        simp only [odB, sSeq_, sAsg_, e1, bindS_ret, gN_, setE_1, List.set, seqS_nx]
        simp only [bindS_ret, List.set, sPar_, dFn_, aCons_, aNil_, dBin_, dV_2, dV_3, dC_, k_PAIR_maps, bindR_ret, List.length, if_true, e_behind hb hb h k1 k1, oDiv_ div2ok, fdiv_cast]
      rw [eb, loopK_nx, ih]
      show _ = some (SR.nx [some A, some B, y, z, some (eM (if n = 0 then f else _))], h)
      rw [if_neg h0]
theorem e_map_often {m : Mp} {km k : Nat} (hm : Sm km m) (n : Int) (hn : n.natAbs < 2 ^ k) (hk : okB k (km + km + 1) 1 = true) (hkm : km ≤ 300) (h : DH) : φ_p_map_often [eM m, .int n] h = ret (eM (oft mBeh k (if 0 ≤ n then m else mInv m) (1, 0) n.natAbs)) h := by
  have hb : Sm (km + km + 1) (if 0 ≤ n then m else mInv m) := by
    split
    · exact hm.mono (by omega)
    · exact sm_inv hm
  obtain ⟨y, z, lp⟩ := od_loop h (eM m) (.int n) k n.natAbs _ (1, 0) _ 1 hn hb sm_still hk
  have ei : φ_p_often_done [eM m, .int n] h = ret (eM (oft mBeh k (if 0 ≤ n then m else mInv m) (1, 0) n.natAbs)) h := by
    refine runF_rt rfl ?_
    show b_p_often_done [some (eM m), some (.int n), none, none, none] h = _
    have e1 : dIf (dTest (dBin oGe (dV 1) (dC (.int 0)))) (dV 0) (dFn 1 φ_p_undone_map (aCons (dV 0) aNil)) [some (eM m), some (.int n), none, none, none] h = ret (eM (if 0 ≤ n then m else mInv m)) h := by
      simp only [dIf_, dTest_, dBin_, dV_1, dC_, bindR_ret, oGe_, bD_bl]
      by_cases h0 : 0 ≤ n
      · rw [decide_eq_true h0, if_pos h0]
        rfl
      · rw [decide_eq_false h0, if_neg h0]
        simp only [Bool.false_eq_true, if_false, dFn_, aCons_, dV_0, aNil_, bindR_ret, List.length, if_true, e_undone_map hm h (by omega)]
    simp only [b_p_often_done, sSeq_, sPar3_, aCons_, e1, dCall_, dV_1, dC_, aNil_, bindR_ret, fAbs_, abs_int, k_STILL_eq, bindS_ret, seqS_nx, List.set, lp]
    rfl
  refine runF_rt rfl ?_
  show b_p_map_often [some (eM m), some (.int n), none] h = _
  simp only [b_p_map_often, sSeq_, sAsg_, dFn_, aCons_, dV_0, dV_1, dV_2, aNil_, bindR_ret, List.length, if_true, e_sure_map hm.nz, bindS_ret, gN_, setE_1, seqS_nx, List.set, sRet_, e_sure_number, ei]
/-! ### the home of a rest map -/
def hmL (p a : Int) : Nat → Int → Int → Option Int
  | 0, _, _ => none
  | k + 1, f, x => if x.natAbs < 2 ^ 20 then (if x = 1 then some f else hmL p a k (f + 1) (x * a % p)) else none
abbrev hmC : DB := dTest (dBin oNe (dV 3) (dC (.int 1)))
abbrev hmB : DS := sPar 2 3 (aCons (dBin oAdd (dV 2) (dC (.int 1))) (aCons (dBin oMod (dBin oMul (dV 3) (dBin oIx (dV 1) (dC (.int 0)))) (dV 0)) aNil))
theorem hm_loop {p : Int} {a : Rm} (hp : pOk p) (ha : fit p a) (h : DH) : ∀ (k : Nat) (f x z : Int), hmL p a.1 k f x = some z → ∃ y, sWhile hmC hmB [some (.int p), some (eP a), some (.int f), some (.int x)] h = some (.nx [some (.int p), some (eP a), some (.int z), y], h)
  | 0, _, _, _, e => by cases e
  | k + 1, f, x, z, e => by
    unfold hmL at e
    split at e
    · rename_i hx
      have ec : hmC [some (.int p), some (eP a), some (.int f), some (.int x)] h = ret (!(x == 1)) h := by
        simp only [hmC, dTest_, dBin_, dV_3, dC_, bindR_ret, oNe_int, bD_bl]
      split at e
      · rename_i h1
        cases e
        rw [h1] at ec ⊢
        exact ⟨_, sWhile_false ec⟩
      · rename_i h1
        rw [beq_false_of_ne h1] at ec
        obtain ⟨y, ih⟩ := hm_loop hp ha h k (f + 1) (x * a.1 % p) z e
        refine ⟨y, ?_⟩
        rw [sWhile_true ec]
        have eb : hmB [some (.int p), some (eP a), some (.int f), some (.int x)] h = some (.nx [some (.int p), some (eP a), some (.int (f + 1)), some (.int (x * a.1 % p))], h) := by
          simp only [hmB, sPar_, aCons_, aNil_, dBin_, dV_0, dV_1, dV_2, dV_3, dC_, bindR_ret, oAdd_, ix_eP0, sm_mul hx (ha.s1 hp) (by omega) (by omega), oModP hp.pos, bindS_ret, List.set]
        rw [eb, loopK_nx]
        exact ih
    · cases e
def home (p : Int) (a : Rm) : Int := if a.1 = 1 then (if a.2 = 0 then 1 else p) else (hmL p a.1 15 1 a.1).getD 0
theorem hm_all : ∀ p ∈ P6, ∀ r ∈ resid p, r ≠ 0 → (hmL p r 15 1 r).isSome = true := by decide +kernel
theorem e_home {p : Int} {a : Rm} (hp : pOk p) (ha : fit p a) (h : DH) : φ_p_rest_times_home [.int p, eP a] h = ret (.int (home p a)) h := by
  have ei : φ_p_home_in [.int p, eP a] h = ret (.int (home p a)) h := by
    obtain ⟨z, ez⟩ := Option.isSome_iff_exists.mp (hm_all p hp a.1 (mem_resid (by have := ha.1; omega) ha.1.2) (by have := ha.1; omega))
    obtain ⟨y, lp⟩ := hm_loop hp ha h 15 1 a.1 z ez
    refine runF_rt rfl ?_
    show b_p_home_in [some (.int p), some (eP a), none, none] h = _
    unfold home
    by_cases h1 : a.1 = 1
    · have b1 : (a.1 == 1) = true := by rw [h1]; rfl
      simp only [b_p_home_in, sSeq_, sIf_, dTest_, dBin_, dV_0, dV_1, dC_, bindR_ret, ix_eP0, ix_eP1, oEq_int, b1, bD_bl, bindS_ret, if_true, sRet_, dIf_, if_pos h1]
      by_cases h2 : a.2 = 0
      · have b2 : (a.2 == 0) = true := by rw [h2]; rfl
        rw [b2, if_pos h2]
        rfl
      · have b2 : (a.2 == 0) = false := beq_false_of_ne h2
        rw [b2, if_neg h2]
        rfl
    · have b1 : (a.1 == 1) = false := beq_false_of_ne h1
      simp only [b_p_home_in, sSeq_, sIf_, dTest_, dBin_, dV_1, dC_, bindR_ret, ix_eP0, oEq_int, b1, bD_bl, bindS_ret, Bool.false_eq_true, if_false, sNext_, seqS_nx, sPar_, aCons_, aNil_, List.set, lp, sRet_, dV_2, if_neg h1]
      rw [ez]
      rfl
  refine runF_rt rfl ?_
  show b_p_rest_times_home [some (.int p), some (eP a), none] h = _
  simp only [b_p_rest_times_home, sSeq_, sAsg_, dFn_, aCons_, dV_0, dV_1, dV_2, aNil_, bindR_ret, List.length, if_true, e_sure_prime hp, bindS_ret, gN_, setE_1, seqS_nx, List.set, sRet_, e_sure_rest_map ha, ei]
end Pl

set_option Elab.async false
set_option autoImplicit false
set_option linter.all false
set_option maxRecDepth 100000
set_option maxHeartbeats 2000000
set_option exponentiation.threshold 10000
namespace Pl
open Dt Wk
open PySem (Str)

/-! ### tables -/
abbrev Tb := List (List Int × Int)
def kk (k : List Int) : List L2.Key := k.map Sum.inl
theorem kk_inj : ∀ {a b : List Int}, kk a = kk b → a = b
  | [], [], _ => rfl
  | [], _ :: _, e => by cases e
  | _ :: _, [], e => by cases e
  | x :: r, y :: t, e => by
    unfold kk at e
    rw [List.map_cons, List.map_cons] at e
    injection e with e1 e2
    rw [Sum.inl.inj e1, kk_inj e2]
def eT (T : Tb) : List (List L2.Key × D) := T.map fun e => (kk e.1, D.int e.2)
def getI (T : Tb) (k : List Int) : Option Int := (T.find? fun e => decide (e.1 = k)).map (·.2)
def putI (T : Tb) (k : List Int) (n : Int) : Tb := if (T.any fun e => decide (e.1 = k)) = true then T.map (fun e => if e.1 = k then (e.1, n) else e) else T ++ [(k, n)]
theorem dec_kk (a b : List Int) : decide (kk a = kk b) = decide (a = b) := by
  by_cases e : a = b
  · rw [e]; simp
  · rw [decide_eq_false e, decide_eq_false fun z => e (kk_inj z)]
theorem valD_eT (k : List Int) : ∀ T : Tb, valD (eT T) (kk k) = (getI T k).map D.int
  | [] => rfl
  | e :: T => by
    have ih := valD_eT k T
    unfold valD getI eT at *
    rw [List.map_cons, List.find?_cons, List.find?_cons, dec_kk]
    cases h : decide (e.1 = k) with
    | true => rfl
    | false => exact ih
theorem any_eT (k : List Int) : ∀ T : Tb, ((eT T).any fun e => decide (e.1 = kk k)) = T.any fun e => decide (e.1 = k)
  | [] => rfl
  | e :: T => by
    unfold eT
    rw [List.map_cons, List.any_cons, List.any_cons, dec_kk]
    exact congrArg _ (any_eT k T)
theorem map_eT (k : List Int) (n : Int) : ∀ T : Tb, ((eT T).map fun e => if e.1 = kk k then (e.1, D.int n) else e) = eT (T.map fun e => if e.1 = k then (e.1, n) else e)
  | [] => rfl
  | e :: T => by
    have ih := map_eT k n T
    unfold eT at *
    rw [List.map_cons, List.map_cons, ih, List.map_cons, List.map_cons]
    by_cases h : e.1 = k
    · rw [if_pos h, if_pos (show kk e.1 = kk k by rw [h])]
    · rw [if_neg h, if_neg fun z => h (kk_inj z)]
theorem putD_eT (T : Tb) (k : List Int) (n : Int) : putD (eT T) (kk k) (.int n) = eT (putI T k n) := by
  unfold putD putI
  rw [any_eT, map_eT]
  split
  · rfl
  · unfold eT
    rw [List.map_append]
    rfl
theorem len_putI (T : Tb) (k : List Int) (n : Int) : (putI T k n).length ≤ T.length + 1 := by
  unfold putI
  split
  · rw [List.length_map]; omega
  · simp
theorem keys_putI (T : Tb) (k : List Int) (n : Int) : (putI T k n).map (·.1) = if (T.any fun e => decide (e.1 = k)) = true then T.map (·.1) else T.map (·.1) ++ [k] := by
  unfold putI
  split
  · rw [List.map_map]
    apply List.map_congr_left
    intro e he
    show (if e.1 = k then (e.1, n) else e).1 = e.1
    split <;> rfl
  · rw [List.map_append]
    rfl
theorem nodup_putI {T : Tb} (h : (T.map (·.1)).Nodup) (k : List Int) (n : Int) : ((putI T k n).map (·.1)).Nodup := by
  rw [keys_putI]
  split
  · exact h
  · rename_i hn
    rw [List.nodup_append]
    refine ⟨h, by simp, fun a ha b hb => ?_⟩
    rw [List.mem_singleton.mp hb]
    intro e
    subst e
    apply hn
    obtain ⟨x, hx, ex⟩ := List.mem_map.mp ha
    exact List.any_eq_true.mpr ⟨x, hx, decide_eq_true ex⟩
/-- the sum over a table -/
def evT (wt : List Int → Int) : Tb → Int
  | [] => 0
  | e :: T => e.2 * wt e.1 + evT wt T
theorem evT_app (wt : List Int → Int) (T U : Tb) : evT wt (T ++ U) = evT wt T + evT wt U := by
  induction T with
  | nil => show evT wt U = 0 + evT wt U; omega
  | cons e T ih =>
    show e.2 * wt e.1 + evT wt (T ++ U) = e.2 * wt e.1 + evT wt T + evT wt U
    rw [ih]
    omega
theorem evT_perm {wt : List Int → Int} {T U : Tb} (h : T.Perm U) : evT wt T = evT wt U := by
  induction h with
  | nil => rfl
  | cons x _ ih =>
    show _ + _ = _ + _
    rw [ih]
  | swap x y l =>
    show _ + (_ + _) = _ + (_ + _)
    omega
  | trans _ _ h1 h2 => rw [h1, h2]
theorem getI_none {T : Tb} {k : List Int} (h : (T.any fun e => decide (e.1 = k)) = false) : getI T k = none := by
  unfold getI
  rw [List.find?_eq_none.mpr fun x hx => ?_]
  · rfl
  · have := List.any_eq_false.mp h x hx
    exact this
theorem evT_map {wt : List Int → Int} {k : List Int} {n : Int} : ∀ {T : Tb}, (T.map (·.1)).Nodup → (T.any fun e => decide (e.1 = k)) = true → ∃ m, getI T k = some m ∧ evT wt (T.map fun e => if e.1 = k then (e.1, n) else e) = evT wt T + (n - m) * wt k
  | [], _, h => by cases h
  | e :: T, nd, h => by
    rw [List.map_cons, List.nodup_cons] at nd
    by_cases he : e.1 = k
    · refine ⟨e.2, by unfold getI; rw [List.find?_cons, decide_eq_true he]; rfl, ?_⟩
      have same : T.map (fun e => if e.1 = k then (e.1, n) else e) = T := by
        refine (List.map_congr_left fun x hx => ?_).trans (List.map_id T)
        rw [if_neg]
        · rfl
        · intro z
          exact nd.1 (by rw [he, ← z]; exact List.mem_map_of_mem hx)
      rw [List.map_cons, same, if_pos he]
      show n * wt e.1 + evT wt T = e.2 * wt e.1 + evT wt T + (n - e.2) * wt k
      rw [he, Int.sub_mul]
      omega
    · rw [List.any_cons, decide_eq_false he, Bool.false_or] at h
      obtain ⟨m, h1, h2⟩ := evT_map (wt := wt) (n := n) nd.2 h
      refine ⟨m, by unfold getI at h1 ⊢; rw [List.find?_cons, decide_eq_false he]; exact h1, ?_⟩
      rw [List.map_cons, if_neg he]
      show e.2 * wt e.1 + evT wt _ = e.2 * wt e.1 + evT wt T + _
      rw [h2]
      omega
theorem evT_put {wt : List Int → Int} {T : Tb} (nd : (T.map (·.1)).Nodup) (k : List Int) (n : Int) : evT wt (putI T k n) = evT wt T + (n - (getI T k).getD 0) * wt k := by
  unfold putI
  cases h : (T.any fun e => decide (e.1 = k)) with
  | true =>
    rw [if_pos rfl]
    obtain ⟨m, h1, h2⟩ := evT_map (wt := wt) (n := n) nd h
    rw [h1, h2]
    rfl
  | false =>
    rw [if_neg Bool.false_ne_true, getI_none h, evT_app]
    show _ + (n * wt k + 0) = _ + (n - 0) * wt k
    rw [Int.sub_zero]
    omega
/-! ### told -/
def toldI (T : Tb) : Tb := (sortI (T.map (·.1))).filterMap fun k => if (getI T k).getD 0 = 0 then none else some (k, (getI T k).getD 0)
theorem getI_mem : ∀ {T : Tb} {e : List Int × Int}, (T.map (·.1)).Nodup → e ∈ T → getI T e.1 = some e.2
  | e' :: T, e, nd, h => by
    rw [List.map_cons, List.nodup_cons] at nd
    unfold getI
    rw [List.find?_cons]
    rcases List.mem_cons.mp h with z | z
    · subst z
      rw [decide_eq_true rfl]
      rfl
    · have hne : ¬ e'.1 = e.1 := fun q => nd.1 (by rw [q]; exact List.mem_map_of_mem z)
      rw [decide_eq_false hne]
      exact getI_mem nd.2 z
theorem evT_filter (wt : List Int → Int) (g : List Int → Int) : ∀ ks : List (List Int), evT wt (ks.filterMap fun k => if g k = 0 then none else some (k, g k)) = evT wt (ks.map fun k => (k, g k))
  | [] => rfl
  | k :: ks => by
    have ih := evT_filter wt g ks
    rw [List.filterMap_cons, List.map_cons]
    by_cases h : g k = 0
    · rw [if_pos h, ih]
      show _ = g k * wt k + _
      rw [h]
      omega
    · rw [if_neg h]
      show g k * wt k + _ = g k * wt k + _
      rw [ih]
theorem evT_told {wt : List Int → Int} {T : Tb} (nd : (T.map (·.1)).Nodup) : evT wt (toldI T) = evT wt T := by
  unfold toldI
  rw [evT_filter wt fun k => (getI T k).getD 0]
  have e : T = (T.map (·.1)).map fun k => (k, (getI T k).getD 0) := by
    rw [List.map_map]
    refine (List.map_id T).symm.trans (List.map_congr_left fun x hx => ?_)
    show x = (x.1, (getI T x.1).getD 0)
    rw [getI_mem nd hx]
    rfl
  conv => rhs; rw [e]
  exact evT_perm ((sortI_perm _).map _)
def eE (e : List Int × Int) : D := .tup [eW e.1, .int e.2]
def key3 (k : List Int) : Prop := k.length = 3
theorem keyD_eW {k : List Int} (h : key3 k) : keyD (k.map D.int) = true := by
  match k, h with
  | [a, b, c], _ => rfl
theorem keyL_eW : ∀ k : List Int, keyL (k.map D.int) = some (kk k)
  | [] => rfl
  | a :: k => by
    rw [List.map_cons]
    show (keyL (k.map D.int)).map (fun k => Sum.inl a :: k) = _
    rw [keyL_eW k]
    rfl
theorem intKey_kk : ∀ k : List Int, intKey (kk k) = some k
  | [] => rfl
  | a :: k => by
    show (intKey (kk k)).map (a :: ·) = _
    rw [intKey_kk k]
    rfl
theorem intKeys_eT : ∀ T : Tb, (∀ e ∈ T, key3 e.1) → intKeys (eT T) = some (T.map (·.1))
  | [], _ => rfl
  | e :: T, h => by
    have ih := intKeys_eT T fun x hx => h x (List.mem_cons_of_mem _ hx)
    have h3 := h e List.mem_cons_self
    obtain ⟨k, n⟩ := e
    match k, h3 with
    | [a, b, c], _ =>
      unfold intKeys eT
      rw [List.map_cons]
      show (match intKey (kk [a, b, c]), intKeys (eT T) with | some (i :: k), some l => some ((i :: k) :: l) | _, _ => none) = _
      rw [ih, intKey_kk]
      rfl
/-- a filter with a value -/
theorem lc_filter {i : Nat} {tt : DB} {te : DE} {ρ : Ev} {h : DH} (c : List Int → Bool) (f : List Int → D) : ∀ (ks : List (List Int)), ks.length ≤ 1000000 → (∀ k ∈ ks, tt (ρ.set i (some (eW k))) h = ret (c k) h ∧ (c k = true → te (ρ.set i (some (eW k))) h = ret (f k) h)) →
    lcGo sT (gN i) tt te ρ (ks.map eW) h = ret (ks.filterMap fun k => if c k = true then some (f k) else none) h
  | [], _, _ => by unfold lcGo; exact if_pos (show sT h from trivial)
  | k :: ks, hl, he => by
    obtain ⟨e2, e3⟩ := he k List.mem_cons_self
    have ih := lc_filter c f ks (Nat.le_trans (Nat.le_succ _) hl) fun x hx => he x (List.mem_cons_of_mem _ hx)
    rw [List.map_cons]
    unfold lcGo
    rw [if_pos (show sT h from trivial)]
    simp only [gN_, setE_1, e2, bindR_ret]
    cases hc : c k with
    | true =>
      simp only [e3 hc, bindR_ret, if_true, ih]
      have : okLen (ks.filterMap fun k => if c k = true then some (f k) else none).length = true := decide_eq_true (by
        have := List.length_filterMap_le (fun k => if c k = true then some (f k) else none) ks
        simp at hl
        omega)
      rw [if_pos this, List.filterMap_cons, hc]
      rfl
    | false =>
      simp only [Bool.false_eq_true, if_false, ih]
      rw [List.filterMap_cons, hc]
      rfl
theorem e_told {T : Tb} (h3 : ∀ e ∈ T, key3 e.1) (nd : (T.map (·.1)).Nodup) (hl : T.length ≤ 1000000) {h : DH} {k : Nat} (hk : h[k]? = some (.dT (eT T))) : φ_p_told [.ref k] h = ret (.tup ((toldI T).map eE)) h := by
  refine runF_rt rfl ?_
  show b_p_told [some (.ref k), none] h = _
  have es : iNew (lSortD (dV 0)) [some (.ref k), none] h = ret ((sortI (T.map (·.1))).map eW, sT) h := by
    unfold iNew lSortD
    rw [dV_0, bindR_ret]
    simp only [hk, intKeys_eT T h3]
    rfl
  have ks : ∀ x ∈ sortI (T.map (·.1)), x ∈ T.map (·.1) := fun x hx => (sortI_perm _).mem_iff.mp hx
  have hlen : (sortI (T.map (·.1))).length = T.length := by rw [(sortI_perm _).length_eq, List.length_map]
  have eix : ∀ x ∈ sortI (T.map (·.1)), dIxD (dV 0) (dV 1) ((wipeD [some (.ref k), none] [1]).set 1 (some (eW x))) h = ret (.int ((getI T x).getD 0)) h := fun x hx => by
    obtain ⟨e, he, rfl⟩ := List.mem_map.mp (ks x hx)
    unfold dIxD
    show (match h[k]?, keyD (e.1.map D.int), keyL (e.1.map D.int) with
      | some (.dT kvs), true, some key => (match valD kvs key with | some d => ret d h | none => none)
      | _, _, _ => none) = _
    rw [hk, keyD_eW (h3 e he), keyL_eW]
    simp only [valD_eT, getI_mem nd he]
    rfl
  have el : lLc (iNew (lSortD (dV 0))) (gN 1) (dTest (dBin oNe (dIxD (dV 0) (dV 1)) (dC (.int 0)))) (dTup (aCons (dV 1) (aCons (dIxD (dV 0) (dV 1)) aNil))) [1] [some (.ref k), none] h = ret ((toldI T).map eE) h := by
    unfold lLc
    rw [es, bindR_ret]
    simp only
    rw [lc_filter (fun x => !((getI T x).getD 0 == 0)) (fun x => eE (x, (getI T x).getD 0)) _ (by rw [hlen]; exact hl) fun x hx => ⟨?_, fun _ => ?_⟩]
    · have : (sortI (T.map (·.1))).filterMap (fun k => if (!((getI T k).getD 0 == 0)) = true then some (eE (k, (getI T k).getD 0)) else none) = (toldI T).map eE := by
        unfold toldI
        rw [List.map_filterMap]
        refine congrArg (fun f => List.filterMap f _) (funext fun x => ?_)
        by_cases h0 : (getI T x).getD 0 = 0
        · rw [if_pos h0]
          simp [h0]
        · rw [if_neg h0]
          simp [h0]
      rw [this]
      rfl
    · simp only [dTest_, dBin_, eix x hx, bindR_ret, dC_, oNe_int, bD_bl]
    · have d1 : dV 1 ((wipeD [some (.ref k), none] [1]).set 1 (some (eW x))) h = ret (eW x) h := rfl
      simp only [dTup_, aCons_, d1, eix x hx, aNil_, bindR_ret]
      rfl
  simp only [b_p_told, sRet_, dL_, el, bindR_ret]
  rfl
end Pl

set_option Elab.async false
set_option autoImplicit false
set_option linter.all false
set_option maxRecDepth 100000
set_option maxHeartbeats 2000000
set_option exponentiation.threshold 10000
namespace Pl
open Dt Wk
open PySem (Str)

/-! ### walks -/
def sg (l : Int) : Int := if 0 < l then 1 else -1
def nxt (pt : Rm) (l : Int) : Rm := if l = 1 ∨ l = -1 then (pt.1 + sg l, pt.2) else (pt.1, pt.2 + sg l)
def ptsF (pt : Rm) : List Int → List Rm
  | [] => [pt]
  | l :: w => pt :: ptsF (nxt pt l) w
def endP (pt : Rm) (w : List Int) : Rm := w.foldl nxt pt
abbrev lok (l : Int) : Prop := l = 1 ∨ l = -1 ∨ l = 2 ∨ l = -2
theorem e_step_from (pt : Rm) {l : Int} (hl : lok l) (h : DH) : φ_p_step_from [eP pt, .int l] h = ret (eP (nxt pt l)) h := by
  refine runF_rt rfl ?_
  show b_p_step_from [some (eP pt), some (.int l), none] h = _
  rcases hl with rfl | rfl | rfl | rfl <;> rfl
theorem atI_last (xs : List D) (x : D) : L2.atI (xs ++ [x]) (-1) = some x := L2.atI_last xs x
theorem set_last {h : DH} {x y : O} : (h ++ [x]).set h.length y = h ++ [y] := by
  simp
theorem get_last {h : DH} {x : O} : (h ++ [x])[h.length]? = some x := by simp
noncomputable abbrev wkBody : DS := sDrop (dApp (dV 1) (dFn 2 φ_p_step_from (aCons (dBin oIx (dV 1) (dUn uNeg (dC (.int 1)))) (aCons (dV 2) aNil))))
theorem wk_loop (h : DH) (W : D) : ∀ (w : List Int) (acc : List D) (pt : Rm) (x : Option D), wOk w → acc.length + w.length ≤ 100 →
    ∃ y, forGo sT (gN 2) wkBody (w.map D.int) [some W, some (.ref h.length), x] (h ++ [.lst (acc ++ [eP pt])]) = some (.nx [some W, some (.ref h.length), y], h ++ [.lst (acc ++ (ptsF pt w).map eP)])
  | [], acc, pt, x, _, _ => ⟨x, forGo_nil⟩
  | l :: w, acc, pt, x, hw, hl => by
    obtain ⟨y, ih⟩ := wk_loop h W w (acc ++ [eP pt]) (nxt pt l) (some (.int l)) hw.tail (by simp at hl ⊢; omega)
    refine ⟨y, ?_⟩
    rw [List.map_cons, forGo_n]
    have step : wkBody ([some W, some (.ref h.length), x].set 2 (some (.int l))) (h ++ [.lst (acc ++ [eP pt])]) = some (.nx [some W, some (.ref h.length), some (.int l)], h ++ [.lst (acc ++ [eP pt] ++ [eP (nxt pt l)])]) := by
      have e1 : dFn 2 φ_p_step_from (aCons (dBin oIx (dV 1) (dUn uNeg (dC (.int 1)))) (aCons (dV 2) aNil)) [some W, some (.ref h.length), some (.int l)] (h ++ [.lst (acc ++ [eP pt])]) = ret (eP (nxt pt l)) (h ++ [.lst (acc ++ [eP pt])]) := by
        simp only [dFn_, aCons_, dBin_, dV_1, dV_2, dUn_, dC_, bindR_ret, uNeg_, aNil_]
        rw [ix_last, atI_last]
        simp only [bindR_ret, List.length, if_true, e_step_from pt (hw.2 l List.mem_cons_self)]
      have ok : okLen ((acc ++ [eP pt]).length + 1) = true := decide_eq_true (by simp at hl ⊢; omega)
      show sDrop _ [some W, some (.ref h.length), some (.int l)] _ = _
      unfold sDrop dApp
      simp only [dV_1, bindR_ret, get_last, e1, ok, if_true, set_last, bindS_ret]
    rw [step, loopK_nx, ih]
    show some (SR.nx _, h ++ [O.lst (acc ++ [eP pt] ++ (ptsF (nxt pt l) w).map eP)]) = some (SR.nx _, h ++ [O.lst (acc ++ (pt :: ptsF (nxt pt l) w).map eP)])
    rw [List.map_cons, List.append_assoc]
    rfl
theorem cl_pts (n : Nat) : ∀ ps : List Rm, clL n (ps.map eP) = true
  | [] => rfl
  | p :: ps => by
    show (clD n (eP p) && clL n (ps.map eP)) = true
    rw [cl_pts n ps]
    rfl
theorem e_walk_in {w : List Int} (hw : wOk w) (h : DH) : φ_p_walk_in [eW w] h = ret (.tup ((ptsF (0, 0) w).map eP)) h := by
  obtain ⟨y, lp⟩ := wk_loop h (eW w) w [] (0, 0) none hw (by have := hw.1; simp; omega)
  refine runF_gc (t := [.lst ((ptsF (0, 0) w).map eP)]) rfl (cl_pts _ _) ?_
  show b_p_walk_in [some (eW w), none, none] h = _
  have e0 : sAsg (dNum (lLst (aCons (dC k_HOME) aNil))) (gN 1) [some (eW w), none, none] h = some (.nx [some (eW w), some (.ref h.length), none], h ++ [.lst ([] ++ [eP (0, 0)])]) := rfl
  simp only [b_p_walk_in, sSeq_, e0, seqS_nx]
  rw [sFor_tup (ds := w.map D.int) (iSeq_ _ _ _ _ rfl), lp]
  have e1 : fTuple [.ref h.length] (h ++ [.lst ((ptsF (0, 0) w).map eP)]) = ret (.tup ((ptsF (0, 0) w).map eP)) (h ++ [.lst ((ptsF (0, 0) w).map eP)]) := by
    unfold fTuple seqD
    simp only [get_last]
  simp only [List.nil_append, seqS_nx, sRet_, dCall_, aCons_, dV_1, aNil_, bindR_ret, e1, bindS_ret]
/-! ### flows -/
def edge (pt : Rm) (l : Int) : List Int := if 0 < l then [pt.1, pt.2, l] else [(nxt pt l).1, (nxt pt l).2, -l]
def flowT (T : Tb) (pt : Rm) : List Int → Tb
  | [] => T
  | l :: w => flowT (putI T (edge pt l) ((getI T (edge pt l)).getD 0 + sg l)) (nxt pt l) w
def zs (pt : Rm) : List Int → List D
  | [] => []
  | l :: w => .tup [.int l, eP pt, eP (nxt pt l)] :: zs (nxt pt l) w
theorem zip3_zs : ∀ (w : List Int) (pt : Rm), zip3D (w.map D.int) ((ptsF pt w).map eP) (((ptsF pt w).map eP).drop 1) = zs pt w
  | [], pt => rfl
  | l :: w, pt => by
    have ih := zip3_zs w (nxt pt l)
    have e : ∃ r, (ptsF (nxt pt l) w).map eP = eP (nxt pt l) :: r := by
      cases w with
      | nil => exact ⟨_, rfl⟩
      | cons l' w' => exact ⟨_, rfl⟩
    obtain ⟨r, er⟩ := e
    show zip3D (.int l :: w.map D.int) (eP pt :: (ptsF (nxt pt l) w).map eP) ((ptsF (nxt pt l) w).map eP) = .tup [.int l, eP pt, eP (nxt pt l)] :: zs (nxt pt l) w
    rw [← ih, er]
    rfl
theorem cut_tail (xs : List D) (h : xs ≠ []) : cutD xs (some 1) none = xs.drop 1 := by
  unfold cutD
  have hp : 0 < xs.length := List.length_pos_iff.mpr h
  have e1 : HT.sIx xs.length 0 (some 1) = 1 := by
    unfold HT.sIx
    simp
    omega
  have e2 : HT.sIx xs.length xs.length none = xs.length := rfl
  rw [e1, e2, List.take_of_length_le]
  simp
theorem edge3 (pt : Rm) (l : Int) : key3 (edge pt l) := by
  unfold edge key3
  split <;> rfl
theorem forGo_g {g : Pt} {b : DS} {ρ : Ev} {h : DH} {d : D} {ds : List D} {l : List (Nat × D)} (e : g d = some l) : forGo sT g b (d :: ds) ρ h = loopK (b (setE ρ l) h) (forGo sT g b ds) := by
  conv => lhs; unfold forGo
  rw [if_pos (show sT h from trivial), e]
abbrev flG : Pt := gT 3 (gC (gN 4) (gC (gN 5) (gC (gN 6) gN0)))
abbrev flBody : DS := sSeq (sAsg (dIf (dTest (dBin oGt (dV 4) (dC (.int 0)))) (dTup (aStar (dV 5) (aCons (dV 4) aNil))) (dTup (aStar (dV 6) (aCons (dUn uNeg (dV 4)) aNil)))) (gN 3))
  (sStD (dV 2) (dV 3) (dBin oAdd (dGet2 (dV 2) (dV 3) (dC (.int 0))) (dIf (dTest (dBin oGt (dV 4) (dC (.int 0)))) (dC (.int 1)) (dUn uNeg (dC (.int 1))))))
theorem get2_ {T : Tb} {h : DH} {k : List Int} (h3 : key3 k) {fo fi : DE} {ρ : Ev} (eo : fo ρ (h ++ [.dT (eT T)]) = ret (.ref h.length) (h ++ [.dT (eT T)])) (ei : fi ρ (h ++ [.dT (eT T)]) = ret (eW k) (h ++ [.dT (eT T)])) :
    dGet2 fo fi (dC (.int 0)) ρ (h ++ [.dT (eT T)]) = ret (.int ((getI T k).getD 0)) (h ++ [.dT (eT T)]) := by
  unfold dGet2
  rw [eo, bindR_ret]
  simp only [get_last, ei, bindR_ret, dC_]
  show (match keyD (k.map D.int), keyL (k.map D.int) with | true, some key => ret ((valD (eT T) key).getD (.int 0)) _ | _, _ => none) = _
  rw [keyD_eW h3, keyL_eW]
  simp only [valD_eT]
  cases getI T k <;> rfl
theorem stD_ {T : Tb} {h : DH} {k : List Int} {n : Int} (h3 : key3 k) (hl : T.length ≤ 1000) {fo fi fv : DE} {ρ : Ev} (eo : fo ρ (h ++ [.dT (eT T)]) = ret (.ref h.length) (h ++ [.dT (eT T)])) (ei : fi ρ (h ++ [.dT (eT T)]) = ret (eW k) (h ++ [.dT (eT T)]))
    (ev : fv ρ (h ++ [.dT (eT T)]) = ret (.int n) (h ++ [.dT (eT T)])) : sStD fo fi fv ρ (h ++ [.dT (eT T)]) = some (.nx ρ, h ++ [.dT (eT (putI T k n))]) := by
  unfold sStD
  rw [ev, bindS_ret, eo, bindS_ret, ei, bindS_ret]
  show (match (h ++ [O.dT (eT T)])[h.length]?, keyD (k.map D.int), keyL (k.map D.int) with
    | some (.dT kvs), true, some key => if okLen (kvs.length + 1) then some (SR.nx ρ, (h ++ [O.dT (eT T)]).set h.length (.dT (putD kvs key (.int n)))) else none
    | _, _, _ => none) = _
  rw [get_last, keyD_eW h3, keyL_eW]
  have ok : okLen ((eT T).length + 1) = true := decide_eq_true (by unfold eT; rw [List.length_map]; omega)
  simp only [ok, if_true, set_last, putD_eT]
theorem fl_step {T : Tb} {h : DH} {W P : D} {pt : Rm} {l : Int} (hl : lok l) (hT : T.length ≤ 1000) (x3 : Option D) :
    flBody [some W, some P, some (.ref h.length), x3, some (.int l), some (eP pt), some (eP (nxt pt l))] (h ++ [.dT (eT T)]) =
      some (.nx [some W, some P, some (.ref h.length), some (eW (edge pt l)), some (.int l), some (eP pt), some (eP (nxt pt l))], h ++ [.dT (eT (putI T (edge pt l) ((getI T (edge pt l)).getD 0 + sg l)))]) := by
  have e1 : sAsg (dIf (dTest (dBin oGt (dV 4) (dC (.int 0)))) (dTup (aStar (dV 5) (aCons (dV 4) aNil))) (dTup (aStar (dV 6) (aCons (dUn uNeg (dV 4)) aNil)))) (gN 3) [some W, some P, some (.ref h.length), x3, some (.int l), some (eP pt), some (eP (nxt pt l))] (h ++ [.dT (eT T)]) =
      some (.nx [some W, some P, some (.ref h.length), some (eW (edge pt l)), some (.int l), some (eP pt), some (eP (nxt pt l))], h ++ [.dT (eT T)]) := by
    rcases hl with rfl | rfl | rfl | rfl <;> rfl
  have e2 := get2_ (T := T) (h := h) (k := edge pt l) (edge3 pt l) (fo := dV 2) (fi := dV 3) (ρ := [some W, some P, some (.ref h.length), some (eW (edge pt l)), some (.int l), some (eP pt), some (eP (nxt pt l))]) rfl rfl
  have e3 : dIf (dTest (dBin oGt (dV 4) (dC (.int 0)))) (dC (.int 1)) (dUn uNeg (dC (.int 1))) [some W, some P, some (.ref h.length), some (eW (edge pt l)), some (.int l), some (eP pt), some (eP (nxt pt l))] (h ++ [.dT (eT T)]) = ret (.int (sg l)) (h ++ [.dT (eT T)]) := by
    rcases hl with rfl | rfl | rfl | rfl <;> rfl
  have e4 : dBin oAdd (dGet2 (dV 2) (dV 3) (dC (.int 0))) (dIf (dTest (dBin oGt (dV 4) (dC (.int 0)))) (dC (.int 1)) (dUn uNeg (dC (.int 1)))) [some W, some P, some (.ref h.length), some (eW (edge pt l)), some (.int l), some (eP pt), some (eP (nxt pt l))] (h ++ [.dT (eT T)]) = ret (.int ((getI T (edge pt l)).getD 0 + sg l)) (h ++ [.dT (eT T)]) := by
    simp only [dBin_, e2, e3, bindR_ret, oAdd_]
  simp only [flBody, sSeq_, e1, seqS_nx]
  exact stD_ (edge3 pt l) hT rfl rfl e4
theorem fl_loop (h : DH) (W P : D) : ∀ (w : List Int) (T : Tb) (pt : Rm) (x3 x4 x5 x6 : Option D), wOk w → T.length + w.length ≤ 1000 →
    ∃ y3 y4 y5 y6, forGo sT flG flBody (zs pt w) [some W, some P, some (.ref h.length), x3, x4, x5, x6] (h ++ [.dT (eT T)]) = some (.nx [some W, some P, some (.ref h.length), y3, y4, y5, y6], h ++ [.dT (eT (flowT T pt w))])
  | [], T, pt, x3, x4, x5, x6, _, _ => ⟨x3, x4, x5, x6, forGo_nil⟩
  | l :: w, T, pt, x3, x4, x5, x6, hw, hl => by
    have hlen := len_putI T (edge pt l) ((getI T (edge pt l)).getD 0 + sg l)
    obtain ⟨y3, y4, y5, y6, ih⟩ := fl_loop h W P w (putI T (edge pt l) ((getI T (edge pt l)).getD 0 + sg l)) (nxt pt l) (some (eW (edge pt l))) (some (.int l)) (some (eP pt)) (some (eP (nxt pt l))) hw.tail (by simp at hl; omega)
    refine ⟨y3, y4, y5, y6, ?_⟩
    show forGo sT flG flBody (.tup [.int l, eP pt, eP (nxt pt l)] :: zs (nxt pt l) w) _ _ = _
    rw [forGo_g (l := [(4, .int l), (5, eP pt), (6, eP (nxt pt l))]) rfl]
    have e := fl_step (T := T) (h := h) (W := W) (P := P) (pt := pt) (hw.2 l List.mem_cons_self) (by simp at hl; omega) x3
    show loopK (flBody [some W, some P, some (.ref h.length), x3, some (.int l), some (eP pt), some (eP (nxt pt l))] (h ++ [.dT (eT T)])) _ = _
    rw [e, loopK_nx]
    exact ih
theorem flowT_inv : ∀ (w : List Int) (T : Tb) (pt : Rm), (∀ e ∈ T, key3 e.1) → (T.map (·.1)).Nodup → (∀ e ∈ flowT T pt w, key3 e.1) ∧ ((flowT T pt w).map (·.1)).Nodup ∧ (flowT T pt w).length ≤ T.length + w.length
  | [], T, pt, h3, nd => ⟨h3, nd, by show T.length ≤ _; simp⟩
  | l :: w, T, pt, h3, nd => by
    have h3' : ∀ e ∈ putI T (edge pt l) ((getI T (edge pt l)).getD 0 + sg l), key3 e.1 := fun e he => by
      have : e.1 ∈ (putI T (edge pt l) ((getI T (edge pt l)).getD 0 + sg l)).map (·.1) := List.mem_map_of_mem he
      rw [keys_putI] at this
      have hm : e.1 ∈ T.map (·.1) ∨ e.1 = edge pt l := by
        split at this
        · exact .inl this
        · rcases List.mem_append.mp this with z | z
          · exact .inl z
          · exact .inr (List.mem_singleton.mp z)
      rcases hm with z | z
      · obtain ⟨x, hx, ex⟩ := List.mem_map.mp z
        rw [← ex]
        exact h3 x hx
      · rw [z]; exact edge3 pt l
    obtain ⟨a, b, c⟩ := flowT_inv w _ (nxt pt l) h3' (nodup_putI nd _ _)
    refine ⟨a, b, Nat.le_trans c ?_⟩
    have := len_putI T (edge pt l) ((getI T (edge pt l)).getD 0 + sg l)
    simp
    omega
theorem last_pts : ∀ (w : List Int) (pt : Rm), ∃ r, (ptsF pt w).map eP = r ++ [eP (endP pt w)]
  | [], pt => ⟨[], rfl⟩
  | l :: w, pt => by
    obtain ⟨r, e⟩ := last_pts w (nxt pt l)
    exact ⟨eP pt :: r, by show eP pt :: (ptsF (nxt pt l) w).map eP = _; rw [e]; rfl⟩
def eF (pt : Rm) (T : Tb) : D := .tup [eP pt, .tup (T.map eE)]
theorem cl_tab (n : Nat) : ∀ T : Tb, clL n (T.map eE) = true
  | [] => rfl
  | e :: T => by
    have ci : ∀ k : List Int, clL n (k.map D.int) = true := by
      intro k
      induction k with
      | nil => rfl
      | cons a k ih => exact ih
    show (clD n (eE e) && clL n (T.map eE)) = true
    rw [cl_tab n T]
    have : clD n (eE e) = true := by
      show (clL n (e.1.map D.int) && (true && true)) = true
      rw [ci]
      rfl
    rw [this]
    rfl
theorem e_flow_in {w : List Int} (hw : wOk w) (h : DH) : φ_p_flow_in [eW w] h = ret (eF (endP (0, 0) w) (toldI (flowT [] (0, 0) w))) h := by
  obtain ⟨y3, y4, y5, y6, lp⟩ := fl_loop h (eW w) (.tup ((ptsF (0, 0) w).map eP)) w [] (0, 0) none none none none hw (by have := hw.1; simp; omega)
  obtain ⟨i1, i2, i3⟩ := flowT_inv w [] (0, 0) (fun e he => by cases he) List.nodup_nil
  refine runF_gc (t := [.dT (eT (flowT [] (0, 0) w))]) rfl (by show (true && (true && (clL h.length ((toldI (flowT [] (0, 0) w)).map eE) && true))) = true; rw [cl_tab]; rfl) ?_
  show b_p_flow_in [some (eW w), none, none, none, none, none, none] h = _
  have ne : (ptsF (0, 0) w).map eP ≠ [] := by
    cases w <;> exact fun z => by cases z
  have e0 : sPar 1 2 (aCons (dFn 1 φ_p_walk_in (aCons (dV 0) aNil)) (aCons dNewT aNil)) [some (eW w), none, none, none, none, none, none] h = some (.nx [some (eW w), some (.tup ((ptsF (0, 0) w).map eP)), some (.ref h.length), none, none, none, none], h ++ [.dT (eT [])]) := by
    simp only [sPar_, aCons_, dFn_, dV_0, aNil_, bindR_ret, List.length, if_true, e_walk_in hw]
    rfl
  have ez : iZip3 (dV 0) (dV 1) (dSlT (dV 1) (pSo (dC (.int 1))) pNo) [some (eW w), some (.tup ((ptsF (0, 0) w).map eP)), some (.ref h.length), none, none, none, none] (h ++ [.dT (eT [])]) = ret (zs (0, 0) w, sT) (h ++ [.dT (eT [])]) := by
    have e1 : dSlT (dV 1) (pSo (dC (.int 1))) pNo [some (eW w), some (.tup ((ptsF (0, 0) w).map eP)), some (.ref h.length), none, none, none, none] (h ++ [.dT (eT [])]) = ret (.tup (((ptsF (0, 0) w).map eP).drop 1)) (h ++ [.dT (eT [])]) := by
      rw [← cut_tail _ ne]
      rfl
    unfold iZip3
    rw [dV_0, bindR_ret, dV_1, bindR_ret, e1, bindR_ret]
    show ret (zip3D (w.map D.int) ((ptsF (0, 0) w).map eP) (((ptsF (0, 0) w).map eP).drop 1), sT) _ = _
    rw [zip3_zs]
  simp only [b_p_flow_in, sSeq_, e0, seqS_nx]
  rw [sFor_tup ez, lp]
  obtain ⟨r, er⟩ := last_pts w (0, 0)
  have el : oIx (.tup ((ptsF (0, 0) w).map eP)) (.int (-1)) (h ++ [.dT (eT (flowT [] (0, 0) w))]) = ret (eP (endP (0, 0) w)) (h ++ [.dT (eT (flowT [] (0, 0) w))]) := by
    rw [oIx_, er, atI_last]
  have et := e_told (T := flowT [] (0, 0) w) i1 i2 (by have := hw.1; simp at i3; omega) (h := h ++ [.dT (eT (flowT [] (0, 0) w))]) (k := h.length) get_last
  simp only [seqS_nx, sRet_, dTup_, aCons_, dBin_, dV_1, dV_2, dUn_, dC_, uNeg_, bindR_ret, el, dFn_, aNil_, List.length, if_true, et]
  rfl
end Pl

set_option Elab.async false
set_option autoImplicit false
set_option linter.all false
set_option maxRecDepth 100000
set_option maxHeartbeats 2000000
set_option exponentiation.threshold 10000
namespace Pl
open Dt Wk
open PySem (Str)

/-! ### folded flows -/
def plc (p : Int) : List Int → List Int
  | [i, j, w] => [i % (p - 1), j % (p - 1), w]
  | k => k
def foldT (p : Int) (T : Tb) : Tb → Tb
  | [] => T
  | e :: E => foldT p (putI T (plc p e.1) (((getI T (plc p e.1)).getD 0 + e.2) % p)) E
theorem plc3 {p : Int} {k : List Int} (h : key3 k) : key3 (plc p k) := by
  match k, h with
  | [a, b, c], _ => rfl
theorem pm1 : ∀ p ∈ P6, 0 < p - 1 := by decide
abbrev ffG : Pt := gT 2 (gC (gT 3 (gC (gN 5) (gC (gN 6) (gC (gN 7) gN0)))) (gC (gN 8) gN0))
abbrev ffBody : DS := sSeq (sAsg (dTup (aCons (dBin oMod (dV 5) (dV 2)) (aCons (dBin oMod (dV 6) (dV 2)) (aCons (dV 7) aNil)))) (gN 4))
  (sStD (dV 3) (dV 4) (dBin oMod (dBin oAdd (dGet2 (dV 3) (dV 4) (dC (.int 0))) (dV 8)) (dV 0)))
theorem ff_step {p : Int} (hp : pOk p) {T : Tb} {h : DH} {F : D} {i j w n : Int} (hT : T.length ≤ 1000) (x4 x9 : Option D) :
    ffBody [some (.int p), some F, some (.int (p - 1)), some (.ref h.length), x4, some (.int i), some (.int j), some (.int w), some (.int n), x9] (h ++ [.dT (eT T)]) =
      some (.nx [some (.int p), some F, some (.int (p - 1)), some (.ref h.length), some (eW (plc p [i, j, w])), some (.int i), some (.int j), some (.int w), some (.int n), x9],
        h ++ [.dT (eT (putI T (plc p [i, j, w]) (((getI T (plc p [i, j, w])).getD 0 + n) % p)))]) := by
  have h1 := pm1 p hp
  have e1 : sAsg (dTup (aCons (dBin oMod (dV 5) (dV 2)) (aCons (dBin oMod (dV 6) (dV 2)) (aCons (dV 7) aNil)))) (gN 4) [some (.int p), some F, some (.int (p - 1)), some (.ref h.length), x4, some (.int i), some (.int j), some (.int w), some (.int n), x9] (h ++ [.dT (eT T)]) =
      some (.nx [some (.int p), some F, some (.int (p - 1)), some (.ref h.length), some (eW (plc p [i, j, w])), some (.int i), some (.int j), some (.int w), some (.int n), x9], h ++ [.dT (eT T)]) := by
    have d7 : dV 7 [some (.int p), some F, some (.int (p - 1)), some (.ref h.length), x4, some (.int i), some (.int j), some (.int w), some (.int n), x9] (h ++ [.dT (eT T)]) = ret (.int w) (h ++ [.dT (eT T)]) := rfl
    simp only [sAsg_, dTup_, aCons_, dBin_, dV_5, dV_6, dV_2, d7, aNil_, bindR_ret, oModP h1]
    rfl
  have e2 := get2_ (T := T) (h := h) (k := plc p [i, j, w]) (plc3 (k := [i, j, w]) rfl) (fo := dV 3) (fi := dV 4) (ρ := [some (.int p), some F, some (.int (p - 1)), some (.ref h.length), some (eW (plc p [i, j, w])), some (.int i), some (.int j), some (.int w), some (.int n), x9]) rfl rfl
  have d8 : dV 8 [some (.int p), some F, some (.int (p - 1)), some (.ref h.length), some (eW (plc p [i, j, w])), some (.int i), some (.int j), some (.int w), some (.int n), x9] (h ++ [.dT (eT T)]) = ret (.int n) (h ++ [.dT (eT T)]) := rfl
  have e4 : dBin oMod (dBin oAdd (dGet2 (dV 3) (dV 4) (dC (.int 0))) (dV 8)) (dV 0) [some (.int p), some F, some (.int (p - 1)), some (.ref h.length), some (eW (plc p [i, j, w])), some (.int i), some (.int j), some (.int w), some (.int n), x9] (h ++ [.dT (eT T)]) = ret (.int (((getI T (plc p [i, j, w])).getD 0 + n) % p)) (h ++ [.dT (eT T)]) := by
    simp only [dBin_, e2, d8, dV_0, bindR_ret, oAdd_, oModP hp.pos]
  simp only [ffBody, sSeq_, e1, seqS_nx]
  exact stD_ (plc3 (k := [i, j, w]) rfl) hT rfl rfl e4
theorem ff_loop {p : Int} (hp : pOk p) (h : DH) (F : D) (x9 : Option D) : ∀ (E T : Tb) (x4 x5 x6 x7 x8 : Option D), (∀ e ∈ E, key3 e.1) → T.length + E.length ≤ 1000 →
    ∃ y4 y5 y6 y7 y8, forGo sT ffG ffBody (E.map eE) [some (.int p), some F, some (.int (p - 1)), some (.ref h.length), x4, x5, x6, x7, x8, x9] (h ++ [.dT (eT T)]) =
      some (.nx [some (.int p), some F, some (.int (p - 1)), some (.ref h.length), y4, y5, y6, y7, y8, x9], h ++ [.dT (eT (foldT p T E))])
  | [], T, x4, x5, x6, x7, x8, _, _ => ⟨x4, x5, x6, x7, x8, forGo_nil⟩
  | e :: E, T, x4, x5, x6, x7, x8, h3, hl => by
    obtain ⟨k, n⟩ := e
    have hk := h3 (k, n) List.mem_cons_self
    match k, hk with
    | [i, j, w], _ =>
      have hlen := len_putI T (plc p [i, j, w]) (((getI T (plc p [i, j, w])).getD 0 + n) % p)
      obtain ⟨y4, y5, y6, y7, y8, ih⟩ := ff_loop hp h F x9 E (putI T (plc p [i, j, w]) (((getI T (plc p [i, j, w])).getD 0 + n) % p)) (some (eW (plc p [i, j, w]))) (some (.int i)) (some (.int j)) (some (.int w)) (some (.int n)) (fun e he => h3 e (List.mem_cons_of_mem _ he)) (by simp at hl; omega)
      refine ⟨y4, y5, y6, y7, y8, ?_⟩
      rw [List.map_cons]
      rw [forGo_g (l := [(5, .int i), (6, .int j), (7, .int w), (8, .int n)]) rfl]
      have e := ff_step hp (T := T) (h := h) (F := F) (i := i) (j := j) (w := w) (n := n) (by simp at hl; omega) x4 x9
      show loopK (ffBody [some (.int p), some F, some (.int (p - 1)), some (.ref h.length), x4, some (.int i), some (.int j), some (.int w), some (.int n), x9] (h ++ [.dT (eT T)])) _ = _
      rw [e, loopK_nx]
      exact ih
theorem foldT_inv {p : Int} : ∀ (E T : Tb), (∀ e ∈ E, key3 e.1) → (∀ e ∈ T, key3 e.1) → (T.map (·.1)).Nodup → (∀ e ∈ foldT p T E, key3 e.1) ∧ ((foldT p T E).map (·.1)).Nodup ∧ (foldT p T E).length ≤ T.length + E.length
  | [], T, _, h3, nd => ⟨h3, nd, by show T.length ≤ _; simp⟩
  | e :: E, T, hE, h3, nd => by
    have hk := hE e List.mem_cons_self
    have h3' : ∀ x ∈ putI T (plc p e.1) (((getI T (plc p e.1)).getD 0 + e.2) % p), key3 x.1 := fun x hx => by
      have : x.1 ∈ (putI T (plc p e.1) (((getI T (plc p e.1)).getD 0 + e.2) % p)).map (·.1) := List.mem_map_of_mem hx
      rw [keys_putI] at this
      have hm : x.1 ∈ T.map (·.1) ∨ x.1 = plc p e.1 := by
        split at this
        · exact .inl this
        · rcases List.mem_append.mp this with z | z
          · exact .inl z
          · exact .inr (List.mem_singleton.mp z)
      rcases hm with z | z
      · obtain ⟨y, hy, ey⟩ := List.mem_map.mp z
        rw [← ey]
        exact h3 y hy
      · rw [z]; exact plc3 hk
    obtain ⟨a, b, c⟩ := foldT_inv E _ (fun x hx => hE x (List.mem_cons_of_mem _ hx)) h3' (nodup_putI nd _ _)
    refine ⟨a, b, Nat.le_trans c ?_⟩
    have := len_putI T (plc p e.1) (((getI T (plc p e.1)).getD 0 + e.2) % p)
    simp
    omega
theorem e_flow_folded {p : Int} (hp : pOk p) (pt : Rm) (E : Tb) (h3 : ∀ e ∈ E, key3 e.1) (hl : E.length ≤ 1000) (h : DH) : φ_p_flow_folded [.int p, eF pt E] h = ret (eF (pt.1 % (p - 1), pt.2 % (p - 1)) (toldI (foldT p [] E))) h := by
  have h1 := pm1 p hp
  obtain ⟨y4, y5, y6, y7, y8, lp⟩ := ff_loop hp h (eF pt E) none E [] none none none none none h3 (by simp; omega)
  obtain ⟨i1, i2, i3⟩ := foldT_inv (p := p) E [] h3 (fun e he => by cases he) List.nodup_nil
  refine runF_gc (t := [.dT (eT (foldT p [] E))]) rfl (by show (true && (true && (clL h.length ((toldI (foldT p [] E)).map eE) && true))) = true; rw [cl_tab]; rfl) ?_
  show b_p_flow_folded [some (.int p), some (eF pt E), none, none, none, none, none, none, none, none] h = _
  have e0 : sPar 2 3 (aCons (dBin oSub (dV 0) (dC (.int 1))) (aCons dNewT aNil)) [some (.int p), some (eF pt E), none, none, none, none, none, none, none, none] h = some (.nx [some (.int p), some (eF pt E), some (.int (p - 1)), some (.ref h.length), none, none, none, none, none, none], h ++ [.dT (eT [])]) := rfl
  have es : iSeq (dBin oIx (dV 1) (dC (.int 1))) [some (.int p), some (eF pt E), some (.int (p - 1)), some (.ref h.length), none, none, none, none, none, none] (h ++ [.dT (eT [])]) = ret (E.map eE, sT) (h ++ [.dT (eT [])]) := iSeq_ _ _ _ _ rfl
  simp only [b_p_flow_folded, sSeq_, e0, seqS_nx]
  rw [sFor_tup es, lp]
  have et := e_told (T := foldT p [] E) i1 i2 (by simp at i3; omega) (h := h ++ [.dT (eT (foldT p [] E))]) (k := h.length) get_last
  have ea : sAsg (dBin oIx (dV 1) (dC (.int 0))) (gN 9) [some (.int p), some (eF pt E), some (.int (p - 1)), some (.ref h.length), y4, y5, y6, y7, y8, none] (h ++ [.dT (eT (foldT p [] E))]) = some (.nx [some (.int p), some (eF pt E), some (.int (p - 1)), some (.ref h.length), y4, y5, y6, y7, y8, some (eP pt)], h ++ [.dT (eT (foldT p [] E))]) := rfl
  have d9 : dV 9 [some (.int p), some (eF pt E), some (.int (p - 1)), some (.ref h.length), y4, y5, y6, y7, y8, some (eP pt)] (h ++ [.dT (eT (foldT p [] E))]) = ret (eP pt) (h ++ [.dT (eT (foldT p [] E))]) := rfl
  simp only [seqS_nx, sSeq_, ea, sRet_, dTup_, aCons_, dBin_, d9, dV_2, dV_3, dC_, bindR_ret, ix_eP0, ix_eP1, oModP h1, aNil_, dFn_, List.length, show okLen (0 + 1 + 1) = true by decide, if_true, et]
  rfl
/-! ### == of flows -/
mutual
def it : D → Bool
  | .int _ => true
  | .tup xs => its xs
  | _ => false
def its : List D → Bool
  | [] => true
  | x :: xs => it x && its xs
end
mutual
theorem eqv_ints : ∀ (d e : D) (p q : PySem.PyData), toPy d = some p → toPy e = some q → it d = true → it e = true → PySem.PyData.eqv p q = true → d = e
  | .int i, .int j, p, q, e1, e2, _, _, h => by
    cases e1; cases e2
    have : (i == j) = true := h
    rw [eq_of_beq this]
  | .int i, .tup ys, p, q, e1, e2, _, _, h => by
    cases e1
    have e2 : (toPys ys).map PySem.PyData.tuple = some q := e2
    cases e3 : toPys ys with
    | none => rw [e3] at e2; cases e2
    | some qs => rw [e3] at e2; cases e2; cases h
  | .tup xs, .int j, p, q, e1, e2, _, _, h => by
    cases e2
    have e1 : (toPys xs).map PySem.PyData.tuple = some p := e1
    cases e3 : toPys xs with
    | none => rw [e3] at e1; cases e1
    | some ps => rw [e3] at e1; cases e1; cases h
  | .tup xs, .tup ys, p, q, e1, e2, h1, h2, h => by
    have e1 : (toPys xs).map PySem.PyData.tuple = some p := e1
    have e2 : (toPys ys).map PySem.PyData.tuple = some q := e2
    cases e3 : toPys xs with
    | none => rw [e3] at e1; cases e1
    | some ps =>
      cases e4 : toPys ys with
      | none => rw [e4] at e2; cases e2
      | some qs =>
        rw [e3] at e1
        rw [e4] at e2
        cases e1; cases e2
        rw [eqvs_ints xs ys ps qs e3 e4 h1 h2 (by simpa [PySem.PyData.eqv] using h)]
theorem eqvs_ints : ∀ (ds es : List D) (ps qs : List PySem.PyData), toPys ds = some ps → toPys es = some qs → its ds = true → its es = true → PySem.PyData.eqvAll ps qs = true → ds = es
  | [], [], _, _, _, _, _, _, _ => rfl
  | [], y :: ys, ps, qs, e1, e2, _, _, h => by
    cases e1
    have e2 : ((toPy y).bind fun p => (toPys ys).map fun ps => p :: ps) = some qs := e2
    cases e3 : toPy y with
    | none => rw [e3] at e2; cases e2
    | some q =>
      cases e4 : toPys ys with
      | none => rw [e3, e4] at e2; cases e2
      | some qs' => rw [e3, e4] at e2; cases e2; cases h
  | x :: xs, [], ps, qs, e1, e2, _, _, h => by
    cases e2
    have e1 : ((toPy x).bind fun p => (toPys xs).map fun ps => p :: ps) = some ps := e1
    cases e3 : toPy x with
    | none => rw [e3] at e1; cases e1
    | some q =>
      cases e4 : toPys xs with
      | none => rw [e3, e4] at e1; cases e1
      | some qs' => rw [e3, e4] at e1; cases e1; cases h
  | x :: xs, y :: ys, ps, qs, e1, e2, h1, h2, h => by
    have e1 : ((toPy x).bind fun p => (toPys xs).map fun ps => p :: ps) = some ps := e1
    have e2 : ((toPy y).bind fun p => (toPys ys).map fun ps => p :: ps) = some qs := e2
    obtain ⟨h1a, h1b⟩ := Bool.and_eq_true_iff.mp (show (it x && its xs) = true from h1)
    obtain ⟨h2a, h2b⟩ := Bool.and_eq_true_iff.mp (show (it y && its ys) = true from h2)
    cases e3 : toPy x with
    | none => rw [e3] at e1; cases e1
    | some p =>
      cases e4 : toPys xs with
      | none => rw [e3, e4] at e1; cases e1
      | some ps' =>
        rw [e3, e4] at e1
        cases e1
        cases e5 : toPy y with
        | none => rw [e5] at e2; cases e2
        | some q =>
          cases e6 : toPys ys with
          | none => rw [e5, e6] at e2; cases e2
          | some qs' =>
            rw [e5, e6] at e2
            cases e2
            have h' : PySem.PyData.eqv p q = true ∧ PySem.PyData.eqvAll ps' qs' = true := by simpa [PySem.PyData.eqvAll] using h
            rw [eqv_ints x y p q e3 e5 h1a h2a h'.1, eqvs_ints xs ys ps' qs' e4 e6 h1b h2b h'.2]
end
end Pl

set_option Elab.async false
set_option autoImplicit false
set_option linter.all false
set_option maxRecDepth 100000
set_option maxHeartbeats 2000000
set_option exponentiation.threshold 10000
namespace Pl
open Dt Wk
open PySem (Str PyData)

/-! ### == of whole numbers and tuples of them -/
def itn : Nat → D → Bool
  | _, .int _ => true
  | n + 1, .tup xs => xs.all (itn n)
  | _, _ => false
theorem itn_pys {n : Nat} (ih : ∀ d, itn n d = true → it d = true ∧ ∃ p, toPy d = some p ∧ p.canLay0 = true ∧ p.depth ≤ n) : ∀ xs : List D, xs.all (itn n) = true → its xs = true ∧ ∃ ps, toPys xs = some ps ∧ PyData.canLayAll0 ps = true ∧ PyData.depthAll ps ≤ n
  | [], _ => ⟨rfl, [], rfl, rfl, Nat.zero_le _⟩
  | x :: xs, h => by
    obtain ⟨h1, h2⟩ := Bool.and_eq_true_iff.mp (show (itn n x && xs.all (itn n)) = true from h)
    obtain ⟨a, p, ep, e1, e2⟩ := ih x h1
    obtain ⟨b, ps, eps, f1, f2⟩ := itn_pys ih xs h2
    refine ⟨by show (it x && its xs) = true; rw [a, b]; rfl, p :: ps, ?_, ?_, ?_⟩
    · show ((toPy x).bind fun p => (toPys xs).map fun ps => p :: ps) = _
      rw [ep, eps]; rfl
    · simp only [PyData.canLayAll0, e1, f1, Bool.and_self]
    · rw [PyData.depthAll.eq_2]; omega
theorem itn_py : ∀ (n : Nat) (d : D), itn n d = true → it d = true ∧ ∃ p, toPy d = some p ∧ p.canLay0 = true ∧ p.depth ≤ n
  | 0, .int i, _ => ⟨rfl, .int i, rfl, rfl, by rw [PyData.depth.eq_6]; omega⟩
  | n + 1, .int i, _ => ⟨rfl, .int i, rfl, rfl, by rw [PyData.depth.eq_6]; omega⟩
  | n + 1, .tup xs, h => by
    obtain ⟨b, ps, eps, f1, f2⟩ := itn_pys (fun d hd => itn_py n d hd) xs h
    refine ⟨b, .tuple ps, ?_, ?_, ?_⟩
    · show (toPys xs).map PyData.tuple = _
      rw [eps]; rfl
    · rw [PyData.canLay0.eq_6]; exact f1
    · rw [PyData.depth.eq_2]; omega
theorem toPyH_it {d : D} (hd : it d = true) (h : DH) : toPyH h d = toPy d := by
  cases d <;> first | rfl | cases hd
theorem oEq_itn {d e : D} (hd : itn 9 d = true) (he : itn 9 e = true) (h : DH) : ∃ c, oEq d e h = ret (.bl c) h ∧ (c = true → d = e) := by
  obtain ⟨a, p, ep, e1, e2⟩ := itn_py 9 d hd
  obtain ⟨b, q, eq, f1, f2⟩ := itn_py 9 e he
  refine ⟨PyData.eqv p q, ?_, fun z => eqv_ints d e p q ep eq a b z⟩
  unfold oEq
  rw [toPyH_it a, toPyH_it b, ep, eq]
  simp only
  rw [if_pos]
  unfold PySem.SeqAt.shaped
  rw [e1, f1, decide_eq_true (show p.depth ≤ 64 by omega), decide_eq_true (show q.depth ≤ 64 by omega)]
  rfl
theorem itn_ints (k : List Int) (n : Nat) : (k.map D.int).all (itn n) = true := by
  rw [List.all_map, List.all_eq_true]
  intro x _
  cases n <;> rfl
theorem itn_eF (pt : Rm) (T : Tb) : itn 9 (eF pt T) = true := by
  show ([eP pt, D.tup (T.map eE)].all (itn 8)) = true
  have h1 : itn 8 (D.tup (T.map eE)) = true := by
    show (T.map eE).all (itn 7) = true
    rw [List.all_map, List.all_eq_true]
    intro e _
    show ([eW e.1, D.int e.2].all (itn 6)) = true
    have : itn 6 (eW e.1) = true := itn_ints e.1 5
    simp only [List.all_cons, this, List.all_nil, Bool.and_true, Bool.true_and]
    rfl
  have h2 : itn 8 (eP pt) = true := rfl
  simp only [List.all_cons, h1, h2, List.all_nil, Bool.and_self]
theorem eE_inj {T U : Tb} (e : T.map eE = U.map eE) : T = U := by
  induction T generalizing U with
  | nil => cases U with
    | nil => rfl
    | cons u U => cases e
  | cons t T ih => cases U with
    | nil => cases e
    | cons u U =>
      rw [List.map_cons, List.map_cons] at e
      injection e with e1 e2
      rw [ih e2]
      unfold eE eW at e1
      injection e1 with e1
      injection e1 with e1 e3
      injection e3 with e3
      injection e3 with e3
      injection e1 with e1
      have inj : ∀ {a b : List Int}, a.map D.int = b.map D.int → a = b := by
        intro a
        induction a with
        | nil => intro b z; cases b with
          | nil => rfl
          | cons => cases z
        | cons x a ih => intro b z; cases b with
          | nil => cases z
          | cons y b =>
            rw [List.map_cons, List.map_cons] at z
            injection z with z1 z2
            injection z1 with z1
            rw [ih z2, z1]
      obtain ⟨t1, t2⟩ := t
      obtain ⟨u1, u2⟩ := u
      rw [show t1 = u1 from inj e1, show t2 = u2 from e3]
theorem eF_inj {p q : Rm} {T U : Tb} (e : eF p T = eF q U) : p = q ∧ T = U := by
  unfold eF eP at e
  injection e with e
  injection e with e1 e2
  injection e2 with e2
  injection e2 with e2
  injection e1 with e1
  injection e1 with e1 e3
  injection e3 with e3
  injection e1 with e1
  injection e3 with e3
  obtain ⟨p1, p2⟩ := p
  obtain ⟨q1, q2⟩ := q
  exact ⟨by rw [show p1 = q1 from e1, show p2 = q2 from e3], eE_inj e2⟩
theorem len_told {T : Tb} : (toldI T).length ≤ T.length := by
  unfold toldI
  refine Nat.le_trans (List.length_filterMap_le _ _) ?_
  rw [(sortI_perm _).length_eq, List.length_map]
  exact Nat.le_refl _
theorem told3 {T : Tb} (h : ∀ e ∈ T, key3 e.1) : ∀ e ∈ toldI T, key3 e.1 := fun e he => by
  unfold toldI at he
  obtain ⟨k, hk, ek⟩ := List.mem_filterMap.mp he
  split at ek
  · cases ek
  · cases ek
    have := (sortI_perm _).mem_iff.mp hk
    obtain ⟨x, hx, ex⟩ := List.mem_map.mp this
    rw [← ex]
    exact h x hx
/-! ### what a flow weighs -/
def pw (p x i : Int) : Int := x ^ (i % (p - 1)).toNat % p
def wt (p : Int) (a b : Rm) : List Int → Int
  | [i, j, w] => pw p a.1 i * pw p b.1 j * (if w = 1 then a.2 else b.2)
  | _ => 0
theorem pw_all : ∀ p ∈ P6, ∀ x ∈ resid p, x ≠ 0 → ∀ i ∈ resid (p - 1), (x ^ i.toNat % p * x) % p = x ^ (if i + 1 = p - 1 then 0 else i + 1).toNat % p := by decide +kernel
theorem pw_succ {p x : Int} (hp : pOk p) (h0 : 0 < x) (h1 : x < p) (i : Int) : pw p x i * x % p = pw p x (i + 1) := by
  have hq := pm1 p hp
  have r0 := Int.emod_nonneg i (by omega : p - 1 ≠ 0)
  have r1 := Int.emod_lt_of_pos i hq
  have e := pw_all p hp x (mem_resid (by omega) h1) (by omega) (i % (p - 1)) (mem_resid r0 r1)
  have g : (if i % (p - 1) + 1 = p - 1 then 0 else i % (p - 1) + 1) = (i + 1) % (p - 1) := by
    have t : (i + 1) % (p - 1) = (i % (p - 1) + 1) % (p - 1) := by rw [Int.emod_add_emod]
    rw [t]
    by_cases hc : i % (p - 1) + 1 = p - 1
    · rw [if_pos hc, hc, Int.emod_self]
    · rw [if_neg hc]; exact (Int.emod_eq_of_lt (by omega) (by omega)).symm
  unfold pw
  rw [e, g]
theorem pw_zero {p x : Int} : pw p x 0 = 1 % p := by
  unfold pw
  rw [Int.zero_emod, Int.toNat_zero, Int.pow_zero]
theorem pw_mod {p x i : Int} : pw p x (i % (p - 1)) = pw p x i := by
  unfold pw
  rw [Int.emod_emod_of_dvd _ (Int.dvd_refl _)]
theorem wt_plc {p : Int} {a b : Rm} {k : List Int} : wt p a b (plc p k) = wt p a b k := by
  match k with
  | [] => rfl
  | [_] => rfl
  | [_, _] => rfl
  | [i, j, w] =>
    show pw p a.1 (i % (p - 1)) * pw p b.1 (j % (p - 1)) * _ = pw p a.1 i * pw p b.1 j * _
    rw [pw_mod, pw_mod]
  | _ :: _ :: _ :: _ :: _ => rfl
theorem evT_fold {p : Int} (w : List Int → Int) (hw : ∀ k, w (plc p k) = w k) : ∀ (E T : Tb), (T.map (·.1)).Nodup → (evT w (foldT p T E)) % p = (evT w T + evT w E) % p
  | [], T, _ => by show _ = (evT w T + 0) % p; rw [Int.add_zero]; rfl
  | e :: E, T, nd => by
    have ih := evT_fold w hw E (putI T (plc p e.1) (((getI T (plc p e.1)).getD 0 + e.2) % p)) (nodup_putI nd _ _)
    show evT w (foldT p (putI T (plc p e.1) (((getI T (plc p e.1)).getD 0 + e.2) % p)) E) % p = (evT w T + (e.2 * w e.1 + evT w E)) % p
    rw [ih, evT_put nd, hw]
    have d : ∀ g x : Int, ∃ z : Int, (g + x) % p - g = x + p * z := fun g x => ⟨-((g + x) / p), by have := Int.emod_add_mul_ediv (g + x) p; grind⟩
    obtain ⟨z, ez⟩ := d ((getI T (plc p e.1)).getD 0) e.2
    rw [ez]
    rw [show evT w T + (e.2 + p * z) * w e.1 + evT w E = evT w T + (e.2 * w e.1 + evT w E) + p * (z * w e.1) by grind]
    exact Int.add_mul_emod_self_left _ _ _
/-! ### a flow says the word's rest map -/
def cg (p x y : Int) : Prop := ∃ z, x = y + p * z
theorem cg.of {p x y : Int} (h : x % p = y % p) : cg p x y := ⟨x / p - y / p, by have := Int.emod_add_mul_ediv x p; have := Int.emod_add_mul_ediv y p; grind⟩
theorem cg.to {p x y : Int} (h : cg p x y) : x % p = y % p := by
  obtain ⟨z, rfl⟩ := h
  exact Int.add_mul_emod_self_left _ _ _
theorem cg.md (p x : Int) : cg p (x % p) x := ⟨-(x / p), by have := Int.emod_add_mul_ediv x p; grind⟩
theorem cg.refl (p x : Int) : cg p x x := ⟨0, by grind⟩
theorem cg.symm {p x y : Int} (h : cg p x y) : cg p y x := by obtain ⟨z, rfl⟩ := h; exact ⟨-z, by grind⟩
theorem cg.trans {p x y z : Int} (h : cg p x y) (g : cg p y z) : cg p x z := by obtain ⟨a, rfl⟩ := h; obtain ⟨b, rfl⟩ := g; exact ⟨a + b, by grind⟩
theorem cg.add {p x y u v : Int} (h : cg p x y) (g : cg p u v) : cg p (x + u) (y + v) := by obtain ⟨a, rfl⟩ := h; obtain ⟨b, rfl⟩ := g; exact ⟨a + b, by grind⟩
theorem cg.sub {p x y u v : Int} (h : cg p x y) (g : cg p u v) : cg p (x - u) (y - v) := by obtain ⟨a, rfl⟩ := h; obtain ⟨b, rfl⟩ := g; exact ⟨a - b, by grind⟩
theorem cg.mul {p x y u v : Int} (h : cg p x y) (g : cg p u v) : cg p (x * u) (y * v) := by obtain ⟨a, rfl⟩ := h; obtain ⟨b, rfl⟩ := g; exact ⟨a * v + b * y + p * (a * b), by grind⟩
theorem cg.eq {p x y : Int} (h : cg p x y) (h1 : 0 ≤ x) (h2 : x < p) (h3 : 0 ≤ y) (h4 : y < p) : x = y := by
  have := h.to
  rwa [Int.emod_eq_of_lt h1 h2, Int.emod_eq_of_lt h3 h4] at this
theorem iv_cg {p n : Int} (hp : pOk p) (hn : n % p ≠ 0) : cg p (n * iv p n) 1 := cg.of (iv_spec hp hn).1
/-- pw one step back -/
theorem pw_pred {p x : Int} (hp : pOk p) (h0 : 0 < x) (h1 : x < p) (i : Int) : cg p (pw p x i * iv p x) (pw p x (i - 1)) := by
  have hx : x % p ≠ 0 := by rw [Int.emod_eq_of_lt (by omega) h1]; omega
  have e := pw_succ hp h0 h1 (i - 1)
  rw [show i - 1 + 1 = i by omega] at e
  rw [← e]
  have c1 : cg p (pw p x (i - 1) * x % p) (pw p x (i - 1) * x) := cg.md _ _
  have c2 := (c1.mul (cg.refl p (iv p x)))
  have c3 := (cg.refl p (pw p x (i - 1))).mul (iv_cg hp hx)
  rw [Int.mul_one] at c3
  rw [show pw p x (i - 1) * (x * iv p x) = pw p x (i - 1) * x * iv p x by grind] at c3
  exact c2.trans c3
theorem flow_word {p : Int} {a b : Rm} (hp : pOk p) (ha : fit p a) (hb : fit p b) : ∀ (w : List Int) (T : Tb) (pt f : Rm), (∀ l ∈ w, lok l) → (T.map (·.1)).Nodup → cg p f.1 (pw p a.1 pt.1 * pw p b.1 pt.2) → cg p f.2 (evT (wt p a b) T) →
    cg p (rWord p a b f w).1 (pw p a.1 (endP pt w).1 * pw p b.1 (endP pt w).2) ∧ cg p (rWord p a b f w).2 (evT (wt p a b) (flowT T pt w))
  | [], T, pt, f, _, _, h1, h2 => ⟨h1, h2⟩
  | l :: w, T, pt, f, hw, nd, h1, h2 => by
    have goal : cg p (rBeh p f (rl p a b l)).1 (pw p a.1 (nxt pt l).1 * pw p b.1 (nxt pt l).2) ∧ cg p (rBeh p f (rl p a b l)).2 (evT (wt p a b) (putI T (edge pt l) ((getI T (edge pt l)).getD 0 + sg l))) := by
      rw [evT_put nd, show (getI T (edge pt l)).getD 0 + sg l - (getI T (edge pt l)).getD 0 = sg l by omega]
      obtain ⟨x, y⟩ := pt
      have m1 : cg p (rBeh p f (rl p a b l)).1 (pw p a.1 x * pw p b.1 y * (rl p a b l).1) := (cg.md _ _).trans (h1.mul (cg.refl _ _))
      have m2 : cg p (rBeh p f (rl p a b l)).2 (pw p a.1 x * pw p b.1 y * (rl p a b l).2 + evT (wt p a b) T) := (cg.md _ _).trans ((h1.mul (cg.refl _ _)).add h2)
      rcases hw l List.mem_cons_self with rfl | rfl | rfl | rfl
      · have er : rl p a b 1 = a := rfl
        have en : nxt (x, y) 1 = (x + 1, y) := rfl
        have ee : edge (x, y) 1 = [x, y, 1] := rfl
        rw [er] at m1 m2 ⊢
        rw [en, ee]
        have s := cg.of (show (pw p a.1 x * a.1) % p = pw p a.1 (x + 1) % p by rw [← pw_succ hp ha.1.1 ha.1.2, Int.emod_emod_of_dvd _ (Int.dvd_refl _)])
        refine ⟨m1.trans ?_, m2.trans ?_⟩
        · have := s.mul (cg.refl p (pw p b.1 y))
          rw [show pw p a.1 x * pw p b.1 y * a.1 = pw p a.1 x * a.1 * pw p b.1 y by grind]
          exact this
        · show cg p _ (evT (wt p a b) T + 1 * (pw p a.1 x * pw p b.1 y * a.2))
          rw [show pw p a.1 x * pw p b.1 y * a.2 + evT (wt p a b) T = evT (wt p a b) T + 1 * (pw p a.1 x * pw p b.1 y * a.2) by grind]
          exact cg.refl _ _
      · have er : rl p a b (-1) = rInv p a := rfl
        have en : nxt (x, y) (-1) = (x - 1, y) := rfl
        have ee : edge (x, y) (-1) = [x - 1, y, 1] := rfl
        rw [er] at m1 m2 ⊢
        rw [en, ee]
        have s := pw_pred hp ha.1.1 ha.1.2 x
        refine ⟨m1.trans ?_, m2.trans ?_⟩
        · have := s.mul (cg.refl p (pw p b.1 y))
          show cg p (pw p a.1 x * pw p b.1 y * iv p a.1) _
          rw [show pw p a.1 x * pw p b.1 y * iv p a.1 = pw p a.1 x * iv p a.1 * pw p b.1 y by grind]
          exact this
        · show cg p _ (evT (wt p a b) T + (-1) * (pw p a.1 (x - 1) * pw p b.1 y * a.2))
          have c : cg p (rInv p a).2 (-(iv p a.1) * a.2) := cg.md _ _
          have c2 := ((cg.refl p (pw p a.1 x * pw p b.1 y)).mul c).add (cg.refl p (evT (wt p a b) T))
          refine c2.trans ?_
          have c3 := (cg.refl p (evT (wt p a b) T)).add ((cg.refl p (-1)).mul ((s.mul (cg.refl p (pw p b.1 y))).mul (cg.refl p a.2)))
          rw [show evT (wt p a b) T + -1 * (pw p a.1 x * iv p a.1 * pw p b.1 y * a.2) = pw p a.1 x * pw p b.1 y * (-iv p a.1 * a.2) + evT (wt p a b) T by grind] at c3
          exact c3
      · have er : rl p a b 2 = b := rfl
        have en : nxt (x, y) 2 = (x, y + 1) := rfl
        have ee : edge (x, y) 2 = [x, y, 2] := rfl
        rw [er] at m1 m2 ⊢
        rw [en, ee]
        have s := cg.of (show (pw p b.1 y * b.1) % p = pw p b.1 (y + 1) % p by rw [← pw_succ hp hb.1.1 hb.1.2, Int.emod_emod_of_dvd _ (Int.dvd_refl _)])
        refine ⟨m1.trans ?_, m2.trans ?_⟩
        · have := (cg.refl p (pw p a.1 x)).mul s
          rw [show pw p a.1 x * pw p b.1 y * b.1 = pw p a.1 x * (pw p b.1 y * b.1) by grind]
          exact this
        · show cg p _ (evT (wt p a b) T + 1 * (pw p a.1 x * pw p b.1 y * b.2))
          rw [show pw p a.1 x * pw p b.1 y * b.2 + evT (wt p a b) T = evT (wt p a b) T + 1 * (pw p a.1 x * pw p b.1 y * b.2) by grind]
          exact cg.refl _ _
      · have er : rl p a b (-2) = rInv p b := rfl
        have en : nxt (x, y) (-2) = (x, y - 1) := rfl
        have ee : edge (x, y) (-2) = [x, y - 1, 2] := rfl
        rw [er] at m1 m2 ⊢
        rw [en, ee]
        have s := pw_pred hp hb.1.1 hb.1.2 y
        refine ⟨m1.trans ?_, m2.trans ?_⟩
        · have := (cg.refl p (pw p a.1 x)).mul s
          show cg p (pw p a.1 x * pw p b.1 y * iv p b.1) _
          rw [show pw p a.1 x * pw p b.1 y * iv p b.1 = pw p a.1 x * (pw p b.1 y * iv p b.1) by grind]
          exact this
        · show cg p _ (evT (wt p a b) T + (-1) * (pw p a.1 x * pw p b.1 (y - 1) * b.2))
          have c : cg p (rInv p b).2 (-(iv p b.1) * b.2) := cg.md _ _
          have c2 := ((cg.refl p (pw p a.1 x * pw p b.1 y)).mul c).add (cg.refl p (evT (wt p a b) T))
          refine c2.trans ?_
          have c3 := (cg.refl p (evT (wt p a b) T)).add ((cg.refl p (-1)).mul (((cg.refl p (pw p a.1 x)).mul s).mul (cg.refl p b.2)))
          rw [show evT (wt p a b) T + -1 * (pw p a.1 x * (pw p b.1 y * iv p b.1) * b.2) = pw p a.1 x * pw p b.1 y * (-iv p b.1 * b.2) + evT (wt p a b) T by grind] at c3
          exact c3
    exact flow_word hp ha hb w _ (nxt pt l) _ (fun x hx => hw x (List.mem_cons_of_mem _ hx)) (nodup_putI nd _ _) goal.1 goal.2
/-- folded flows that are the same: the same rest maps -/
theorem word_same {p : Int} {a b : Rm} (hp : pOk p) (ha : fit p a) (hb : fit p b) {v w : List Int} (hv : wOk v) (hw : wOk w)
    (e1 : ((endP (0, 0) v).1 % (p - 1), (endP (0, 0) v).2 % (p - 1)) = ((endP (0, 0) w).1 % (p - 1), (endP (0, 0) w).2 % (p - 1)))
    (e2 : toldI (foldT p [] (toldI (flowT [] (0, 0) v))) = toldI (foldT p [] (toldI (flowT [] (0, 0) w)))) : rWord p a b (1, 0) v = rWord p a b (1, 0) w := by
  have st : cg p ((1, 0) : Rm).1 (pw p a.1 ((0, 0) : Rm).1 * pw p b.1 ((0, 0) : Rm).2) := by
    show cg p 1 (pw p a.1 0 * pw p b.1 0)
    rw [pw_zero, pw_zero]
    have := (cg.md p 1).mul (cg.md p 1)
    exact this.symm
  have fv := flow_word hp ha hb v [] (0, 0) (1, 0) hv.2 List.nodup_nil st (cg.refl p 0)
  have fw := flow_word hp ha hb w [] (0, 0) (1, 0) hw.2 List.nodup_nil st (cg.refl p 0)
  have gv := fit_rWord hp ha hb v (1, 0) (fit_one hp)
  have gw := fit_rWord hp ha hb w (1, 0) (fit_one hp)
  have tb : ∀ u : List Int, wOk u → cg p (evT (wt p a b) (flowT [] (0, 0) u)) (evT (wt p a b) (toldI (foldT p [] (toldI (flowT [] (0, 0) u))))) := fun u hu => by
    obtain ⟨i1, i2, i3⟩ := flowT_inv u [] (0, 0) (fun e he => by cases he) List.nodup_nil
    have h3 : ∀ e ∈ toldI (flowT [] (0, 0) u), key3 e.1 := told3 i1
    obtain ⟨j1, j2, j3⟩ := foldT_inv (p := p) (toldI (flowT [] (0, 0) u)) [] h3 (fun e he => by cases he) List.nodup_nil
    rw [evT_told j2]
    have := evT_fold (p := p) (wt p a b) (fun k => wt_plc) (toldI (flowT [] (0, 0) u)) [] List.nodup_nil
    rw [evT_told i2] at this
    rw [show evT (wt p a b) [] + evT (wt p a b) (flowT [] (0, 0) u) = evT (wt p a b) (flowT [] (0, 0) u) from Int.zero_add _] at this
    exact (cg.of this).symm
  have p1 : cg p (rWord p a b (1, 0) v).1 (rWord p a b (1, 0) w).1 := by
    refine fv.1.trans (cg.trans ?_ fw.1.symm)
    injection e1 with x1 x2
    rw [← pw_mod (p := p) (x := a.1) (i := (endP (0, 0) v).1), ← pw_mod (p := p) (x := b.1) (i := (endP (0, 0) v).2), x1, x2, pw_mod, pw_mod]
    exact cg.refl _ _
  have p2 : cg p (rWord p a b (1, 0) v).2 (rWord p a b (1, 0) w).2 := by
    refine fv.2.trans (cg.trans ?_ fw.2.symm)
    refine (tb v hv).trans (cg.trans ?_ (tb w hw).symm)
    rw [e2]
    exact cg.refl _ _
  have q1 := p1.eq (by have := gv.1.1; omega) gv.1.2 (by have := gw.1.1; omega) gw.1.2
  have q2 := p2.eq gv.2.1 gv.2.2 gw.2.1 gw.2.2
  exact Prod.ext q1 q2
/-! ### alike by rests -/
theorem e_alike_by_rests {p : Int} (hp : pOk p) {v w : List Int} (hv : wOk v) (hw : wOk w) (h : DH) : ∃ c, φ_p_alike_by_rests [.int p, eW v, eW w] h = ret (.bl c) h ∧
    (c = true → ∀ a b : Rm, fit p a → fit p b → rWord p a b (1, 0) v = rWord p a b (1, 0) w) := by
  obtain ⟨i1, i2, i3⟩ := flowT_inv v [] (0, 0) (fun e he => by cases he) List.nodup_nil
  obtain ⟨j1, j2, j3⟩ := flowT_inv w [] (0, 0) (fun e he => by cases he) List.nodup_nil
  obtain ⟨c, e, hc⟩ := oEq_itn (itn_eF ((endP (0, 0) v).1 % (p - 1), (endP (0, 0) v).2 % (p - 1)) (toldI (foldT p [] (toldI (flowT [] (0, 0) v))))) (itn_eF ((endP (0, 0) w).1 % (p - 1), (endP (0, 0) w).2 % (p - 1)) (toldI (foldT p [] (toldI (flowT [] (0, 0) w))))) h
  refine ⟨c, ?_, fun z a b ha hb => ?_⟩
  · refine runF_rt rfl ?_
    show b_p_alike_by_rests [some (.int p), some (eW v), some (eW w), none, none, none] h = _
    simp only [b_p_alike_by_rests, sSeq_, sAsg_, sPar_, dFn_, aCons_, dV_0, dV_1, dV_2, dV_3, dV_4, dV_5, aNil_, bindR_ret, List.length, if_true, e_sure_prime hp, e_sure_two hv, e_sure_two hw, bindS_ret, gN_, setE_1, seqS_nx, List.set, sRet_, dBin_, e_flow_in hv, e_flow_in hw,
      e_flow_folded hp _ _ (told3 i1) (by have := len_told (T := flowT [] (0, 0) v); have := hv.1; simp at i3; omega), e_flow_folded hp _ _ (told3 j1) (by have := len_told (T := flowT [] (0, 0) w); have := hw.1; simp at j3; omega), e]
  · obtain ⟨x, y⟩ := eF_inj (hc z)
    exact word_same hp ha hb hv hw x y
end Pl

set_option Elab.async false
set_option autoImplicit false
set_option linter.all false
set_option maxRecDepth 100000
set_option maxHeartbeats 2000000
set_option exponentiation.threshold 10000
namespace Pl
open Dt Wk
open PySem (Str PyData)

@[simp] theorem dV_7 (a0 a1 a2 a3 a4 a5 a6 : Option D) (d : D) (r : Ev) (h : DH) : dV 7 (a0 :: a1 :: a2 :: a3 :: a4 :: a5 :: a6 :: some d :: r) h = ret d h := rfl
@[simp] theorem dV_8 (a0 a1 a2 a3 a4 a5 a6 a7 : Option D) (d : D) (r : Ev) (h : DH) : dV 8 (a0 :: a1 :: a2 :: a3 :: a4 :: a5 :: a6 :: a7 :: some d :: r) h = ret d h := rfl
@[simp] theorem dV_9 (a0 a1 a2 a3 a4 a5 a6 a7 a8 : Option D) (d : D) (r : Ev) (h : DH) : dV 9 (a0 :: a1 :: a2 :: a3 :: a4 :: a5 :: a6 :: a7 :: a8 :: some d :: r) h = ret d h := rfl
@[simp] theorem dV_10 (a0 a1 a2 a3 a4 a5 a6 a7 a8 a9 : Option D) (d : D) (r : Ev) (h : DH) : dV 10 (a0 :: a1 :: a2 :: a3 :: a4 :: a5 :: a6 :: a7 :: a8 :: a9 :: some d :: r) h = ret d h := rfl
@[simp] theorem dV_11 (a0 a1 a2 a3 a4 a5 a6 a7 a8 a9 a10 : Option D) (d : D) (r : Ev) (h : DH) : dV 11 (a0 :: a1 :: a2 :: a3 :: a4 :: a5 :: a6 :: a7 :: a8 :: a9 :: a10 :: some d :: r) h = ret d h := rfl
@[simp] theorem dV_12 (a0 a1 a2 a3 a4 a5 a6 a7 a8 a9 a10 a11 : Option D) (d : D) (r : Ev) (h : DH) : dV 12 (a0 :: a1 :: a2 :: a3 :: a4 :: a5 :: a6 :: a7 :: a8 :: a9 :: a10 :: a11 :: some d :: r) h = ret d h := rfl
@[simp] theorem dV_13 (a0 a1 a2 a3 a4 a5 a6 a7 a8 a9 a10 a11 a12 : Option D) (d : D) (r : Ev) (h : DH) : dV 13 (a0 :: a1 :: a2 :: a3 :: a4 :: a5 :: a6 :: a7 :: a8 :: a9 :: a10 :: a11 :: a12 :: some d :: r) h = ret d h := rfl
@[simp] theorem dV_14 (a0 a1 a2 a3 a4 a5 a6 a7 a8 a9 a10 a11 a12 a13 : Option D) (d : D) (r : Ev) (h : DH) : dV 14 (a0 :: a1 :: a2 :: a3 :: a4 :: a5 :: a6 :: a7 :: a8 :: a9 :: a10 :: a11 :: a12 :: a13 :: some d :: r) h = ret d h := rfl
@[simp] theorem dV_15 (a0 a1 a2 a3 a4 a5 a6 a7 a8 a9 a10 a11 a12 a13 a14 : Option D) (d : D) (r : Ev) (h : DH) : dV 15 (a0 :: a1 :: a2 :: a3 :: a4 :: a5 :: a6 :: a7 :: a8 :: a9 :: a10 :: a11 :: a12 :: a13 :: a14 :: some d :: r) h = ret d h := rfl
/-! ### lists with a test -/
theorem lc_fil {i : Nat} {tt : DB} {te : DE} {ρ : Ev} {h : DH} (c : D → Bool) (f : D → D) : ∀ ds : List D, ds.length ≤ 1000000 → (∀ d ∈ ds, tt (ρ.set i (some d)) h = ret (c d) h ∧ (c d = true → te (ρ.set i (some d)) h = ret (f d) h)) →
    lcGo sT (gN i) tt te ρ ds h = ret ((ds.filter c).map f) h
  | [], _, _ => by unfold lcGo; exact if_pos (show sT h from trivial)
  | k :: ks, hl, he => by
    obtain ⟨e2, e3⟩ := he k List.mem_cons_self
    have ih := lc_fil c f ks (Nat.le_trans (Nat.le_succ _) hl) fun x hx => he x (List.mem_cons_of_mem _ hx)
    unfold lcGo
    rw [if_pos (show sT h from trivial)]
    simp only [gN_, setE_1, e2, bindR_ret]
    cases hc : c k with
    | true =>
      simp only [e3 hc, bindR_ret, if_true, ih]
      have : okLen ((ks.filter c).map f).length = true := decide_eq_true (by
        have := List.length_filter_le c ks
        simp at hl ⊢
        omega)
      rw [if_pos this, List.filter_cons, hc]
      rfl
    | false =>
      simp only [Bool.false_eq_true, if_false, ih]
      rw [List.filter_cons, hc]
      rfl
theorem lLc_fil {src : DI'} {i : Nat} {tt : DB} {te : DE} {own : List Nat} {ρ : Ev} {h : DH} {ds : List D} (c : D → Bool) (f : D → D) (hs : src ρ h = ret (ds, sT) h) (hl : ds.length ≤ 1000000)
    (he : ∀ d ∈ ds, tt ((wipeD ρ own).set i (some d)) h = ret (c d) h ∧ (c d = true → te ((wipeD ρ own).set i (some d)) h = ret (f d) h)) : lLc src (gN i) tt te own ρ h = ret ((ds.filter c).map f) h := by
  unfold lLc
  rw [hs, bindR_ret]
  simp only
  rw [lc_fil c f ds hl he]
  rfl
theorem rng_resid {p : Int} (hp : pOk p) : rangeD 0 p.toNat = (resid p).map D.int := by
  unfold rangeD resid
  rw [List.map_map]
  refine List.map_congr_left fun i _ => ?_
  show D.int (0 + (i : Int)) = D.int (i : Int)
  rw [Int.zero_add]
theorem iRng_p {p : Int} (hp : pOk p) {e : DE} {ρ : Ev} {h : DH} (he : e ρ h = ret (.int p) h) : Dt.iRng1 e ρ h = ret ((resid p).map D.int, sT) h := by
  unfold Dt.iRng1
  rw [he, bindR_ret]
  simp only
  have := hp.pos
  have := hp.lt
  rw [if_pos (by omega), rng_resid hp]
theorem resid_len {p : Int} (hp : pOk p) : ((resid p).map D.int).length ≤ 1000000 := by
  unfold resid
  have := hp.lt
  simp
  omega
theorem resid_bd {p r : Int} (h : r ∈ resid p) : 0 ≤ r ∧ r < p := by
  obtain ⟨i, hi, rfl⟩ := List.mem_map.mp h
  have := List.mem_range.mp hi
  omega
def isI (c : Int → Bool) : D → Bool
  | .int i => c i
  | _ => false
theorem filter_int (c : Int → Bool) (l : List Int) : (l.map D.int).filter (isI c) = (l.filter c).map D.int := by
  induction l with
  | nil => rfl
  | cons x l ih =>
    rw [List.map_cons, List.filter_cons, List.filter_cons, ih]
    show (if c x = true then _ else _) = _
    cases c x <;> rfl
/-! ### kept rests -/
def keptL (p : Int) (f : Rm) : List Int := (resid p).filter fun r => (f.1 * r + f.2) % p == r
theorem sz_res {p r : Int} (hp : pOk p) (h0 : 0 ≤ r) (h1 : r < p) : r.natAbs < 2 ^ 4 := by have := hp.lt; omega
theorem e_rest_kept {p : Int} {f : Rm} (hp : pOk p) (hf : fit p f) (h : DH) : φ_p_rest_kept [.int p, eP f] h = ret (.tup ((keptL p f).map D.int)) h := by
  refine runF_rt rfl ?_
  show b_p_rest_kept [some (.int p), some (eP f), none, none, none] h = _
  have el : lLc (Dt.iRng1 (dV 2)) (gN 4) (dTest (dBin oEq (dBin oMod (dBin oAdd (dBin oMul (dBin oIx (dV 3) (dC (.int 0))) (dV 4)) (dBin oIx (dV 3) (dC (.int 1)))) (dV 2)) (dV 4))) (dV 4) [4] [some (.int p), some (eP f), some (.int p), some (eP f), none] h =
      ret ((keptL p f).map D.int) h := by
    rw [lLc_fil (isI fun r => (f.1 * r + f.2) % p == r) id (iRng_p hp rfl) (resid_len hp)]
    · rw [filter_int, List.map_id]
      rfl
    · intro d hd
      obtain ⟨r, hr, rfl⟩ := List.mem_map.mp hd
      obtain ⟨r0, r1⟩ := resid_bd hr
      refine ⟨?_, fun _ => rfl⟩
      have s1 := hf.s1 hp
      have s2 := sz_res hp r0 r1
      simp only [wipeD, List.set, dTest_, dBin_, dV_2, dV_3, dV_4, dC_, bindR_ret, ix_eP0, ix_eP1, sm_mul s1 s2, oAdd_, oModP hp.pos, oEq_int, bD_bl]
      rfl
  simp only [b_p_rest_kept, sSeq_, sAsg_, dFn_, aCons_, dV_0, dV_1, dV_2, aNil_, bindR_ret, List.length, if_true, e_sure_prime hp, e_sure_rest_map hf, bindS_ret, gN_, setE_1, seqS_nx, List.set, sRet_, dL_, el, φTup_]
/-! ### a rest map between places -/
def rBtw (p a b c d : Int) : Rm := ((d - c) * iv p (b - a) % p, (c - (d - c) * iv p (b - a) % p * a) % p)
theorem e_rest_map_between {p a b c d : Int} (hp : pOk p) (ha : 0 ≤ a ∧ a < p) (hb : 0 ≤ b ∧ b < p) (hc : 0 ≤ c ∧ c < p) (hd : 0 ≤ d ∧ d < p) (hab : a ≠ b) (hcd : c ≠ d) (h : DH) :
    φ_p_rest_map_between [.int p, .int a, .int b, .int c, .int d] h = ret (eP (rBtw p a b c d)) h := by
  refine runF_rt rfl ?_
  show b_p_rest_map_between [some (.int p), some (.int a), some (.int b), some (.int c), some (.int d), none, none, none, none, none, none] h = _
  have l := hp.lt
  have n1 : (b - a) % p ≠ 0 := by
    intro z
    have := Int.emod_add_mul_ediv (b - a) p
    rw [z] at this
    have : (b - a) / p = 0 ∨ 1 ≤ (b - a) / p ∨ (b - a) / p ≤ -1 := by omega
    rcases this with q | q | q
    · rw [q] at this; omega
    · have := Int.mul_le_mul_of_nonneg_left q (by omega : (0 : Int) ≤ p); omega
    · have := Int.mul_le_mul_of_nonneg_left q (by omega : (0 : Int) ≤ p); omega
  have s1 : (d - c).natAbs < 2 ^ 4 := by omega
  have s2 := iv_sz hp n1
  have m0 := Int.emod_nonneg ((d - c) * iv p (b - a)) (by omega : p ≠ 0)
  have m1 := Int.emod_lt_of_pos ((d - c) * iv p (b - a)) hp.pos
  have s3 := sz_res hp m0 m1
  have s4 := sz_res hp ha.1 ha.2
  have e1 : (a == b) = false := by simpa using hab
  have e2 : (c == d) = false := by simpa using hcd
  simp only [b_p_rest_map_between, sSeq_, sAsg_, sPar_, dFn_, aCons_, dV_0, dV_1, dV_2, dV_3, dV_4, dV_5, dV_6, dV_7, dV_8, dV_9, dV_10, aNil_, bindR_ret, List.length, if_true, e_sure_prime hp, e_sure_rest ha.1 ha.2, e_sure_rest hb.1 hb.2, e_sure_rest hc.1 hc.2, e_sure_rest hd.1 hd.2,
    bindS_ret, gN_, setE_1, seqS_nx, List.set, sIf_, bOr_, dTest_, dBin_, oEq_int, bD_bl, e1, e2, Bool.false_eq_true, if_false, sNext_, oSub_, e_inverse_rest hp, sm_mul s1 s2, oModP hp.pos, sm_mul s3 s4, sRet_, dTup_]
  rfl
end Pl

set_option Elab.async false
set_option autoImplicit false
set_option linter.all false
set_option maxRecDepth 100000
set_option maxHeartbeats 2000000
set_option exponentiation.threshold 10000
namespace Pl
open Dt Wk
open PySem (Str PyData)

/-! ### the law's own rests -/
theorem back_all : ∀ p ∈ P6, ∀ n ∈ resid p, n ≠ 0 → ((resid p).filter fun r => r * n % p == 1 % p) = [iv p n] := by decide +kernel
theorem one_mod {p : Int} (hp : pOk p) : (1 : Int) % p = 1 := by
  have : ∀ p ∈ P6, (1 : Int) % p = 1 := by decide
  exact this p hp
theorem e_law_rest_back {p n : Int} (hp : pOk p) (h0 : 0 < n) (h1 : n < p) (h : DH) : φ_law_rest_back [.int p, .int n] h = ret (.int (iv p n)) h := by
  refine runF_rt rfl ?_
  show b_law_rest_back [some (.int p), some (.int n), none] h = _
  have el : lLc (Dt.iRng1 (dV 0)) (gN 2) (dTest (dBin oEq (dBin oMod (dBin oMul (dV 2) (dV 1)) (dV 0)) (dBin oMod (dC (.int 1)) (dV 0)))) (dV 2) [2] [some (.int p), some (.int n), none] h = ret [D.int (iv p n)] h := by
    rw [lLc_fil (isI fun r => r * n % p == 1 % p) id (iRng_p hp rfl) (resid_len hp)]
    · rw [filter_int, List.map_id, back_all p hp n (mem_resid (by omega) h1) (by omega)]
      rfl
    · intro d hd
      obtain ⟨r, hr, rfl⟩ := List.mem_map.mp hd
      obtain ⟨r0, r1⟩ := resid_bd hr
      refine ⟨?_, fun _ => rfl⟩
      have s1 := sz_res hp r0 r1
      have s2 := sz_res hp (by omega : 0 ≤ n) h1
      simp only [wipeD, List.set, dTest_, dBin_, dV_0, dV_1, dV_2, dC_, bindR_ret, sm_mul s1 s2, oModP hp.pos, oEq_int, bD_bl]
      rfl
  simp only [b_law_rest_back, sRet_]
  unfold dIxL
  rw [el, bindR_ret, dC_, bindR_ret]
  rfl
theorem e_law_rest_two {p : Int} {f g : Rm} (hp : pOk p) (hf : fit p f) (hg : fit p g) (h : DH) : φ_law_rest_two [.int p, eP f, eP g] h = ret (eP (rBeh p f g)) h := by
  refine runF_rt rfl ?_
  show b_law_rest_two [some (.int p), some (eP f), some (eP g)] h = _
  simp only [b_law_rest_two, sRet_, dTup_, aCons_, dBin_, dV_0, dV_1, dV_2, dC_, bindR_ret, ix_eP0, ix_eP1, sm_mul (hf.s1 hp) (hg.s1 hp), sm_mul (hf.s1 hp) (hg.s2 hp), oAdd_, oModP hp.pos, aNil_]
  rfl
theorem e_law_rest_undo {p : Int} {f : Rm} (hp : pOk p) (hf : fit p f) (h : DH) : φ_law_rest_undo [.int p, eP f] h = ret (eP (rInv p f)) h := by
  refine runF_rt rfl ?_
  show b_law_rest_undo [some (.int p), some (eP f), none] h = _
  have s := iv_sz hp hf.ne
  have s1 : (-(iv p f.1)).natAbs < 2 ^ 4 := by rw [Int.natAbs_neg]; exact s
  simp only [b_law_rest_undo, sSeq_, sAsg_, dFn_, aCons_, dBin_, dV_0, dV_1, dV_2, dC_, bindR_ret, ix_eP0, ix_eP1, aNil_, List.length, if_true, e_law_rest_back hp hf.1.1 hf.1.2, bindS_ret, gN_, setE_1, seqS_nx, List.set, sRet_, dTup_, dUn_, uNeg_, sm_mul s1 (hf.s2 hp), oModP hp.pos]
  rfl
noncomputable abbrev lwBody : DS := sSeq (sAsg (dBin oIx (dV 1) (dBin oSub (dCall fAbs (aCons (dV 5) aNil)) (dC (.int 1)))) (gN 4)) (sAsg (dFn 3 φ_law_rest_two (aCons (dV 0) (aCons (dV 3) (aCons (dIf (dTest (dBin oGt (dV 5) (dC (.int 0)))) (dV 4) (dFn 2 φ_law_rest_undo (aCons (dV 0) (aCons (dV 4) aNil)))) aNil)))) (gN 3))
theorem lw_loop {p : Int} {a b : Rm} (hp : pOk p) (ha : fit p a) (hb : fit p b) (h : DH) (W : D) : ∀ (w : List Int) (f : Rm) (x y : Option D), wOk w → fit p f →
    ∃ x' y', forGo sT (gN 5) lwBody (w.map D.int) [some (.int p), some (ePs a b), some W, some (eP f), x, y] h = some (.nx [some (.int p), some (ePs a b), some W, some (eP (rWord p a b f w)), x', y'], h)
  | [], f, x, y, _, _ => ⟨x, y, forGo_nil⟩
  | l :: w, f, x, y, hw, hf => by
    have eb := e_law_rest_two hp hf (fit_rl hp ha hb l) h
    obtain ⟨x', y', ih⟩ := lw_loop hp ha hb h W w (rBeh p f (rl p a b l)) (some (if l = 1 ∨ l = -1 then eP a else eP b)) (some (.int l)) hw.tail (fit_beh hp hf (fit_rl hp ha hb l))
    refine ⟨x', y', ?_⟩
    rw [List.map_cons, forGo_n]
    have step : lwBody ([some (.int p), some (ePs a b), some W, some (eP f), x, y].set 5 (some (.int l))) h =
        some (.nx [some (.int p), some (ePs a b), some W, some (eP (rBeh p f (rl p a b l))), some (if l = 1 ∨ l = -1 then eP a else eP b), some (.int l)], h) := by
      rcases hw.2 l List.mem_cons_self with rfl | rfl | rfl | rfl
      · have : rl p a b 1 = a := if_pos rfl
        rw [this] at eb ⊢
        have ei : oIx (ePs a b) (.int ((if (1 : Int) < 0 then -1 else 1) - 1)) h = ret (eP a) h := rfl
        simp only [lwBody, sSeq_, sAsg_, List.set, dFn_, aCons_, dBin_, dCall_, dV_0, dV_1, dV_3, dV_4, dV_5, dC_, aNil_, bindR_ret, fAbs_, oSub_, ei, bindS_ret, gN_, setE_1, seqS_nx, dIf_, dTest_, oGt_, bD_bl, show decide ((0 : Int) < 1) = true by decide, if_true, List.length, eb]
        rfl
      · have : rl p a b (-1) = rInv p a := by unfold rl; rw [if_neg (by decide), if_pos rfl]
        rw [this] at eb ⊢
        have ei : oIx (ePs a b) (.int ((if (-1 : Int) < 0 then - -1 else -1) - 1)) h = ret (eP a) h := rfl
        simp only [lwBody, sSeq_, sAsg_, List.set, dFn_, aCons_, dBin_, dCall_, dV_0, dV_1, dV_3, dV_4, dV_5, dC_, aNil_, bindR_ret, fAbs_, oSub_, ei, bindS_ret, gN_, setE_1, seqS_nx, dIf_, dTest_, oGt_, bD_bl, show decide ((0 : Int) < -1) = false by decide, Bool.false_eq_true, if_false, if_true, List.length, e_law_rest_undo hp ha, eb]
        rfl
      · have : rl p a b 2 = b := by unfold rl; rw [if_neg (by decide), if_neg (by decide), if_pos rfl]
        rw [this] at eb ⊢
        have ei : oIx (ePs a b) (.int ((if (2 : Int) < 0 then -2 else 2) - 1)) h = ret (eP b) h := rfl
        simp only [lwBody, sSeq_, sAsg_, List.set, dFn_, aCons_, dBin_, dCall_, dV_0, dV_1, dV_3, dV_4, dV_5, dC_, aNil_, bindR_ret, fAbs_, oSub_, ei, bindS_ret, gN_, setE_1, seqS_nx, dIf_, dTest_, oGt_, bD_bl, show decide ((0 : Int) < 2) = true by decide, if_true, List.length, eb]
        rfl
      · have : rl p a b (-2) = rInv p b := by unfold rl; rw [if_neg (by decide), if_neg (by decide), if_neg (by decide)]
        rw [this] at eb ⊢
        have ei : oIx (ePs a b) (.int ((if (-2 : Int) < 0 then - -2 else -2) - 1)) h = ret (eP b) h := rfl
        simp only [lwBody, sSeq_, sAsg_, List.set, dFn_, aCons_, dBin_, dCall_, dV_0, dV_1, dV_3, dV_4, dV_5, dC_, aNil_, bindR_ret, fAbs_, oSub_, ei, bindS_ret, gN_, setE_1, seqS_nx, dIf_, dTest_, oGt_, bD_bl, show decide ((0 : Int) < -2) = false by decide, Bool.false_eq_true, if_false, if_true, List.length, e_law_rest_undo hp hb, eb]
        rfl
    rw [step, loopK_nx]
    exact ih
theorem e_law_rest_led {p : Int} {a b : Rm} (hp : pOk p) (ha : fit p a) (hb : fit p b) {w : List Int} (hw : wOk w) (h : DH) : φ_law_rest_led [.int p, ePs a b, eW w] h = ret (eP (rWord p a b (1, 0) w)) h := by
  refine runF_rt rfl ?_
  show b_law_rest_led [some (.int p), some (ePs a b), some (eW w), none, none, none] h = _
  obtain ⟨x', y', lp⟩ := lw_loop hp ha hb h (eW w) w (1, 0) none none hw (fit_one hp)
  have e0 : sAsg (dTup (aCons (dBin oMod (dC (.int 1)) (dV 0)) (aCons (dC (.int 0)) aNil))) (gN 3) [some (.int p), some (ePs a b), some (eW w), none, none, none] h = some (.nx [some (.int p), some (ePs a b), some (eW w), some (eP (1, 0)), none, none], h) := by
    simp only [sAsg_, dTup_, aCons_, dBin_, dC_, dV_0, bindR_ret, oModP hp.pos, one_mod hp, aNil_]
    rfl
  simp only [b_law_rest_led, sSeq_, e0, seqS_nx]
  rw [sFor_tup (ds := w.map D.int) (iSeq_ _ _ _ _ rfl), lp]
  simp only [seqS_nx, sRet_, dV_3, bindS_ret]
/-- the rest of a fraction as the law says it -/
def lR (p : Int) (q : Rat) : D := if (q.den : Int) % p = 0 then .non else .int (rRat p q)
theorem e_law_rest {p : Int} {q : Rat} {k : Nat} (hp : pOk p) (hq : Sq k q) (h : DH) (hk : k ≤ 8000 := by omega) : φ_law_rest [.int p, eR q] h = ret (lR p q) h := by
  refine runF_rt rfl ?_
  show b_law_rest [some (.int p), some (eR q)] h = _
  have r0 := Int.emod_nonneg (q.den : Int) (by have := hp.pos; omega : p ≠ 0)
  have r1 := Int.emod_lt_of_pos (q.den : Int) hp.pos
  by_cases hd : (q.den : Int) % p = 0
  · unfold lR
    rw [if_pos hd]
    have e1 : ((q.den : Int) % p == 0) = true := by simpa using hd
    simp only [b_law_rest, sSeq_, sIf_, dTest_, dBin_, dV_0, dV_1, dC_, bindR_ret, ix_eR1, oModP hp.pos, oEq_int, e1, bD_bl, bindS_ret, if_true, sRet_, seqS_rt]
  · unfold lR
    rw [if_neg hd]
    have e1 : ((q.den : Int) % p == 0) = false := by simpa using hd
    have s2 := iv_sz hp hd
    simp only [b_law_rest, sSeq_, sIf_, dTest_, dBin_, dV_0, dV_1, dC_, bindR_ret, ix_eR1, ix_eR0, oModP hp.pos, oEq_int, e1, bD_bl, bindS_ret, Bool.false_eq_true, if_false, sNext_, seqS_nx, sRet_, dFn_, aCons_, aNil_, List.length, if_true, e_law_rest_back hp (by omega : 0 < (q.den : Int) % p) r1,
      sm_mul (Nat.lt_of_lt_of_le hq.n (Nat.pow_le_pow_right (by decide) (by omega : k ≤ 8000))) s2, iv_res]
    rfl
end Pl

set_option Elab.async false
set_option autoImplicit false
set_option linter.all false
set_option maxRecDepth 100000
set_option maxHeartbeats 2000000
set_option exponentiation.threshold 10000
namespace Pl
open Dt Wk
open PySem (Str PyData)

/-! ### the tin -/
def tinO (a b c : Int) : O := .lst [.int a, .int b, .int c]
def Tin (k N : Nat) (h : DH) : Prop := ∃ a b c : Int, h[k]? = some (tinO a b c) ∧ (0 ≤ a ∧ 0 ≤ b ∧ b.natAbs < 2 ^ 62 ∧ 0 ≤ c ∧ c ≤ N)
structure Ht (k N : Nat) (h h' : DH) : Prop where
  len : h.length ≤ h'.length
  tin : Tin k N h'
  fr : ∀ i, i < h.length → i ≠ k → h'[i]? = h[i]?
theorem Tin.lt {k N : Nat} {h : DH} (t : Tin k N h) : k < h.length := by
  obtain ⟨_, _, _, e, _⟩ := t
  exact (List.getElem?_eq_some_iff.mp e).1
theorem Tin.app {k N : Nat} {h : DH} (t : Tin k N h) (g : DH) : Tin k N (h ++ g) := by
  have hl := t.lt
  obtain ⟨a, b, c, e, o⟩ := t
  exact ⟨a, b, c, by rw [List.getElem?_append_left hl]; exact e, o⟩
theorem Tin.mono {k N M : Nat} {h : DH} (t : Tin k N h) (l : N ≤ M) : Tin k M h := by
  obtain ⟨a, b, c, e, o⟩ := t
  exact ⟨a, b, c, e, by omega⟩
theorem Ht.refl {k N : Nat} {h : DH} (t : Tin k N h) : Ht k N h h := ⟨Nat.le_refl _, t, fun _ _ _ => rfl⟩
theorem Ht.app {k N : Nat} {h : DH} (t : Tin k N h) (g : DH) : Ht k N h (h ++ g) := ⟨by simp, t.app g, fun i hi _ => List.getElem?_append_left hi⟩
theorem Ht.trans {k N M : Nat} {h h1 h2 : DH} (a : Ht k N h h1) (b : Ht k M h1 h2) : Ht k M h h2 :=
  ⟨Nat.le_trans a.len b.len, b.tin, fun i hi hk => (b.fr i (Nat.lt_of_lt_of_le hi a.len) hk).trans (a.fr i hi hk)⟩
theorem Ht.mono {k N M : Nat} {h h1 : DH} (a : Ht k N h h1) (l : N ≤ M) : Ht k M h h1 := ⟨a.len, a.tin.mono l, a.fr⟩
theorem Ht.cut {k N : Nat} {h h1 : DH} (a : Ht k N h h1) (hk : k < h.length) : Ht k N h (h1.take h.length) := by
  refine ⟨by rw [List.length_take]; have := a.len; omega, ?_, fun i hi hne => ?_⟩
  · obtain ⟨x, y, z, e, o⟩ := a.tin
    exact ⟨x, y, z, by rw [List.getElem?_take_of_lt hk]; exact e, o⟩
  · rw [List.getElem?_take_of_lt hi]; exact a.fr i hi hne
theorem runF_ht {p n k N : Nat} {f : DS} {ds : List D} {h h1 : DH} {d : D} (hp : ds.length = p) (e : f (ds.map some ++ List.replicate (n - p) none) h = some (.rt d, h1)) (t : Ht k N h h1) (hk : k < h.length) :
    ∃ h', runF p n f ds h = ret d h' ∧ Ht k N h h' := by
  rw [runF_eq hp, e]
  show ∃ h', gcF h (ret d h1) = ret d h' ∧ Ht k N h h'
  unfold gcF ret
  simp only
  split
  · exact ⟨_, rfl, t.cut hk⟩
  · exact ⟨_, rfl, t⟩
theorem ix_ref {h : DH} {k : Nat} {xs : List D} (e : h[k]? = some (.lst xs)) (i : Int) : oIx (.ref k) (.int i) h = (match L2.atI xs i with | some d => ret d h | none => none) := by
  show (match h[k]? with | some (.lst xs) => (match L2.atI xs i with | some d => ret d h | none => none) | _ => none) = _
  rw [e]
theorem len_ref {h : DH} {k : Nat} {xs : List D} (e : h[k]? = some (.lst xs)) : fLen [.ref k] h = ret (.int xs.length) h := by
  show (match h[k]? with | some (.lst xs) => ret (D.int xs.length) h | _ => none) = _
  rw [e]
theorem st_ref {fo fi fv : DE} {ρ : Ev} {h : DH} {k j : Nat} {xs : List D} {i : Int} {v : D} (ev : fv ρ h = ret v h) (eo : fo ρ h = ret (.ref k) h) (ei : fi ρ h = ret (.int i) h) (e : h[k]? = some (.lst xs)) (ej : L2.ixN xs.length i = some j) :
    sStL fo fi fv ρ h = some (.nx ρ, h.set k (.lst (xs.set j v))) := by
  unfold sStL
  rw [ev, bindS_ret, eo, bindS_ret, ei, bindS_ret]
  simp only [e, ej]
theorem set_get {h : DH} {k : Nat} (hk : k < h.length) (o : O) : (h.set k o)[k]? = some o := by
  rw [List.getElem?_set_self hk]
theorem Ht.set {k N : Nat} {h : DH} (hk : k < h.length) {a b c : Int} (o : 0 ≤ a ∧ 0 ≤ b ∧ b.natAbs < 2 ^ 62 ∧ 0 ≤ c ∧ c ≤ N) : Ht k N h (h.set k (tinO a b c)) :=
  ⟨by simp, ⟨a, b, c, set_get hk _, o⟩, fun i hi hne => List.getElem?_set_ne (Ne.symm hne)⟩
theorem dOk {n : Int} (h0 : 0 < n) (h1 : n < 1073741824) : divOk n = true := decide_eq_true ⟨by omega, .inl (by omega)⟩
theorem oDivP {a n : Int} (h0 : 0 < n) (h1 : n < 1073741824) (h : DH) : oDiv (.int a) (.int n) h = ret (.int (a / n)) h := by
  rw [oDiv_ (dOk h0 h1), Int.fdiv_eq_ediv_of_nonneg _ (by omega)]
theorem e_law_take {k N : Nat} {h : DH} (t : Tin k N h) (hN : N ≤ 1000) {n : Int} (n0 : 0 < n) (n1 : n ≤ 100) : ∃ v h', φ_law_take [.ref k, .int n] h = ret (.int v) h' ∧ (0 ≤ v ∧ v < n) ∧ Ht k (N + 1) h h' := by
  have hk := t.lt
  obtain ⟨a, b, c, e, o⟩ := t
  obtain ⟨oa, ob, ob2, oc, oc2⟩ := o
  by_cases ha : 0 < a
  · have eb : b_law_take ([D.ref k, D.int n].map some ++ List.replicate (6 - 2) none) h = some (.rt (.int (a % n)), h.set k (tinO (a / n) b c)) := by
      show b_law_take [some (.ref k), some (.int n), none, none, none, none] h = _
      have e1 := st_ref (fo := dV 0) (fi := dC (.int 0)) (fv := dBin oDiv (dBin oIx (dV 0) (dC (.int 0))) (dV 1)) (ρ := [some (.ref k), some (.int n), some (.int (a % n)), none, none, none]) (h := h) (k := k) (j := 0) (v := .int (a / n)) (xs := [.int a, .int b, .int c]) (i := 0)
        (by simp only [dBin_, dV_0, dV_1, dC_, bindR_ret, ix_ref e]; show bindR (ret (D.int a) h) _ = _; simp only [bindR_ret, oDivP n0 (by omega : n < 1073741824)]) rfl rfl e rfl
      have i0 : oIx (.ref k) (.int 0) h = ret (.int a) h := ix_ref e 0
      simp only [b_law_take, sSeq_, sIf_, dTest_, dBin_, dV_0, dV_1, dC_, bindR_ret, i0, oGt_, decide_eq_true ha, bD_bl, bindS_ret, if_true, sAsg_, dCall_, aCons_, aNil_, fInt_, oModP n0, gN_, setE_1, List.set, seqS_nx, e1, sRet_, dV_2, seqS_rt]
      rfl
    obtain ⟨h', e2, t2⟩ := runF_ht (k := k) (N := N + 1) rfl eb (Ht.set hk ⟨Int.ediv_nonneg oa (by omega), ob, ob2, oc, by omega⟩) hk
    exact ⟨a % n, h', e2, ⟨Int.emod_nonneg _ (by omega), Int.emod_lt_of_pos _ n0⟩, t2⟩
  · have s1 : (b + 48271 * (c + 1)).natAbs < 2 ^ 63 := by omega
    have s2 : (39373 + (c + 1)).natAbs < 2 ^ 16 := by omega
    generalize ho : (b + 48271 * (c + 1)) * (39373 + (c + 1)) % 2147483647 = once
    have q0 : 0 ≤ once := by rw [← ho]; exact Int.emod_nonneg _ (by decide)
    have q1 : once < 2147483647 := by rw [← ho]; exact Int.emod_lt_of_pos _ (by decide)
    generalize hw : once % 40009 + 7 = wide
    have w0 : 0 ≤ wide ∧ wide < 2 ^ 16 := by omega
    have b0 : 0 ≤ b / 1000003 ∧ b / 1000003 < 2 ^ 62 := by omega
    have s3 : (once + (c + 1) + b / 1000003).natAbs < 2 ^ 63 := by omega
    have s4 : wide.natAbs < 2 ^ 16 := by omega
    generalize htw : (once + (c + 1) + b / 1000003) * wide % 2147483629 = twice
    have t0 : 0 ≤ twice := by rw [← htw]; exact Int.emod_nonneg _ (by decide)
    have t1 : twice < 2147483629 := by rw [← htw]; exact Int.emod_lt_of_pos _ (by decide)
    have s5 : twice.natAbs < 2 ^ 32 := by omega
    have eb : b_law_take ([D.ref k, D.int n].map some ++ List.replicate (6 - 2) none) h = some (.rt (.int ((twice * 48271 + once) % 2147483587 / 64 % n)), h.set k (tinO a b (c + 1))) := by
      show b_law_take [some (.ref k), some (.int n), none, none, none, none] h = _
      have i0 : oIx (.ref k) (.int 0) h = ret (.int a) h := ix_ref e 0
      have i2 : oIx (.ref k) (.int 2) h = ret (.int c) h := ix_ref e 2
      have e1 := st_ref (fo := dV 0) (fi := dC (.int 2)) (fv := dBin oAdd (dBin oIx (dV 0) (dC (.int 2))) (dC (.int 1))) (ρ := [some (.ref k), some (.int n), none, none, none, none]) (h := h) (k := k) (j := 2) (v := .int (c + 1)) (xs := [.int a, .int b, .int c]) (i := 2)
        (by simp only [dBin_, dV_0, dC_, bindR_ret, i2, oAdd_]) rfl rfl e rfl
      have e' : (h.set k (tinO a b (c + 1)))[k]? = some (.lst [.int a, .int b, .int (c + 1)]) := set_get hk _
      have e1 : sStL (dV 0) (dC (.int 2)) (dBin oAdd (dBin oIx (dV 0) (dC (.int 2))) (dC (.int 1))) [some (.ref k), some (.int n), none, none, none, none] h = some (.nx [some (.ref k), some (.int n), none, none, none, none], h.set k (tinO a b (c + 1))) := e1
      have j1 : oIx (.ref k) (.int 1) (h.set k (tinO a b (c + 1))) = ret (.int b) (h.set k (tinO a b (c + 1))) := ix_ref e' 1
      have j2 : oIx (.ref k) (.int 2) (h.set k (tinO a b (c + 1))) = ret (.int (c + 1)) (h.set k (tinO a b (c + 1))) := ix_ref e' 2
      have m0 : (48271 : Int).natAbs < 2 ^ 16 := by decide
      have m1 : (c + 1).natAbs < 2 ^ 16 := by omega
      simp only [b_law_take, sSeq_, sIf_, dTest_, dBin_, dV_0, dV_1, dC_, bindR_ret, i0, oGt_, decide_eq_false ha, bD_bl, bindS_ret, Bool.false_eq_true, if_false, sNext_, seqS_nx, e1, sAsg_, dCall_, aCons_, aNil_, fInt_, j1, j2, sm_mul m0 m1, oAdd_, sm_mul s1 s2,
        oModP (show (0 : Int) < 2147483647 by decide), ho, gN_, setE_1, List.set, dV_3, oModP (show (0 : Int) < 40009 by decide), hw, dV_4, oDivP (show (0 : Int) < 1000003 by decide) (show (1000003 : Int) < 1073741824 by decide), sm_mul s3 s4, oModP (show (0 : Int) < 2147483629 by decide), htw,
        dV_5, sm_mul s5 m0, oModP (show (0 : Int) < 2147483587 by decide), oDivP (show (0 : Int) < 64 by decide) (show (64 : Int) < 1073741824 by decide), oModP n0, sRet_]
    obtain ⟨h', e2, t2⟩ := runF_ht (k := k) (N := N + 1) rfl eb (Ht.set hk ⟨oa, ob, ob2, by omega, by omega⟩) hk
    exact ⟨_, h', e2, ⟨Int.emod_nonneg _ (by omega), Int.emod_lt_of_pos _ n0⟩, t2⟩
theorem e_law_of {k j N : Nat} {h : DH} (t : Tin k N h) (hN : N ≤ 1000) {gs : List D} (e : h[j]? = some (.lst gs)) (hj : j ≠ k) (g0 : 0 < gs.length) (g1 : gs.length ≤ 100) : ∃ v h', φ_law_of [.ref k, .ref j] h = ret v h' ∧ v ∈ gs ∧ Ht k (N + 1) h h' := by
  have hk := t.lt
  obtain ⟨i, h1, e1, ⟨i0, i1⟩, t1⟩ := e_law_take t hN (n := gs.length) (by omega) (by omega)
  have hjl := (List.getElem?_eq_some_iff.mp e).1
  have e' : h1[j]? = some (.lst gs) := (t1.fr j hjl hj).trans e
  have hi : i.toNat < gs.length := by omega
  have ea : L2.atI gs i = some gs[i.toNat] := by
    unfold L2.atI L2.ixN
    simp only [i0, if_true]
    rw [if_pos (by omega)]
    simp [hi]
  have eb : b_law_of ([D.ref k, D.ref j].map some ++ List.replicate (2 - 2) none) h = some (.rt gs[i.toNat], h1) := by
    show b_law_of [some (.ref k), some (.ref j)] h = _
    simp only [b_law_of, sRet_, dBin_, dV_0, dV_1, bindR_ret, dFn_, aCons_, dCall_, aNil_, len_ref e, List.length, if_true, e1, ix_ref e', ea, bindS_ret]
  obtain ⟨h', e2, t2⟩ := runF_ht (k := k) rfl eb t1 hk
  exact ⟨_, h', e2, List.getElem_mem hi, t2⟩
/-- one of the things written -/
theorem of_lit {k N : Nat} {h : DH} (t : Tin k N h) (hN : N ≤ 1000) {g : DA} {ρ : Ev} {gs : List D} (e : g ρ h = ret [.ref k, .ref h.length] (h ++ [.lst gs])) (g0 : 0 < gs.length) (g1 : gs.length ≤ 100) : ∃ v h', dFn 2 φ_law_of g ρ h = ret v h' ∧ v ∈ gs ∧ Ht k (N + 1) h h' := by
  obtain ⟨v, h', e1, hv, t1⟩ := e_law_of (t.app [.lst gs]) hN (j := h.length) get_last (by have := t.lt; omega) g0 g1
  exact ⟨v, h', by rw [dFn_, e, bindR_ret]; simp only [List.length, if_true, e1], hv, (Ht.app t [.lst gs]).trans t1⟩
end Pl

set_option Elab.async false
set_option autoImplicit false
set_option linter.all false
set_option maxRecDepth 100000
set_option maxHeartbeats 2000000
set_option exponentiation.threshold 10000
namespace Pl
open Dt Wk
open PySem (Str PyData)

/-! ### what the law draws -/
abbrev lgC : DB := dTest (dBin oNe (dV 1) (dC (.int 0)))
abbrev lgB : DS := sPar 0 1 (aCons (dV 1) (aCons (dBin oMod (dV 0) (dV 1)) aNil))
theorem lg_step (h : DH) (a : Int) {n : Nat} (hp : 0 < n) : lgC [some (.int a), some (.int (n : Int))] h = ret true h ∧
    lgB [some (.int a), some (.int (n : Int))] h = some (.nx [some (.int (n : Int)), some (.int (a % (n : Int)))], h) := by
  constructor
  · have e0 : (((n : Nat) : Int) == 0) = false := beq_false_of_ne (by omega)
    simp only [lgC, dTest_, dBin_, dV_1, dC_, bindR_ret, oNe_int, e0, Bool.not_false, bD_bl]
  · simp only [lgB, sPar_, aCons_, dV_0, dV_1, bindR_ret, dBin_, aNil_, bindS_ret, oModP (show (0 : Int) < ((n : Nat) : Int) by omega)]
    rfl
theorem lg_loop (h : DH) : ∀ (n m : Nat), sWhile lgC lgB [some (.int (m : Int)), some (.int (n : Int))] h = some (.nx [some (.int (Nat.gcd m n : Nat)), some (.int 0)], h) := by
  intro n
  induction n using Nat.strongRecOn with
  | _ n ih =>
    intro m
    by_cases hn : n = 0
    · subst hn
      rw [sWhile_false (h1 := h) (by rfl), Nat.gcd_zero_right]
      rfl
    · have hp : 0 < n := Nat.pos_of_ne_zero hn
      obtain ⟨ec, e⟩ := lg_step h (m : Int) hp
      rw [sWhile_true ec, e, loopK_nx, ← Int.natCast_emod, ih (m % n) (Nat.mod_lt _ hp) n]
      rw [Nat.gcd_comm m n, Nat.gcd_rec n m, Nat.gcd_comm (m % n) n]
theorem gcd_step (a b : Int) : Int.gcd b (a % b) = Int.gcd a b := by
  rw [Int.emod_def, Int.gcd_comm a b]; simp
theorem div0 {a b : Int} (hb : 0 < b) (h : Rat.divInt a b = 0) : a = 0 := by
  obtain ⟨n, rfl⟩ := Int.eq_ofNat_of_zero_le (Int.le_of_lt hb)
  rw [Rat.divInt_ofNat] at h
  exact (Rat.mkRat_eq_zero (by omega)).mp h
theorem e_law_gcd {a b : Int} (hb : 0 < b) (h : DH) : φ_law_gcd [.int a, .int b] h = ret (.int (Int.gcd a b : Nat)) h := by
  refine runF_rt rfl ?_
  show b_law_gcd [some (.int a), some (.int b)] h = _
  obtain ⟨n, rfl⟩ := Int.eq_ofNat_of_zero_le (Int.le_of_lt hb)
  have hp : 0 < n := by omega
  obtain ⟨ec, e⟩ := lg_step h a hp
  have m0 : 0 ≤ a % (n : Int) := Int.emod_nonneg _ (by omega)
  obtain ⟨m, em⟩ := Int.eq_ofNat_of_zero_le m0
  have eg : Nat.gcd n m = Int.gcd a (n : Int) := by
    rw [← gcd_step, em]
    rfl
  have lp : sWhile lgC lgB [some (.int a), some (.int (n : Int))] h = some (.nx [some (.int (Nat.gcd n m : Nat)), some (.int 0)], h) := by
    rw [sWhile_true ec, e, loopK_nx, em]
    exact lg_loop h m n
  simp only [b_law_gcd, sSeq_]
  rw [lp, eg]
  simp only [seqS_nx, sRet_, dCall_, aCons_, dV_0, aNil_, bindR_ret, fAbs_, abs_int, bindS_ret, Int.natAbs_natCast]
theorem e_law_fr {a b : Int} (hb : 0 < b) (hb' : b < 1000000) (h : DH) : φ_law_fr [.int a, .int b] h = ret (eR (Rat.divInt a b)) h := by
  refine runF_rt rfl ?_
  show b_law_fr [some (.int a), some (.int b), none] h = _
  have hg : 0 < Int.gcd a b := Int.gcd_pos_of_ne_zero_right a (by omega)
  have hgb : Int.gcd a b ≤ b.natAbs := Nat.le_of_dvd (by omega) (Int.gcd_dvd_natAbs_right a b)
  have e1 : a / (Int.gcd a b : Nat) = (Rat.divInt a b).num := by
    rw [Rat.num_divInt, Int.gcd_comm b a, Int.sign_eq_one_of_pos hb, Int.one_mul]
  have e2 : b / (Int.gcd a b : Nat) = ((Rat.divInt a b).den : Int) := by
    rw [Rat.den_divInt, if_neg (by omega : b ≠ 0), Int.gcd_comm b a, Int.natCast_ediv, show (b.natAbs : Int) = b by omega]
  simp only [b_law_fr, sSeq_, sAsg_, dFn_, aCons_, dV_0, dV_1, aNil_, bindR_ret, List.length, if_true, e_law_gcd hb, bindS_ret, gN_, setE_1, seqS_nx, List.set, sRet_, dTup_, dBin_, dV_2, oDivP (show (0 : Int) < ((Int.gcd a b : Nat) : Int) by omega) (show ((Int.gcd a b : Nat) : Int) < 1073741824 by omega), e1, e2]
  rfl
theorem mem_ints {v : D} {xs : List Int} (hv : v ∈ xs.map D.int) : ∃ a, v = .int a ∧ a ∈ xs := by
  obtain ⟨a, ha, rfl⟩ := List.mem_map.mp hv
  exact ⟨a, rfl, ha⟩
theorem sq_fr {a b : Int} (hb : 0 < b) (hb' : b < 8) (ha : a.natAbs < 8) : Sq 3 (Rat.divInt a b) := sq_divInt (by omega) (by omega) (by omega)
/-- a place: a taken number and a bottom -/
theorem e_law_spot {k N i : Nat} {h : DH} {ρ : Ev} (t : Tin k N h) (hN : N ≤ 990) (ei : ∀ h', dV i ρ h' = ret (.ref k) h') :
    ∃ q h', dFn 2 φ_law_fr (aCons (dBin oSub (dFn 2 φ_law_take (aCons (dV i) (aCons (dC (.int 9)) aNil))) (dC (.int 4))) (aCons (dFn 2 φ_law_of (aCons (dV i) (aCons (dNum (lLst (aCons (dC (.int 1)) (aCons (dC (.int 1)) (aCons (dC (.int 2)) (aCons (dC (.int 3)) aNil)))))) aNil))) aNil)) ρ h = ret (eR q) h' ∧ Sq 3 q ∧ Ht k (N + 2) h h' := by
  obtain ⟨v, h1, e1, ⟨v0, v1⟩, t1⟩ := e_law_take t (by omega) (n := 9) (by decide) (by decide)
  have el : (aCons (dV i) (aCons (dNum (lLst (aCons (dC (.int 1)) (aCons (dC (.int 1)) (aCons (dC (.int 2)) (aCons (dC (.int 3)) aNil)))))) aNil)) ρ h1 = ret [.ref k, .ref h1.length] (h1 ++ [.lst ([1, 1, 2, 3].map D.int)]) := by
    rw [aCons_, ei, bindR_ret]
    rfl
  obtain ⟨w, h2, e2, hw, t2⟩ := of_lit t1.tin (by omega) el (by decide) (by decide)
  obtain ⟨b, rfl, hb⟩ := mem_ints hw
  have hb0 : 0 < b ∧ b < 8 := by
    have : ∀ b ∈ ([1, 1, 2, 3] : List Int), 0 < b ∧ b < 8 := by decide
    exact this b hb
  refine ⟨Rat.divInt (v - 4) b, h2, ?_, sq_fr hb0.1 hb0.2 (by omega), t1.trans t2⟩
  rw [dFn_, aCons_, dBin_, dFn_, aCons_, ei, bindR_ret, aCons_, dC_, bindR_ret, aNil_, bindR_ret, bindR_ret, bindR_ret]
  simp only [List.length, if_true, e1, bindR_ret, dC_, oSub_, aCons_]
  rw [e2]
  simp only [bindR_ret, aNil_, List.length, if_true, e_law_fr hb0.1 (by omega : b < 1000000)]
theorem e_law_map {k N : Nat} {h : DH} (t : Tin k N h) (hN : N ≤ 980) : ∃ m h', φ_law_map [.ref k] h = ret (eM m) h' ∧ Sm 3 m ∧ Ht k (N + 4) h h' := by
  have hk := t.lt
  have el : (aCons (dV 0) (aCons (dNum (lLst (aCons (dUn uNeg (dC (.int 3))) (aCons (dUn uNeg (dC (.int 2))) (aCons (dUn uNeg (dC (.int 1))) (aCons (dC (.int 1)) (aCons (dC (.int 2)) (aCons (dC (.int 2)) (aCons (dC (.int 3)) (aCons (dC (.int 4)) aNil)))))))))) aNil)) [some (.ref k), none] h = ret [.ref k, .ref h.length] (h ++ [.lst ([-3, -2, -1, 1, 2, 2, 3, 4].map D.int)]) := rfl
  obtain ⟨v, h1, e1, hv, t1⟩ := of_lit t (by omega) el (by decide) (by decide)
  obtain ⟨a, rfl, ha⟩ := mem_ints hv
  have ha0 : a ≠ 0 ∧ a.natAbs < 8 := by
    have : ∀ a ∈ ([-3, -2, -1, 1, 2, 2, 3, 4] : List Int), a ≠ 0 ∧ a.natAbs < 8 := by decide
    exact this a ha
  have el2 : (aCons (dV 0) (aCons (dNum (lLst (aCons (dC (.int 1)) (aCons (dC (.int 1)) (aCons (dC (.int 1)) (aCons (dC (.int 2)) (aCons (dC (.int 3)) aNil))))))) aNil)) [some (.ref k), none] h1 = ret [.ref k, .ref h1.length] (h1 ++ [.lst ([1, 1, 1, 2, 3].map D.int)]) := rfl
  obtain ⟨w, h2, e2, hw, t2⟩ := of_lit t1.tin (by omega) el2 (by decide) (by decide)
  obtain ⟨b, rfl, hb⟩ := mem_ints hw
  have hb0 : 0 < b ∧ b < 8 := by
    have : ∀ b ∈ ([1, 1, 1, 2, 3] : List Int), 0 < b ∧ b < 8 := by decide
    exact this b hb
  have t12 := t1.trans t2
  obtain ⟨q, h3, e3, hq, t3⟩ := e_law_spot (ρ := [some (.ref k), some (eR (Rat.divInt a b))]) (i := 0) t12.tin (by omega) fun _ => rfl
  have eb : b_law_map ([D.ref k].map some ++ List.replicate (2 - 1) none) h = some (.rt (eM (Rat.divInt a b, q)), h3) := by
    show b_law_map [some (.ref k), none] h = _
    have s1 : sAsg (dFn 2 φ_law_fr (aCons (dFn 2 φ_law_of (aCons (dV 0) (aCons (dNum (lLst (aCons (dUn uNeg (dC (.int 3))) (aCons (dUn uNeg (dC (.int 2))) (aCons (dUn uNeg (dC (.int 1))) (aCons (dC (.int 1)) (aCons (dC (.int 2)) (aCons (dC (.int 2)) (aCons (dC (.int 3)) (aCons (dC (.int 4)) aNil)))))))))) aNil))) (aCons (dFn 2 φ_law_of (aCons (dV 0) (aCons (dNum (lLst (aCons (dC (.int 1)) (aCons (dC (.int 1)) (aCons (dC (.int 1)) (aCons (dC (.int 2)) (aCons (dC (.int 3)) aNil))))))) aNil))) aNil))) (gN 1) [some (.ref k), none] h = some (.nx [some (.ref k), some (eR (Rat.divInt a b))], h2) := by
      rw [sAsg_, dFn_, aCons_, e1, bindR_ret, aCons_, e2, bindR_ret, aNil_, bindR_ret, bindR_ret, bindR_ret]
      simp only [List.length, if_true, e_law_fr hb0.1 (by omega : b < 1000000)]
      rfl
    rw [b_law_map, sSeq_, s1, seqS_nx, sRet_, dTup_, aCons_, dV_1, bindR_ret, aCons_, e3, bindR_ret, aNil_, bindR_ret, bindR_ret, bindR_ret]
    rfl
  obtain ⟨h', e', t'⟩ := runF_ht (k := k) rfl eb (t12.trans t3) hk
  refine ⟨_, h', e', ⟨sq_fr hb0.1 hb0.2 ha0.2, hq, ?_⟩, t'.mono (by omega)⟩
  intro hz
  have hz : Rat.divInt a b = 0 := hz
  exact ha0.1 (div0 hb0.1 hz)
theorem lc_tin {i k c : Nat} {te : DE} {ρ : Ev} (Q : D → Prop) : ∀ (ds : List D) (N : Nat) (h : DH), Tin k N h → N + c * ds.length ≤ 980 → ds.length ≤ 1000 → (∀ d ∈ ds, ∀ M h1, Tin k M h1 → M + c ≤ 980 → ∃ y h', te (ρ.set i (some d)) h1 = ret y h' ∧ Q y ∧ Ht k (M + c) h1 h') →
    ∃ ys h', lcGo sT (gN i) bYes te ρ ds h = ret ys h' ∧ ys.length = ds.length ∧ (∀ y ∈ ys, Q y) ∧ Ht k (N + c * ds.length) h h'
  | [], N, h, t, _, _, _ => ⟨[], h, by unfold lcGo; exact if_pos (show sT h from trivial), rfl, by simp, (Ht.refl t).mono (by omega)⟩
  | d :: ds, N, h, t, hN, hl, he => by
    rw [List.length_cons, Nat.mul_add, Nat.mul_one] at hN
    simp at hl
    obtain ⟨y, h1, e1, q1, t1⟩ := he d List.mem_cons_self N h t (by omega)
    obtain ⟨ys, h2, e2, l2, q2, t2⟩ := lc_tin Q ds (N + c) h1 t1.tin (by omega) (by omega) fun x hx => he x (List.mem_cons_of_mem _ hx)
    refine ⟨y :: ys, h2, ?_, by rw [List.length_cons, List.length_cons, l2], ?_, (t1.trans t2).mono (by rw [List.length_cons, Nat.mul_add, Nat.mul_one]; omega)⟩
    · unfold lcGo
      rw [if_pos (show sT h from trivial)]
      simp only [gN_, setE_1, bYes_, bindR_ret, if_true, e1, e2]
      rw [if_pos (show okLen ys.length = true from decide_eq_true (by omega))]
    · intro x hx
      rcases List.mem_cons.mp hx with rfl | hx
      · exact q1
      · exact q2 x hx
theorem lLc_tin {i k c N : Nat} {te : DE} {ρ : Ev} {src : DI'} {own : List Nat} {h h0 : DH} {ds : List D} (Q : D → Prop) (hs : src ρ h0 = ret (ds, sT) h) (t : Tin k N h) (hN : N + c * ds.length ≤ 980) (hl : ds.length ≤ 1000) (he : ∀ d ∈ ds, ∀ M h1, Tin k M h1 → M + c ≤ 980 → ∃ y h', te ((wipeD ρ own).set i (some d)) h1 = ret y h' ∧ Q y ∧ Ht k (M + c) h1 h') :
    ∃ ys h', lLc src (gN i) bYes te own ρ h0 = ret ys h' ∧ ys.length = ds.length ∧ (∀ y ∈ ys, Q y) ∧ Ht k (N + c * ds.length) h h' := by
  obtain ⟨ys, h', e, l, q, t'⟩ := lc_tin (te := te) (ρ := wipeD ρ own) (i := i) Q ds N h t hN hl he
  refine ⟨ys, h', ?_, l, q, t'⟩
  unfold lLc
  rw [hs, bindR_ret]
  simp only [e]
  rfl
theorem iRng_lit {e : DE} {ρ : Ev} {h h1 : DH} {n : Int} (he : e ρ h = ret (.int n) h1) (n0 : 0 ≤ n) (n1 : n ≤ 1000) : Dt.iRng1 e ρ h = ret (rangeD 0 n.toNat, sT) h1 := by
  unfold Dt.iRng1
  rw [he, bindR_ret]
  simp only
  rw [if_pos (by omega)]
theorem rangeD_len (a : Int) (n : Nat) : (rangeD a n).length = n := by
  unfold rangeD
  simp
theorem two_of {Q : D → Prop} {ys : List D} (hl : ys.length = 2) (hq : ∀ y ∈ ys, Q y) : ∃ x y, ys = [x, y] ∧ Q x ∧ Q y := by
  match ys, hl with
  | [x, y], _ => exact ⟨x, y, rfl, hq x (by simp), hq y (by simp)⟩
theorem e_law_maps {k N : Nat} {h : DH} (t : Tin k N h) (hN : N ≤ 900) : ∃ m0 m1 h', φ_law_maps [.ref k, .int 2] h = ret (eMs m0 m1) h' ∧ (Sm 3 m0 ∧ Sm 3 m1) ∧ Ht k (N + 8) h h' := by
  have hk := t.lt
  have hs : Dt.iRng1 (dV 1) [some (.ref k), some (.int 2), none] h = ret (rangeD 0 2, sT) h := iRng_lit (n := 2) rfl (by decide) (by decide)
  obtain ⟨ys, h1, e1, l1, q1, t1⟩ := lLc_tin (i := 2) (c := 4) (own := [2]) (te := dFn 1 φ_law_map (aCons (dV 0) aNil)) (fun d => ∃ m, d = eM m ∧ Sm 3 m) hs t (by rw [rangeD_len]; omega) (by rw [rangeD_len]; omega) fun d _ M h1 tM hM => by
    obtain ⟨m, h', e, sm, t'⟩ := e_law_map tM (by omega)
    refine ⟨eM m, h', ?_, ⟨m, rfl, sm⟩, t'⟩
    show dFn 1 φ_law_map (aCons (dV 0) aNil) [some (.ref k), some (.int 2), some d] h1 = _
    simp only [dFn_, aCons_, dV_0, aNil_, bindR_ret, List.length, if_true, e]
  rw [rangeD_len] at l1 t1
  obtain ⟨x, y, rfl, ⟨m0, rfl, s0⟩, m1, rfl, s1⟩ := two_of l1 q1
  have eb : b_law_maps ([D.ref k, D.int 2].map some ++ List.replicate (3 - 2) none) h = some (.rt (eMs m0 m1), h1) := by
    show b_law_maps [some (.ref k), some (.int 2), none] h = _
    rw [b_law_maps, sRet_, dL_, e1, bindR_ret]
    rfl
  obtain ⟨h', e', t'⟩ := runF_ht (k := k) rfl eb t1 hk
  exact ⟨m0, m1, h', e', ⟨s0, s1⟩, t'⟩
def lokD (d : D) : Prop := ∃ l : Int, d = .int l ∧ (l = 1 ∨ l = -1 ∨ l = 2 ∨ l = -2)
theorem e_law_letter {k N : Nat} {h : DH} (t : Tin k N h) (hN : N ≤ 980) : ∃ y h', φ_law_letter [.ref k, .int 2] h = ret y h' ∧ lokD y ∧ Ht k (N + 2) h h' := by
  have hk := t.lt
  have el : (aCons (dV 0) (aCons (dNum (lLst (aCons (dC (.int 1)) (aCons (dUn uNeg (dC (.int 1))) aNil)))) aNil)) [some (.ref k), some (.int 2)] h = ret [.ref k, .ref h.length] (h ++ [.lst ([1, -1].map D.int)]) := rfl
  obtain ⟨v, h1, e1, hv, t1⟩ := of_lit t (by omega) el (by decide) (by decide)
  obtain ⟨a, rfl, ha⟩ := mem_ints hv
  obtain ⟨v, h2, e2, ⟨v0, v1⟩, t2⟩ := e_law_take t1.tin (by omega) (n := 2) (by decide) (by decide)
  have ha1 : a.natAbs < 2 ^ 2 ∧ (1 + v).natAbs < 2 ^ 2 := by
    have : ∀ a ∈ ([1, -1] : List Int), a.natAbs < 2 ^ 2 := by decide
    exact ⟨this a ha, by omega⟩
  have eb : b_law_letter ([D.ref k, D.int 2].map some ++ List.replicate (2 - 2) none) h = some (.rt (.int (a * (1 + v))), h2) := by
    show b_law_letter [some (.ref k), some (.int 2)] h = _
    rw [b_law_letter, sRet_, dBin_, e1, bindR_ret]
    simp only [dBin_, dC_, bindR_ret, dFn_, aCons_, dV_0, dV_1, aNil_, List.length, if_true, e2, oAdd_, sm_mul ha1.1 ha1.2, bindS_ret]
  obtain ⟨h', e', t'⟩ := runF_ht (k := k) rfl eb (t1.trans t2) hk
  refine ⟨_, h', e', ⟨_, rfl, ?_⟩, t'⟩
  have z1 : a = 1 ∨ a = -1 := by simpa using ha
  have z2 : v = 0 ∨ v = 1 := by omega
  rcases z1 with rfl | rfl <;> rcases z2 with rfl | rfl <;> decide
theorem lokD_word : ∀ {ys : List D}, (∀ y ∈ ys, lokD y) → ∃ w : List Int, ys = w.map D.int ∧ ∀ l ∈ w, l = 1 ∨ l = -1 ∨ l = 2 ∨ l = -2
  | [], _ => ⟨[], rfl, by simp⟩
  | y :: ys, hq => by
    obtain ⟨w, rfl, hw⟩ := lokD_word fun z hz => hq z (List.mem_cons_of_mem _ hz)
    obtain ⟨l, rfl, hl⟩ := hq y List.mem_cons_self
    refine ⟨l :: w, rfl, fun x hx => ?_⟩
    rcases List.mem_cons.mp hx with rfl | hx
    · exact hl
    · exact hw x hx
theorem e_law_word {k N : Nat} {h : DH} (t : Tin k N h) (hN : N ≤ 900) : ∃ w h', φ_law_word [.ref k, .int 2, .int 4] h = ret (eW w) h' ∧ (wOk w ∧ w.length ≤ 4) ∧ Ht k (N + 9) h h' := by
  have hk := t.lt
  obtain ⟨n, h1, e1, ⟨n0, n1⟩, t1⟩ := e_law_take t (by omega) (n := 5) (by decide) (by decide)
  have hs : Dt.iRng1 (dFn 2 φ_law_take (aCons (dV 0) (aCons (dBin oAdd (dV 2) (dC (.int 1))) aNil))) [some (.ref k), some (.int 2), some (.int 4), none] h = ret (rangeD 0 n.toNat, sT) h1 := iRng_lit (n := n) (by
    simp only [dFn_, aCons_, dV_0, dV_2, dC_, dBin_, oAdd_, aNil_, bindR_ret, List.length, if_true]
    exact e1) n0 (by omega)
  obtain ⟨ys, h2, e2, l2, q2, t2⟩ := lLc_tin (i := 3) (c := 2) (own := [3]) (te := dFn 2 φ_law_letter (aCons (dV 0) (aCons (dV 1) aNil))) lokD hs t1.tin (by rw [rangeD_len]; omega) (by rw [rangeD_len]; omega) fun d _ M h1 tM hM => by
    obtain ⟨y, h', e, q, t'⟩ := e_law_letter tM (by omega)
    refine ⟨y, h', ?_, q, t'⟩
    show dFn 2 φ_law_letter (aCons (dV 0) (aCons (dV 1) aNil)) [some (.ref k), some (.int 2), some (.int 4), some d] h1 = _
    simp only [dFn_, aCons_, dV_0, dV_1, aNil_, bindR_ret, List.length, if_true, e]
  rw [rangeD_len] at l2 t2
  obtain ⟨w, rfl, hw⟩ := lokD_word q2
  have eb : b_law_word ([D.ref k, D.int 2, D.int 4].map some ++ List.replicate (4 - 3) none) h = some (.rt (eW w), h2) := by
    show b_law_word [some (.ref k), some (.int 2), some (.int 4), none] h = _
    rw [b_law_word, sRet_, dL_, e2, bindR_ret]
    rfl
  obtain ⟨h', e', t'⟩ := runF_ht (k := k) rfl eb (t1.trans t2) hk
  rw [List.length_map] at l2
  exact ⟨w, h', e', ⟨⟨by omega, hw⟩, by omega⟩, t'.mono (by omega)⟩
end Pl

set_option Elab.async false
set_option autoImplicit false
set_option linter.all false
set_option maxRecDepth 100000
set_option maxHeartbeats 2000000
set_option exponentiation.threshold 10000
namespace Pl
open Dt Wk
open PySem (Str PyData)

/-! ### the law's sameness: the same things are the same -/
theorem lc_true {st : DH → Prop} {g : Pt} {tt : DB} {te : DE} {ρ : Ev} {h : DH} (hst : st h) : ∀ ds : List D, ds.length ≤ 1000000 → (∀ d ∈ ds, ∃ l, g d = some l ∧ tt (setE ρ l) h = ret true h ∧ te (setE ρ l) h = ret (.bl true) h) →
    lcGo st g tt te ρ ds h = ret (ds.map fun _ => D.bl true) h
  | [], _, _ => by unfold lcGo; exact if_pos hst
  | d :: ds, hl, he => by
    obtain ⟨l, e1, e2, e3⟩ := he d List.mem_cons_self
    have ih := lc_true hst ds (Nat.le_trans (Nat.le_succ _) hl) fun x hx => he x (List.mem_cons_of_mem _ hx)
    unfold lcGo
    rw [if_pos hst, e1]
    simp only [e2, bindR_ret, if_true, e3, ih]
    have : okLen (ds.map fun _ => D.bl true).length = true := decide_eq_true (by rw [List.length_map]; simp at hl; omega)
    rw [if_pos this]
    rfl
theorem all_true (ds : List D) (h : DH) : φAll (ds.map fun _ => D.bl true) h = ret (.bl true) h := by
  unfold φAll
  rw [bools_map ds fun _ => true]
  simp only
  have : (ds.map fun _ => true).all id = true := by
    rw [List.all_map, List.all_eq_true]
    intro x _
    rfl
  rw [this]
def atomD : D → Prop
  | .int _ => True
  | .bl _ => True
  | .non => True
  | .str s => s = "none"
  | _ => False
inductive All2 (R : D → D → Prop) : List D → List D → Prop
  | nil : All2 R [] []
  | cons {x y : D} {xs ys : List D} : R x y → All2 R xs ys → All2 R (x :: xs) (y :: ys)
theorem All2.len {R : D → D → Prop} {xs ys : List D} (a : All2 R xs ys) : xs.length = ys.length := by
  induction a with
  | nil => rfl
  | cons _ _ ih => rw [List.length_cons, List.length_cons, ih]
theorem All2.zip {R : D → D → Prop} {xs ys : List D} (a : All2 R xs ys) : ∀ d ∈ zipD xs ys, ∃ x y, d = .tup [x, y] ∧ R x y := by
  induction a with
  | nil => intro d hd; cases hd
  | cons r a ih =>
    intro d hd
    rcases List.mem_cons.mp hd with rfl | hd
    · exact ⟨_, _, rfl, r⟩
    · exact ih d hd
theorem All2.zlen {R : D → D → Prop} {xs ys : List D} (a : All2 R xs ys) : (zipD xs ys).length = ys.length := by
  unfold zipD
  rw [List.length_map, List.length_zip, a.len, Nat.min_self]
def SameN : Nat → DH → D → D → Prop
  | 0, _, x, y => x = y ∧ atomD x
  | n + 1, h, x, y => (x = y ∧ atomD x) ∨ (∃ xs ys, x = .tup xs ∧ y = .tup ys ∧ xs.length ≤ 1000 ∧ All2 (SameN n h) xs ys) ∨
      (∃ j l xs ys, x = .ref j ∧ y = .ref l ∧ h[j]? = some (.lst xs) ∧ h[l]? = some (.lst ys) ∧ xs.length ≤ 1000 ∧ All2 (SameN n h) xs ys)
theorem same_atom {φ : DF} {x : D} (hx : atomD x) (h : DH) : b_law_same φ [some x, some x, none, none] h = some (.rt (.bl true), h) := by
  cases x with
  | int i =>
    have e1 : dIsi2 "list" "tuple" (dV 1) [some (.int i), some (.int i), none, none] h = ret (.bl false) h := rfl
    have e2 : dIsi2 "bool" "str" (dV 1) [some (.int i), some (.int i), none, none] h = ret (.bl false) h := rfl
    have e3 : dBin oIsN (dV 1) (dC .non) [some (.int i), some (.int i), none, none] h = ret (.bl false) h := rfl
    have e4 : dIsi "int" (dV 0) [some (.int i), some (.int i), none, none] h = ret (.bl true) h := rfl
    have e5 : dIsi "bool" (dV 0) [some (.int i), some (.int i), none, none] h = ret (.bl false) h := rfl
    simp only [b_law_same, sSeq_, sIf_, dTru_, dTest_, bOr_, e1, e2, e3, bindR_ret, tD_bl, bD_bl, bindS_ret, Bool.false_eq_true, if_false, sNext_, seqS_nx, sRet_, dAnd_, dNot_, e4, e5, Bool.not_false, if_true, dBin_, dV_0, dV_1, oEq_int, beq_self_eq_true]
  | bl b =>
    have e1 : dIsi2 "list" "tuple" (dV 1) [some (.bl b), some (.bl b), none, none] h = ret (.bl false) h := rfl
    have e2 : dIsi2 "bool" "str" (dV 1) [some (.bl b), some (.bl b), none, none] h = ret (.bl true) h := rfl
    have e3 : dBin oIsN (dV 1) (dC .non) [some (.bl b), some (.bl b), none, none] h = ret (.bl false) h := rfl
    have e4 : dIsi "bool" (dV 0) [some (.bl b), some (.bl b), none, none] h = ret (.bl true) h := rfl
    have e5 : dIsi "bool" (dV 1) [some (.bl b), some (.bl b), none, none] h = ret (.bl true) h := rfl
    have e6 : oIsN (.bl b) .non h = ret (.bl false) h := rfl
    simp only [b_law_same, sSeq_, sIf_, dTru_, dTest_, bOr_, e1, e2, bindR_ret, tD_bl, bD_bl, bindS_ret, Bool.false_eq_true, if_false, sNext_, seqS_nx, if_true, sRet_, dAnd_, e4, e5, dBin_, dV_0, dV_1, dC_, oEq_bl, e6, beq_self_eq_true, seqS_rt]
  | non =>
    have e1 : dIsi2 "list" "tuple" (dV 1) [some .non, some .non, none, none] h = ret (.bl false) h := rfl
    have e2 : oEq .non .non h = ret (.bl true) h := rfl
    have e4 : dIsi "bool" (dV 0) [some .non, some .non, none, none] h = ret (.bl false) h := rfl
    have e5 : dIsi "bool" (dV 1) [some .non, some .non, none, none] h = ret (.bl false) h := rfl
    have e6 : oIsN .non .non h = ret (.bl true) h := rfl
    simp only [b_law_same, sSeq_, sIf_, dTru_, dTest_, bOr_, e1, bindR_ret, tD_bl, bD_bl, bindS_ret, Bool.false_eq_true, if_false, sNext_, seqS_nx, if_true, sRet_, dAnd_, e4, e5, dBin_, dV_0, dV_1, dC_, oEq_bl, e2, e6, beq_self_eq_true, seqS_rt]
  | str s =>
    have hs : s = "none" := hx
    subst hs
    have e1 : dIsi2 "list" "tuple" (dV 1) [some (.str "none"), some (.str "none"), none, none] h = ret (.bl false) h := rfl
    have e2 : oEq (.str "none") (.str "none") h = ret (.bl true) h := by
      show (if (PySem.SeqAt.shaped (.str "none") && PySem.SeqAt.shaped (.str "none")) = true then ret (D.bl (PyData.eqv (.str "none") (.str "none"))) h else none) = _
      rw [if_pos (by decide +kernel), show PyData.eqv (.str "none") (.str "none") = true by decide +kernel]
    have e3 : dIsi2 "bool" "str" (dV 1) [some (.str "none"), some (.str "none"), none, none] h = ret (.bl true) h := rfl
    have e4 : dIsi "bool" (dV 0) [some (.str "none"), some (.str "none"), none, none] h = ret (.bl false) h := rfl
    have e5 : dIsi "bool" (dV 1) [some (.str "none"), some (.str "none"), none, none] h = ret (.bl false) h := rfl
    have e6 : oIsN (.str "none") .non h = ret (.bl false) h := rfl
    simp only [b_law_same, sSeq_, sIf_, dTru_, dTest_, bOr_, e1, e3, bindR_ret, tD_bl, bD_bl, bindS_ret, Bool.false_eq_true, if_false, sNext_, seqS_nx, if_true, sRet_, dAnd_, e4, e5, dBin_, dV_0, dV_1, dC_, oEq_bl, e2, e6, beq_self_eq_true, seqS_rt]
  | tup xs => cases hx
  | rol xs => cases hx
  | ref k => cases hx
theorem setE_2 (ρ : Ev) (i j : Nat) (d e : D) : setE ρ [(i, d), (j, e)] = (ρ.set i (some d)).set j (some e) := rfl
theorem e_law_same : ∀ (n : Nat) (h : DH) (x y : D), SameN n h x y → φ_law_same (n + 1) [x, y] h = ret (.bl true) h
  | 0, h, x, y, s => by
    obtain ⟨rfl, hx⟩ := s
    exact runF_rt rfl (same_atom hx h)
  | n + 1, h, x, y, s => by
    rcases s with ⟨rfl, hx⟩ | ⟨xs, ys, rfl, rfl, hl, al⟩ | ⟨j, l, xs, ys, rfl, rfl, ej, el, hl, al⟩
    · exact runF_rt rfl (same_atom hx h)
    · refine runF_rt rfl ?_
      show b_law_same (φ_law_same (n + 1)) [some (.tup xs), some (.tup ys), none, none] h = _
      have e1 : dIsi2 "list" "tuple" (dV 1) [some (.tup xs), some (.tup ys), none, none] h = ret (.bl true) h := rfl
      have e2 : dIsi "list" (dV 0) [some (.tup xs), some (.tup ys), none, none] h = ret (.bl false) h := rfl
      have e3 : dIsi "list" (dV 1) [some (.tup xs), some (.tup ys), none, none] h = ret (.bl false) h := rfl
      have e4 : dIsi "tuple" (dV 0) [some (.tup xs), some (.tup ys), none, none] h = ret (.bl true) h := rfl
      have e5 : dIsi "tuple" (dV 1) [some (.tup xs), some (.tup ys), none, none] h = ret (.bl true) h := rfl
      have ell : lLc (iZip2 (dV 0) (dV 1)) (gT 2 (gC (gN 2) (gC (gN 3) gN0))) bYes (dFn 2 (φ_law_same (n + 1)) (aCons (dV 2) (aCons (dV 3) aNil))) [2, 3] [some (.tup xs), some (.tup ys), none, none] h = ret ((zipD xs ys).map fun _ => D.bl true) h := by
        unfold lLc
        have hs : iZip2 (dV 0) (dV 1) [some (.tup xs), some (.tup ys), none, none] h = ret (zipD xs ys, sT) h := rfl
        rw [hs, bindR_ret]
        simp only
        rw [lc_true (show sT h from trivial) _ (by rw [al.zlen, ← al.len]; omega)]
        · rfl
        · intro d hd
          obtain ⟨a, b, rfl, r⟩ := al.zip d hd
          refine ⟨[(2, a), (3, b)], rfl, rfl, ?_⟩
          show dFn 2 (φ_law_same (n + 1)) (aCons (dV 2) (aCons (dV 3) aNil)) [some (.tup xs), some (.tup ys), some a, some b] h = _
          simp only [dFn_, aCons_, dV_2, dV_3, aNil_, bindR_ret, List.length, if_true, e_law_same n h a b r]
      have elen : ((xs.length : Int) == (ys.length : Int)) = true := by rw [al.len]; exact beq_self_eq_true _
      simp only [b_law_same, sSeq_, sIf_, dTru_, dTest_, bOr_, dBin_, e1, e2, e3, e4, e5, bindR_ret, oNe_bl, beq_self_eq_true, Bool.not_true, tD_bl, bD_bl, bindS_ret, Bool.false_eq_true, if_false, if_true, sNext_, seqS_nx, sRet_, dAnd_, dCall_, aCons_, dV_0, dV_1, aNil_, fLen_, oEq_int, elen, dL_, ell, all_true, seqS_rt]
    · refine runF_rt rfl ?_
      show b_law_same (φ_law_same (n + 1)) [some (.ref j), some (.ref l), none, none] h = _
      have tj : tyD h (.ref j) = some "list" := by unfold tyD; simp only [ej]
      have tl : tyD h (.ref l) = some "list" := by unfold tyD; simp only [el]
      have e1 : dIsi2 "list" "tuple" (dV 1) [some (.ref j), some (.ref l), none, none] h = ret (.bl true) h := dIsi2_ (d := .ref l) (T := "list") rfl tl
      have e2 : dIsi "list" (dV 0) [some (.ref j), some (.ref l), none, none] h = ret (.bl true) h := dIsi_ (d := .ref j) (T := "list") rfl tj
      have e3 : dIsi "list" (dV 1) [some (.ref j), some (.ref l), none, none] h = ret (.bl true) h := dIsi_ (d := .ref l) (T := "list") rfl tl
      have e4 : dIsi "tuple" (dV 0) [some (.ref j), some (.ref l), none, none] h = ret (.bl false) h := dIsi_ (d := .ref j) (T := "list") rfl tj
      have e5 : dIsi "tuple" (dV 1) [some (.ref j), some (.ref l), none, none] h = ret (.bl false) h := dIsi_ (d := .ref l) (T := "list") rfl tl
      have ell : lLc (iZip2 (dV 0) (dV 1)) (gT 2 (gC (gN 2) (gC (gN 3) gN0))) bYes (dFn 2 (φ_law_same (n + 1)) (aCons (dV 2) (aCons (dV 3) aNil))) [2, 3] [some (.ref j), some (.ref l), none, none] h = ret ((zipD xs ys).map fun _ => D.bl true) h := by
        unfold lLc
        have hs : iZip2 (dV 0) (dV 1) [some (.ref j), some (.ref l), none, none] h = ret (zipD xs ys, sL2 j l xs ys) h := by
          unfold iZip2
          rw [dV_0, bindR_ret, dV_1, bindR_ret]
          simp only [ej, el]
        rw [hs, bindR_ret]
        simp only
        rw [lc_true (show sL2 j l xs ys h from ⟨ej, el⟩) _ (by rw [al.zlen, ← al.len]; omega)]
        · rfl
        · intro d hd
          obtain ⟨a, b, rfl, r⟩ := al.zip d hd
          refine ⟨[(2, a), (3, b)], rfl, rfl, ?_⟩
          show dFn 2 (φ_law_same (n + 1)) (aCons (dV 2) (aCons (dV 3) aNil)) [some (.ref j), some (.ref l), some a, some b] h = _
          simp only [dFn_, aCons_, dV_2, dV_3, aNil_, bindR_ret, List.length, if_true, e_law_same n h a b r]
      have elen : ((xs.length : Int) == (ys.length : Int)) = true := by rw [al.len]; exact beq_self_eq_true _
      simp only [b_law_same, sSeq_, sIf_, dTru_, dTest_, bOr_, dBin_, e1, e2, e3, e4, e5, bindR_ret, oNe_bl, beq_self_eq_true, Bool.not_true, tD_bl, bD_bl, bindS_ret, Bool.false_eq_true, if_false, if_true, sNext_, seqS_nx, sRet_, dAnd_, dCall_, aCons_, dV_0, dV_1, aNil_, len_ref ej, len_ref el, oEq_int, elen, dL_, ell, all_true, seqS_rt]
end Pl

set_option Elab.async false
set_option autoImplicit false
set_option linter.all false
set_option maxRecDepth 100000
set_option maxHeartbeats 2000000
set_option exponentiation.threshold 10000
namespace Pl
open Dt Wk
open PySem (Str PyData)

/-! ### rests of maps, as the law says them -/
theorem lLc_two {src : DI'} {i : Nat} {te : DE} {own : List Nat} {ρ : Ev} {h : DH} {x y u v : D} (hs : src ρ h = ret ([x, y], sT) h) (e1 : te ((wipeD ρ own).set i (some x)) h = ret u h) (e2 : te ((wipeD ρ own).set i (some y)) h = ret v h) : lLc src (gN i) bYes te own ρ h = ret [u, v] h := by
  have : lcGo sT (gN i) bYes te (wipeD ρ own) [x, y] h = ret [u, v] h := by
    unfold lcGo
    rw [if_pos (show sT h from trivial)]
    simp only [gN_, setE_1, bYes_, bindR_ret, if_true, e1]
    unfold lcGo
    rw [if_pos (show sT h from trivial)]
    simp only [gN_, setE_1, bYes_, bindR_ret, if_true, e2]
    unfold lcGo
    rw [if_pos (show sT h from trivial)]
    rfl
  unfold lLc
  rw [hs, bindR_ret]
  simp only [this]
  rfl
theorem lLc_three {src : DI'} {i : Nat} {te : DE} {own : List Nat} {ρ : Ev} {h : DH} {x y z u v w : D} (hs : src ρ h = ret ([x, y, z], sT) h) (e1 : te ((wipeD ρ own).set i (some x)) h = ret u h) (e2 : te ((wipeD ρ own).set i (some y)) h = ret v h) (e3 : te ((wipeD ρ own).set i (some z)) h = ret w h) :
    lLc src (gN i) bYes te own ρ h = ret [u, v, w] h := by
  have : lcGo sT (gN i) bYes te (wipeD ρ own) [x, y, z] h = ret [u, v, w] h := by
    unfold lcGo
    rw [if_pos (show sT h from trivial)]
    simp only [gN_, setE_1, bYes_, bindR_ret, if_true, e1]
    unfold lcGo
    rw [if_pos (show sT h from trivial)]
    simp only [gN_, setE_1, bYes_, bindR_ret, if_true, e2]
    unfold lcGo
    rw [if_pos (show sT h from trivial)]
    simp only [gN_, setE_1, bYes_, bindR_ret, if_true, e3]
    unfold lcGo
    rw [if_pos (show sT h from trivial)]
    rfl
  unfold lLc
  rw [hs, bindR_ret]
  simp only [this]
  rfl
theorem rRat_zero {p : Int} {q : Rat} (hp : pOk p) (hd : good p q) : rRat p q = 0 ↔ q.num % p = 0 := by
  unfold rRat rOver
  have c := iv_cg hp hd
  constructor
  · intro h
    have c1 : cg p (q.num * iv p q.den) 0 := cg.of (by rw [h]; rfl)
    have c2 := c1.mul (cg.refl p (q.den : Int))
    have c3 := (cg.refl p q.num).mul c
    rw [show q.num * ((q.den : Int) * iv p q.den) = q.num * iv p q.den * (q.den : Int) by grind] at c3
    have := (c3.symm.trans c2).to
    rw [Int.mul_one, Int.zero_mul, Int.zero_emod] at this
    exact this
  · intro h
    have c1 : cg p q.num 0 := cg.of (by rw [h]; rfl)
    have := (c1.mul (cg.refl p (iv p q.den))).to
    rw [Int.zero_mul, Int.zero_emod] at this
    exact this
def lM (p : Int) (m : Mp) : D := if goodM p m then eP (rMap p m) else .non
theorem e_law_rests {p : Int} {m : Mp} {k : Nat} (hp : pOk p) (hm : Sm k m) (h : DH) (hk : k ≤ 8000 := by omega) : φ_law_rests [.int p, eM m] h = ret (lM p m) h := by
  refine runF_rt rfl ?_
  show b_law_rests [some (.int p), some (eM m), none, none] h = _
  have el : lLc (iSeq (dV 1)) (gN 3) bYes (dFn 2 φ_law_rest (aCons (dV 0) (aCons (dV 3) aNil))) [3] [some (.int p), some (eM m), none, none] h = ret [lR p m.1, lR p m.2] h := by
    refine lLc_two (x := eR m.1) (y := eR m.2) (iSeq_ _ _ _ _ rfl) ?_ ?_
    · show dFn 2 φ_law_rest (aCons (dV 0) (aCons (dV 3) aNil)) [some (.int p), some (eM m), none, some (eR m.1)] h = _
      simp only [dFn_, aCons_, dV_0, dV_3, aNil_, bindR_ret, List.length, if_true, e_law_rest hp hm.a h hk]
    · show dFn 2 φ_law_rest (aCons (dV 0) (aCons (dV 3) aNil)) [some (.int p), some (eM m), none, some (eR m.2)] h = _
      simp only [dFn_, aCons_, dV_0, dV_3, aNil_, bindR_ret, List.length, if_true, e_law_rest hp hm.b h hk]
  have e0 : sAsg (dL φTup (lLc (iSeq (dV 1)) (gN 3) bYes (dFn 2 φ_law_rest (aCons (dV 0) (aCons (dV 3) aNil))) [3])) (gN 2) [some (.int p), some (eM m), none, none] h = some (.nx [some (.int p), some (eM m), some (.tup [lR p m.1, lR p m.2]), none], h) := by
    rw [sAsg_, dL_, el, bindR_ret, φTup_, bindS_ret]
    rfl
  simp only [b_law_rests, sSeq_, e0, seqS_nx, sRet_, dIf_, bOr_, dTest_, dBin_, dC_, dV_2, bindR_ret]
  unfold lM
  by_cases h1 : (m.1.den : Int) % p = 0
  · have n : ¬ goodM p m := fun g => g.2.1 h1
    rw [if_neg n]
    have x1 : lR p m.1 = .non := if_pos h1
    have x2 : oIn .non (.tup [lR p m.1, lR p m.2]) h = ret (.bl true) h := by
      rw [x1]
      unfold lR
      split <;> rfl
    simp only [x2, bindR_ret, bD_bl, if_true, bindS_ret]
  · have x1 : lR p m.1 = .int (rRat p m.1) := if_neg h1
    by_cases h2 : (m.2.den : Int) % p = 0
    · have n : ¬ goodM p m := fun g => g.2.2 h2
      rw [if_neg n]
      have x3 : lR p m.2 = .non := if_pos h2
      have x2 : oIn .non (.tup [lR p m.1, lR p m.2]) h = ret (.bl true) h := by
        rw [x1, x3]
        rfl
      simp only [x2, bindR_ret, bD_bl, if_true, bindS_ret]
    · have x3 : lR p m.2 = .int (rRat p m.2) := if_neg h2
      have x2 : oIn .non (.tup [lR p m.1, lR p m.2]) h = ret (.bl false) h := by
        rw [x1, x3]
        rfl
      have x4 : oIx (.tup [lR p m.1, lR p m.2]) (.int 0) h = ret (.int (rRat p m.1)) h := by rw [x1]; rfl
      simp only [x2, x4, bindR_ret, bD_bl, Bool.false_eq_true, if_false, oEq_int]
      by_cases h3 : m.1.num % p = 0
      · have n : ¬ goodM p m := fun g => g.1 h3
        rw [if_neg n]
        have z : (rRat p m.1 == 0) = true := by rw [(rRat_zero hp h1).mpr h3]; rfl
        simp only [z, bindR_ret, if_true, bindS_ret]
      · rw [if_pos (show goodM p m from ⟨h3, h1, h2⟩)]
        have z : (rRat p m.1 == 0) = false := by
          have : rRat p m.1 ≠ 0 := fun z => h3 ((rRat_zero hp h1).mp z)
          simpa using this
        simp only [z, bindR_ret, Bool.false_eq_true, if_false, bindS_ret, x1, x3]
        rfl
/-! ### what is heard -/
def hM (p : Int) (m : Mp) : D := if goodM p m then eP (rMap p m) else .str "none"
theorem e_law_heard0 {p : Int} {m : Mp} {k : Nat} (hp : pOk p) (hm : Sm k m) (h : DH) (hk : k ≤ 8000 := by omega) : φ_law_heard [.int 0, .int p, eM m] h = ret (hM p m) h := by
  refine runF_rt rfl ?_
  show b_law_heard [some (.int 0), some (.int p), some (eM m), none] h = _
  have er := e_rests_of hp hm h hk
  have e0 : (sAsg (dC .non) (gN 3)) [some (.int 0), some (.int p), some (eM m), none] h = some (.nx [some (.int 0), some (.int p), some (eM m), some .non], h) := rfl
  have ef : dIf (dTest (dBin oEq (dV 0) (dC (.int 0)))) (dFn 2 φ_p_rests_of (aCons (dV 1) (aCons (dV 2) aNil))) (dFn 1 φ_p_kept_point (aCons (dV 1) aNil)) [some (.int 0), some (.int p), some (eM m), some .non] h = (if goodM p m then ret (eP (rMap p m)) h else some (.er "NoPaper", h)) := by
    simp only [dIf_, dTest_, dBin_, dV_0, dC_, bindR_ret, oEq_int, beq_self_eq_true, bD_bl, if_true, dFn_, aCons_, dV_1, dV_2, aNil_, List.length, er]
  simp only [b_law_heard, sSeq_, e0, seqS_nx]
  unfold sTry hM
  by_cases hg : goodM p m
  · rw [if_pos hg] at ef ⊢
    simp only [sAsg_, ef, bindS_ret, gN_, setE_1, List.set, seqS_nx, sRet_, dV_3]
  · rw [if_neg hg] at ef ⊢
    simp only [sAsg_, ef]
    rfl
def hK (f : Mp) : D := if f.1 = 1 then .str "none" else eR (f.2 / (1 - f.1))
theorem e_law_heard1 {f : Mp} {k : Nat} (hf : Sm k f) (h : DH) (hk : k ≤ 700 := by omega) : φ_law_heard [.int 1, eM f, .non] h = ret (hK f) h := by
  refine runF_rt rfl ?_
  show b_law_heard [some (.int 1), some (eM f), some .non, none] h = _
  have er := e_kept_point hf h hk
  have e0 : (sAsg (dC .non) (gN 3)) [some (.int 1), some (eM f), some .non, none] h = some (.nx [some (.int 1), some (eM f), some .non, some .non], h) := rfl
  have ef : dIf (dTest (dBin oEq (dV 0) (dC (.int 0)))) (dFn 2 φ_p_rests_of (aCons (dV 1) (aCons (dV 2) aNil))) (dFn 1 φ_p_kept_point (aCons (dV 1) aNil)) [some (.int 1), some (eM f), some .non, some .non] h = (if f.1 = 1 then some (.er "NoPaper", h) else ret (eR (f.2 / (1 - f.1))) h) := by
    simp only [dIf_, dTest_, dBin_, dV_0, dC_, bindR_ret, oEq_int, show ((1 : Int) == 0) = false by decide, bD_bl, Bool.false_eq_true, if_false, dFn_, aCons_, dV_1, aNil_, List.length, if_true, er]
  simp only [b_law_heard, sSeq_, e0, seqS_nx]
  unfold sTry hK
  by_cases hg : f.1 = 1
  · rw [if_pos hg] at ef ⊢
    simp only [sAsg_, ef]
    rfl
  · rw [if_neg hg] at ef ⊢
    simp only [sAsg_, ef, bindS_ret, gN_, setE_1, List.set, seqS_nx, sRet_, dV_3]
end Pl

set_option Elab.async false
set_option autoImplicit false
set_option linter.all false
set_option maxRecDepth 100000
set_option maxHeartbeats 2000000
set_option exponentiation.threshold 10000
namespace Pl
open Dt Wk
open PySem (Str PyData)

/-! ### the law's cells and box -/
theorem runF_eq' {p n : Nat} {f : DS} {ds : List D} {h : DH} {r : RS} (hp : ds.length = p) (e : f (ds.map some ++ List.replicate (n - p) none) h = r) : runF p n f ds h = gcF h (endF r) := by rw [runF_eq hp, e]
abbrev clB : DS := sSeq (sAsg (dBin oMod (dCall fInt (aCons (dV 4) aNil)) (dV 1)) (gN 3)) (sStL (dV 2) (dV 3) (dBin oAdd (dBin oIx (dV 2) (dV 3)) (dBin oMul (dV 5) (dBin oAdd (dV 4) (dC (.int 2))))))
theorem lt_pow_add {a b : Nat} {k : Nat} (h : a < 2 ^ k) (hb : b < 2 ^ 7) : a * b < 2 ^ (k + 7) := by
  rw [Nat.pow_add]
  exact Nat.mul_lt_mul'' h hb
theorem cl_loop {j K : Nat} (hK : K ≤ 2000000) (S : D) : ∀ (ds : List D) (n : Nat) (c : Int) (h : DH) (x3 x4 x5 : Option D), (∀ d ∈ ds, ∃ k z : Int, d = .tup [.int k, .int z] ∧ (0 ≤ k ∧ k ≤ 100) ∧ z.natAbs < 2 ^ K) → h[j]? = some (.lst [.int c]) → c.natAbs ≤ n * 2 ^ (K + 7) →
    ∃ (c' : Int) (h' : DH) (y3 y4 y5 : Option D), forGo sT (gT 2 (gC (gN 4) (gC (gN 5) gN0))) clB ds [some S, some (.int 1), some (.ref j), x3, x4, x5] h = some (.nx [some S, some (.int 1), some (.ref j), y3, y4, y5], h') ∧ h'[j]? = some (.lst [.int c']) ∧ c'.natAbs ≤ (n + ds.length) * 2 ^ (K + 7)
  | [], n, c, h, x3, x4, x5, _, e, b => ⟨c, h, x3, x4, x5, forGo_nil, e, b⟩
  | d :: ds, n, c, h, x3, x4, x5, hd, e, b => by
    obtain ⟨k, z, rfl, ⟨k0, k1⟩, hz⟩ := hd d List.mem_cons_self
    have s2 : (k + 2).natAbs < 2 ^ 7 := by omega
    have hj : j < h.length := (List.getElem?_eq_some_iff.mp e).1
    have eb : clB [some S, some (.int 1), some (.ref j), x3, some (.int k), some (.int z)] h = some (.nx [some S, some (.int 1), some (.ref j), some (.int 0), some (.int k), some (.int z)], h.set j (.lst [.int (c + z * (k + 2))])) := by
      have e0 : sAsg (dBin oMod (dCall fInt (aCons (dV 4) aNil)) (dV 1)) (gN 3) [some S, some (.int 1), some (.ref j), x3, some (.int k), some (.int z)] h = some (.nx [some S, some (.int 1), some (.ref j), some (.int 0), some (.int k), some (.int z)], h) := by
        simp only [sAsg_, dBin_, dCall_, aCons_, dV_4, dV_1, aNil_, bindR_ret, fInt_, oModP (show (0 : Int) < 1 by decide), bindS_ret, gN_, setE_1, List.set, Int.emod_one]
      simp only [clB, sSeq_, e0, seqS_nx]
      have i0 : oIx (.ref j) (.int 0) h = ret (.int c) h := ix_ref e 0
      exact st_ref (xs := [.int c]) (i := 0) (j := 0) (v := .int (c + z * (k + 2))) (by simp only [dBin_, dV_2, dV_3, dV_4, dV_5, dC_, bindR_ret, i0, oAdd_, sm_mul hz s2 (by omega) (by omega)]) rfl rfl e rfl
    have b' : (c + z * (k + 2)).natAbs ≤ (n + 1) * 2 ^ (K + 7) := by
      have h1 : (z * (k + 2)).natAbs < 2 ^ (K + 7) := by rw [Int.natAbs_mul]; exact lt_pow_add hz s2
      have h2 := Int.natAbs_add_le c (z * (k + 2))
      rw [Nat.add_mul, Nat.one_mul]
      omega
    obtain ⟨c', h', y3, y4, y5, ih, e', b2⟩ := cl_loop hK S ds (n + 1) (c + z * (k + 2)) (h.set j (.lst [.int (c + z * (k + 2))])) (some (.int 0)) (some (.int k)) (some (.int z)) (fun d hx => hd d (List.mem_cons_of_mem _ hx)) (set_get hj _) b'
    refine ⟨c', h', y3, y4, y5, ?_, e', by rw [List.length_cons, show n + (ds.length + 1) = n + 1 + ds.length by omega]; exact b2⟩
    rw [forGo_g (l := [(4, .int k), (5, .int z)]) rfl]
    show loopK (clB [some S, some (.int 1), some (.ref j), x3, some (.int k), some (.int z)] h) _ = _
    rw [eb, loopK_nx]
    exact ih
theorem enum_all {K : Nat} {ds : List D} (hl : ds.length ≤ 100) (h : ∀ d ∈ ds, ∃ z : Int, d = .int z ∧ z.natAbs < 2 ^ K) : ∀ d ∈ enumD ds, ∃ k z : Int, d = .tup [.int k, .int z] ∧ (0 ≤ k ∧ k ≤ 100) ∧ z.natAbs < 2 ^ K := by
  intro d hd
  unfold enumD at hd
  obtain ⟨i, hi, e⟩ := List.mem_mapIdx.mp hd
  obtain ⟨z, ez, hz⟩ := h ds[i] (List.getElem_mem hi)
  exact ⟨i, z, by rw [← e, ez], ⟨by omega, by omega⟩, hz⟩
theorem e_law_cells {K : Nat} (hK : K ≤ 2000000) (ns : List Int) (hl : ns.length ≤ 63) (hz : ∀ z ∈ ns, z.natAbs < 2 ^ K) : ∃ (j : Nat) (c : Int) (h' : DH), φ_law_cells [.rol (ns.map D.int), .int 1] [] = ret (.ref j) h' ∧ h'[j]? = some (.lst [.int c]) ∧ c.natAbs < 2 ^ (K + 14) := by
  have fin : ∀ (j : Nat) (c : Int) (h1 : DH), (∃ h2, b_law_cells ([D.rol (ns.map D.int), D.int 1].map some ++ List.replicate (6 - 2) none) [] = some (.rt (.ref j), h2) ∧ h2[j]? = some (.lst [.int c]) ∧ c.natAbs < 2 ^ (K + 14)) →
      ∃ (j : Nat) (c : Int) (h' : DH), φ_law_cells [.rol (ns.map D.int), .int 1] [] = ret (.ref j) h' ∧ h'[j]? = some (.lst [.int c]) ∧ c.natAbs < 2 ^ (K + 14) := by
    rintro j c h1 ⟨h2, e, e2, b⟩
    refine ⟨j, c, h2, ?_, e2, b⟩
    refine (runF_eq' rfl e).trans ?_
    show gcF [] (ret (D.ref j) h2) = _
    unfold gcF ret
    simp only
    rw [if_neg]
    rintro ⟨c1, _⟩
    have : decide (j < 0) = true := c1
    simp at this
  have hints : ∀ d ∈ cutD (ns.map D.int) (some 1) (some 63), ∃ z : Int, d = .int z ∧ z.natAbs < 2 ^ K := by
    intro d hd
    unfold cutD at hd
    have := List.mem_of_mem_drop (List.mem_of_mem_take hd)
    obtain ⟨z, hz1, rfl⟩ := List.mem_map.mp this
    exact ⟨z, rfl, hz z hz1⟩
  have cl : (cutD (ns.map D.int) (some 1) (some 63)).length ≤ 63 := by
    unfold cutD
    rw [List.length_take, List.length_drop, List.length_map]
    omega
  have el : (enumD (cutD (ns.map D.int) (some 1) (some 63))).length ≤ 63 := by
    unfold enumD
    rw [List.length_mapIdx]
    exact cl
  have big : ∀ c : Int, c.natAbs ≤ (1 + (enumD (cutD (ns.map D.int) (some 1) (some 63))).length) * 2 ^ (K + 7) → c.natAbs < 2 ^ (K + 14) := by
    intro c hc
    refine Nat.lt_of_le_of_lt hc ?_
    rw [show K + 14 = 7 + (K + 7) by omega, Nat.pow_add 2 7]
    exact Nat.mul_lt_mul_of_pos_right (by omega) (Nat.two_pow_pos _)
  cases hns : ns with
  | nil =>
    subst hns
    refine fin 1 0 [] ⟨[.lst [], .lst [.int 0]], ?_, rfl, Nat.two_pow_pos _⟩
    show b_law_cells [some (.rol []), some (.int 1), none, none, none, none] [] = _
    have e0 : sAsg (dOr (dNum (lListL (lSlL (dV 0) pNo (pSo (dV 1))))) (dNum (lLst (aCons (dC (.int 0)) aNil)))) (gN 2) [some (.rol []), some (.int 1), none, none, none, none] [] = some (.nx [some (.rol []), some (.int 1), some (.ref 1), none, none, none], [.lst [], .lst [.int 0]]) := rfl
    have es : iEnumN (lSlL (dV 0) (pSo (dV 1)) (pSo (dC (.int 63)))) [some (.rol []), some (.int 1), some (.ref 1), none, none, none] [.lst [], .lst [.int 0]] = ret ([], sT) [.lst [], .lst [.int 0]] := rfl
    simp only [b_law_cells, sSeq_, e0, seqS_nx]
    rw [sFor_tup es, forGo_nil]
    simp only [seqS_nx, sRet_, dV_2, bindS_ret]
  | cons x r =>
    rw [← hns]
    have hx : x.natAbs < 2 ^ K := hz x (by rw [hns]; exact List.mem_cons_self)
    have e0 : sAsg (dOr (dNum (lListL (lSlL (dV 0) pNo (pSo (dV 1))))) (dNum (lLst (aCons (dC (.int 0)) aNil)))) (gN 2) [some (.rol (ns.map D.int)), some (.int 1), none, none, none, none] [] = some (.nx [some (.rol (ns.map D.int)), some (.int 1), some (.ref 0), none, none, none], [.lst [.int x]]) := by
      have ec : cutD (ns.map D.int) none (some 1) = [.int x] := by
        rw [hns]
        unfold cutD
        have e1 : HT.sIx ((x :: r).map D.int).length 0 none = 0 := rfl
        have e2 : HT.sIx ((x :: r).map D.int).length ((x :: r).map D.int).length (some 1) = 1 := by
          unfold HT.sIx
          simp
          try omega
        rw [e1, e2]
        rfl
      have e1 : lSlL (dV 0) pNo (pSo (dV 1)) [some (.rol (ns.map D.int)), some (.int 1), none, none, none, none] [] = ret (cutD (ns.map D.int) none (some 1)) [] := rfl
      have e2 : dNum (lListL (lSlL (dV 0) pNo (pSo (dV 1)))) [some (.rol (ns.map D.int)), some (.int 1), none, none, none, none] [] = ret (.ref 0) [.lst [.int x]] := by
        unfold dNum lListL
        rw [e1, bindR_ret, bindR_ret, ec]
        rfl
      rw [sAsg_, dOr_, e2, bindR_ret]
      rfl
    obtain ⟨c', h', y3, y4, y5, lp, e', b⟩ := cl_loop (j := 0) hK (.rol (ns.map D.int)) (enumD (cutD (ns.map D.int) (some 1) (some 63))) 1 x [.lst [.int x]] none none none (enum_all (by omega) hints) rfl (by
      rw [Nat.one_mul]
      exact Nat.le_of_lt (Nat.lt_of_lt_of_le hx (Nat.pow_le_pow_right (by decide) (by omega))))
    refine fin 0 c' [] ⟨h', ?_, e', big c' b⟩
    show b_law_cells [some (.rol (ns.map D.int)), some (.int 1), none, none, none, none] [] = _
    simp only [b_law_cells, sSeq_, e0, seqS_nx]
    have es : iEnumN (lSlL (dV 0) (pSo (dV 1)) (pSo (dC (.int 63)))) [some (.rol (ns.map D.int)), some (.int 1), some (.ref 0), none, none, none] [.lst [.int x]] = ret (enumD (cutD (ns.map D.int) (some 1) (some 63)), sT) [.lst [.int x]] := rfl
    rw [sFor_tup es, lp]
    simp only [seqS_nx, sRet_, dV_2, bindS_ret]
theorem e_law_box {K j : Nat} {c : Int} {h : DH} (hK : K ≤ 2000000) (e : h[j]? = some (.lst [.int c])) (hc : c.natAbs < 2 ^ K) : ∃ k h', φ_law_box [.ref j, .int 0] h = ret (.ref k) h' ∧ Tin k 0 h' := by
  generalize hab : (if c < 0 then -c else c) = ab
  have a0 : 0 ≤ ab := by omega
  have sa : ab.natAbs < 2 ^ K := by rw [show ab.natAbs = c.natAbs by omega]; exact hc
  generalize hb : c % 2305843009213693951 + 39373 * 0 + 22186 = b
  have m0 := Int.emod_nonneg c (show (2305843009213693951 : Int) ≠ 0 by decide)
  have m1 := Int.emod_lt_of_pos c (show (0 : Int) < 2305843009213693951 by decide)
  have i0 : oIx (.ref j) (.int 0) h = ret (.int c) h := ix_ref e 0
  have pw0 : oPow (.int 10) (.int 18) h = ret (.int (10 ^ 18)) h := rfl
  have sb : (if decide ((10 : Int) ^ 18 ≤ ab) = true then (1 : Int) else 0).natAbs < 2 ^ 1 := by split <;> decide
  have mz : (39373 : Int).natAbs < 2 ^ 16 := by decide
  have mz2 : (0 : Int).natAbs < 2 ^ 1 := by decide
  have mp : 0 ≤ ab * (if decide ((10 : Int) ^ 18 ≤ ab) = true then (1 : Int) else 0) := by split <;> omega
  generalize ht : ab * (if decide ((10 : Int) ^ 18 ≤ ab) = true then (1 : Int) else 0) = t at mp
  have eb : b_law_box ([D.ref j, D.int 0].map some ++ List.replicate (3 - 2) none) h = some (.rt (.ref h.length), h ++ [tinO t b 0]) := by
    show b_law_box [some (.ref j), some (.int 0), none] h = _
    have e1 : sAsg (dIf (dTest (dBin oLt (dV 1) (dCall fLen (aCons (dV 0) aNil)))) (dBin oIx (dV 0) (dV 1)) (dC (.int 0))) (gN 2) [some (.ref j), some (.int 0), none] h = some (.nx [some (.ref j), some (.int 0), some (.int c)], h) := by
      simp only [sAsg_, dIf_, dTest_, dBin_, dV_0, dV_1, dCall_, aCons_, aNil_, bindR_ret, len_ref e, oLt_, List.length, show decide ((0 : Int) < ((0 + 1 : Nat) : Int)) = true by decide, bD_bl, if_true, i0, bindS_ret, gN_, setE_1, List.set]
    simp only [b_law_box, sSeq_, e1, seqS_nx, sRet_]
    unfold dNum lLst
    simp only [aCons_, dBin_, dCall_, dV_1, dV_2, dC_, aNil_, bindR_ret, fAbs_, hab, pw0, oGe_, fIntB_, sm_mul sa sb (by omega) (by omega), ht, fInt_, oModP (show (0 : Int) < 2305843009213693951 by decide), sm_mul mz mz2, oAdd_, hb]
    rfl
  refine ⟨h.length, h ++ [tinO t b 0], (runF_eq' rfl eb).trans ?_, ⟨t, b, 0, get_last, mp, by omega, by omega, by omega, by omega⟩⟩
  show gcF h (ret (D.ref h.length) (h ++ [tinO t b 0])) = _
  unfold gcF ret
  simp only
  rw [if_neg]
  rintro ⟨c1, _⟩
  have : decide (h.length < h.length) = true := c1
  simp at this
end Pl

set_option Elab.async false
set_option autoImplicit false
set_option linter.all false
set_option maxRecDepth 100000
set_option maxHeartbeats 2000000
set_option exponentiation.threshold 10000
namespace Pl
open Dt Wk
open PySem (Str PyData)

/-! ### rests of fractions, plainly -/
theorem nz_mul {p a b : Int} (hp : pOk p) (ha : a % p ≠ 0) (hb : b % p ≠ 0) : a * b % p ≠ 0 := by
  have l := hp.pos
  have h := prime_mul p hp (a % p) (mem_resid (Int.emod_nonneg _ (by omega)) (Int.emod_lt_of_pos _ l)) (b % p) (mem_resid (Int.emod_nonneg _ (by omega)) (Int.emod_lt_of_pos _ l)) ha hb
  rwa [← Int.mul_emod] at h
theorem cg.nz {p x y : Int} (h : cg p x y) (hx : x % p ≠ 0) : y % p ≠ 0 := by rw [← h.to]; exact hx
theorem cg.cancel {p x y d : Int} (hp : pOk p) (hd : d % p ≠ 0) (h : cg p (x * d) (y * d)) : cg p x y := by
  have c := iv_cg hp hd
  have h1 := h.mul (cg.refl p (iv p d))
  have h2 := (cg.refl p x).mul c
  have h3 := (cg.refl p y).mul c
  rw [Int.mul_one, ← Int.mul_assoc] at h2 h3
  exact h2.symm.trans (h1.trans h3)
/-- x is a rest of q -/
def Rs (p : Int) (q : Rat) (x : Int) : Prop := ∃ n d : Int, d % p ≠ 0 ∧ q * (d : Rat) = (n : Rat) ∧ cg p (x * d) n
theorem cast_ne {d p : Int} (h : d % p ≠ 0) : (d : Rat) ≠ 0 := by
  intro z
  have : d = 0 := by exact_mod_cast z
  rw [this] at h
  exact h (Int.zero_emod p)
theorem Rs.cg {p : Int} {q : Rat} {x y : Int} (h : Rs p q x) (c : cg p x y) : Rs p q y := by
  obtain ⟨n, d, hd, e, r⟩ := h
  exact ⟨n, d, hd, e, (c.mul (Pl.cg.refl p d)).symm.trans r⟩
theorem Rs.add {p : Int} {q r : Rat} {x y : Int} (hp : pOk p) (h : Rs p q x) (g : Rs p r y) : Rs p (q + r) (x + y) := by
  obtain ⟨n, d, hd, e, c⟩ := h
  obtain ⟨m, f, hf, e2, c2⟩ := g
  refine ⟨n * f + m * d, d * f, nz_mul hp hd hf, ?_, ?_⟩
  · rw [Rat.intCast_mul, Rat.intCast_add, Rat.intCast_mul, Rat.intCast_mul, ← e, ← e2]; grind
  · have h1 := (c.mul (cg.refl p f)).add (c2.mul (cg.refl p d))
    rw [show (x + y) * (d * f) = x * d * f + y * f * d by grind]
    exact h1
theorem Rs.mul {p : Int} {q r : Rat} {x y : Int} (hp : pOk p) (h : Rs p q x) (g : Rs p r y) : Rs p (q * r) (x * y) := by
  obtain ⟨n, d, hd, e, c⟩ := h
  obtain ⟨m, f, hf, e2, c2⟩ := g
  refine ⟨n * m, d * f, nz_mul hp hd hf, ?_, ?_⟩
  · rw [Rat.intCast_mul, Rat.intCast_mul, ← e, ← e2]; grind
  · have h1 := c.mul c2
    rw [show x * y * (d * f) = x * d * (y * f) by grind]
    exact h1
theorem Rs.neg {p : Int} {q : Rat} {x : Int} (h : Rs p q x) : Rs p (-q) (-x) := by
  obtain ⟨n, d, hd, e, c⟩ := h
  refine ⟨-n, d, hd, ?_, ?_⟩
  · rw [Rat.intCast_neg, ← e]; grind
  · have h1 := (cg.refl p (-1)).mul c
    rw [show -x * d = -1 * (x * d) by grind, show -n = -1 * n by grind]
    exact h1
theorem Rs.sub {p : Int} {q r : Rat} {x y : Int} (hp : pOk p) (h : Rs p q x) (g : Rs p r y) : Rs p (q - r) (x - y) := by
  have := h.add hp g.neg
  rwa [← Rat.sub_eq_add_neg, ← Int.sub_eq_add_neg] at this
theorem Rs.inv {p : Int} {q : Rat} {x : Int} (hp : pOk p) (hx : x % p ≠ 0) (h : Rs p q x) : q ≠ 0 ∧ Rs p (q⁻¹) (iv p x) := by
  obtain ⟨n, d, hd, e, c⟩ := h
  have hn : n % p ≠ 0 := c.nz (nz_mul hp hx hd)
  have hq : q ≠ 0 := by
    rintro rfl
    rw [Rat.zero_mul] at e
    exact cast_ne hn e.symm
  refine ⟨hq, d, n, hn, ?_, ?_⟩
  · rw [← e]; grind
  · have h1 := ((cg.refl p (iv p x)).mul c).symm
    have h2 := (iv_cg hp hx).mul (cg.refl p d)
    rw [Int.one_mul, show x * iv p x * d = iv p x * (x * d) by grind] at h2
    exact h1.trans h2
theorem Rs.div {p : Int} {q r : Rat} {x y : Int} (hp : pOk p) (hy : y % p ≠ 0) (h : Rs p q x) (g : Rs p r y) : r ≠ 0 ∧ Rs p (q / r) (x * iv p y) := by
  obtain ⟨a, b⟩ := g.inv hp hy
  refine ⟨a, ?_⟩
  rw [Rat.div_def]
  exact h.mul hp b
theorem p_ge {p : Int} (hp : pOk p) : 2 ≤ p := by
  have : ∀ p ∈ P6, (2 : Int) ≤ p := by decide
  exact this p hp
theorem Rs.int {p : Int} (hp : pOk p) (z : Int) : Rs p (z : Rat) z := ⟨z, 1, by rw [one_mod hp]; decide, by rw [show ((1 : Int) : Rat) = 1 from rfl, Rat.mul_one], by rw [Int.mul_one]; exact cg.refl p z⟩
theorem Rs.one {p : Int} (hp : pOk p) : Rs p 1 1 := Rs.int hp 1
theorem Rs.zero {p : Int} (hp : pOk p) : Rs p 0 0 := Rs.int hp 0
theorem num_div (q : Rat) : (q.num : Rat) / (q.den : Rat) = q := by
  rw [← Rat.mkRat_eq_div]
  exact Rat.mkRat_self q
theorem Rs.of {p : Int} {q : Rat} (hp : pOk p) (h : good p q) : Rs p q (rRat p q) := by
  refine ⟨q.num, q.den, h, ?_, ?_⟩
  · have := num_div q
    have hd : ((q.den : Int) : Rat) ≠ 0 := cast_ne h
    have e : q = (q.num : Rat) / ((q.den : Int) : Rat) := by
      rw [Rat.intCast_natCast]
      exact this.symm
    grind
  · have c := (Pl.cg.refl p q.num).mul (iv_cg hp h)
    rw [Int.mul_one] at c
    have c1 : Pl.cg p (rRat p q) (q.num * iv p q.den) := Pl.cg.md _ _
    have c2 := c1.mul (Pl.cg.refl p (q.den : Int))
    rw [show q.num * ((q.den : Int) * iv p q.den) = q.num * iv p q.den * (q.den : Int) by grind] at c
    exact c2.trans c
theorem Rs.good {p : Int} {q : Rat} {x : Int} (hp : pOk p) (h : Rs p q x) : good p q ∧ Pl.cg p (rRat p q) x := by
  obtain ⟨n, d, hd, e, c⟩ := h
  have ei : q.num * d = n * (q.den : Int) := by
    have hq := num_div q
    have h0 : (q.den : Rat) ≠ 0 := by
      have := q.den_nz
      exact_mod_cast this
    have : (q.num : Rat) * (d : Rat) = (n : Rat) * (q.den : Rat) := by grind
    exact_mod_cast this
  have g : Pl.good p q := by
    intro z
    have z1 : q.num * d % p = 0 := by
      rw [ei, Int.mul_emod, z, Int.mul_zero, Int.zero_emod]
    have z2 : q.num % p = 0 := by
      by_cases hz : q.num % p = 0
      · exact hz
      · exact absurd z1 (nz_mul hp hz hd)
    have d1 : p ∣ q.num := Int.dvd_of_emod_eq_zero z2
    have d2 : p ∣ (q.den : Int) := Int.dvd_of_emod_eq_zero z
    have n1 : p.natAbs ∣ q.num.natAbs := Int.natAbs_dvd_natAbs.mpr d1
    have n2 : p.natAbs ∣ q.den := by have := Int.natAbs_dvd_natAbs.mpr d2; rwa [Int.natAbs_natCast] at this
    have := Nat.dvd_gcd n1 n2
    rw [q.reduced] at this
    have := Nat.le_of_dvd (by decide) this
    have := p_ge hp
    omega
  refine ⟨g, ?_⟩
  obtain ⟨n2, d2, hd2, e2, c2⟩ := Rs.of hp g
  have h1 := c2.mul (Pl.cg.refl p d)
  have h2 := c.mul (Pl.cg.refl p d2)
  have e3 : n2 * d = n * d2 := by
    have : (n2 : Rat) * (d : Rat) = (n : Rat) * (d2 : Rat) := by rw [← e, ← e2]; grind
    exact_mod_cast this
  rw [e3] at h1
  have h3 := h1.trans h2.symm
  rw [show rRat p q * d2 * d = rRat p q * (d2 * d) by grind, show x * d * d2 = x * (d2 * d) by grind] at h3
  exact h3.cancel hp (nz_mul hp hd2 hd)
theorem rRat_bd {p : Int} (hp : pOk p) (q : Rat) : 0 ≤ rRat p q ∧ rRat p q < p := ⟨Int.emod_nonneg _ (by have := hp.pos; omega), Int.emod_lt_of_pos _ hp.pos⟩
theorem Rs.eq {p : Int} {q : Rat} {x : Int} (hp : pOk p) (h : Rs p q x) (h0 : 0 ≤ x) (h1 : x < p) : rRat p q = x := (h.good hp).2.eq (rRat_bd hp q).1 (rRat_bd hp q).2 h0 h1
theorem Rs.eqm {p : Int} {q : Rat} {x : Int} (hp : pOk p) (h : Rs p q x) : rRat p q = x % p := Rs.eq hp (h.cg (cg.md p x).symm) (Int.emod_nonneg _ (by have := hp.pos; omega)) (Int.emod_lt_of_pos _ hp.pos)
end Pl

set_option Elab.async false
set_option autoImplicit false
set_option linter.all false
set_option maxRecDepth 100000
set_option maxHeartbeats 2000000
set_option exponentiation.threshold 10000
namespace Pl
open Dt Wk
open PySem (Str PyData)

/-! ### rests of maps, plainly -/
structure RM (p : Int) (m : Mp) (a : Rm) : Prop where
  r1 : Rs p m.1 a.1
  r2 : Rs p m.2 a.2
  ft : fit p a
theorem RM.nz {p : Int} {m : Mp} {a : Rm} (hp : pOk p) (h : RM p m a) : m.1 ≠ 0 := (h.r1.inv hp h.ft.ne).1
theorem RM.beh {p : Int} {m n : Mp} {a b : Rm} (hp : pOk p) (h : RM p m a) (g : RM p n b) : RM p (mBeh m n) (rBeh p a b) :=
  ⟨(h.r1.mul hp g.r1).cg (cg.md _ _).symm, ((h.r1.mul hp g.r2).add hp h.r2).cg (cg.md _ _).symm, fit_beh hp h.ft g.ft⟩
theorem RM.inv {p : Int} {m : Mp} {a : Rm} (hp : pOk p) (h : RM p m a) : RM p (mInv m) (rInv p a) := by
  obtain ⟨n, i⟩ := h.r1.inv hp h.ft.ne
  refine ⟨?_, ?_, fit_inv hp h.ft⟩
  · show Rs p (1 / m.1) (iv p a.1)
    rw [Rat.div_def, Rat.one_mul]
    exact i
  · show Rs p (-(m.2 / m.1)) (-(iv p a.1) * a.2 % p)
    have := (h.r2.div hp h.ft.ne h.r1).2.neg
    refine this.cg ?_
    rw [show -(a.2 * iv p a.1) = -(iv p a.1) * a.2 by grind]
    exact (cg.md _ _).symm
theorem RM.one {p : Int} (hp : pOk p) : RM p (1, 0) (1, 0) := ⟨Rs.one hp, Rs.zero hp, fit_one hp⟩
theorem RM.letter {p : Int} {m n : Mp} {a b : Rm} (hp : pOk p) (h : RM p m a) (g : RM p n b) (l : Int) : RM p (lm m n l) (rl p a b l) := by
  unfold lm rl
  split
  · exact h
  · split
    · exact h.inv hp
    · split
      · exact g
      · exact g.inv hp
theorem RM.word {p : Int} {m n : Mp} {a b : Rm} (hp : pOk p) (h : RM p m a) (g : RM p n b) : ∀ (w : List Int) (f : Mp) (c : Rm), RM p f c → RM p (wMap m n f w) (rWord p a b c w)
  | [], f, c, r => r
  | l :: w, f, c, r => RM.word hp h g w _ _ (r.beh hp (h.letter hp g l))
theorem RM.oft {p : Int} (hp : pOk p) : ∀ (k n : Nat) (b f : Mp) (c d : Rm), RM p b c → RM p f d → RM p (Pl.oft mBeh k b f n) (Pl.oft (rBeh p) k c d n)
  | 0, n, b, f, c, d, _, h => h
  | k + 1, n, b, f, c, d, hb, hf => by
    unfold Pl.oft
    split
    · exact hf
    · refine RM.oft hp k _ _ _ _ _ (hb.beh hp hb) ?_
      split
      · exact hf.beh hp hb
      · exact hf
theorem beh_one {p : Int} (hp : pOk p) {a : Rm} (ha : fit p a) : rBeh p (1, 0) a = a := by
  unfold rBeh
  have h1 := ha.1
  have h2 := ha.2
  rw [Int.one_mul, Int.one_mul, Int.add_zero, Int.emod_eq_of_lt (by omega) h1.2, Int.emod_eq_of_lt h2.1 h2.2]
theorem RM.turn {p : Int} {t m : Mp} {c a : Rm} (hp : pOk p) (ht : RM p t c) (h : RM p m a) : RM p (mTurn t m) (rTurn p c a) := by
  unfold mTurn rTurn
  rw [beh_one hp ht.ft]
  exact (ht.beh hp h).beh hp (ht.inv hp)
theorem RM.of {p : Int} {m : Mp} (hp : pOk p) (h : goodM p m) : RM p m (rMap p m) := by
  refine ⟨Rs.of hp h.2.1, Rs.of hp h.2.2, ⟨?_, (rRat_bd hp m.1).2⟩, rRat_bd hp m.2⟩
  have n : rRat p m.1 ≠ 0 := fun z => h.1 ((rRat_zero hp h.2.1).mp z)
  have := (rRat_bd hp m.1).1
  show 0 < rRat p m.1
  omega
theorem RM.good {p : Int} {m : Mp} {a : Rm} (hp : pOk p) (h : RM p m a) : goodM p m ∧ rMap p m = a := by
  have e1 := h.r1.eq hp (by have := h.ft.1; omega) h.ft.1.2
  have e2 := h.r2.eq hp h.ft.2.1 h.ft.2.2
  have g1 := (h.r1.good hp).1
  refine ⟨⟨fun z => ?_, g1, (h.r2.good hp).1⟩, Prod.ext e1 e2⟩
  have := (rRat_zero hp g1).mpr z
  have := h.ft.1.1
  omega
theorem RM.heard {p : Int} {m : Mp} {a : Rm} (hp : pOk p) (h : RM p m a) : hM p m = eP a := by
  obtain ⟨g, e⟩ := h.good hp
  unfold hM
  rw [if_pos g, e]
theorem RM.at {p : Int} {m : Mp} {a : Rm} {x : Rat} {r : Int} (hp : pOk p) (h : RM p m a) (g : Rs p x r) : Rs p (mAt m x) ((a.1 * r + a.2) % p) := ((h.r1.mul hp g).add hp h.r2).cg (cg.md _ _).symm
/-! ### the gap -/
def rGap (a b : Rm) : Int := a.2 * (1 - b.1) - b.2 * (1 - a.1)
theorem RM.gap {p : Int} {m n : Mp} {a b : Rm} (hp : pOk p) (h : RM p m a) (g : RM p n b) : Rs p (mGap m n) (rGap a b) :=
  (h.r2.mul hp ((Rs.one hp).sub hp g.r1)).sub hp (g.r2.mul hp ((Rs.one hp).sub hp h.r1))
theorem gap_turn {t f g : Mp} (ht : t.1 ≠ 0) : mGap (mTurn t f) (mTurn t g) = mGap f g * t.1 := by
  unfold mGap mTurn mBeh mInv
  simp only
  grind
theorem swap_gap {p : Int} {a b : Rm} (hp : pOk p) : decide (rBeh p a b = rBeh p b a) = (rGap a b % p == 0) := by
  have key : rBeh p a b = rBeh p b a ↔ rGap a b % p = 0 := by
    unfold rBeh rGap
    constructor
    · intro h
      injection h with h1 h2
      have c := (cg.of h2).sub (cg.refl p (b.1 * a.2 + b.2))
      have := c.to
      rw [Int.sub_self, Int.zero_emod] at this
      rw [show a.2 * (1 - b.1) - b.2 * (1 - a.1) = a.1 * b.2 + a.2 - (b.1 * a.2 + b.2) by grind]
      exact this
    · intro h
      have c : cg p (a.2 * (1 - b.1) - b.2 * (1 - a.1)) 0 := cg.of (by rw [h]; rfl)
      have c2 := c.add (cg.refl p (b.1 * a.2 + b.2))
      rw [show a.2 * (1 - b.1) - b.2 * (1 - a.1) + (b.1 * a.2 + b.2) = a.1 * b.2 + a.2 by grind, Int.zero_add] at c2
      rw [c2.to, Int.mul_comm a.1 b.1]
  by_cases h : rGap a b % p = 0
  · rw [decide_eq_true (key.mpr h), h]; rfl
  · rw [decide_eq_false (fun z => h (key.mp z))]
    exact (beq_false_of_ne h).symm
/-! ### kept rests, home -/
theorem kept_all : ∀ p ∈ P6, ∀ a ∈ resid p, a ≠ 0 → ∀ b ∈ resid p, (a ≠ 1 → (1 - a) % p ≠ 0 ∧ keptL p (a, b) = [b * iv p (1 - a) % p]) ∧ (a = 1 → (keptL p (a, b)).length ≠ 1) := by decide +kernel
theorem home_all : ∀ p ∈ P6, ∀ a ∈ resid p, a ≠ 0 → ∀ b ∈ resid p, (0 ≤ home p (a, b) ∧ (home p (a, b)).natAbs < 2 ^ 4) ∧ Pl.oft (rBeh p) 4 (a, b) (1, 0) (home p (a, b)).natAbs = (1, 0) := by decide +kernel
theorem RM.kept {p : Int} {f : Mp} {a : Rm} (hp : pOk p) (h : RM p f a) (h1 : a.1 ≠ 1) : f.1 ≠ 1 ∧ keptL p a = [rRat p (f.2 / (1 - f.1))] := by
  obtain ⟨a1, a2⟩ := a
  have k := (kept_all p hp a1 (mem_resid (by have := h.ft.1; omega) h.ft.1.2) (by have := h.ft.1.1; show a1 ≠ 0; omega) a2 (mem_resid h.ft.2.1 h.ft.2.2)).1 h1
  obtain ⟨n, r⟩ := h.r2.div hp k.1 ((Rs.one hp).sub hp h.r1)
  refine ⟨fun z => n (by rw [z]; exact Rat.sub_self), ?_⟩
  rw [k.2, r.eqm hp]
/-! ### between -/
theorem btw_back {m : Mp} {x y : Rat} (hxy : x ≠ y) (hm : m.1 ≠ 0) : mAt m x ≠ mAt m y ∧ ((mAt m y - mAt m x) / (y - x), mAt m x - (mAt m y - mAt m x) / (y - x) * x) = m := by
  have h : y - x ≠ 0 := fun z => hxy (by grind)
  have e : (mAt m y - mAt m x) / (y - x) = m.1 := by unfold mAt; grind
  refine ⟨fun z => ?_, Prod.ext e (by rw [e]; unfold mAt; grind)⟩
  unfold mAt at z
  have : m.1 * (y - x) = 0 := by grind
  rcases Rat.mul_eq_zero.mp this with q | q
  · exact hm q
  · exact h q
theorem rBtw_back {p : Int} (hp : pOk p) {a : Rm} (ha : fit p a) {x y : Int} (hx : 0 ≤ x ∧ x < p) (hy : 0 ≤ y ∧ y < p) (hxy : x ≠ y) : (a.1 * x + a.2) % p ≠ (a.1 * y + a.2) % p ∧ rBtw p x y ((a.1 * x + a.2) % p) ((a.1 * y + a.2) % p) = a := by
  have l := hp.pos
  have nz : (y - x) % p ≠ 0 := by
    intro z
    have c : cg p (y - x) 0 := cg.of (by rw [z]; rfl)
    have c2 := c.add (cg.refl p x)
    rw [show y - x + x = y by omega, Int.zero_add] at c2
    exact hxy (c2.eq hy.1 hy.2 hx.1 hx.2).symm
  have cd : cg p ((a.1 * y + a.2) % p - (a.1 * x + a.2) % p) (a.1 * (y - x)) := by
    have := (cg.md p (a.1 * y + a.2)).sub (cg.md p (a.1 * x + a.2))
    rwa [show a.1 * y + a.2 - (a.1 * x + a.2) = a.1 * (y - x) by grind] at this
  have c1 : cg p (((a.1 * y + a.2) % p - (a.1 * x + a.2) % p) * iv p (y - x)) a.1 := by
    have h1 := cd.mul (cg.refl p (iv p (y - x)))
    have h2 := (cg.refl p a.1).mul (iv_cg hp nz)
    rw [Int.mul_one] at h2
    rw [Int.mul_assoc] at h1
    exact h1.trans h2
  have e1 : ((a.1 * y + a.2) % p - (a.1 * x + a.2) % p) * iv p (y - x) % p = a.1 := by
    rw [c1.to, Int.emod_eq_of_lt (by have := ha.1; omega) ha.1.2]
  refine ⟨fun z => ?_, ?_⟩
  · rw [z, Int.sub_self] at cd
    have := cd.to
    rw [Int.zero_emod] at this
    exact nz_mul hp ha.ne nz this.symm
  · unfold rBtw
    rw [e1]
    refine Prod.ext rfl ?_
    show ((a.1 * x + a.2) % p - a.1 * x) % p = a.2
    have c3 := (cg.md p (a.1 * x + a.2)).sub (cg.refl p (a.1 * x))
    rw [show a.1 * x + a.2 - a.1 * x = a.2 by omega] at c3
    rw [c3.to, Int.emod_eq_of_lt ha.2.1 ha.2.2]
end Pl

set_option Elab.async false
set_option autoImplicit false
set_option linter.all false
set_option maxRecDepth 100000
set_option maxHeartbeats 2000000
set_option exponentiation.threshold 10000
namespace Pl
open Dt Wk
open PySem (Str PyData)

/-! ### lists made in a def -/
theorem at_app (h t : DH) (i : Nat) : (h ++ t)[h.length + i]? = t[i]? := by
  rw [List.getElem?_append_right (by omega)]
  congr 1
  omega
theorem num_app {g : DA} {ρ : Ev} {h t : DH} {ds : List D} (e : g ρ (h ++ t) = ret ds (h ++ t)) (ok : ds.length ≤ 1000) : dNum (lLst g) ρ (h ++ t) = ret (.ref (h.length + t.length)) (h ++ (t ++ [.lst ds])) := by
  unfold dNum lLst
  rw [e, bindR_ret, if_pos (show okLen ds.length = true from decide_eq_true (by omega)), bindR_ret]
  show ret (D.ref (h ++ t).length) (h ++ t ++ [O.lst ds]) = _
  rw [List.length_append, List.append_assoc]
theorem all2_same {n : Nat} {h : DH} : ∀ xs : List D, (∀ x ∈ xs, SameN n h x x) → All2 (SameN n h) xs xs
  | [], _ => .nil
  | x :: xs, a => .cons (a x List.mem_cons_self) (all2_same xs fun y hy => a y (List.mem_cons_of_mem _ hy))
theorem same_ref {n : Nat} {h : DH} {j l : Nat} {xs : List D} (ej : h[j]? = some (.lst xs)) (el : h[l]? = some (.lst xs)) (hl : xs.length ≤ 1000) (a : ∀ x ∈ xs, SameN n h x x) : SameN (n + 1) h (.ref j) (.ref l) :=
  .inr (.inr ⟨j, l, xs, xs, rfl, rfl, ej, el, hl, all2_same xs a⟩)
theorem same_int {n : Nat} {h : DH} (i : Int) : SameN n h (.int i) (.int i) := by
  cases n with
  | zero => exact ⟨rfl, trivial⟩
  | succ n => exact .inl ⟨rfl, trivial⟩
theorem same_bl {n : Nat} {h : DH} (i : Bool) : SameN n h (.bl i) (.bl i) := by
  cases n with
  | zero => exact ⟨rfl, trivial⟩
  | succ n => exact .inl ⟨rfl, trivial⟩
theorem same_tup {n : Nat} {h : DH} {xs : List D} (hl : xs.length ≤ 1000) (a : ∀ x ∈ xs, SameN n h x x) : SameN (n + 1) h (.tup xs) (.tup xs) :=
  .inr (.inl ⟨xs, xs, rfl, rfl, hl, all2_same xs a⟩)
theorem same_eP {n : Nat} {h : DH} (a : Rm) : SameN (n + 1) h (eP a) (eP a) := same_tup (by simp) fun x hx => by
  rcases List.mem_cons.mp hx with rfl | hx
  · exact same_int _
  · rcases List.mem_cons.mp hx with rfl | hx
    · exact same_int _
    · cases hx
theorem same_eR {n : Nat} {h : DH} (q : Rat) : SameN (n + 1) h (eR q) (eR q) := same_tup (by simp) fun x hx => by
  rcases List.mem_cons.mp hx with rfl | hx
  · exact same_int _
  · rcases List.mem_cons.mp hx with rfl | hx
    · exact same_int _
    · cases hx
theorem same_eM {n : Nat} {h : DH} (m : Mp) : SameN (n + 2) h (eM m) (eM m) := same_tup (by simp) fun x hx => by
  rcases List.mem_cons.mp hx with rfl | hx
  · exact same_eR _
  · rcases List.mem_cons.mp hx with rfl | hx
    · exact same_eR _
    · cases hx
theorem lR_good {p : Int} {q : Rat} (h : good p q) : lR p q = .int (rRat p q) := if_neg h
theorem mul_app {h t : DH} {i : Nat} {xs : List D} (e : t[i]? = some (.lst xs)) (hl : xs.length ≤ 100) : oMul (.ref (h.length + i)) (.int 2) (h ++ t) = ret (.ref (h.length + t.length)) (h ++ (t ++ [.lst (xs ++ xs)])) := by
  show (match (h ++ t)[h.length + i]? with
    | some (.lst xs) => if (okLen (xs.length * (2 : Int).toNat) && decide (-(2 ^ 63) ≤ (2 : Int) ∧ (2 : Int) < 2 ^ 63)) = true then newL (List.replicate (2 : Int).toNat xs).flatten (h ++ t) else none
    | _ => none) = _
  rw [at_app, e]
  simp only
  rw [if_pos (Bool.and_eq_true_iff.mpr ⟨show okLen (xs.length * (2 : Int).toNat) = true from decide_eq_true (by show xs.length * 2 ≤ _; omega), by decide⟩)]
  show ret (D.ref (h ++ t).length) (h ++ t ++ [O.lst (xs ++ (xs ++ []))]) = _
  rw [List.length_append, List.append_assoc, List.append_nil]
theorem add_app {h t : DH} {i j : Nat} {xs ys : List D} (e : t[i]? = some (.lst xs)) (e2 : t[j]? = some (.lst ys)) (hl : xs.length ≤ 100) (hl2 : ys.length ≤ 100) : oAdd (.ref (h.length + i)) (.ref (h.length + j)) (h ++ t) = ret (.ref (h.length + t.length)) (h ++ (t ++ [.lst (xs ++ ys)])) := by
  show (match (h ++ t)[h.length + i]?, (h ++ t)[h.length + j]? with
    | some (.lst xs), some (.lst ys) => if okLen (xs.length + ys.length) = true then newL (xs ++ ys) (h ++ t) else none
    | _, _ => none) = _
  rw [at_app, at_app, e, e2]
  simp only
  rw [if_pos (show okLen (xs.length + ys.length) = true from decide_eq_true (by omega))]
  show ret (D.ref (h ++ t).length) (h ++ t ++ [O.lst (xs ++ ys)]) = _
  rw [List.length_append, List.append_assoc]
/-! ### numbers -/
theorem e_law_numbers {p : Int} {x y : Rat} (hp : pOk p) (hx : Sq 3 x) (hy : Sq 3 y) (gx : good p x) (gy : good p y) (h : DH) : φ_law_numbers_right [.int p, eR x, eR y] h = ret (.bl true) h := by
  have bx := rRat_bd hp x
  have b_y := rRat_bd hp y
  have sx := sz_res hp bx.1 bx.2
  have sy := sz_res hp b_y.1 b_y.2
  have rx := Rs.of hp gx
  have ry := Rs.of hp gy
  have e1 := (rx.add hp ry).eqm hp
  have e2 := (rx.sub hp ry).eqm hp
  have e3 := (rx.mul hp ry).eqm hp
  have g1 := ((rx.add hp ry).good hp).1
  have g2 := ((rx.sub hp ry).good hp).1
  have g3 := ((rx.mul hp ry).good hp).1
  generalize hn : rRat p x = n at *
  generalize hf : rRat p y = f at *
  have a1 : sPar 3 4 (aCons (dFn 2 φ_law_rest (aCons (dV 0) (aCons (dV 1) aNil))) (aCons (dFn 2 φ_law_rest (aCons (dV 0) (aCons (dV 2) aNil))) aNil)) [some (.int p), some (eR x), some (eR y), none, none, none] (h ++ []) = some (.nx [some (.int p), some (eR x), some (eR y), some (.int n), some (.int f), none], h ++ []) := by
    simp only [sPar_, aCons_, dFn_, dV_0, dV_1, dV_2, aNil_, bindR_ret, List.length, if_true, e_law_rest hp hx, e_law_rest hp hy, lR_good gx, lR_good gy, hn, hf, bindS_ret, List.set]
  have a2 := num_app (h := h) (t := []) (ρ := [some (.int p), some (eR x), some (eR y), some (.int n), some (.int f), none]) (g := aCons (dFn 2 φ_p_rest_of (aCons (dFn 2 φ_p_plus (aCons (dV 1) (aCons (dV 2) aNil))) (aCons (dV 0) aNil))) (aCons (dFn 2 φ_p_rest_of (aCons (dFn 2 φ_p_less (aCons (dV 1) (aCons (dV 2) aNil))) (aCons (dV 0) aNil))) (aCons (dFn 2 φ_p_rest_of (aCons (dFn 2 φ_p_times (aCons (dV 1) (aCons (dV 2) aNil))) (aCons (dV 0) aNil))) aNil)))
    (ds := [.int ((n + f) % p), .int ((n - f) % p), .int (n * f % p)]) (by
      simp only [aCons_, dFn_, dV_0, dV_1, dV_2, aNil_, bindR_ret, List.length, if_true, e_plus hx hy, e_less hx hy, e_times hx hy, e_rest_of hp (sq_add hx hy) g1, e_rest_of hp (sq_sub hx hy) g2, e_rest_of hp (sq_mul hx hy) g3, e1, e2, e3]) (by simp)
  have a3 := num_app (h := h) (t := [.lst [.int ((n + f) % p), .int ((n - f) % p), .int (n * f % p)]]) (ρ := [some (.int p), some (eR x), some (eR y), some (.int n), some (.int f), some (.ref (h.length + 0))]) (g := aCons (dBin oMod (dBin oAdd (dV 3) (dV 4)) (dV 0)) (aCons (dBin oMod (dBin oSub (dV 3) (dV 4)) (dV 0)) (aCons (dBin oMod (dBin oMul (dV 3) (dV 4)) (dV 0)) aNil)))
    (ds := [.int ((n + f) % p), .int ((n - f) % p), .int (n * f % p)]) (by
      simp only [aCons_, dBin_, dV_0, dV_3, dV_4, aNil_, bindR_ret, oAdd_, oSub_, sm_mul sx sy, oModP hp.pos]) (by simp)
  have a4 := e_law_same 7 (h ++ ([.lst [.int ((n + f) % p), .int ((n - f) % p), .int (n * f % p)]] ++ [.lst [.int ((n + f) % p), .int ((n - f) % p), .int (n * f % p)]])) (.ref (h.length + 0)) (.ref (h.length + 1))
    (same_ref (at_app _ _ 0) (at_app _ _ 1) (by simp) fun d hd => by
      simp only [List.mem_cons, List.not_mem_nil, or_false] at hd
      rcases hd with rfl | rfl | rfl <;> exact same_int _)
  have b1 : sAsg (dNum (lLst (aCons (dFn 2 φ_p_rest_of (aCons (dFn 2 φ_p_plus (aCons (dV 1) (aCons (dV 2) aNil))) (aCons (dV 0) aNil))) (aCons (dFn 2 φ_p_rest_of (aCons (dFn 2 φ_p_less (aCons (dV 1) (aCons (dV 2) aNil))) (aCons (dV 0) aNil))) (aCons (dFn 2 φ_p_rest_of (aCons (dFn 2 φ_p_times (aCons (dV 1) (aCons (dV 2) aNil))) (aCons (dV 0) aNil))) aNil))))) (gN 5) [some (.int p), some (eR x), some (eR y), some (.int n), some (.int f), none] (h ++ []) =
      some (.nx [some (.int p), some (eR x), some (eR y), some (.int n), some (.int f), some (.ref (h.length + 0))], h ++ [.lst [.int ((n + f) % p), .int ((n - f) % p), .int (n * f % p)]]) := by
    rw [sAsg_, a2, bindS_ret]
    rfl
  have b2 : bNot (dTru (dFn 2 (φ_law_same 8) (aCons (dV 5) (aCons (dNum (lLst (aCons (dBin oMod (dBin oAdd (dV 3) (dV 4)) (dV 0)) (aCons (dBin oMod (dBin oSub (dV 3) (dV 4)) (dV 0)) (aCons (dBin oMod (dBin oMul (dV 3) (dV 4)) (dV 0)) aNil))))) aNil)))) [some (.int p), some (eR x), some (eR y), some (.int n), some (.int f), some (.ref (h.length + 0))] (h ++ [.lst [.int ((n + f) % p), .int ((n - f) % p), .int (n * f % p)]]) =
      ret false (h ++ ([.lst [.int ((n + f) % p), .int ((n - f) % p), .int (n * f % p)]] ++ [.lst [.int ((n + f) % p), .int ((n - f) % p), .int (n * f % p)]])) := by
    rw [bNot_, dTru_, dFn_, aCons_, dV_5, bindR_ret, aCons_, a3, bindR_ret, aNil_, bindR_ret, bindR_ret, bindR_ret, if_pos (show ([D.ref (h.length + 0), D.ref (h.length + [O.lst [D.int ((n + f) % p), D.int ((n - f) % p), D.int (n * f % p)]].length)] : List D).length = 2 from rfl)]
    rw [show φ_law_same 8 [D.ref (h.length + 0), D.ref (h.length + [O.lst [.int ((n + f) % p), .int ((n - f) % p), .int (n * f % p)]].length)] _ = _ from a4]
    rfl
  obtain ⟨t1, ht1⟩ : ∃ t1, ([.lst [.int ((n + f) % p), .int ((n - f) % p), .int (n * f % p)]] ++ [.lst [.int ((n + f) % p), .int ((n - f) % p), .int (n * f % p)]] : DH) = t1 := ⟨_, rfl⟩
  have lt1 : t1.length = 2 := by rw [← ht1]; rfl
  rw [ht1] at b2
  have start : φ_law_numbers_right [.int p, eR x, eR y] h = gcF h (endF (b_law_numbers_right [some (.int p), some (eR x), some (eR y), none, none, none] (h ++ []))) := by rw [List.append_nil]; exact runF_eq rfl
  rw [start]
  simp only [b_law_numbers_right, sSeq_, a1, seqS_nx, b1, sIf_, b2, bindS_ret, Bool.false_eq_true, if_false, sNext_, dTest_, dBin_, dV_4, dC_, bindR_ret, oEq_int, bD_bl]
  by_cases hf0 : f = 0
  · rw [show (f == 0) = true by rw [hf0]; rfl]
    simp only [if_true, sRet_, dC_, bindS_ret, seqS_rt]
    exact gcF_app rfl
  · rw [show (f == 0) = false from beq_false_of_ne hf0]
    simp only [Bool.false_eq_true, if_false, sNext_, seqS_nx, sRet_]
    have fp : f % p ≠ 0 := by rw [Int.emod_eq_of_lt b_y.1 b_y.2]; exact hf0
    obtain ⟨y0, rd⟩ := rx.div hp fp ry
    have e4 := rd.eqm hp
    have g4 := (rd.good hp).1
    have si := iv_sz hp fp
    have dx : Rat.divInt x.num (x.den : Int) = x := Rat.num_divInt_den x
    have c1 := num_app (h := h) (t := t1) (ρ := [some (.int p), some (eR x), some (eR y), some (.int n), some (.int f), some (.ref (h.length + 0))]) (g := aCons (dFn 2 φ_p_rest_of (aCons (dFn 2 φ_p_over (aCons (dV 1) (aCons (dV 2) aNil))) (aCons (dV 0) aNil))) (aCons (dFn 3 φ_p_rest_over (aCons (dV 3) (aCons (dV 4) (aCons (dV 0) aNil)))) (aCons (dFn 2 φ_p_rest_of (aCons (dFn 2 φ_p_fraction (aCons (dBin oIx (dV 1) (dC (.int 0))) (aCons (dBin oIx (dV 1) (dC (.int 1))) aNil))) (aCons (dV 0) aNil))) aNil)))
      (ds := [.int (n * iv p f % p), .int (n * iv p f % p), .int n]) (by
        simp only [aCons_, dFn_, dBin_, dC_, ix_eR0, ix_eR1, dV_0, dV_1, dV_2, dV_3, dV_4, aNil_, bindR_ret, List.length, if_true, e_over hx hy y0, e_rest_of hp (sq_div hx hy y0) g4, e4,
          e_rest_over hp (Nat.lt_of_lt_of_le sx (Nat.pow_le_pow_right (by decide) (by decide : 4 ≤ 8000))) fp, e_fraction (den_ne x) (Nat.lt_of_lt_of_le hx.n (Nat.pow_le_pow_right (by decide) (by decide : 3 ≤ 8000))) (Nat.lt_of_lt_of_le hx.dn (Nat.pow_le_pow_right (by decide) (by decide : 3 ≤ 8000))), dx, e_rest_of hp hx gx, hn]
        rfl) (by simp)
    generalize hv : n * iv p f % p = v at c1
    generalize hρ : ([some (.int p), some (eR x), some (eR y), some (.int n), some (.int f), some (.ref (h.length + 0))] : Ev) = ρ at c1 ⊢
    have v0 : dV 0 ρ = fun h => ret (.int p) h := by rw [← hρ]; rfl
    have v3 : dV 3 ρ = fun h => ret (.int n) h := by rw [← hρ]; rfl
    have v4 : dV 4 ρ = fun h => ret (.int f) h := by rw [← hρ]; rfl
    obtain ⟨t2, ht2⟩ : ∃ t2, t1 ++ [O.lst [.int v, .int v, .int n]] = t2 := ⟨_, rfl⟩
    have lt2 : t2.length = 3 := by rw [← ht2, List.length_append, lt1]; rfl
    have c2 := num_app (h := h) (t := t2) (ρ := ρ) (g := aCons (dBin oMod (dBin oMul (dV 3) (dFn 2 φ_law_rest_back (aCons (dV 0) (aCons (dV 4) aNil)))) (dV 0)) aNil) (ds := [.int v]) (by
      simp only [aCons_, dBin_, dFn_, v0, v3, v4, aNil_, bindR_ret, List.length, if_true, e_law_rest_back hp (by omega : 0 < f) b_y.2, sm_mul sx si, oModP hp.pos, hv]) (by simp)
    have c3 := mul_app (h := h) (t := t2 ++ [.lst [.int v]]) (i := t2.length) (xs := [.int v]) (by simp) (by simp)
    obtain ⟨t3, ht3⟩ : ∃ t3, t2 ++ [O.lst [.int v]] ++ [O.lst ([.int v] ++ [.int v])] = t3 := ⟨_, rfl⟩
    have c4 := num_app (h := h) (t := t3) (ρ := ρ) (g := aCons (dV 3) aNil) (ds := [.int n]) (by simp only [aCons_, v3, aNil_, bindR_ret]) (by simp)
    have c5 := add_app (h := h) (t := t3 ++ [.lst [.int n]]) (i := t2.length + 1) (j := t3.length) (xs := [.int v] ++ [.int v]) (ys := [.int n]) (by rw [← ht3]; simp) (by simp) (by simp) (by simp)
    have c6 := e_law_same 7 (h ++ (t3 ++ [.lst [.int n]] ++ [.lst ([.int v] ++ [.int v] ++ [.int n])])) (.ref (h.length + 2)) (.ref (h.length + (t3 ++ [O.lst [.int n]]).length))
      (same_ref (xs := [.int v, .int v, .int n]) (by rw [at_app, ← ht3, ← ht2, ← ht1]; rfl) (by rw [at_app]; simp) (by simp) fun d hd => by
        simp only [List.mem_cons, List.not_mem_nil, or_false] at hd
        rcases hd with rfl | rfl | rfl <;> exact same_int _)
    rw [ht2] at c1
    have fin : dFn 2 (φ_law_same 8) (aCons (dNum (lLst (aCons (dFn 2 φ_p_rest_of (aCons (dFn 2 φ_p_over (aCons (dV 1) (aCons (dV 2) aNil))) (aCons (dV 0) aNil))) (aCons (dFn 3 φ_p_rest_over (aCons (dV 3) (aCons (dV 4) (aCons (dV 0) aNil)))) (aCons (dFn 2 φ_p_rest_of (aCons (dFn 2 φ_p_fraction (aCons (dBin oIx (dV 1) (dC (.int 0))) (aCons (dBin oIx (dV 1) (dC (.int 1))) aNil))) (aCons (dV 0) aNil))) aNil))))) (aCons (dBin oAdd (dBin oMul (dNum (lLst (aCons (dBin oMod (dBin oMul (dV 3) (dFn 2 φ_law_rest_back (aCons (dV 0) (aCons (dV 4) aNil)))) (dV 0)) aNil))) (dC (.int 2))) (dNum (lLst (aCons (dV 3) aNil)))) aNil)) ρ (h ++ t1) =
        ret (.bl true) (h ++ (t3 ++ [.lst [.int n]] ++ [.lst ([.int v] ++ [.int v] ++ [.int n])])) := by
      rw [lt1] at c1
      rw [dFn_, aCons_, c1, bindR_ret, aCons_, dBin_, dBin_, c2, bindR_ret, dC_, bindR_ret, c3, ht3, bindR_ret, c4, bindR_ret]
      rw [show (t2 ++ [O.lst [D.int v]]).length = t2.length + 1 by simp, c5, bindR_ret, aNil_, bindR_ret, bindR_ret, bindR_ret]
      exact c6
    rw [fin, bindS_ret]
    exact gcF_app rfl
end Pl

set_option Elab.async false
set_option autoImplicit false
set_option linter.all false
set_option maxRecDepth 100000
set_option maxHeartbeats 2000000
set_option exponentiation.threshold 10000
namespace Pl
open Dt Wk
open PySem (Str PyData)

/-! ### between -/
def eRs (x y : Rat) : D := .tup [eR x, eR y]
theorem e_law_between {p : Int} {m : Mp} {a : Rm} {x y : Rat} (hp : pOk p) (hm : Sm 3 m) (hr : RM p m a) (hx : Sq 3 x) (hy : Sq 3 y) (gx : good p x) (gy : good p y) (h : DH) : φ_law_between_right [.int p, eM m, eP a, eRs x y] h = ret (.bl true) h := by
  refine runF_rt rfl ?_
  show b_law_between_right [some (.int p), some (eM m), some (eP a), some (eRs x y), none, none, none, none, none, none, none] h = _
  have bx := rRat_bd hp x
  have b_y := rRat_bd hp y
  have rx := Rs.of hp gx
  have ry := Rs.of hp gy
  have ax := hr.at hp rx
  have ay := hr.at hp ry
  have ex := ax.eq hp (Int.emod_nonneg _ (by have := hp.pos; omega)) (Int.emod_lt_of_pos _ hp.pos)
  have ey := ay.eq hp (Int.emod_nonneg _ (by have := hp.pos; omega)) (Int.emod_lt_of_pos _ hp.pos)
  have gax := (ax.good hp).1
  have gay := (ay.good hp).1
  generalize hn : rRat p x = n at *
  generalize hf : rRat p y = f at *
  have a1 : sAsg (dV 3) (gT 2 (gC (gN 4) (gC (gN 5) gN0))) [some (.int p), some (eM m), some (eP a), some (eRs x y), none, none, none, none, none, none, none] h = some (.nx [some (.int p), some (eM m), some (eP a), some (eRs x y), some (eR x), some (eR y), none, none, none, none, none], h) := rfl
  have el : lLc (iSeq (dV 3)) (gN 10) bYes (dFn 2 φ_law_rest (aCons (dV 0) (aCons (dV 10) aNil))) [10] [some (.int p), some (eM m), some (eP a), some (eRs x y), some (eR x), some (eR y), none, none, none, none, none] h = ret [.int n, .int f] h := by
    refine lLc_two (x := eR x) (y := eR y) (iSeq_ _ _ _ _ rfl) ?_ ?_
    · show dFn 2 φ_law_rest (aCons (dV 0) (aCons (dV 10) aNil)) [some (.int p), some (eM m), some (eP a), some (eRs x y), some (eR x), some (eR y), none, none, none, none, some (eR x)] h = _
      simp only [dFn_, aCons_, dV_0, dV_10, aNil_, bindR_ret, List.length, if_true, e_law_rest hp hx, lR_good gx, hn]
    · show dFn 2 φ_law_rest (aCons (dV 0) (aCons (dV 10) aNil)) [some (.int p), some (eM m), some (eP a), some (eRs x y), some (eR x), some (eR y), none, none, none, none, some (eR y)] h = _
      simp only [dFn_, aCons_, dV_0, dV_10, aNil_, bindR_ret, List.length, if_true, e_law_rest hp hy, lR_good gy, hf]
  have a2 : sAsgL 2 (lLc (iSeq (dV 3)) (gN 10) bYes (dFn 2 φ_law_rest (aCons (dV 0) (aCons (dV 10) aNil))) [10]) (gC (gN 6) (gC (gN 7) gN0)) [some (.int p), some (eM m), some (eP a), some (eRs x y), some (eR x), some (eR y), none, none, none, none, none] h =
      some (.nx [some (.int p), some (eM m), some (eP a), some (eRs x y), some (eR x), some (eR y), some (.int n), some (.int f), none, none, none], h) := by
    unfold sAsgL
    rw [el, bindS_ret]
    rfl
  simp only [b_law_between_right, sSeq_, a1, seqS_nx, a2, sPar_, aCons_, dFn_, dV_1, dV_4, dV_5, aNil_, bindR_ret, List.length, if_true, e_led hm hx, e_led hm hy, bindS_ret, List.set]
  have sx : Sq 10 (mAt m x) := sq_add (sq_mul hm.a hx) hm.b
  have sy : Sq 10 (mAt m y) := sq_add (sq_mul hm.a hy) hm.b
  generalize hX : mAt m x = X at *
  generalize hY : mAt m y = Y at *
  have tail : seqS (bindS (dTest (dBin oEq (dV 6) (dV 7)) [some (.int p), some (eM m), some (eP a), some (eRs x y), some (eR x), some (eR y), some (.int n), some (.int f), some (eR X), some (eR Y), none] h) [some (.int p), some (eM m), some (eP a), some (eRs x y), some (eR x), some (eR y), some (.int n), some (.int f), some (eR X), some (eR Y), none] fun b h1 => if b = true then sRet (dC (.bl true)) [some (.int p), some (eM m), some (eP a), some (eRs x y), some (eR x), some (eR y), some (.int n), some (.int f), some (eR X), some (eR Y), none] h1 else sNext [some (.int p), some (eM m), some (eP a), some (eRs x y), some (eR x), some (eR y), some (.int n), some (.int f), some (eR X), some (eR Y), none] h1)
      (sRet (dFn 2 (φ_law_same 8) (aCons (dFn 5 φ_p_rest_map_between (aCons (dV 0) (aCons (dV 6) (aCons (dV 7) (aCons (dFn 2 φ_p_rest_of (aCons (dV 8) (aCons (dV 0) aNil))) (aCons (dFn 2 φ_p_rest_of (aCons (dV 9) (aCons (dV 0) aNil))) aNil)))))) (aCons (dV 2) aNil)))) = some (.rt (.bl true), h) := by
    by_cases hnf : n = f
    · have : (n == f) = true := by simpa using hnf
      simp only [dTest_, dBin_, dV_6, dV_7, bindR_ret, oEq_int, this, bD_bl, bindS_ret, if_true, sRet_, dC_, seqS_rt]
    · have : (n == f) = false := by simpa using hnf
      obtain ⟨q1, q2⟩ := rBtw_back hp hr.ft bx b_y hnf
      have er := e_rest_map_between hp bx b_y ⟨Int.emod_nonneg (a.1 * n + a.2) (by have := hp.pos; omega : p ≠ 0), Int.emod_lt_of_pos (a.1 * n + a.2) hp.pos⟩ ⟨Int.emod_nonneg (a.1 * f + a.2) (by have := hp.pos; omega : p ≠ 0), Int.emod_lt_of_pos (a.1 * f + a.2) hp.pos⟩ hnf q1 h
      rw [q2] at er
      simp only [dTest_, dBin_, dV_6, dV_7, bindR_ret, oEq_int, this, bD_bl, bindS_ret, Bool.false_eq_true, if_false, sNext_, seqS_nx, sRet_, dFn_, aCons_, dV_0, dV_2, dV_8, dV_9, aNil_, List.length, if_true, e_rest_of hp sx gax, e_rest_of hp sy gay, ex, ey, er, e_law_same 7 h (eP a) (eP a) (same_eP a)]
  by_cases hxy : x = y
  · simp only [sIf_, bAnd_, dTest_, dBin_, dV_4, dV_5, bindR_ret, oNe_eR, decide_eq_true hxy, Bool.not_true, bD_bl, Bool.false_eq_true, if_false, bindS_ret, sNext_, seqS_nx]
    exact tail
  · obtain ⟨z1, z2⟩ := btw_back hxy hm.nz
    rw [hX, hY] at z1 z2
    have em := e_map_between (hx.mono (by omega : 3 ≤ 10)) (hy.mono (by omega : 3 ≤ 10)) sx sy hxy z1 h
    rw [z2] at em
    simp only [sIf_, bAnd_, dTest_, dBin_, dV_1, dV_4, dV_5, dV_8, dV_9, bindR_ret, oNe_eR, decide_eq_false hxy, Bool.not_false, bD_bl, if_true, bNot_, dTru_, dFn_, aCons_, aNil_, List.length, em, e_law_same 7 h (eM m) (eM m) (same_eM m), tD_bl, Bool.not_true, Bool.false_eq_true, if_false, bindS_ret, sNext_, seqS_nx]
    exact tail
end Pl

set_option Elab.async false
set_option autoImplicit false
set_option linter.all false
set_option maxRecDepth 100000
set_option maxHeartbeats 2000000
set_option exponentiation.threshold 10000
namespace Pl
open Dt Wk
open PySem (Str PyData)

/-! ### turned -/
theorem same_two {n : Nat} {h : DH} {x y : D} (hx : SameN n h x x) (hy : SameN n h y y) : SameN (n + 1) h (.tup [x, y]) (.tup [x, y]) := same_tup (by simp) fun d hd => by
  simp only [List.mem_cons, List.not_mem_nil, or_false] at hd
  rcases hd with rfl | rfl
  · exact hx
  · exact hy
theorem sm_turn {t m : Mp} (ht : Sm 3 t) (hm : Sm 3 m) : Sm 40 (mTurn t m) := sm_beh (sm_beh ht hm) (sm_inv ht) |>.mono (by omega)
theorem rest_gap_sz {p : Int} {a b : Rm} (hp : pOk p) (ha : fit p a) (hb : fit p b) : a.2.natAbs < 2 ^ 4 ∧ (1 - b.1).natAbs < 2 ^ 4 := by
  refine ⟨ha.s2 hp, ?_⟩
  have := hb.1
  have := hp.lt
  omega
theorem same_lit {fx : DE} {g : DA} {ρ : Ev} {h t : DH} {xs : List D} {i : Nat} (ex : fx ρ (h ++ t) = ret (.ref (h.length + i)) (h ++ t)) (ei : t[i]? = some (.lst xs)) (eg : g ρ (h ++ t) = ret xs (h ++ t)) (hl : xs.length ≤ 1000) (a : ∀ h', ∀ x ∈ xs, SameN 6 h' x x) :
    dFn 2 (φ_law_same 8) (aCons fx (aCons (dNum (lLst g)) aNil)) ρ (h ++ t) = ret (.bl true) (h ++ (t ++ [.lst xs])) := by
  have a3 := num_app (h := h) (t := t) (ρ := ρ) (g := g) (ds := xs) eg hl
  have el : t[i]?.isSome := by rw [ei]; rfl
  have hi : i < t.length := by simpa using el
  have a4 := e_law_same 7 (h ++ (t ++ [.lst xs])) (.ref (h.length + i)) (.ref (h.length + t.length)) (same_ref (xs := xs) (by rw [at_app, List.getElem?_append_left hi]; exact ei) (by rw [at_app]; simp) hl (a _))
  rw [dFn_, aCons_, ex, bindR_ret, aCons_, a3, bindR_ret, aNil_, bindR_ret, bindR_ret, bindR_ret]
  exact a4
theorem same_lits {g1 g2 : DA} {ρ : Ev} {h t : DH} {xs : List D} (e1 : g1 ρ (h ++ t) = ret xs (h ++ t)) (e2 : g2 ρ (h ++ (t ++ [.lst xs])) = ret xs (h ++ (t ++ [.lst xs]))) (hl : xs.length ≤ 1000) (a : ∀ h', ∀ x ∈ xs, SameN 6 h' x x) :
    dFn 2 (φ_law_same 8) (aCons (dNum (lLst g1)) (aCons (dNum (lLst g2)) aNil)) ρ (h ++ t) = ret (.bl true) (h ++ (t ++ [.lst xs] ++ [.lst xs])) := by
  have a3 := num_app (h := h) (t := t) (ρ := ρ) (g := g1) (ds := xs) e1 hl
  have a4 := num_app (h := h) (t := t ++ [.lst xs]) (ρ := ρ) (g := g2) (ds := xs) e2 hl
  have a5 := e_law_same 7 (h ++ (t ++ [.lst xs] ++ [.lst xs])) (.ref (h.length + t.length)) (.ref (h.length + (t ++ [O.lst xs]).length)) (same_ref (xs := xs) (by rw [at_app]; simp) (by rw [at_app]; simp) hl (a _))
  rw [dFn_, aCons_, a3, bindR_ret, aCons_, a4, bindR_ret, aNil_, bindR_ret, bindR_ret, bindR_ret]
  exact a5
theorem e_law_turned {p : Int} {m0 m1 t : Mp} {a b c : Rm} (hp : pOk p) (h0 : Sm 3 m0) (h1 : Sm 3 m1) (ht : Sm 3 t) (r0 : RM p m0 a) (r1 : RM p m1 b) (rt : RM p t c) (h : DH) : φ_law_turned_right [.int p, eMs m0 m1, ePs a b, eM t, eP c] h = ret (.bl true) h := by
  have u0 := rt.turn hp r0
  have u1 := rt.turn hp r1
  have g := r0.gap hp r1
  have gu := u0.gap hp u1
  have eg := g.eqm hp
  have gt : Rs p (mGap (mTurn t m0) (mTurn t m1)) (rGap a b * c.1) := by rw [gap_turn ht.nz]; exact g.mul hp rt.r1
  have egt := gt.eqm hp
  have sg : Sq 17 (mGap m0 m1) := sq_sub (sq_mul h0.b (sq_sub sq_one h1.a)) (sq_mul h1.b (sq_sub sq_one h0.a))
  have su0 := sm_turn ht h0
  have su1 := sm_turn ht h1
  have sgt : Sq 165 (mGap (mTurn t m0) (mTurn t m1)) := (sq_sub (sq_mul su0.b (sq_sub sq_one su1.a)) (sq_mul su1.b (sq_sub sq_one su0.a))).mono (by omega)
  obtain ⟨z1, z2⟩ := rest_gap_sz hp r0.ft r1.ft
  obtain ⟨z3, z4⟩ := rest_gap_sz hp r1.ft r0.ft
  have ixP : ∀ (h : DH) (x y : Rm), oIx (ePs x y) (.int 0) h = ret (eP x) h ∧ oIx (ePs x y) (.int 1) h = ret (eP y) h := fun _ _ _ => ⟨rfl, rfl⟩
  have ixM : ∀ (h : DH) (x y : Mp), oIx (eMs x y) (.int 0) h = ret (eM x) h ∧ oIx (eMs x y) (.int 1) h = ret (eM y) h := fun _ _ _ => ⟨rfl, rfl⟩
  have bg0 : 0 ≤ rGap a b % p := Int.emod_nonneg _ (by have := hp.pos; omega)
  have bg1 : rGap a b % p < p := Int.emod_lt_of_pos _ hp.pos
  have egt2 : rRat p (mGap (mTurn t m0) (mTurn t m1)) = rGap a b % p * c.1 % p := by
    rw [egt]
    exact ((cg.md p (rGap a b)).mul (cg.refl p c.1)).symm.to
  have sgp := sz_res hp bg0 bg1
  have sc := rt.ft.s1 hp
  have sw := swap_gap (a := a) (b := b) hp
  generalize hM0 : mTurn t m0 = M0 at *
  generalize hM1 : mTurn t m1 = M1 at *
  have sPair : ∀ (n : Nat) (h' : DH) (x y : D), SameN n h' x x → SameN n h' y y → SameN (n + 1) h' (.tup [x, y]) (.tup [x, y]) := fun _ _ _ _ hx hy => same_two hx hy
  have start : φ_law_turned_right [.int p, eMs m0 m1, ePs a b, eM t, eP c] h = gcF h (endF (b_law_turned_right [some (.int p), some (eMs m0 m1), some (ePs a b), some (eM t), some (eP c), none, none, none, none] (h ++ []))) := by rw [List.append_nil]; exact runF_eq rfl
  rw [start]
  have s1 : sAsg (dFn 2 φ_p_lot_turned (aCons (dV 1) (aCons (dV 3) aNil))) (gN 5) [some (.int p), some (eMs m0 m1), some (ePs a b), some (eM t), some (eP c), none, none, none, none] (h ++ []) = some (.nx [some (.int p), some (eMs m0 m1), some (ePs a b), some (eM t), some (eP c), some (eMs M0 M1), none, none, none], h ++ []) := by
    simp only [sAsg_, dFn_, aCons_, dV_1, dV_3, aNil_, bindR_ret, List.length, if_true, e_lot_turned h0 h1 ht, hM0, hM1, bindS_ret]
    rfl
  have el : ∀ H : DH, lLc (iSeq (dV 5)) (gN 8) bYes (dFn 3 φ_law_heard (aCons (dC (.int 0)) (aCons (dV 0) (aCons (dV 8) aNil)))) [8] [some (.int p), some (eMs m0 m1), some (ePs a b), some (eM t), some (eP c), some (eMs M0 M1), none, none, none] H = ret [eP (rTurn p c a), eP (rTurn p c b)] H := fun H => by
    refine lLc_two (x := eM M0) (y := eM M1) (iSeq_ _ _ _ _ rfl) ?_ ?_
    · show dFn 3 φ_law_heard (aCons (dC (.int 0)) (aCons (dV 0) (aCons (dV 8) aNil))) [some (.int p), some (eMs m0 m1), some (ePs a b), some (eM t), some (eP c), some (eMs M0 M1), none, none, some (eM M0)] H = _
      simp only [dFn_, aCons_, dC_, dV_0, dV_8, aNil_, bindR_ret, List.length, if_true, e_law_heard0 hp su0, u0.heard hp]
    · show dFn 3 φ_law_heard (aCons (dC (.int 0)) (aCons (dV 0) (aCons (dV 8) aNil))) [some (.int p), some (eMs m0 m1), some (ePs a b), some (eM t), some (eP c), some (eMs M0 M1), none, none, some (eM M1)] H = _
      simp only [dFn_, aCons_, dC_, dV_0, dV_8, aNil_, bindR_ret, List.length, if_true, e_law_heard0 hp su1, u1.heard hp]
  have a1 := num_app (h := h) (t := []) (ρ := [some (.int p), some (eMs m0 m1), some (ePs a b), some (eM t), some (eP c), some (eMs M0 M1), none, none, none]) (g := (aCons (dV 5) (aCons (dL φTup (lLc (iSeq (dV 5)) (gN 8) bYes (dFn 3 φ_law_heard (aCons (dC (.int 0)) (aCons (dV 0) (aCons (dV 8) aNil)))) [8])) (aCons (dFn 2 φ_p_rest_of (aCons (dFn 2 φ_p_maps_gap (aCons (dBin oIx (dV 1) (dC (.int 0))) (aCons (dBin oIx (dV 1) (dC (.int 1))) aNil))) (aCons (dV 0) aNil))) aNil)))) (ds := [eMs M0 M1, ePs (rTurn p c a) (rTurn p c b), .int (rGap a b % p)]) (by
    simp only [aCons_, dL_, el, φTup_, dFn_, dBin_, dC_, dV_0, dV_1, dV_5, aNil_, bindR_ret, List.length, if_true, (ixM _ _ _).1, (ixM _ _ _).2, e_maps_gap h0 h1, e_rest_of hp sg (g.good hp).1, eg]
    rfl) (by simp)
  have s2 : sAsg (dNum (lLst (aCons (dV 5) (aCons (dL φTup (lLc (iSeq (dV 5)) (gN 8) bYes (dFn 3 φ_law_heard (aCons (dC (.int 0)) (aCons (dV 0) (aCons (dV 8) aNil)))) [8])) (aCons (dFn 2 φ_p_rest_of (aCons (dFn 2 φ_p_maps_gap (aCons (dBin oIx (dV 1) (dC (.int 0))) (aCons (dBin oIx (dV 1) (dC (.int 1))) aNil))) (aCons (dV 0) aNil))) aNil))))) (gN 6) [some (.int p), some (eMs m0 m1), some (ePs a b), some (eM t), some (eP c), some (eMs M0 M1), none, none, none] (h ++ []) = some (.nx [some (.int p), some (eMs m0 m1), some (ePs a b), some (eM t), some (eP c), some (eMs M0 M1), some (.ref (h.length + 0)), none, none], h ++ [.lst [eMs M0 M1, ePs (rTurn p c a) (rTurn p c b), .int (rGap a b % p)]]) := by
    rw [sAsg_, a1, bindS_ret]
    rfl
  have s3 : ∀ H : DH, sAsg (dBin oMod (dBin oSub (dBin oMul (dBin oIx (dBin oIx (dV 2) (dC (.int 0))) (dC (.int 1))) (dBin oSub (dC (.int 1)) (dBin oIx (dBin oIx (dV 2) (dC (.int 1))) (dC (.int 0))))) (dBin oMul (dBin oIx (dBin oIx (dV 2) (dC (.int 1))) (dC (.int 1))) (dBin oSub (dC (.int 1)) (dBin oIx (dBin oIx (dV 2) (dC (.int 0))) (dC (.int 0)))))) (dV 0)) (gN 7) [some (.int p), some (eMs m0 m1), some (ePs a b), some (eM t), some (eP c), some (eMs M0 M1), some (.ref (h.length + 0)), none, none] H = some (.nx [some (.int p), some (eMs m0 m1), some (ePs a b), some (eM t), some (eP c), some (eMs M0 M1), some (.ref (h.length + 0)), some (.int (rGap a b % p)), none], H) := fun H => by
    simp only [sAsg_, dBin_, dV_0, dV_2, dC_, bindR_ret, (ixP _ _ _).1, (ixP _ _ _).2, ix_eP0, ix_eP1, oSub_, sm_mul z1 z2, sm_mul z3 z4, oModP hp.pos, bindS_ret]
    rfl
  have s4 := same_lit (fx := dV 6) (g := (aCons (dFn 2 φ_p_maps_turned (aCons (dV 1) (aCons (dV 3) aNil))) (aCons (dFn 3 φ_p_rest_maps_turned (aCons (dV 0) (aCons (dV 2) (aCons (dV 4) aNil)))) (aCons (dV 7) aNil)))) (ρ := [some (.int p), some (eMs m0 m1), some (ePs a b), some (eM t), some (eP c), some (eMs M0 M1), some (.ref (h.length + 0)), some (.int (rGap a b % p)), none]) (h := h) (t := [.lst [eMs M0 M1, ePs (rTurn p c a) (rTurn p c b), .int (rGap a b % p)]]) (i := 0) rfl rfl (by
      simp only [aCons_, dFn_, dV_0, dV_1, dV_2, dV_3, dV_4, dV_7, aNil_, bindR_ret, List.length, if_true, e_maps_turned h0 h1 ht, hM0, hM1, e_rest_maps_turned hp r0.ft r1.ft rt.ft]) (by simp) (fun h' d hd => by
      simp only [List.mem_cons, List.not_mem_nil, or_false] at hd
      rcases hd with rfl | rfl | rfl
      · exact sPair 5 _ _ _ (same_eM _) (same_eM _)
      · exact sPair 5 _ _ _ (same_eP _) (same_eP _)
      · exact same_int _)
  have s4b : bNot (dTru (dFn 2 (φ_law_same 8) (aCons (dV 6) (aCons (dNum (lLst (aCons (dFn 2 φ_p_maps_turned (aCons (dV 1) (aCons (dV 3) aNil))) (aCons (dFn 3 φ_p_rest_maps_turned (aCons (dV 0) (aCons (dV 2) (aCons (dV 4) aNil)))) (aCons (dV 7) aNil))))) aNil)))) [some (.int p), some (eMs m0 m1), some (ePs a b), some (eM t), some (eP c), some (eMs M0 M1), some (.ref (h.length + 0)), some (.int (rGap a b % p)), none] (h ++ [.lst [eMs M0 M1, ePs (rTurn p c a) (rTurn p c b), .int (rGap a b % p)]]) = ret false (h ++ ([.lst [eMs M0 M1, ePs (rTurn p c a) (rTurn p c b), .int (rGap a b % p)]] ++ [.lst [eMs M0 M1, ePs (rTurn p c a) (rTurn p c b), .int (rGap a b % p)]])) := by
    rw [bNot_, dTru_, s4]
    rfl
  obtain ⟨t1, ht1⟩ : ∃ t1, ([.lst [eMs M0 M1, ePs (rTurn p c a) (rTurn p c b), .int (rGap a b % p)]] ++ [.lst [eMs M0 M1, ePs (rTurn p c a) (rTurn p c b), .int (rGap a b % p)]] : DH) = t1 := ⟨_, rfl⟩
  rw [ht1] at s4b
  have s5 := same_lits (g1 := (aCons (dFn 3 φ_p_do_rest_maps_exchange (aCons (dV 0) (aCons (dBin oIx (dV 2) (dC (.int 0))) (aCons (dBin oIx (dV 2) (dC (.int 1))) aNil)))) (aCons (dFn 2 φ_p_rest_of (aCons (dFn 2 φ_p_maps_gap (aCons (dBin oIx (dV 5) (dC (.int 0))) (aCons (dBin oIx (dV 5) (dC (.int 1))) aNil))) (aCons (dV 0) aNil))) aNil))) (g2 := (aCons (dBin oEq (dV 7) (dC (.int 0))) (aCons (dBin oMod (dBin oMul (dV 7) (dBin oIx (dV 4) (dC (.int 0)))) (dV 0)) aNil))) (ρ := [some (.int p), some (eMs m0 m1), some (ePs a b), some (eM t), some (eP c), some (eMs M0 M1), some (.ref (h.length + 0)), some (.int (rGap a b % p)), none]) (h := h) (t := t1) (xs := [.bl (rGap a b % p == 0), .int (rGap a b % p * c.1 % p)]) (by
      simp only [aCons_, dFn_, dBin_, dC_, dV_0, dV_2, dV_5, aNil_, bindR_ret, List.length, if_true, (ixP _ _ _).1, (ixP _ _ _).2, (ixM _ _ _).1, (ixM _ _ _).2, e_do_exchange hp r0.ft r1.ft, sw, e_maps_gap su0 su1, e_rest_of hp sgt (gt.good hp).1, egt2]) (by
      simp only [aCons_, dBin_, dC_, dV_0, dV_4, dV_7, aNil_, bindR_ret, ix_eP0, oEq_int, sm_mul sgp sc, oModP hp.pos]) (by simp) (fun h' d hd => by
      simp only [List.mem_cons, List.not_mem_nil, or_false] at hd
      rcases hd with rfl | rfl
      · exact same_bl _
      · exact same_int _)
  simp only [b_law_turned_right, sSeq_, s1, seqS_nx, s2, s3, sIf_, s4b, bindS_ret, Bool.false_eq_true, if_false, sNext_, sRet_, s5]
  exact gcF_app rfl
end Pl

set_option Elab.async false
set_option autoImplicit false
set_option linter.all false
set_option maxRecDepth 100000
set_option maxHeartbeats 2000000
set_option exponentiation.threshold 10000
namespace Pl
open Dt Wk
open PySem (Str PyData)

/-! ### maps -/
theorem RM.keptG {p : Int} {f : Mp} {a : Rm} (hp : pOk p) (h : RM p f a) (h1 : a.1 ≠ 1) : Pl.good p (f.2 / (1 - f.1)) := by
  obtain ⟨a1, a2⟩ := a
  have k := (kept_all p hp a1 (mem_resid (by have := h.ft.1; omega) h.ft.1.2) (by have := h.ft.1.1; show a1 ≠ 0; omega) a2 (mem_resid h.ft.2.1 h.ft.2.2)).1 h1
  obtain ⟨n, r⟩ := h.r2.div hp k.1 ((Rs.one hp).sub hp h.r1)
  exact (r.good hp).1
theorem kept_len {p : Int} {a : Rm} (hp : pOk p) (h : fit p a) : (((keptL p a).length : Int) == 1) = !(a.1 == 1) := by
  obtain ⟨a1, a2⟩ := a
  have k := kept_all p hp a1 (mem_resid (by have := h.1; omega) h.1.2) (by have := h.1.1; show a1 ≠ 0; omega) a2 (mem_resid h.2.1 h.2.2)
  by_cases e : a1 = 1
  · have n := k.2 e
    show _ = !(a1 == 1)
    rw [e] at n ⊢
    have : (((keptL p (1, a2)).length : Int) == 1) = false := beq_false_of_ne (by omega)
    rw [this]
    rfl
  · have n := (k.1 e).2
    show _ = !(a1 == 1)
    rw [n, beq_false_of_ne e]
    rfl
theorem home_of {p : Int} {a : Rm} (hp : pOk p) (h : fit p a) : (0 ≤ home p a ∧ (home p a).natAbs < 2 ^ 4) ∧ oft (rBeh p) 4 a (1, 0) (home p a).natAbs = (1, 0) := by
  obtain ⟨a1, a2⟩ := a
  exact home_all p hp a1 (mem_resid (by have := h.1; omega) h.1.2) (by have := h.1.1; show a1 ≠ 0; omega) a2 (mem_resid h.2.1 h.2.2)
theorem bb_mono {l n m : Nat} (h : n ≤ m) : bb l n ≤ bb l m := by
  obtain ⟨k, rfl⟩ := Nat.le.dest h
  exact bb_le l n k
theorem oNe_none (h : DH) : oNe (.str "none") (.str "none") h = ret (.bl false) h := by
  show (if (PySem.SeqAt.shaped (.str "none") && PySem.SeqAt.shaped (.str "none")) = true then ret (D.bl (!(PyData.eqv (.str "none") (.str "none")))) h else none) = _
  rw [if_pos (by decide +kernel), show PyData.eqv (.str "none") (.str "none") = true by decide +kernel]
  rfl
theorem oNe_eR_none (q : Rat) (h : DH) : oNe (eR q) (.str "none") h = ret (.bl true) h := by
  unfold oNe
  rw [toPyH_eR, show toPyH h (.str "none") = some (.str "none") from rfl]
  simp only
  rw [if_pos (by
    rw [Bool.and_eq_true]
    exact ⟨by rfl, by decide +kernel⟩)]
  simp [PySem.PyData.eqv]
theorem ix_of {h t : DH} {i : Nat} {xs : List D} {j : Int} {v : D} (e : t[i]? = some (.lst xs)) (ev : L2.atI xs j = some v) : oIx (.ref (h.length + i)) (.int j) (h ++ t) = ret v (h ++ t) := by
  rw [ix_ref (by rw [at_app]; exact e), ev]
theorem same_intD {h : DH} (i : Int) : φ_law_same 8 [.int i, .int i] h = ret (.bl true) h := e_law_same 7 h _ _ (same_int i)
theorem e_law_maps_right {p : Int} {m0 m1 : Mp} {a b : Rm} {x : Rat} {k N : Nat} (hp : pOk p) (h0 : Sm 3 m0) (h1 : Sm 3 m1) (q0 : RM p m0 a) (q1 : RM p m1 b) (hx : Sq 3 x) (gx : good p x) {h : DH} (t : Tin k N h) (hN : N ≤ 900) :
    ∃ h', φ_law_maps_right [.ref k, .int p, eMs m0 m1, ePs a b, eR x] h = ret (.bl true) h' ∧ Ht k (N + 10) h h' := by
  have hk := t.lt
  have ixP : ∀ (h : DH) (x y : Rm), oIx (ePs x y) (.int 0) h = ret (eP x) h ∧ oIx (ePs x y) (.int 1) h = ret (eP y) h := fun _ _ _ => ⟨rfl, rfl⟩
  have ixM : ∀ (h : DH) (x y : Mp), oIx (eMs x y) (.int 0) h = ret (eM x) h ∧ oIx (eMs x y) (.int 1) h = ret (eM y) h := fun _ _ _ => ⟨rfl, rfl⟩
  obtain ⟨w, g1, e1, ⟨hw, hw4⟩, t1⟩ := e_law_word t hN
  obtain ⟨v, H, e2, ⟨v0, v1⟩, t2⟩ := e_law_take t1.tin (by omega) (n := 7) (by decide) (by decide)
  have bx := rRat_bd hp x
  have rx := Rs.of hp gx
  have ax := q0.at hp rx
  have ex := ax.eq hp (Int.emod_nonneg _ (by have := hp.pos; omega)) (Int.emod_lt_of_pos _ hp.pos)
  have gax := (ax.good hp).1
  have sax : Sq 10 (mAt m0 x) := sq_add (sq_mul h0.a hx) h0.b
  have s1 : (sPar3 5 6 7 (aCons (dFn 3 φ_law_word (aCons (dV 0) (aCons (dC (.int 2)) (aCons (dC (.int 4)) aNil)))) (aCons (dBin oSub (dFn 2 φ_law_take (aCons (dV 0) (aCons (dC (.int 7)) aNil))) (dC (.int 3))) (aCons (dFn 2 φ_law_rest (aCons (dV 1) (aCons (dV 4) aNil))) aNil)))) [some (.ref k), some (.int p), some (eMs m0 m1), some (ePs a b), some (eR x), none, none, none, none, none, none, none, none, none, none] h = some (.nx [some (.ref k), some (.int p), some (eMs m0 m1), some (ePs a b), some (eR x), some (eW w), some (.int (v - 3)), some (.int (rRat p x)), none, none, none, none, none, none, none], H) := by
    simp only [sPar3_, aCons_, dFn_, dBin_, dC_, dV_0, dV_1, dV_4, aNil_, bindR_ret, List.length, if_true, e1, e2, oSub_, e_law_rest hp hx, lR_good gx, bindS_ret, List.set]
  have hn : (v - 3).natAbs < 2 ^ 2 := by omega
  generalize v - 3 = n at *
  generalize rRat p x = r at *
  have rW := RM.word hp q0 q1 w _ _ (RM.one hp)
  have sW : Sm 136 (wMap m0 m1 (1, 0) w) := (sm_wMap h0 h1 w (1, 0) 0 sm_still).mono (Nat.le_trans (by rw [Nat.zero_add]; exact bb_mono hw4) (by decide))
  have eW' := e_word_map h0 h1 hw H (by omega) (Nat.le_trans (bb_mono (l := 7) hw4) (by decide))
  have rR := ((RM.one hp).beh hp q0).beh hp q1
  have sR : Sm 20 (mBeh (mBeh (1, 0) m0) m1) := (sm_beh (sm_beh sm_still h0) h1).mono (by omega)
  have eR' := e_map_row h0 h1 H (by omega)
  have rB := q0.inv hp
  have sB := sm_inv h0
  have rO : RM p (oft mBeh 2 (if 0 ≤ n then m1 else mInv m1) (1, 0) n.natAbs) (oft (rBeh p) 2 (if 0 ≤ n then b else rInv p b) (1, 0) n.natAbs) := RM.oft hp 2 _ _ _ _ _ (by split; exact q1; exact q1.inv hp) (RM.one hp)
  have sO : Sm 43 (oft mBeh 2 (if 0 ≤ n then m1 else mInv m1) (1, 0) n.natAbs) := (sm_oft 2 n.natAbs _ _ 7 1 (by split; exact h1.mono (by omega); exact sm_inv h1) sm_still).mono (by decide)
  have eO := fun h => e_map_often h1 n hn (by decide) (by omega) h
  have eO2 := fun h => e_rest_often hp q1.ft n hn h
  have eW2 := fun h => e_rest_word hp q0.ft q1.ft hw h
  have eW3 := fun h => e_law_rest_led hp q0.ft q1.ft hw h
  have eR2 := fun h => e_rest_row hp q0.ft q1.ft h
  have eB2 := fun h => e_rest_back hp q0.ft h
  generalize wMap m0 m1 (1, 0) w = W at *
  generalize mBeh (mBeh (1, 0) m0) m1 = Rw at *
  generalize oft mBeh 2 (if 0 ≤ n then m1 else mInv m1) (1, 0) n.natAbs = O at *
  generalize rWord p a b (1, 0) w = R at *
  generalize rBeh p (rBeh p (1, 0) a) b = A1 at *
  generalize rInv p a = A2 at *
  generalize oft (rBeh p) 2 (if 0 ≤ n then b else rInv p b) (1, 0) n.natAbs = A3 at *
  have s2 : (sPar 8 9 (aCons (dFn 2 φ_p_word_map (aCons (dV 2) (aCons (dV 5) aNil))) (aCons (dFn 1 φ_p_map_row (aCons (dV 2) aNil)) aNil))) [some (.ref k), some (.int p), some (eMs m0 m1), some (ePs a b), some (eR x), some (eW w), some (.int n), some (.int r), none, none, none, none, none, none, none] H = some (.nx [some (.ref k), some (.int p), some (eMs m0 m1), some (ePs a b), some (eR x), some (eW w), some (.int n), some (.int r), some (eM W), some (eM Rw), none, none, none, none, none], H ++ []) := by
    simp only [sPar_, aCons_, dFn_, dV_2, dV_5, aNil_, bindR_ret, List.length, if_true, eW', eR', bindS_ret, List.set, List.append_nil]
  have a1 := num_app (h := H) (t := []) (ρ := [some (.ref k), some (.int p), some (eMs m0 m1), some (ePs a b), some (eR x), some (eW w), some (.int n), some (.int r), some (eM W), some (eM Rw), none, none, none, none, none]) (g := (aCons (dFn 3 φ_law_heard (aCons (dC (.int 0)) (aCons (dV 1) (aCons (dV 9) aNil)))) (aCons (dFn 3 φ_law_heard (aCons (dC (.int 0)) (aCons (dV 1) (aCons (dFn 1 φ_p_map_back (aCons (dBin oIx (dV 2) (dC (.int 0))) aNil)) aNil)))) (aCons (dFn 3 φ_law_heard (aCons (dC (.int 0)) (aCons (dV 1) (aCons (dFn 2 φ_p_map_often (aCons (dBin oIx (dV 2) (dC (.int 1))) (aCons (dV 6) aNil))) aNil)))) (aCons (dFn 3 φ_law_heard (aCons (dC (.int 0)) (aCons (dV 1) (aCons (dV 8) aNil)))) aNil))))) (ds := [eP A1, eP A2, eP A3, eP R]) (by
    simp only [aCons_, dFn_, dBin_, dC_, dV_1, dV_2, dV_6, dV_8, dV_9, aNil_, bindR_ret, List.length, if_true, (ixM _ _ _).1, (ixM _ _ _).2, e_law_heard0 hp sR, rR.heard hp, e_map_back h0, e_law_heard0 hp sB, rB.heard hp, eO, e_law_heard0 hp sO, rO.heard hp, e_law_heard0 hp sW, rW.heard hp]) (by simp)
  have s3 : (sAsg (dNum (lLst (aCons (dFn 3 φ_law_heard (aCons (dC (.int 0)) (aCons (dV 1) (aCons (dV 9) aNil)))) (aCons (dFn 3 φ_law_heard (aCons (dC (.int 0)) (aCons (dV 1) (aCons (dFn 1 φ_p_map_back (aCons (dBin oIx (dV 2) (dC (.int 0))) aNil)) aNil)))) (aCons (dFn 3 φ_law_heard (aCons (dC (.int 0)) (aCons (dV 1) (aCons (dFn 2 φ_p_map_often (aCons (dBin oIx (dV 2) (dC (.int 1))) (aCons (dV 6) aNil))) aNil)))) (aCons (dFn 3 φ_law_heard (aCons (dC (.int 0)) (aCons (dV 1) (aCons (dV 8) aNil)))) aNil)))))) (gN 10)) [some (.ref k), some (.int p), some (eMs m0 m1), some (ePs a b), some (eR x), some (eW w), some (.int n), some (.int r), some (eM W), some (eM Rw), none, none, none, none, none] (H ++ []) = some (.nx [some (.ref k), some (.int p), some (eMs m0 m1), some (ePs a b), some (eR x), some (eW w), some (.int n), some (.int r), some (eM W), some (eM Rw), some (.ref (H.length + 0)), none, none, none, none], H ++ [.lst [eP A1, eP A2, eP A3, eP R]]) := by
    rw [sAsg_, a1, bindS_ret]
    rfl
  have a2 := num_app (h := H) (t := [.lst [eP A1, eP A2, eP A3, eP R]]) (ρ := [some (.ref k), some (.int p), some (eMs m0 m1), some (ePs a b), some (eR x), some (eW w), some (.int n), some (.int r), some (eM W), some (eM Rw), some (.ref (H.length + 0)), none, none, none, none]) (g := (aCons (dFn 2 φ_p_rest_row (aCons (dV 1) (aCons (dV 3) aNil))) (aCons (dFn 2 φ_p_rest_back (aCons (dV 1) (aCons (dBin oIx (dV 3) (dC (.int 0))) aNil))) (aCons (dFn 3 φ_p_rest_often (aCons (dV 1) (aCons (dBin oIx (dV 3) (dC (.int 1))) (aCons (dV 6) aNil)))) (aCons (dFn 3 φ_p_rest_word (aCons (dV 1) (aCons (dV 3) (aCons (dV 5) aNil)))) aNil))))) (ds := [eP A1, eP A2, eP A3, eP R]) (by
    simp only [aCons_, dFn_, dBin_, dC_, dV_1, dV_3, dV_5, dV_6, aNil_, bindR_ret, List.length, if_true, (ixP _ _ _).1, (ixP _ _ _).2, eR2, eB2, eO2, eW2]) (by simp)
  obtain ⟨T1, ht1⟩ : ∃ T1, ([.lst [eP A1, eP A2, eP A3, eP R]] ++ [.lst [eP A1, eP A2, eP A3, eP R]] : DH) = T1 := ⟨_, rfl⟩
  have s4 : (sAsg (dNum (lLst (aCons (dFn 2 φ_p_rest_row (aCons (dV 1) (aCons (dV 3) aNil))) (aCons (dFn 2 φ_p_rest_back (aCons (dV 1) (aCons (dBin oIx (dV 3) (dC (.int 0))) aNil))) (aCons (dFn 3 φ_p_rest_often (aCons (dV 1) (aCons (dBin oIx (dV 3) (dC (.int 1))) (aCons (dV 6) aNil)))) (aCons (dFn 3 φ_p_rest_word (aCons (dV 1) (aCons (dV 3) (aCons (dV 5) aNil)))) aNil)))))) (gN 11)) [some (.ref k), some (.int p), some (eMs m0 m1), some (ePs a b), some (eR x), some (eW w), some (.int n), some (.int r), some (eM W), some (eM Rw), some (.ref (H.length + 0)), none, none, none, none] (H ++ [.lst [eP A1, eP A2, eP A3, eP R]]) = some (.nx [some (.ref k), some (.int p), some (eMs m0 m1), some (ePs a b), some (eR x), some (eW w), some (.int n), some (.int r), some (eM W), some (eM Rw), some (.ref (H.length + 0)), some (.ref (H.length + 1)), none, none, none], H ++ T1) := by
    rw [sAsg_, a2, bindS_ret, ht1]
    rfl
  have i0 : T1[0]? = some (.lst [eP A1, eP A2, eP A3, eP R]) := by rw [← ht1]; rfl
  have i1 : T1[1]? = some (.lst [eP A1, eP A2, eP A3, eP R]) := by rw [← ht1]; rfl
  have x3 : oIx (.ref (H.length + 1)) (.int 3) (H ++ T1) = ret (eP R) (H ++ T1) := ix_of i1 rfl
  have x0 : oIx (.ref (H.length + 1)) (.int 0) (H ++ T1) = ret (eP A1) (H ++ T1) := ix_of i1 rfl
  have c1 := e_law_same 7 (H ++ T1) (.ref (H.length + 0)) (.ref (H.length + 1)) (same_ref (xs := [eP A1, eP A2, eP A3, eP R]) (by rw [at_app]; exact i0) (by rw [at_app]; exact i1) (by simp) fun d hd => by
      simp only [List.mem_cons, List.not_mem_nil, or_false] at hd
      rcases hd with rfl | rfl | rfl | rfl <;> exact same_eP _)
  have s5 : (bOr (bNot (dTru (dFn 2 (φ_law_same 8) (aCons (dV 10) (aCons (dV 11) aNil))))) (bOr (bNot (dTru (dFn 2 (φ_law_same 8) (aCons (dBin oIx (dV 11) (dC (.int 3))) (aCons (dFn 3 φ_law_rest_led (aCons (dV 1) (aCons (dV 3) (aCons (dV 5) aNil)))) aNil))))) (bNot (dTru (dFn 2 φ_p_is_rest_map (aCons (dV 1) (aCons (dBin oIx (dV 11) (dC (.int 0))) aNil))))))) [some (.ref k), some (.int p), some (eMs m0 m1), some (ePs a b), some (eR x), some (eW w), some (.int n), some (.int r), some (eM W), some (eM Rw), some (.ref (H.length + 0)), some (.ref (H.length + 1)), none, none, none] (H ++ T1) = ret false (H ++ T1) := by
    simp only [bOr_, bNot_, dTru_, dFn_, aCons_, dBin_, dC_, dV_1, dV_3, dV_5, dV_10, dV_11, aNil_, bindR_ret, List.length, if_true, c1, tD_bl, Bool.not_true, Bool.false_eq_true, if_false, x3, eW3, e_law_same 7 _ _ _ (same_eP R), x0, e_is_rest_map hp rR.ft]
  have s6 : (bNot (dTru (dFn 2 (φ_law_same 8) (aCons (dFn 2 φ_p_rest_of (aCons (dFn 2 φ_p_led (aCons (dBin oIx (dV 2) (dC (.int 0))) (aCons (dV 4) aNil))) (aCons (dV 1) aNil))) (aCons (dFn 3 φ_p_rest_led (aCons (dV 1) (aCons (dBin oIx (dV 3) (dC (.int 0))) (aCons (dV 7) aNil)))) aNil))))) [some (.ref k), some (.int p), some (eMs m0 m1), some (ePs a b), some (eR x), some (eW w), some (.int n), some (.int r), some (eM W), some (eM Rw), some (.ref (H.length + 0)), some (.ref (H.length + 1)), none, none, none] (H ++ T1) = ret false (H ++ T1) := by
    simp only [bNot_, dTru_, dFn_, aCons_, dBin_, dC_, dV_1, dV_2, dV_3, dV_4, dV_7, aNil_, bindR_ret, List.length, if_true, (ixM _ _ _).1, (ixP _ _ _).1, e_led h0 hx, e_rest_of hp sax gax, ex, e_rest_led hp q0.ft bx.1 bx.2, same_intD, tD_bl, Bool.not_true]
  have s7 : (sPar 12 13 (aCons (dFn 3 φ_law_heard (aCons (dC (.int 1)) (aCons (dV 8) (aCons (dC .non) aNil)))) (aCons (dFn 2 φ_p_rest_kept (aCons (dV 1) (aCons (dBin oIx (dV 11) (dC (.int 3))) aNil))) aNil))) [some (.ref k), some (.int p), some (eMs m0 m1), some (ePs a b), some (eR x), some (eW w), some (.int n), some (.int r), some (eM W), some (eM Rw), some (.ref (H.length + 0)), some (.ref (H.length + 1)), none, none, none] (H ++ T1) = some (.nx [some (.ref k), some (.int p), some (eMs m0 m1), some (ePs a b), some (eR x), some (eW w), some (.int n), some (.int r), some (eM W), some (eM Rw), some (.ref (H.length + 0)), some (.ref (H.length + 1)), some (hK W), some (.tup ((keptL p R).map D.int)), none], H ++ T1) := by
    simp only [sPar_, aCons_, dFn_, dBin_, dC_, dV_1, dV_8, dV_11, aNil_, bindR_ret, List.length, if_true, e_law_heard1 sW, x3, e_rest_kept hp rW.ft, bindS_ret, List.set]
  have s8 : (sIf (bAnd (dTest (dBin oNe (dV 12) (dC (.str "none")))) (dTest (dBin oNe (dBin oIx (dBin oIx (dV 11) (dC (.int 3))) (dC (.int 0))) (dC (.int 1))))) (sIf (bNot (dTru (dFn 2 (φ_law_same 8) (aCons (dV 13) (aCons (dTup (aCons (dFn 2 φ_p_rest_of (aCons (dV 12) (aCons (dV 1) aNil))) aNil)) aNil))))) (sRet (dC (.bl false))) sNext) sNext) [some (.ref k), some (.int p), some (eMs m0 m1), some (ePs a b), some (eR x), some (eW w), some (.int n), some (.int r), some (eM W), some (eM Rw), some (.ref (H.length + 0)), some (.ref (H.length + 1)), some (hK W), some (.tup ((keptL p R).map D.int)), none] (H ++ T1) = some (.nx [some (.ref k), some (.int p), some (eMs m0 m1), some (ePs a b), some (eR x), some (eW w), some (.int n), some (.int r), some (eM W), some (eM Rw), some (.ref (H.length + 0)), some (.ref (H.length + 1)), some (hK W), some (.tup ((keptL p R).map D.int)), none], H ++ T1) := by
    by_cases hR : R.1 = 1
    · have z : (R.1 == 1) = true := by rw [hR]; rfl
      unfold hK
      by_cases hW : W.1 = 1
      · rw [if_pos hW]
        simp only [sIf_, bAnd_, dTest_, dBin_, dC_, dV_12, dV_11, bindR_ret, oNe_none, bD_bl, Bool.false_eq_true, if_false, bindS_ret, sNext_]
      · rw [if_neg hW]
        simp only [sIf_, bAnd_, dTest_, dBin_, dC_, dV_12, dV_11, bindR_ret, oNe_eR_none, bD_bl, if_true, x3, ix_eP0, oNe_int, z, Bool.not_true, Bool.false_eq_true, if_false, bindS_ret, sNext_]
    · have z : (R.1 == 1) = false := beq_false_of_ne hR
      obtain ⟨nW, ek⟩ := rW.kept hp hR
      have gk := rW.keptG hp hR
      have sk : Sq 300 (W.2 / (1 - W.1)) := (sq_div sW.b (sq_sub sq_one sW.a) (fun z => nW (by grind))).mono (by omega)
      unfold hK
      rw [if_neg nW, ek]
      have c2 := e_law_same 7 (H ++ T1) (.tup [.int (rRat p (W.2 / (1 - W.1)))]) (.tup [.int (rRat p (W.2 / (1 - W.1)))]) (same_tup (by simp) fun d hd => by
        simp only [List.mem_cons, List.not_mem_nil, or_false] at hd
        rw [hd]
        exact same_int _)
      simp only [sIf_, bAnd_, bNot_, dTru_, dTest_, dFn_, aCons_, dTup_, dBin_, dC_, dV_1, dV_11, dV_12, dV_13, aNil_, bindR_ret, oNe_eR_none, bD_bl, if_true, x3, ix_eP0, oNe_int, z, Bool.not_false, bindS_ret, e_rest_of hp sk gk, List.map, List.length, show okLen (0 + 1) = true from rfl, c2, tD_bl, Bool.not_true, Bool.false_eq_true, if_false, sNext_]
  have s9 : (sAsg (dFn 2 φ_p_rest_times_home (aCons (dV 1) (aCons (dBin oIx (dV 11) (dC (.int 3))) aNil))) (gN 14)) [some (.ref k), some (.int p), some (eMs m0 m1), some (ePs a b), some (eR x), some (eW w), some (.int n), some (.int r), some (eM W), some (eM Rw), some (.ref (H.length + 0)), some (.ref (H.length + 1)), some (hK W), some (.tup ((keptL p R).map D.int)), none] (H ++ T1) = some (.nx [some (.ref k), some (.int p), some (eMs m0 m1), some (ePs a b), some (eR x), some (eW w), some (.int n), some (.int r), some (eM W), some (eM Rw), some (.ref (H.length + 0)), some (.ref (H.length + 1)), some (hK W), some (.tup ((keptL p R).map D.int)), some (.int (home p R))], H ++ T1) := by
    simp only [sAsg_, aCons_, dFn_, dBin_, dC_, dV_1, dV_11, aNil_, bindR_ret, List.length, if_true, x3, e_home hp rW.ft, bindS_ret, gN_, setE_1, List.set]
  have s10 : (dAnd (dBin oEq (dBin oEq (dCall fLen (aCons (dV 13) aNil)) (dC (.int 1))) (dBin oNe (dBin oIx (dBin oIx (dV 11) (dC (.int 3))) (dC (.int 0))) (dC (.int 1)))) (dFn 2 (φ_law_same 8) (aCons (dFn 3 φ_p_rest_often (aCons (dV 1) (aCons (dBin oIx (dV 11) (dC (.int 3))) (aCons (dV 14) aNil)))) (aCons (dTup (aCons (dBin oMod (dC (.int 1)) (dV 1)) (aCons (dC (.int 0)) aNil))) aNil)))) [some (.ref k), some (.int p), some (eMs m0 m1), some (ePs a b), some (eR x), some (eW w), some (.int n), some (.int r), some (eM W), some (eM Rw), some (.ref (H.length + 0)), some (.ref (H.length + 1)), some (hK W), some (.tup ((keptL p R).map D.int)), some (.int (home p R))] (H ++ T1) = ret (.bl true) (H ++ T1) := by
    obtain ⟨⟨m0', m1'⟩, em⟩ := home_of hp rW.ft
    have eh := e_rest_often hp rW.ft (home p R) m1' (H ++ T1)
    rw [if_pos m0', em] at eh
    have el : fLen [.tup ((keptL p R).map D.int)] (H ++ T1) = ret (.int ((keptL p R).length : Int)) (H ++ T1) := by
      show ret (D.int (((keptL p R).map D.int).length : Int)) _ = _
      rw [List.length_map]
    have c3 := e_law_same 7 (H ++ T1) (eP (1, 0)) (.tup [.int 1, .int 0]) (same_eP (1, 0))
    simp only [dAnd_, dBin_, dCall_, dFn_, dTup_, aCons_, dC_, dV_1, dV_11, dV_13, dV_14, aNil_, bindR_ret, el, oEq_int, kept_len hp rW.ft, x3, ix_eP0, oNe_int, oEq_bl, beq_self_eq_true, tD_bl, if_true, List.length, eh, oModP hp.pos, one_mod hp, show okLen (0 + 1 + 1) = true from rfl, c3]
  have eb : b_law_maps_right ([D.ref k, .int p, eMs m0 m1, ePs a b, eR x].map some ++ List.replicate (15 - 5) none) h = some (.rt (.bl true), H ++ T1) := by
    show b_law_maps_right [some (.ref k), some (.int p), some (eMs m0 m1), some (ePs a b), some (eR x), none, none, none, none, none, none, none, none, none, none] h = _
    simp only [b_law_maps_right, sSeq_, s1, s2, s3, s4, s7, s8, s9, seqS_nx, sIf_, s5, s6, bindS_ret, Bool.false_eq_true, if_false, sNext_, sRet_, s10]
  obtain ⟨h', e', t'⟩ := runF_ht (k := k) rfl eb ((t1.trans t2).trans (Ht.app t2.tin T1)) hk
  exact ⟨h', e', t'⟩
end Pl


set_option Elab.async false
set_option autoImplicit false
set_option linter.all false
set_option maxRecDepth 100000
set_option maxHeartbeats 2000000
set_option exponentiation.threshold 10000
namespace Pl
open Dt Wk
open PySem (Str PyData)

/-! ### one lap -/
theorem oNe_eP (x y : Rm) (h : DH) : oNe (eP x) (eP y) h = ret (.bl (!decide (x = y))) h := by
  have e1 : ∀ x : Rm, toPyH h (eP x) = some (.tuple [.int x.1, .int x.2]) := fun _ => rfl
  unfold oNe
  rw [e1, e1]
  simp only
  rw [if_pos (by rfl)]
  have : PySem.PyData.eqv (.tuple [.int x.1, .int x.2]) (.tuple [.int y.1, .int y.2]) = decide (x = y) := by
    rw [Bool.eq_iff_iff]
    obtain ⟨x1, x2⟩ := x
    obtain ⟨y1, y2⟩ := y
    simp [PySem.PyData.eqv, PySem.PyData.eqvAll]
  rw [this]
theorem in_yes {p : Int} {m0 m1 : Mp} (h0 : goodM p m0) (h1 : goodM p m1) (h : DH) : oIn .non (.tup [lM p m0, lM p m1]) h = ret (.bl false) h := by
  unfold lM
  rw [if_pos h0, if_pos h1]
  unfold oIn
  rw [show flD .non = some .non from rfl, show (seqD h (.tup [eP (rMap p m0), eP (rMap p m1)])).bind flDs = none from rfl]
  simp only
  rw [show toPyH h .non = some .none from rfl, show toPyH h (.tup [eP (rMap p m0), eP (rMap p m1)]) = some (.tuple [.tuple [.int (rMap p m0).1, .int (rMap p m0).2], .tuple [.int (rMap p m1).1, .int (rMap p m1).2]]) from rfl]
  unfold oInP
  simp only
  rw [if_pos (by rfl)]
  simp [PySem.PyData.eqv, PySem.PyData.eqvAll]
theorem in_no {p : Int} {m0 m1 : Mp} (hn : ¬ (goodM p m0 ∧ goodM p m1)) (h : DH) : oIn .non (.tup [lM p m0, lM p m1]) h = ret (.bl true) h := by
  unfold lM
  by_cases h0 : goodM p m0
  · have h1 : ¬ goodM p m1 := fun z => hn ⟨h0, z⟩
    rw [if_pos h0, if_neg h1]
    unfold oIn
    rw [show flD .non = some .non from rfl, show (seqD h (.tup [eP (rMap p m0), .non])).bind flDs = none from rfl]
    simp only
    rw [show toPyH h .non = some .none from rfl, show toPyH h (.tup [eP (rMap p m0), .non]) = some (.tuple [.tuple [.int (rMap p m0).1, .int (rMap p m0).2], .none]) from rfl]
    unfold oInP
    simp only
    rw [if_pos (by rfl)]
    simp [PySem.PyData.eqv, PySem.PyData.eqvAll]
  · rw [if_neg h0]
    by_cases h1 : goodM p m1
    · rw [if_pos h1]
      unfold oIn
      rw [show flD .non = some .non from rfl, show (seqD h (.tup [.non, eP (rMap p m1)])).bind flDs = none from rfl]
      simp only
      rw [show toPyH h .non = some .none from rfl, show toPyH h (.tup [.non, eP (rMap p m1)]) = some (.tuple [.none, .tuple [.int (rMap p m1).1, .int (rMap p m1).2]]) from rfl]
      unfold oInP
      simp only
      rw [if_pos (by rfl)]
      simp [PySem.PyData.eqv, PySem.PyData.eqvAll]
    · rw [if_neg h1]
      rfl
theorem in_lR {p : Int} {x y : Rat} {k : Nat} {h : DH} (e : h[k]? = some (.lst [lR p x, lR p y])) : oIn .non (.ref k) h = ret (.bl (!(decide (good p x) && decide (good p y)))) h := by
  have es : seqD h (.ref k) = some [lR p x, lR p y] := by unfold seqD; simp only [e]
  unfold oIn
  rw [es]
  by_cases hx : (x.den : Int) % p = 0
  · have gx : decide (good p x) = false := decide_eq_false fun z => z hx
    rw [show lR p x = .non from if_pos hx, gx]
    by_cases hy : (y.den : Int) % p = 0
    · rw [show lR p y = .non from if_pos hy]
      rfl
    · rw [show lR p y = .int (rRat p y) from if_neg hy]
      rfl
  · have gx : decide (good p x) = true := decide_eq_true hx
    rw [show lR p x = .int (rRat p x) from if_neg hx, gx]
    by_cases hy : (y.den : Int) % p = 0
    · have gy : decide (good p y) = false := decide_eq_false fun z => z hy
      rw [show lR p y = .non from if_pos hy, gy]
      rfl
    · have gy : decide (good p y) = true := decide_eq_true hy
      rw [show lR p y = .int (rRat p y) from if_neg hy, gy]
      rfl
theorem its_hM {p : Int} {m : Mp} {f : DE} {ρ : Ev} {h : DH} (ef : f ρ h = ret (lM p m) h) : dIf (dTest (dBin oIsN f (dC .non))) (dC (.str "none")) f ρ h = ret (hM p m) h := by
  have : oIsN (lM p m) .non h = ret (.bl (!decide (goodM p m))) h := by
    unfold lM
    by_cases g : goodM p m
    · rw [if_pos g, decide_eq_true g]; rfl
    · rw [if_neg g, decide_eq_false g]; rfl
  simp only [dIf_, dTest_, dBin_, ef, dC_, bindR_ret, this, bD_bl]
  unfold lM hM
  by_cases g : goodM p m
  · rw [if_pos g, if_pos g, decide_eq_true g]; rfl
  · rw [if_neg g, if_neg g, decide_eq_false g]; rfl
theorem isN_lM {p : Int} {m : Mp} (h : DH) : oIsN (lM p m) .non h = ret (.bl (!decide (goodM p m))) h := by
  unfold lM
  by_cases g : goodM p m
  · rw [if_pos g, decide_eq_true g]; rfl
  · rw [if_neg g, decide_eq_false g]; rfl
theorem same_hM {n : Nat} {h : DH} {p : Int} {m : Mp} : SameN (n + 1) h (hM p m) (hM p m) := by
  unfold hM
  split
  · exact same_eP _
  · exact .inl ⟨rfl, rfl⟩
theorem num_lc {l : DA} {ρ : Ev} {h h' : DH} {ds : List D} (e : l ρ h = ret ds h') : dNum l ρ h = ret (.ref h'.length) (h' ++ [.lst ds]) := by
  unfold dNum
  rw [e, bindR_ret]
  rfl
theorem num_lst {g : DA} {ρ : Ev} {h h' : DH} {ds : List D} (e : g ρ h = ret ds h') (ok : ds.length ≤ 1000) : dNum (lLst g) ρ h = ret (.ref h'.length) (h' ++ [.lst ds]) := by
  refine num_lc ?_
  unfold lLst
  rw [e, bindR_ret, if_pos (show okLen ds.length = true from decide_eq_true (by omega))]
theorem pr_ok {v : D} (hv : v ∈ ([2, 3, 5, 7, 11, 13] : List Int).map D.int) : ∃ p, v = .int p ∧ pOk p := by
  obtain ⟨p, rfl, hp⟩ := mem_ints hv
  exact ⟨p, rfl, hp⟩
noncomputable abbrev lapB : DS := (sSeq (sAsg (dFn 2 φ_law_of (aCons (dV 1) (aCons (dNum (lLst (aCons (dC (.int 2)) (aCons (dC (.int 3)) (aCons (dC (.int 5)) (aCons (dC (.int 7)) (aCons (dC (.int 11)) (aCons (dC (.int 13)) aNil)))))))) aNil))) (gN 2))
  (sSeq (sPar 3 4 (aCons (dFn 2 φ_law_maps (aCons (dV 1) (aCons (dC (.int 2)) aNil))) (aCons (dFn 1 φ_law_map (aCons (dV 1) aNil)) aNil)))
  (sSeq (sAsg (dL φTup (lLc (Dt.iRng1 (dC (.int 2))) (gN 12) bYes (dFn 2 φ_law_fr (aCons (dBin oSub (dFn 2 φ_law_take (aCons (dV 1) (aCons (dC (.int 9)) aNil))) (dC (.int 4))) (aCons (dFn 2 φ_law_of (aCons (dV 1) (aCons (dNum (lLst (aCons (dC (.int 1)) (aCons (dC (.int 1)) (aCons (dC (.int 2)) (aCons (dC (.int 3)) aNil)))))) aNil))) aNil))) [12])) (gN 5))
  (sSeq (sPar 6 7 (aCons (dL φTup (lLc (iSeq (dV 3)) (gN 13) bYes (dFn 2 φ_law_rests (aCons (dV 2) (aCons (dV 13) aNil))) [13])) (aCons (dFn 2 φ_law_rests (aCons (dV 2) (aCons (dV 4) aNil))) aNil)))
  (sSeq (sAsg (dNum (lLst (aCons (dFn 1 φ_p_is_prime (aCons (dV 2) aNil)) (aCons (dNum (lLc (iSeq (dBin oAdd (dV 3) (dTup (aCons (dV 4) aNil)))) (gN 13) bYes (dFn 3 φ_law_heard (aCons (dC (.int 0)) (aCons (dV 2) (aCons (dV 13) aNil)))) [13])) aNil)))) (gN 8))
  (sSeq (sIf (bNot (dTru (dFn 2 (φ_law_same 8) (aCons (dV 8) (aCons (dNum (lLst (aCons (dC (.bl true)) (aCons (dNum (lLc (iSeq (dBin oAdd (dV 6) (dTup (aCons (dV 7) aNil)))) (gN 14) bYes (dIf (dTest (dBin oIsN (dV 14) (dC .non))) (dC (.str "none")) (dV 14)) [14])) aNil)))) aNil))))) (sRet (dC (.bl false))) sNext)
  (sSeq (sIf (bOr (dTest (dBin oIn (dC .non) (dV 6))) (bOr (dTest (dBin oIsN (dV 7) (dC .non))) (dTest (dBin oIn (dC .non) (dNum (lLc (iSeq (dV 5)) (gN 15) bYes (dFn 2 φ_law_rest (aCons (dV 2) (aCons (dV 15) aNil))) [15])))))) sCont sNext)
  (sSeq (sIf (bOr (bNot (dTru (dFn 3 φ_law_numbers_right (aCons (dV 2) (aCons (dBin oIx (dV 5) (dC (.int 0))) (aCons (dBin oIx (dV 5) (dC (.int 1))) aNil)))))) (bNot (dTru (dFn 5 φ_law_maps_right (aCons (dV 1) (aCons (dV 2) (aCons (dV 3) (aCons (dV 6) (aCons (dBin oIx (dV 5) (dC (.int 0))) aNil))))))))) (sRet (dC (.bl false))) sNext)
  (sSeq (sIf (bOr (bNot (dTru (dFn 4 φ_law_between_right (aCons (dV 2) (aCons (dBin oIx (dV 3) (dC (.int 0))) (aCons (dBin oIx (dV 6) (dC (.int 0))) (aCons (dV 5) aNil))))))) (bNot (dTru (dFn 5 φ_law_turned_right (aCons (dV 2) (aCons (dV 3) (aCons (dV 6) (aCons (dV 4) (aCons (dV 7) aNil))))))))) (sRet (dC (.bl false))) sNext)
  (sSeq (sPar 9 10 (aCons (dFn 3 φ_law_word (aCons (dV 1) (aCons (dC (.int 2)) (aCons (dC (.int 4)) aNil)))) (aCons (dFn 3 φ_law_word (aCons (dV 1) (aCons (dC (.int 2)) (aCons (dC (.int 4)) aNil)))) aNil)))
  (sIf (bAnd (dTru (dFn 3 φ_p_alike_by_rests (aCons (dV 2) (aCons (dV 9) (aCons (dV 10) aNil))))) (dTest (dBin oNe (dFn 3 φ_p_rest_word (aCons (dV 2) (aCons (dV 6) (aCons (dV 9) aNil)))) (dFn 3 φ_p_rest_word (aCons (dV 2) (aCons (dV 6) (aCons (dV 10) aNil))))))) (sRet (dC (.bl false))) sNext)))))))))))
theorem e_lap {S L : D} {k N : Nat} {h : DH} (t : Tin k N h) (hN : N ≤ 800) (y2 y3 y4 y5 y6 y7 y8 y9 y10 y12 y13 y14 y15 : Option D) :
    ∃ ρ' h', (lapB [some (S), some (.ref k), y2, y3, y4, y5, y6, y7, y8, y9, y10, some (L), y12, y13, y14, y15] h = some (.nx ρ', h') ∨ lapB [some (S), some (.ref k), y2, y3, y4, y5, y6, y7, y8, y9, y10, some (L), y12, y13, y14, y15] h = some (.ct ρ', h')) ∧ (∃ z2 z3 z4 z5 z6 z7 z8 z9 z10 z11 z12 z13 z14 z15 : Option D, ρ' = [some S, some (.ref k), z2, z3, z4, z5, z6, z7, z8, z9, z10, z11, z12, z13, z14, z15]) ∧ Ht k (N + 60) h h' := by
  -- the prime
  have el : (aCons (dV 1) (aCons (dNum (lLst (aCons (dC (.int 2)) (aCons (dC (.int 3)) (aCons (dC (.int 5)) (aCons (dC (.int 7)) (aCons (dC (.int 11)) (aCons (dC (.int 13)) aNil)))))))) aNil)) [some (S), some (.ref k), y2, y3, y4, y5, y6, y7, y8, y9, y10, some (L), y12, y13, y14, y15] h = ret [.ref k, .ref h.length] (h ++ [.lst ([2, 3, 5, 7, 11, 13].map D.int)]) := rfl
  obtain ⟨u, h1, e1, hu, t1⟩ := of_lit t (by omega) el (by decide) (by decide)
  obtain ⟨p, rfl, hp⟩ := pr_ok hu
  have s1 : (sAsg (dFn 2 φ_law_of (aCons (dV 1) (aCons (dNum (lLst (aCons (dC (.int 2)) (aCons (dC (.int 3)) (aCons (dC (.int 5)) (aCons (dC (.int 7)) (aCons (dC (.int 11)) (aCons (dC (.int 13)) aNil)))))))) aNil))) (gN 2)) [some (S), some (.ref k), y2, y3, y4, y5, y6, y7, y8, y9, y10, some (L), y12, y13, y14, y15] h = some (.nx [some (S), some (.ref k), some (.int p), y3, y4, y5, y6, y7, y8, y9, y10, some (L), y12, y13, y14, y15], h1) := by
    rw [sAsg_, e1, bindS_ret]
    rfl
  -- the maps
  obtain ⟨m0, m1, h2, e2, ⟨sm0, sm1⟩, t2⟩ := e_law_maps t1.tin (by omega)
  obtain ⟨m, h3, e3, smt, t3⟩ := e_law_map t2.tin (by omega)
  have s2 : (sPar 3 4 (aCons (dFn 2 φ_law_maps (aCons (dV 1) (aCons (dC (.int 2)) aNil))) (aCons (dFn 1 φ_law_map (aCons (dV 1) aNil)) aNil))) [some (S), some (.ref k), some (.int p), y3, y4, y5, y6, y7, y8, y9, y10, some (L), y12, y13, y14, y15] h1 = some (.nx [some (S), some (.ref k), some (.int p), some (eMs m0 m1), some (eM m), y5, y6, y7, y8, y9, y10, some (L), y12, y13, y14, y15], h3) := by
    simp only [sPar_, aCons_, dFn_, dV_1, dC_, aNil_, bindR_ret, List.length, if_true, e2, e3, bindS_ret]
    rfl
  -- the places
  have hs : Dt.iRng1 (dC (.int 2)) [some (S), some (.ref k), some (.int p), some (eMs m0 m1), some (eM m), y5, y6, y7, y8, y9, y10, some (L), y12, y13, y14, y15] h3 = ret (rangeD 0 2, sT) h3 := iRng_lit (n := 2) rfl (by decide) (by decide)
  obtain ⟨ys, H, e4, l4, q4, t4⟩ := lLc_tin (i := 12) (c := 2) (own := [12]) (te := (dFn 2 φ_law_fr (aCons (dBin oSub (dFn 2 φ_law_take (aCons (dV 1) (aCons (dC (.int 9)) aNil))) (dC (.int 4))) (aCons (dFn 2 φ_law_of (aCons (dV 1) (aCons (dNum (lLst (aCons (dC (.int 1)) (aCons (dC (.int 1)) (aCons (dC (.int 2)) (aCons (dC (.int 3)) aNil)))))) aNil))) aNil)))) (fun d => ∃ q, d = eR q ∧ Sq 3 q) hs t3.tin (by rw [rangeD_len]; omega) (by rw [rangeD_len]; omega) fun d _ M g tM hM => by
    obtain ⟨q, h', e, sq, t'⟩ := e_law_spot (ρ := [some (S), some (.ref k), some (.int p), some (eMs m0 m1), some (eM m), y5, y6, y7, y8, y9, y10, some (L), some (d), y13, y14, y15]) (i := 1) tM (by omega) fun _ => rfl
    exact ⟨eR q, h', e, ⟨q, rfl, sq⟩, t'⟩
  rw [rangeD_len] at l4 t4
  obtain ⟨x', y', rfl, ⟨x, rfl, sx⟩, y, rfl, sy⟩ := two_of l4 q4
  have s3 : (sAsg (dL φTup (lLc (Dt.iRng1 (dC (.int 2))) (gN 12) bYes (dFn 2 φ_law_fr (aCons (dBin oSub (dFn 2 φ_law_take (aCons (dV 1) (aCons (dC (.int 9)) aNil))) (dC (.int 4))) (aCons (dFn 2 φ_law_of (aCons (dV 1) (aCons (dNum (lLst (aCons (dC (.int 1)) (aCons (dC (.int 1)) (aCons (dC (.int 2)) (aCons (dC (.int 3)) aNil)))))) aNil))) aNil))) [12])) (gN 5)) [some (S), some (.ref k), some (.int p), some (eMs m0 m1), some (eM m), y5, y6, y7, y8, y9, y10, some (L), y12, y13, y14, y15] h3 = some (.nx [some (S), some (.ref k), some (.int p), some (eMs m0 m1), some (eM m), some (eRs x y), y6, y7, y8, y9, y10, some (L), y12, y13, y14, y15], H) := by
    rw [sAsg_, dL_, e4, bindR_ret]
    rfl
  have tH : Ht k (N + 17) h H := ((t1.trans t2).trans (t3.trans t4)).mono (by omega)
  clear el e1 e2 e3 e4 hs t1 t2 t3 t4 l4 q4 hu
  -- the rests
  have e5 : ∀ g : DH, (lLc (iSeq (dV 3)) (gN 13) bYes (dFn 2 φ_law_rests (aCons (dV 2) (aCons (dV 13) aNil))) [13]) [some (S), some (.ref k), some (.int p), some (eMs m0 m1), some (eM m), some (eRs x y), y6, y7, y8, y9, y10, some (L), y12, y13, y14, y15] g = ret [lM p m0, lM p m1] g := fun g => by
    refine lLc_two (x := eM m0) (y := eM m1) (iSeq_ _ _ _ _ rfl) ?_ ?_
    · show dFn 2 φ_law_rests (aCons (dV 2) (aCons (dV 13) aNil)) [some (S), some (.ref k), some (.int p), some (eMs m0 m1), some (eM m), some (eRs x y), y6, y7, y8, y9, y10, some (L), y12, some (eM m0), y14, y15] g = _
      simp only [dFn_, aCons_, dV_2, dV_13, aNil_, bindR_ret, List.length, if_true, e_law_rests hp sm0]
    · show dFn 2 φ_law_rests (aCons (dV 2) (aCons (dV 13) aNil)) [some (S), some (.ref k), some (.int p), some (eMs m0 m1), some (eM m), some (eRs x y), y6, y7, y8, y9, y10, some (L), y12, some (eM m1), y14, y15] g = _
      simp only [dFn_, aCons_, dV_2, dV_13, aNil_, bindR_ret, List.length, if_true, e_law_rests hp sm1]
  have s4 : (sPar 6 7 (aCons (dL φTup (lLc (iSeq (dV 3)) (gN 13) bYes (dFn 2 φ_law_rests (aCons (dV 2) (aCons (dV 13) aNil))) [13])) (aCons (dFn 2 φ_law_rests (aCons (dV 2) (aCons (dV 4) aNil))) aNil))) [some (S), some (.ref k), some (.int p), some (eMs m0 m1), some (eM m), some (eRs x y), y6, y7, y8, y9, y10, some (L), y12, y13, y14, y15] H = some (.nx [some (S), some (.ref k), some (.int p), some (eMs m0 m1), some (eM m), some (eRs x y), some (.tup [lM p m0, lM p m1]), some (lM p m), y8, y9, y10, some (L), y12, y13, y14, y15], H) := by
    simp only [sPar_, aCons_, dL_, e5, φTup_, dFn_, dV_2, dV_4, aNil_, bindR_ret, List.length, if_true, e_law_rests hp smt, bindS_ret]
    rfl
  -- what is heard
  have e6 : ∀ g : DH, (lLc (iSeq (dBin oAdd (dV 3) (dTup (aCons (dV 4) aNil)))) (gN 13) bYes (dFn 3 φ_law_heard (aCons (dC (.int 0)) (aCons (dV 2) (aCons (dV 13) aNil)))) [13]) [some (S), some (.ref k), some (.int p), some (eMs m0 m1), some (eM m), some (eRs x y), some (.tup [lM p m0, lM p m1]), some (lM p m), y8, y9, y10, some (L), y12, y13, y14, y15] g = ret [hM p m0, hM p m1, hM p m] g := fun g => by
    refine lLc_three (x := eM m0) (y := eM m1) (z := eM m) (iSeq_ _ _ _ _ rfl) ?_ ?_ ?_
    · show dFn 3 φ_law_heard (aCons (dC (.int 0)) (aCons (dV 2) (aCons (dV 13) aNil))) [some (S), some (.ref k), some (.int p), some (eMs m0 m1), some (eM m), some (eRs x y), some (.tup [lM p m0, lM p m1]), some (lM p m), y8, y9, y10, some (L), y12, some (eM m0), y14, y15] g = _
      simp only [dFn_, aCons_, dC_, dV_2, dV_13, aNil_, bindR_ret, List.length, if_true, e_law_heard0 hp sm0]
    · show dFn 3 φ_law_heard (aCons (dC (.int 0)) (aCons (dV 2) (aCons (dV 13) aNil))) [some (S), some (.ref k), some (.int p), some (eMs m0 m1), some (eM m), some (eRs x y), some (.tup [lM p m0, lM p m1]), some (lM p m), y8, y9, y10, some (L), y12, some (eM m1), y14, y15] g = _
      simp only [dFn_, aCons_, dC_, dV_2, dV_13, aNil_, bindR_ret, List.length, if_true, e_law_heard0 hp sm1]
    · show dFn 3 φ_law_heard (aCons (dC (.int 0)) (aCons (dV 2) (aCons (dV 13) aNil))) [some (S), some (.ref k), some (.int p), some (eMs m0 m1), some (eM m), some (eRs x y), some (.tup [lM p m0, lM p m1]), some (lM p m), y8, y9, y10, some (L), y12, some (eM m), y14, y15] g = _
      simp only [dFn_, aCons_, dC_, dV_2, dV_13, aNil_, bindR_ret, List.length, if_true, e_law_heard0 hp smt]
  have e6n := num_lc (e6 H)
  obtain ⟨hs, ehs⟩ : ∃ hs, [hM p m0, hM p m1, hM p m] = hs := ⟨_, rfl⟩
  have e7 : (dNum (lLst (aCons (dFn 1 φ_p_is_prime (aCons (dV 2) aNil)) (aCons (dNum (lLc (iSeq (dBin oAdd (dV 3) (dTup (aCons (dV 4) aNil)))) (gN 13) bYes (dFn 3 φ_law_heard (aCons (dC (.int 0)) (aCons (dV 2) (aCons (dV 13) aNil)))) [13])) aNil)))) [some (S), some (.ref k), some (.int p), some (eMs m0 m1), some (eM m), some (eRs x y), some (.tup [lM p m0, lM p m1]), some (lM p m), y8, y9, y10, some (L), y12, y13, y14, y15] H = ret (.ref (H.length + 1)) (H ++ [.lst hs, .lst [.bl true, .ref H.length]]) := by
    rw [ehs] at e6n
    have := num_lst (g := (aCons (dFn 1 φ_p_is_prime (aCons (dV 2) aNil)) (aCons (dNum (lLc (iSeq (dBin oAdd (dV 3) (dTup (aCons (dV 4) aNil)))) (gN 13) bYes (dFn 3 φ_law_heard (aCons (dC (.int 0)) (aCons (dV 2) (aCons (dV 13) aNil)))) [13])) aNil))) (ρ := [some (S), some (.ref k), some (.int p), some (eMs m0 m1), some (eM m), some (eRs x y), some (.tup [lM p m0, lM p m1]), some (lM p m), y8, y9, y10, some (L), y12, y13, y14, y15]) (h := H) (h' := H ++ [.lst hs]) (ds := [.bl true, .ref H.length]) (by
      simp only [aCons_, e6n, dFn_, dV_2, aNil_, bindR_ret, List.length, if_true, e_is_prime hp]) (by simp)
    rw [this, List.length_append, List.append_assoc]
    rfl
  have s5 : (sAsg (dNum (lLst (aCons (dFn 1 φ_p_is_prime (aCons (dV 2) aNil)) (aCons (dNum (lLc (iSeq (dBin oAdd (dV 3) (dTup (aCons (dV 4) aNil)))) (gN 13) bYes (dFn 3 φ_law_heard (aCons (dC (.int 0)) (aCons (dV 2) (aCons (dV 13) aNil)))) [13])) aNil)))) (gN 8)) [some (S), some (.ref k), some (.int p), some (eMs m0 m1), some (eM m), some (eRs x y), some (.tup [lM p m0, lM p m1]), some (lM p m), y8, y9, y10, some (L), y12, y13, y14, y15] H = some (.nx [some (S), some (.ref k), some (.int p), some (eMs m0 m1), some (eM m), some (eRs x y), some (.tup [lM p m0, lM p m1]), some (lM p m), some (.ref (H.length + 1)), y9, y10, some (L), y12, y13, y14, y15], H ++ [.lst hs, .lst [.bl true, .ref H.length]]) := by
    rw [sAsg_, e7, bindS_ret]
    rfl
  have e8 : ∀ g : DH, (dNum (lLc (iSeq (dBin oAdd (dV 6) (dTup (aCons (dV 7) aNil)))) (gN 14) bYes (dIf (dTest (dBin oIsN (dV 14) (dC .non))) (dC (.str "none")) (dV 14)) [14])) [some (S), some (.ref k), some (.int p), some (eMs m0 m1), some (eM m), some (eRs x y), some (.tup [lM p m0, lM p m1]), some (lM p m), some (.ref (H.length + 1)), y9, y10, some (L), y12, y13, y14, y15] g = ret (.ref g.length) (g ++ [.lst hs]) := fun g => by
    refine num_lc ?_
    rw [← ehs]
    refine lLc_three (x := lM p m0) (y := lM p m1) (z := lM p m) (iSeq_ _ _ _ _ rfl) ?_ ?_ ?_
    · exact its_hM rfl
    · exact its_hM rfl
    · exact its_hM rfl
  obtain ⟨T1, hT1⟩ : ∃ T1 : DH, [.lst hs, .lst [.bl true, .ref H.length], .lst hs, .lst [.bl true, .ref (H.length + 2)]] = T1 := ⟨_, rfl⟩
  have e9 : (aCons (dNum (lLst (aCons (dC (.bl true)) (aCons (dNum (lLc (iSeq (dBin oAdd (dV 6) (dTup (aCons (dV 7) aNil)))) (gN 14) bYes (dIf (dTest (dBin oIsN (dV 14) (dC .non))) (dC (.str "none")) (dV 14)) [14])) aNil)))) aNil) [some (S), some (.ref k), some (.int p), some (eMs m0 m1), some (eM m), some (eRs x y), some (.tup [lM p m0, lM p m1]), some (lM p m), some (.ref (H.length + 1)), y9, y10, some (L), y12, y13, y14, y15] (H ++ [.lst hs, .lst [.bl true, .ref H.length]]) = ret [.ref (H.length + 3)] (H ++ T1) := by
    have := num_lst (g := (aCons (dC (.bl true)) (aCons (dNum (lLc (iSeq (dBin oAdd (dV 6) (dTup (aCons (dV 7) aNil)))) (gN 14) bYes (dIf (dTest (dBin oIsN (dV 14) (dC .non))) (dC (.str "none")) (dV 14)) [14])) aNil))) (ρ := [some (S), some (.ref k), some (.int p), some (eMs m0 m1), some (eM m), some (eRs x y), some (.tup [lM p m0, lM p m1]), some (lM p m), some (.ref (H.length + 1)), y9, y10, some (L), y12, y13, y14, y15]) (h := H ++ [.lst hs, .lst [.bl true, .ref H.length]]) (h' := H ++ [.lst hs, .lst [.bl true, .ref H.length]] ++ [.lst hs]) (ds := [.bl true, .ref (H.length + 2)]) (by
      simp only [aCons_, e8, dC_, aNil_, bindR_ret]
      rw [List.length_append]
      rfl) (by simp)
    rw [aCons_, this, bindR_ret, aNil_, bindR_ret, ← hT1]
    simp only [List.length_append, List.append_assoc]
    rfl
  have g0 : (H ++ T1)[H.length]? = some (.lst hs) := by rw [← hT1]; exact at_app H _ 0
  have g1 : (H ++ T1)[H.length + 1]? = some (.lst [.bl true, .ref H.length]) := by rw [← hT1]; exact at_app H _ 1
  have g2 : (H ++ T1)[H.length + 2]? = some (.lst hs) := by rw [← hT1]; exact at_app H _ 2
  have g3 : (H ++ T1)[H.length + 3]? = some (.lst [.bl true, .ref (H.length + 2)]) := by rw [← hT1]; exact at_app H _ 3
  have c1 := e_law_same 7 (H ++ T1) (.ref (H.length + 1)) (.ref (H.length + 3)) (.inr (.inr ⟨_, _, _, _, rfl, rfl, g1, g3, by simp, .cons (same_bl true) (.cons (same_ref g0 g2 (by rw [← ehs]; simp) fun d hd => by
    rw [← ehs] at hd
    simp only [List.mem_cons, List.not_mem_nil, or_false] at hd
    rcases hd with rfl | rfl | rfl <;> exact same_hM) .nil)⟩))
  have s6 : (bNot (dTru (dFn 2 (φ_law_same 8) (aCons (dV 8) (aCons (dNum (lLst (aCons (dC (.bl true)) (aCons (dNum (lLc (iSeq (dBin oAdd (dV 6) (dTup (aCons (dV 7) aNil)))) (gN 14) bYes (dIf (dTest (dBin oIsN (dV 14) (dC .non))) (dC (.str "none")) (dV 14)) [14])) aNil)))) aNil))))) [some (S), some (.ref k), some (.int p), some (eMs m0 m1), some (eM m), some (eRs x y), some (.tup [lM p m0, lM p m1]), some (lM p m), some (.ref (H.length + 1)), y9, y10, some (L), y12, y13, y14, y15] (H ++ [.lst hs, .lst [.bl true, .ref H.length]]) = ret false (H ++ T1) := by
    rw [bNot_, dTru_, dFn_, aCons_, dV_8, bindR_ret, e9]
    simp only [bindR_ret, List.length, if_true, c1]
    rfl
  have tT : Ht k (N + 17) h (H ++ T1) := tH.trans (Ht.app tH.tin T1)
  clear e5 e6 e6n e7 e8 e9 c1 g0 g1 g2 g3
  have shape : ∀ (a2 a3 a4 a5 a6 a7 a8 a9 a10 a11 a12 a13 a14 a15 : Option D), ∃ z2 z3 z4 z5 z6 z7 z8 z9 z10 z11 z12 z13 z14 z15 : Option D, [some S, some (.ref k), a2, a3, a4, a5, a6, a7, a8, a9, a10, a11, a12, a13, a14, a15] = [some S, some (.ref k), z2, z3, z4, z5, z6, z7, z8, z9, z10, z11, z12, z13, z14, z15] := fun a2 a3 a4 a5 a6 a7 a8 a9 a10 a11 a12 a13 a14 a15 => ⟨a2, a3, a4, a5, a6, a7, a8, a9, a10, a11, a12, a13, a14, a15, rfl⟩
  have pre : ∀ z, (sSeq (sIf (bOr (dTest (dBin oIn (dC .non) (dV 6))) (bOr (dTest (dBin oIsN (dV 7) (dC .non))) (dTest (dBin oIn (dC .non) (dNum (lLc (iSeq (dV 5)) (gN 15) bYes (dFn 2 φ_law_rest (aCons (dV 2) (aCons (dV 15) aNil))) [15])))))) sCont sNext) (sSeq (sIf (bOr (bNot (dTru (dFn 3 φ_law_numbers_right (aCons (dV 2) (aCons (dBin oIx (dV 5) (dC (.int 0))) (aCons (dBin oIx (dV 5) (dC (.int 1))) aNil)))))) (bNot (dTru (dFn 5 φ_law_maps_right (aCons (dV 1) (aCons (dV 2) (aCons (dV 3) (aCons (dV 6) (aCons (dBin oIx (dV 5) (dC (.int 0))) aNil))))))))) (sRet (dC (.bl false))) sNext)
  (sSeq (sIf (bOr (bNot (dTru (dFn 4 φ_law_between_right (aCons (dV 2) (aCons (dBin oIx (dV 3) (dC (.int 0))) (aCons (dBin oIx (dV 6) (dC (.int 0))) (aCons (dV 5) aNil))))))) (bNot (dTru (dFn 5 φ_law_turned_right (aCons (dV 2) (aCons (dV 3) (aCons (dV 6) (aCons (dV 4) (aCons (dV 7) aNil))))))))) (sRet (dC (.bl false))) sNext)
  (sSeq (sPar 9 10 (aCons (dFn 3 φ_law_word (aCons (dV 1) (aCons (dC (.int 2)) (aCons (dC (.int 4)) aNil)))) (aCons (dFn 3 φ_law_word (aCons (dV 1) (aCons (dC (.int 2)) (aCons (dC (.int 4)) aNil)))) aNil)))
  (sIf (bAnd (dTru (dFn 3 φ_p_alike_by_rests (aCons (dV 2) (aCons (dV 9) (aCons (dV 10) aNil))))) (dTest (dBin oNe (dFn 3 φ_p_rest_word (aCons (dV 2) (aCons (dV 6) (aCons (dV 9) aNil)))) (dFn 3 φ_p_rest_word (aCons (dV 2) (aCons (dV 6) (aCons (dV 10) aNil))))))) (sRet (dC (.bl false))) sNext))))) [some (S), some (.ref k), some (.int p), some (eMs m0 m1), some (eM m), some (eRs x y), some (.tup [lM p m0, lM p m1]), some (lM p m), some (.ref (H.length + 1)), y9, y10, some (L), y12, y13, y14, y15] (H ++ T1) = z → lapB [some (S), some (.ref k), y2, y3, y4, y5, y6, y7, y8, y9, y10, some (L), y12, y13, y14, y15] h = z := fun z ez => by
    simp only [lapB, sSeq_, s1, s2, s3, s4, s5, seqS_nx, sIf_, s6, bindS_ret, Bool.false_eq_true, if_false, sNext_]
    simp only [sSeq_, sIf_] at ez
    exact ez
  clear s1 s2 s3 s4 s5 s6
  have cl : (lLc (iSeq (dV 5)) (gN 15) bYes (dFn 2 φ_law_rest (aCons (dV 2) (aCons (dV 15) aNil))) [15]) [some (S), some (.ref k), some (.int p), some (eMs m0 m1), some (eM m), some (eRs x y), some (.tup [lM p m0, lM p m1]), some (lM p m), some (.ref (H.length + 1)), y9, y10, some (L), y12, y13, y14, y15] (H ++ T1) = ret [lR p x, lR p y] (H ++ T1) := by
    refine lLc_two (x := eR x) (y := eR y) (iSeq_ _ _ _ _ rfl) ?_ ?_
    · show dFn 2 φ_law_rest (aCons (dV 2) (aCons (dV 15) aNil)) [some (S), some (.ref k), some (.int p), some (eMs m0 m1), some (eM m), some (eRs x y), some (.tup [lM p m0, lM p m1]), some (lM p m), some (.ref (H.length + 1)), y9, y10, some (L), y12, y13, y14, some (eR x)] _ = _
      simp only [dFn_, aCons_, dV_2, dV_15, aNil_, bindR_ret, List.length, if_true, e_law_rest hp sx]
    · show dFn 2 φ_law_rest (aCons (dV 2) (aCons (dV 15) aNil)) [some (S), some (.ref k), some (.int p), some (eMs m0 m1), some (eM m), some (eRs x y), some (.tup [lM p m0, lM p m1]), some (lM p m), some (.ref (H.length + 1)), y9, y10, some (L), y12, y13, y14, some (eR y)] _ = _
      simp only [dFn_, aCons_, dV_2, dV_15, aNil_, bindR_ret, List.length, if_true, e_law_rest hp sy]
  have cn := num_lc cl
  have g4 : (H ++ T1 ++ [O.lst [lR p x, lR p y]])[(H ++ T1).length]? = some (.lst [lR p x, lR p y]) := get_last
  by_cases G1 : goodM p m0 ∧ goodM p m1
  rotate_left
  · refine ⟨[some (S), some (.ref k), some (.int p), some (eMs m0 m1), some (eM m), some (eRs x y), some (.tup [lM p m0, lM p m1]), some (lM p m), some (.ref (H.length + 1)), y9, y10, some (L), y12, y13, y14, y15], H ++ T1, .inr (pre _ ?_), shape _ _ _ _ _ _ _ _ _ _ _ _ _ _, tT.mono (by omega)⟩
    simp only [sSeq_, sIf_, bOr_, dTest_, dBin_, dC_, dV_6, bindR_ret, in_no G1, bD_bl, if_true, bindS_ret, sCont_, seqS_ct]
  by_cases G2 : goodM p m
  rotate_left
  · refine ⟨[some (S), some (.ref k), some (.int p), some (eMs m0 m1), some (eM m), some (eRs x y), some (.tup [lM p m0, lM p m1]), some (lM p m), some (.ref (H.length + 1)), y9, y10, some (L), y12, y13, y14, y15], H ++ T1, .inr (pre _ ?_), shape _ _ _ _ _ _ _ _ _ _ _ _ _ _, tT.mono (by omega)⟩
    simp only [sSeq_, sIf_, bOr_, dTest_, dBin_, dC_, dV_6, dV_7, bindR_ret, in_yes G1.1 G1.2, isN_lM, decide_eq_false G2, Bool.not_false, bD_bl, Bool.false_eq_true, if_false, if_true, bindS_ret, sCont_, seqS_ct]
  have tU : Ht k (N + 17) h (H ++ T1 ++ [O.lst [lR p x, lR p y]]) := tT.trans (Ht.app tT.tin _)
  by_cases G3 : good p x ∧ good p y
  rotate_left
  · refine ⟨[some (S), some (.ref k), some (.int p), some (eMs m0 m1), some (eM m), some (eRs x y), some (.tup [lM p m0, lM p m1]), some (lM p m), some (.ref (H.length + 1)), y9, y10, some (L), y12, y13, y14, y15], H ++ T1 ++ [O.lst [lR p x, lR p y]], .inr (pre _ ?_), shape _ _ _ _ _ _ _ _ _ _ _ _ _ _, tU.mono (by omega)⟩
    have gb : (decide (good p x) && decide (good p y)) = false := by
      rw [Bool.and_eq_false_iff]
      by_cases z : good p x
      · exact .inr (decide_eq_false fun w => G3 ⟨z, w⟩)
      · exact .inl (decide_eq_false z)
    simp only [sSeq_, sIf_, bOr_, dTest_, dBin_, dC_, dV_6, dV_7, bindR_ret, in_yes G1.1 G1.2, isN_lM, decide_eq_true G2, Bool.not_true, cn, in_lR g4, gb, Bool.not_false, bD_bl, Bool.false_eq_true, if_false, if_true, bindS_ret, sCont_, seqS_ct]
  obtain ⟨gm0, gm1⟩ := G1
  obtain ⟨gx, gy⟩ := G3
  have gb : (decide (good p x) && decide (good p y)) = true := by rw [decide_eq_true gx, decide_eq_true gy]; rfl
  have s7 : (bOr (dTest (dBin oIn (dC .non) (dV 6))) (bOr (dTest (dBin oIsN (dV 7) (dC .non))) (dTest (dBin oIn (dC .non) (dNum (lLc (iSeq (dV 5)) (gN 15) bYes (dFn 2 φ_law_rest (aCons (dV 2) (aCons (dV 15) aNil))) [15])))))) [some (S), some (.ref k), some (.int p), some (eMs m0 m1), some (eM m), some (eRs x y), some (.tup [lM p m0, lM p m1]), some (lM p m), some (.ref (H.length + 1)), y9, y10, some (L), y12, y13, y14, y15] (H ++ T1) = ret false (H ++ T1 ++ [O.lst [lR p x, lR p y]]) := by
    simp only [bOr_, dTest_, dBin_, dC_, dV_6, dV_7, bindR_ret, in_yes gm0 gm1, isN_lM, decide_eq_true G2, Bool.not_true, cn, in_lR g4, gb, bD_bl, Bool.false_eq_true, if_false]
  have er : ([some (S), some (.ref k), some (.int p), some (eMs m0 m1), some (eM m), some (eRs x y), some (.tup [lM p m0, lM p m1]), some (lM p m), some (.ref (H.length + 1)), y9, y10, some (L), y12, y13, y14, y15] : Ev) = [some (S), some (.ref k), some (.int p), some (eMs m0 m1), some (eM m), some (eRs x y), some (ePs (rMap p m0) (rMap p m1)), some (eP (rMap p m)), some (.ref (H.length + 1)), y9, y10, some (L), y12, y13, y14, y15] := by
    unfold lM
    rw [if_pos gm0, if_pos gm1, if_pos G2]
    rfl
  have q0 := RM.of hp gm0
  have q1 := RM.of hp gm1
  have qt := RM.of hp G2
  obtain ⟨U, hU⟩ : ∃ U, H ++ T1 ++ [O.lst [lR p x, lR p y]] = U := ⟨_, rfl⟩
  rw [hU] at s7 tU
  rw [er] at s7 pre
  obtain ⟨V, e10, t10⟩ := e_law_maps_right hp sm0 sm1 q0 q1 sx gx tU.tin (by omega)
  have e11 := e_law_numbers hp sx sy gx gy U
  have e12 := e_law_between hp sm0 q0 sx sy gx gy V
  have e13 := e_law_turned hp sm0 sm1 smt q0 q1 qt V
  obtain ⟨v, V1, e14, ⟨ov, lv⟩, t14⟩ := e_law_word t10.tin (by omega)
  obtain ⟨w, V2, e15, ⟨ow, lw⟩, t15⟩ := e_law_word t14.tin (by omega)
  obtain ⟨c, e16, hc⟩ := e_alike_by_rests hp ov ow V2
  have i0 : ∀ g : DH, oIx (eRs x y) (.int 0) g = ret (eR x) g ∧ oIx (eRs x y) (.int 1) g = ret (eR y) g := fun _ => ⟨rfl, rfl⟩
  have i1 : ∀ g : DH, oIx (eMs m0 m1) (.int 0) g = ret (eM m0) g := fun _ => rfl
  have i2 : ∀ g : DH, oIx (ePs (rMap p m0) (rMap p m1)) (.int 0) g = ret (eP (rMap p m0)) g := fun _ => rfl
  have s8 : (bOr (bNot (dTru (dFn 3 φ_law_numbers_right (aCons (dV 2) (aCons (dBin oIx (dV 5) (dC (.int 0))) (aCons (dBin oIx (dV 5) (dC (.int 1))) aNil)))))) (bNot (dTru (dFn 5 φ_law_maps_right (aCons (dV 1) (aCons (dV 2) (aCons (dV 3) (aCons (dV 6) (aCons (dBin oIx (dV 5) (dC (.int 0))) aNil))))))))) [some (S), some (.ref k), some (.int p), some (eMs m0 m1), some (eM m), some (eRs x y), some (ePs (rMap p m0) (rMap p m1)), some (eP (rMap p m)), some (.ref (H.length + 1)), y9, y10, some (L), y12, y13, y14, y15] U = ret false V := by
    simp only [bOr_, bNot_, dTru_, dFn_, aCons_, dBin_, dC_, dV_1, dV_2, dV_3, dV_5, dV_6, aNil_, bindR_ret, (i0 _).1, (i0 _).2, List.length, if_true, e11, tD_bl, Bool.not_true, Bool.false_eq_true, if_false, e10]
  have s9 : (bOr (bNot (dTru (dFn 4 φ_law_between_right (aCons (dV 2) (aCons (dBin oIx (dV 3) (dC (.int 0))) (aCons (dBin oIx (dV 6) (dC (.int 0))) (aCons (dV 5) aNil))))))) (bNot (dTru (dFn 5 φ_law_turned_right (aCons (dV 2) (aCons (dV 3) (aCons (dV 6) (aCons (dV 4) (aCons (dV 7) aNil))))))))) [some (S), some (.ref k), some (.int p), some (eMs m0 m1), some (eM m), some (eRs x y), some (ePs (rMap p m0) (rMap p m1)), some (eP (rMap p m)), some (.ref (H.length + 1)), y9, y10, some (L), y12, y13, y14, y15] V = ret false V := by
    simp only [bOr_, bNot_, dTru_, dFn_, aCons_, dBin_, dC_, dV_2, dV_3, dV_4, dV_5, dV_6, dV_7, aNil_, bindR_ret, i1, i2, List.length, if_true, e12, tD_bl, Bool.not_true, Bool.false_eq_true, if_false, e13]
  have s10 : (sPar 9 10 (aCons (dFn 3 φ_law_word (aCons (dV 1) (aCons (dC (.int 2)) (aCons (dC (.int 4)) aNil)))) (aCons (dFn 3 φ_law_word (aCons (dV 1) (aCons (dC (.int 2)) (aCons (dC (.int 4)) aNil)))) aNil))) [some (S), some (.ref k), some (.int p), some (eMs m0 m1), some (eM m), some (eRs x y), some (ePs (rMap p m0) (rMap p m1)), some (eP (rMap p m)), some (.ref (H.length + 1)), y9, y10, some (L), y12, y13, y14, y15] V = some (.nx [some (S), some (.ref k), some (.int p), some (eMs m0 m1), some (eM m), some (eRs x y), some (ePs (rMap p m0) (rMap p m1)), some (eP (rMap p m)), some (.ref (H.length + 1)), some (eW v), some (eW w), some (L), y12, y13, y14, y15], V2) := by
    simp only [sPar_, aCons_, dFn_, dV_1, dC_, aNil_, bindR_ret, List.length, if_true, e14, e15, bindS_ret]
    rfl
  have s11 : (bAnd (dTru (dFn 3 φ_p_alike_by_rests (aCons (dV 2) (aCons (dV 9) (aCons (dV 10) aNil))))) (dTest (dBin oNe (dFn 3 φ_p_rest_word (aCons (dV 2) (aCons (dV 6) (aCons (dV 9) aNil)))) (dFn 3 φ_p_rest_word (aCons (dV 2) (aCons (dV 6) (aCons (dV 10) aNil))))))) [some (S), some (.ref k), some (.int p), some (eMs m0 m1), some (eM m), some (eRs x y), some (ePs (rMap p m0) (rMap p m1)), some (eP (rMap p m)), some (.ref (H.length + 1)), some (eW v), some (eW w), some (L), y12, y13, y14, y15] V2 = ret false V2 := by
    simp only [bAnd_, dTru_, dFn_, aCons_, dV_2, dV_9, dV_10, aNil_, bindR_ret, List.length, if_true, e16, tD_bl]
    cases c with
    | false => rfl
    | true => simp only [if_true, dTest_, dBin_, dFn_, aCons_, dV_2, dV_6, dV_9, dV_10, aNil_, bindR_ret, List.length, e_rest_word hp q0.ft q1.ft ov, e_rest_word hp q0.ft q1.ft ow, hc rfl _ _ q0.ft q1.ft, oNe_eP, decide_true, Bool.not_true, bD_bl]
  refine ⟨[some (S), some (.ref k), some (.int p), some (eMs m0 m1), some (eM m), some (eRs x y), some (ePs (rMap p m0) (rMap p m1)), some (eP (rMap p m)), some (.ref (H.length + 1)), some (eW v), some (eW w), some (L), y12, y13, y14, y15], V2, .inl (pre _ ?_), shape _ _ _ _ _ _ _ _ _ _ _ _ _ _, (((tU.trans t10).trans t14).trans t15).mono (by omega)⟩
  simp only [sSeq_, sIf_, s7, s8, s9, s10, s11, bindS_ret, Bool.false_eq_true, if_false, sNext_, seqS_nx]
end Pl


set_option Elab.async false
set_option autoImplicit false
set_option linter.all false
set_option maxRecDepth 100000
set_option maxHeartbeats 2000000
set_option exponentiation.threshold 10000
namespace Pl
open Dt Wk
open PySem (Str PyData)

/-! ### the law -/
def Shp (S : D) (k : Nat) (ρ : Ev) : Prop := ∃ z2 z3 z4 z5 z6 z7 z8 z9 z10 z11 z12 z13 z14 z15 : Option D, ρ = [some S, some (.ref k), z2, z3, z4, z5, z6, z7, z8, z9, z10, z11, z12, z13, z14, z15]
theorem laps {S : D} {k : Nat} : ∀ (ds : List D) (N : Nat) (h : DH) (ρ : Ev), Shp S k ρ → Tin k N h → N + 60 * ds.length ≤ 800 → ∃ ρ' h', forGo sT (gN 11) lapB ds ρ h = some (.nx ρ', h')
  | [], N, h, ρ, _, _, _ => ⟨ρ, h, forGo_nil⟩
  | d :: ds, N, h, ρ, s, t, hN => by
    rw [List.length_cons] at hN
    obtain ⟨z2, z3, z4, z5, z6, z7, z8, z9, z10, z11, z12, z13, z14, z15, rfl⟩ := s
    obtain ⟨ρ1, h1, e1, s1, t1⟩ := e_lap (S := S) (L := d) t (by omega) z2 z3 z4 z5 z6 z7 z8 z9 z10 z12 z13 z14 z15
    obtain ⟨ρ2, h2, e2⟩ := laps ds (N + 60) h1 ρ1 s1 t1.tin (by omega)
    refine ⟨ρ2, h2, ?_⟩
    rw [forGo_n]
    rcases e1 with e1 | e1
    · rw [show lapB (([some S, some (.ref k), z2, z3, z4, z5, z6, z7, z8, z9, z10, z11, z12, z13, z14, z15] : Ev).set 11 (some d)) h = _ from e1, loopK_nx]
      exact e2
    · rw [show lapB (([some S, some (.ref k), z2, z3, z4, z5, z6, z7, z8, z9, z10, z11, z12, z13, z14, z15] : Ev).set 11 (some d)) h = _ from e1, loopK_ct]
      exact e2
theorem bits_lt {z : Int} {K : Nat} (h : PySem.Builtin.Int.intBits z ≤ K) : z.natAbs < 2 ^ K := by
  unfold PySem.Builtin.Int.intBits at h
  by_cases z0 : z = 0
  · rw [z0]; exact Nat.two_pow_pos K
  · rw [if_neg (by simpa using z0)] at h
    have h1 : z.natAbs ≠ 0 := by omega
    exact Nat.lt_of_lt_of_le ((Nat.log2_lt h1).mp (Nat.lt_succ_self _)) (Nat.pow_le_pow_right (by decide) h)
theorem law_true (ns : List Int) (hl : ns.length ≤ 63) (hb : ∀ z ∈ ns, PySem.Builtin.Int.intBits z ≤ 1048576) : ∃ h', φ_p_law [.rol (ns.map D.int)] [] = some (.ok (.bl true), h') := by
  obtain ⟨K, hK⟩ : ∃ K, K = 1048576 := ⟨_, rfl⟩
  rw [← hK] at hb
  obtain ⟨j, c, h1, e1, e2, e3⟩ := e_law_cells (K := K) (by omega) ns hl fun z hz => bits_lt (hb z hz)
  obtain ⟨k, h2, e4, t⟩ := e_law_box (K := K + 14) (by omega) e2 e3
  have eb : ∃ h3, b_p_law ([D.rol (ns.map D.int)].map some ++ List.replicate (16 - 1) none) [] = some (.rt (.bl true), h3) := by
    have s1 : sAsg (dFn 2 φ_law_box (aCons (dFn 2 φ_law_cells (aCons (dV 0) (aCons (dC (.int 1)) aNil))) (aCons (dC (.int 0)) aNil))) (gN 1) [some (.rol (ns.map D.int)), none, none, none, none, none, none, none, none, none, none, none, none, none, none, none] [] =
        some (.nx [some (.rol (ns.map D.int)), some (.ref k), none, none, none, none, none, none, none, none, none, none, none, none, none, none], h2) := by
      simp only [sAsg_, dFn_, aCons_, dV_0, dC_, aNil_, bindR_ret, List.length, if_true, e1, e4, bindS_ret]
      rfl
    have hs : Dt.iRng1 (dC (.int 4)) [some (.rol (ns.map D.int)), some (.ref k), none, none, none, none, none, none, none, none, none, none, none, none, none, none] h2 = ret (rangeD 0 4, sT) h2 := iRng_lit (n := 4) rfl (by decide) (by decide)
    obtain ⟨ρ', h3, e5⟩ := laps (S := .rol (ns.map D.int)) (k := k) (rangeD 0 4) 0 h2 [some (.rol (ns.map D.int)), some (.ref k), none, none, none, none, none, none, none, none, none, none, none, none, none, none] ⟨_, _, _, _, _, _, _, _, _, _, _, _, _, _, rfl⟩ t (by rw [rangeD_len]; omega)
    refine ⟨h3, ?_⟩
    show b_p_law [some (.rol (ns.map D.int)), none, none, none, none, none, none, none, none, none, none, none, none, none, none, none] [] = _
    rw [b_p_law, sSeq_, s1, seqS_nx, sSeq_, sFor_tup hs]
    rw [show forGo sT (gN 11) _ (rangeD 0 4) _ h2 = _ from e5, seqS_nx]
    rfl
  obtain ⟨h3, e6⟩ := eb
  have e7 : φ_p_law [.rol (ns.map D.int)] [] = gcF [] (ret (.bl true) h3) := by
    refine (runF_eq' rfl e6).trans rfl
  rw [e7]
  unfold gcF ret
  simp only
  split
  · exact ⟨_, rfl⟩
  · exact ⟨_, rfl⟩
end Pl

set_option autoImplicit true
set_option Elab.async false
set_option linter.all false
set_option maxRecDepth 100000
set_option maxHeartbeats 0
namespace Hd
open PySem PySem.Spec PyProof.Rows L2 RZ Dt Wk
/-! ### the facts -/
section
variable {K : PySem.W.Frag} {h : Heap} {mg : Str → Option Value}
theorem fct (c : SaysX K) (i : Nat) {f : He.Fa} (e : fa[i]? = some f) : f.ok K = true := by
  have c1 : He.SaysD fa fn K := congrArg (fun z : He.AlD × Bool => z.1) c
  exact c1.fact i e
theorem dfd (X : K.In h) (G : h.Ns mainGlobals mg) (c : SaysX K) (i j : Nat) {n : Nat} {x : Str} (e : fn[i]? = some (dd n x)) (e2 : fa[j]? = some (.glo x)) : DefD K mg x (defArgs (top n)) (defBody (top n)) (defScope (top n)) := by
  have c1 : He.SaysD fa fn K := congrArg (fun z : He.AlD × Bool => z.1) c
  obtain ⟨fd, F⟩ := c1.def_ i e
  exact ⟨⟨_, fd, F, He.glo_ok X G (fct c j e2)⟩⟩
theorem cint (X : K.In h) (G : h.Ns mainGlobals mg) (c : SaysX K) (j : Nat) {x : Str} {i : Int} (e : fa[j]? = some (.int x i)) : ConD K mg x (.int i) := by
  obtain ⟨t, m⟩ := He.int_ok X G (fct c j e)
  exact ⟨⟨_, .int i, m, ⟨t, rfl⟩, fun _ _ => rfl⟩⟩
theorem ctup (X : K.In h) (G : h.Ns mainGlobals mg) (c : SaysX K) (j i : Nat) {x : Str} {vs : List He.Dv} {ds : List D} (e : fa[j]? = some (.glo x)) (e2 : tups[i]? = some (x, vs)) (kd : keyD ds = false)
    (r : ∀ H m, RepL K H m ds (vs.map (He.Dv.v K))) : ConD K mg x (.tup ds) ∧ ∀ H m, RepD K H m (.tup ds) (.ref (He.ga K x)) := by
  have c2 : (tups.all fun t => He.tupB K t.1 t.2) = true := congrArg (fun z : He.AlD × Bool => z.2) c
  have c3 := List.all_eq_true.mp c2 _ (List.mem_of_getElem? e2)
  have rd : ∀ H m, RepD K H m (.tup ds) (.ref (He.ga K x)) := fun H m => ⟨_, _, rfl, ⟨He.tupB_ok c3 H, fun k => by rw [kd] at k; cases k⟩, r H m⟩
  exact ⟨⟨⟨_, .ref (He.ga K x), He.glo_ok X G (fct c j e), rfl, rd⟩⟩, rd⟩
theorem cexc (X : K.In h) (G : h.Ns mainGlobals mg) (c : SaysX K) (i j k : Nat) {x : Str} (e : fa[i]? = some (.glo x)) (e2 : fa[j]? = some (.exc x)) (e3 : fa[k]? = some (.exm x x true)) : ExD K mg x := by
  obtain ⟨h1, h2, h3, h4⟩ := He.exc_ok (fct c j e2)
  exact ⟨⟨He.ga K x, He.veBase, "ValueError", "ValueError.__new__", "ValueError.__init__", PySem.F.excBase_ValueError, rfl, h1, He.glo_ok X G (fct c i e), h2, h3, h4, He.exm_ok (fct c k e3)⟩⟩
theorem facts (X : K.In h) (G : h.Ns mainGlobals mg) (c : SaysX K) : Facts K mg := by
  have t_NIL := ctup X G c 136 0 (x := "NIL") (vs := [.int 0, .int 1]) (ds := [.int 0, .int 1]) rfl rfl rfl (fun H m => ⟨_, _, rfl, rfl, ⟨_, _, rfl, rfl, rfl⟩⟩)
  have t_ONE := ctup X G c 137 1 (x := "ONE") (vs := [.int 1, .int 1]) (ds := [.int 1, .int 1]) rfl rfl rfl (fun H m => ⟨_, _, rfl, rfl, ⟨_, _, rfl, rfl, rfl⟩⟩)
  have t_STILL := ctup X G c 138 2 (x := "STILL") (vs := [.glo "ONE", .glo "NIL"]) (ds := [k_ONE, k_NIL]) rfl rfl rfl (fun H m => ⟨_, _, rfl, (t_ONE.2 H m), ⟨_, _, rfl, (t_NIL.2 H m), rfl⟩⟩)
  have t_HOME := ctup X G c 139 3 (x := "HOME") (vs := [.int 0, .int 0]) (ds := [.int 0, .int 0]) rfl rfl rfl (fun H m => ⟨_, _, rfl, rfl, ⟨_, _, rfl, rfl, rfl⟩⟩)
  exact {
    B := { abs := He.free_ok X G (fct c 109 (f := .free "abs") rfl), all := He.free_ok X G (fct c 110 (f := .free "all") rfl), any := He.free_ok X G (fct c 111 (f := .free "any") rfl), bool := He.free_ok X G (fct c 112 (f := .free "bool") rfl), dict := He.free_ok X G (fct c 113 (f := .free "dict") rfl), enumerate := He.free_ok X G (fct c 114 (f := .free "enumerate") rfl), int := He.free_ok X G (fct c 115 (f := .free "int") rfl), isinstance := He.free_ok X G (fct c 116 (f := .free "isinstance") rfl), len := He.free_ok X G (fct c 117 (f := .free "len") rfl), list := He.free_ok X G (fct c 118 (f := .free "list") rfl), max := He.free_ok X G (fct c 119 (f := .free "max") rfl), min := He.free_ok X G (fct c 120 (f := .free "min") rfl), range := He.free_ok X G (fct c 121 (f := .free "range") rfl), set := He.free_ok X G (fct c 122 (f := .free "set") rfl), sorted := He.free_ok X G (fct c 123 (f := .free "sorted") rfl), str := He.free_ok X G (fct c 124 (f := .free "str") rfl), sum := He.free_ok X G (fct c 125 (f := .free "sum") rfl), tuple := He.free_ok X G (fct c 126 (f := .free "tuple") rfl), zip := He.free_ok X G (fct c 127 (f := .free "zip") rfl) }
    k_FIRST_PRIME := cint X G c 128 rfl
    k_PAIR_numbers := cint X G c 129 rfl
    k_LETTERS := cint X G c 130 rfl
    k_TWO := cint X G c 131 rfl
    k_PAIR_maps := cint X G c 132 rfl
    k_THREE_maps := cint X G c 133 rfl
    k_PAIR_restmaps := cint X G c 134 rfl
    k_THREE_restmaps := cint X G c 135 rfl
    k_NIL := t_NIL.1
    k_ONE := t_ONE.1
    k_STILL := t_STILL.1
    k_HOME := t_HOME.1
    x_NoPaper := cexc X G c 140 141 142 rfl rfl rfl
    d_p_tupled := dfd X G c 0 0 rfl rfl
    d_p_is_number := dfd X G c 1 1 rfl rfl
    d_p_is_count := dfd X G c 2 2 rfl rfl
    d_p_is_below := dfd X G c 3 3 rfl rfl
    d_p_is_tuple_of := dfd X G c 4 4 rfl rfl
    d_p_are_numbers := dfd X G c 5 5 rfl rfl
    d_p_told := dfd X G c 6 6 rfl rfl
    d_p_sure_number := dfd X G c 7 7 rfl rfl
    d_p_shared := dfd X G c 8 8 rfl rfl
    d_p_made := dfd X G c 9 9 rfl rfl
    d_p_is_fraction := dfd X G c 10 10 rfl rfl
    d_p_sure_fraction := dfd X G c 11 11 rfl rfl
    d_p_sure_not_nil := dfd X G c 12 12 rfl rfl
    d_p_fraction := dfd X G c 13 13 rfl rfl
    d_p_add := dfd X G c 14 14 rfl rfl
    d_p_take := dfd X G c 15 15 rfl rfl
    d_p_multiply := dfd X G c 16 16 rfl rfl
    d_p_divide := dfd X G c 17 17 rfl rfl
    d_p_opposite := dfd X G c 18 18 rfl rfl
    d_p_plus := dfd X G c 19 19 rfl rfl
    d_p_less := dfd X G c 20 20 rfl rfl
    d_p_times := dfd X G c 21 21 rfl rfl
    d_p_over := dfd X G c 22 22 rfl rfl
    d_p_prime_so := dfd X G c 23 23 rfl rfl
    d_p_is_prime := dfd X G c 24 24 rfl rfl
    d_p_sure_prime := dfd X G c 25 25 rfl rfl
    d_p_inverse_rest := dfd X G c 26 26 rfl rfl
    d_p_rest_over := dfd X G c 27 27 rfl rfl
    d_p_rest_of := dfd X G c 28 28 rfl rfl
    d_p_is_word := dfd X G c 29 29 rfl rfl
    d_p_sure_word := dfd X G c 30 30 rfl rfl
    d_p_is_two := dfd X G c 31 31 rfl rfl
    d_p_sure_two := dfd X G c 32 32 rfl rfl
    d_p_is_map := dfd X G c 33 33 rfl rfl
    d_p_sure_map := dfd X G c 34 34 rfl rfl
    d_p_are_maps := dfd X G c 35 35 rfl rfl
    d_p_sure_maps := dfd X G c 36 36 rfl rfl
    d_p_behind := dfd X G c 37 37 rfl rfl
    d_p_undone_map := dfd X G c 38 38 rfl rfl
    d_p_led_by := dfd X G c 39 39 rfl rfl
    d_p_of_word := dfd X G c 40 40 rfl rfl
    d_p_told_letters := dfd X G c 41 41 rfl rfl
    d_p_map_row := dfd X G c 42 42 rfl rfl
    d_p_map_back := dfd X G c 43 43 rfl rfl
    d_p_often_done := dfd X G c 44 44 rfl rfl
    d_p_map_often := dfd X G c 45 45 rfl rfl
    d_p_led := dfd X G c 46 46 rfl rfl
    d_p_kept_place := dfd X G c 47 47 rfl rfl
    d_p_kept_point := dfd X G c 48 48 rfl rfl
    d_p_word_map := dfd X G c 49 49 rfl rfl
    d_p_map_between := dfd X G c 50 50 rfl rfl
    d_p_turned_map := dfd X G c 51 51 rfl rfl
    d_p_maps_turned := dfd X G c 52 52 rfl rfl
    d_p_fits_rest := dfd X G c 53 53 rfl rfl
    d_p_is_rest_map := dfd X G c 54 54 rfl rfl
    d_p_sure_rest_map := dfd X G c 55 55 rfl rfl
    d_p_sure_rest_maps := dfd X G c 56 56 rfl rfl
    d_p_sure_rest := dfd X G c 57 57 rfl rfl
    d_p_rest_behind := dfd X G c 58 58 rfl rfl
    d_p_rest_undone := dfd X G c 59 59 rfl rfl
    d_p_rest_row_in := dfd X G c 60 60 rfl rfl
    d_p_rest_row := dfd X G c 61 61 rfl rfl
    d_p_rest_back := dfd X G c 62 62 rfl rfl
    d_p_rest_often_in := dfd X G c 63 63 rfl rfl
    d_p_rest_often := dfd X G c 64 64 rfl rfl
    d_p_rest_led := dfd X G c 65 65 rfl rfl
    d_p_rest_word_in := dfd X G c 66 66 rfl rfl
    d_p_rest_word := dfd X G c 67 67 rfl rfl
    d_p_home_in := dfd X G c 68 68 rfl rfl
    d_p_rest_times_home := dfd X G c 69 69 rfl rfl
    d_p_rest_kept := dfd X G c 70 70 rfl rfl
    d_p_rests_of := dfd X G c 71 71 rfl rfl
    d_p_rest_map_between := dfd X G c 72 72 rfl rfl
    d_p_rest_maps_turned := dfd X G c 73 73 rfl rfl
    d_p_do_rest_maps_exchange := dfd X G c 74 74 rfl rfl
    d_p_are_lot := dfd X G c 75 75 rfl rfl
    d_p_sure_lot := dfd X G c 76 76 rfl rfl
    d_p_maps_gap_in := dfd X G c 77 77 rfl rfl
    d_p_maps_gap := dfd X G c 78 78 rfl rfl
    d_p_turned_in := dfd X G c 79 79 rfl rfl
    d_p_lot_turned := dfd X G c 80 80 rfl rfl
    d_p_step_from := dfd X G c 81 81 rfl rfl
    d_p_walk_in := dfd X G c 82 82 rfl rfl
    d_p_flow_in := dfd X G c 83 83 rfl rfl
    d_p_flow_folded := dfd X G c 84 84 rfl rfl
    d_p_alike_by_rests := dfd X G c 85 85 rfl rfl
    d_law_box := dfd X G c 86 86 rfl rfl
    d_law_take := dfd X G c 87 87 rfl rfl
    d_law_cells := dfd X G c 88 88 rfl rfl
    d_law_of := dfd X G c 89 89 rfl rfl
    d_law_same := dfd X G c 90 90 rfl rfl
    d_law_gcd := dfd X G c 91 91 rfl rfl
    d_law_fr := dfd X G c 92 92 rfl rfl
    d_law_map := dfd X G c 93 93 rfl rfl
    d_law_maps := dfd X G c 94 94 rfl rfl
    d_law_letter := dfd X G c 95 95 rfl rfl
    d_law_word := dfd X G c 96 96 rfl rfl
    d_law_rest_back := dfd X G c 97 97 rfl rfl
    d_law_rest_two := dfd X G c 98 98 rfl rfl
    d_law_rest_undo := dfd X G c 99 99 rfl rfl
    d_law_rest_led := dfd X G c 100 100 rfl rfl
    d_law_rest := dfd X G c 101 101 rfl rfl
    d_law_rests := dfd X G c 102 102 rfl rfl
    d_law_heard := dfd X G c 103 103 rfl rfl
    d_law_numbers_right := dfd X G c 104 104 rfl rfl
    d_law_maps_right := dfd X G c 105 105 rfl rfl
    d_law_between_right := dfd X G c 106 106 rfl rfl
    d_law_turned_right := dfd X G c 107 107 rfl rfl
    d_p_law := dfd X G c 108 108 rfl rfl
  }
end
/-! ### the end -/
theorem walk_ofBE {l : PySem.W.OpenLaw} {n k : Nat} {q : Program} {loose : List Str} {XP : (Str → Option Value) → Heap → Prop} {YP : World → Heap → Prop} {d : DefRec} {CX : World → CXT} {x : Str}
    (hn : l.most = some n) (hn2 : n ≤ sizeLine) (hdf : d.params.defaults = []) (hr : Room k callerA)
    (F : ∀ (w : World) (mg : Str → Option Value) (fa : Addr) (h : Heap), YP w h → h.Ns mainGlobals mg → mg d.name = some (.ref fa) →
      ∃ (K : PySem.W.Frag) (fd : FuncData) (sp : Sp), K.In h ∧ (∀ (s : Shared) (u : Value), BindsTo s fd ⟨[u], []⟩ [(x, u)]) ∧
        (∀ (H : Hp) (a : Addr) (ns : List Int), ns.length ≤ n → (∀ z ∈ ns, Builtin.Int.intBits z ≤ 1048576) → Only H → SqL K H a (ns.map V.int) → sp [.ref a] H (fun v _ => v = .bl true) fun _ _ _ => False) ∧
        ∀ base : Heap, K.In base → base.Ns mainGlobals mg → FnOk l.prog w K mg base (CX w) k fa fd [x] sp)
    (hCX : ∀ (w : World) (H : Hp) (s : Shared) (e : Value) (s' : Shared), CX w [] H s (fun _ _ _ => False) e s' → False) :
    PySem.W.WalkO q loose XP YP l.row.toRowW d [] (fun f vs => PySem.call f vs) := by
  refine Att.attach_callB hn hdf fun w s₀ s₁ mg mb fa o pm cd doc a vs ns G Y ho hd hcd hmg hobj hints hlen hbits hg => ?_
  obtain ⟨K, fd, sp, KX, hb, hsp, hF⟩ := F w mg fa _ Y G.T.g hmg
  exact law_call KX G.T.g G.T.b G.T.builtins G.T.nolimit hg hobj hints (Nat.le_trans hlen hn2) hr hF hb (fun H hO hS => hsp H a ns hlen hbits hO hS) fun H e s' => hCX w H s₁ e s'
theorem noX {P : Program} {w : World} {H : Hp} {s : Shared} {e : Value} {s' : Shared} (h : L2.CX P w [] H s (fun _ _ _ => False) e s') : False := by
  obtain ⟨_, _, _, _, _, _, _, _, _, _, _, _, z⟩ := h
  exact z
theorem only_ro {K : PySem.W.Frag} {H : Hp} {a : Addr} {vs : List V} (o : Only H) (s : SqL K H a vs) : SqRo K H a vs := by
  rcases s with (s | ⟨ob, s⟩) | s
  · rcases o a with z | ⟨ob, xs, z⟩
    · rw [z] at s; cases s
    · rw [z] at s; cases s
  · exact .inl ⟨ob, s⟩
  · exact .inr s
theorem sp_law {K : PySem.W.Frag} {φ : DF} (hl : ∀ ns : List Int, ns.length ≤ 63 → (∀ z ∈ ns, Builtin.Int.intBits z ≤ 1048576) → ∃ h', φ [.rol (ns.map D.int)] [] = some (.ok (.bl true), h'))
    (H : Hp) (a : Addr) (ns : List Int) (h1 : ns.length ≤ 63) (h2 : ∀ z ∈ ns, Builtin.Int.intBits z ≤ 1048576) (o : Only H) (s : SqL K H a (ns.map V.int)) : spD K 1 φ [.ref a] H (fun v _ => v = .bl true) fun _ _ _ => False := by
  obtain ⟨h', e⟩ := hl ns h1 h2
  refine ⟨[], [], [.rol (ns.map D.int)], ⟨rfl, List.nodup_nil, fun k a o e => by simp at e⟩, ⟨.ref a, [], rfl, ⟨a, ns.map V.int, rfl, only_ro o s, RepL.ints ns⟩, rfl⟩, rfl, ?_⟩
  rw [e]
  intro H' m' _ _ v rv
  exact rv
end Hd
namespace Hd
open PySem PySem.Spec PyProof.Rows L2 RZ Dt Wk
theorem core {P : PySem.Program} {w : World} {K : PySem.W.Frag} {mg : Str → Option Value} {fa : Addr} (F : Wk.Facts K mg) (hmg : mg ("law" : PySem.Str) = some (.ref fa)) :
    ∃ (fd : FuncData) (sp : Sp), (∀ (s : Shared) (u : Value), BindsTo s fd ⟨[u], []⟩ [(("script" : PySem.Str), u)]) ∧
        (∀ (H : Hp) (a : Addr) (ns : List Int), ns.length ≤ 63 → (∀ z ∈ ns, Builtin.Int.intBits z ≤ 1048576) → Only H → SqL K H a (ns.map V.int) → sp [.ref a] H (fun v _ => v = .bl true) fun _ _ _ => False) ∧
        ∀ base : Heap, FnOk P w K mg base (L2.CX P w) 14 fa fd ["script"] sp := by
  obtain ⟨f, fd, D, hm⟩ := F.d_p_law.ex
  have ef := hm.symm.trans hmg
  have ef : f = fa := by injection ef with ef; injection ef
  subst ef
  have b := L2.FunD.bindsA (ps := ["script"]) D fun _ _ _ _ _ _ us hl => match us, hl with | [_], _ => rfl
  exact ⟨fd, Dt.spD K 1 Wk.φ_p_law, fun s u => b s [u] rfl, Hd.sp_law Pl.law_true, fun base => Wk.ok_law F D⟩
end Hd
open PySem PySem.W PySem.Calls PyProof.Rows in
theorem PySem.Challenge.cw_windsuntold_k98_main_across_whole_maps_a_holds : PySem.Challenge.rw_windsuntold_k98_main_across_whole_maps_a.Holds := by
  w_on; o_law
  refine HandSHeadRun.head_any (r := OpenLaw.row PySem.Challenge.rw_windsuntold_k98_main_across_whole_maps_a) (q := Hd.view) (H := Hd.hk) (ob := Hd.ob) (M := 6000) (loose := Hd.loose) (d := HdP.dd) (kwd := []) Hd.ob_eq
    HdP.t1 HdP.t2 Hd.run HdP.t3 HdP.t4 HdP.t5 HdP.t6 HdP.t7 HdP.t8 HdP.t9 ?hw ?hc
  case hw => w_witness2
  case hc =>
    refine Hd.walk_ofBE (l := PySem.Challenge.rw_windsuntold_k98_main_across_whole_maps_a) (n := 63) (k := 14) (x := "script") (CX := fun w => L2.CX (PySem.Challenge.rw_windsuntold_k98_main_across_whole_maps_a).prog w) rfl (by decide) HdP.t10 ⟨rfl, by decide, by decide⟩ ?F (fun _ _ _ _ _ z => Hd.noX z)
    intro w mg fa h Y G hmg0
    obtain ⟨K, KX, c⟩ := Y
    have hmg : mg ("law" : PySem.Str) = some (.ref fa) := by
      rw [← HdP.t11]
      exact hmg0
    obtain ⟨fd, sp, hb, hs, hF⟩ := Hd.core (P := (PySem.Challenge.rw_windsuntold_k98_main_across_whole_maps_a).prog) (w := w) (Hd.facts KX G c) hmg
    exact ⟨K, fd, sp, KX, hb, hs, fun base _ _ => hF base⟩

